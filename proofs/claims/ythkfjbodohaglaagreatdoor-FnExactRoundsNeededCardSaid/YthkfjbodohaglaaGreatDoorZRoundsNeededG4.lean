/- Walks of functions: what each computes. -/
import Derived.Test.YthkfjbodohaglaaGreatDoorZRoundsNeededG0
import Derived.Test.YthkfjbodohaglaaGreatDoorZRoundsNeededG1
import Derived.Test.YthkfjbodohaglaaGreatDoorZRoundsNeededG2
import Derived.Test.YthkfjbodohaglaaGreatDoorZRoundsNeededG3
import Derived.Test.YthkfjbodohaglaaGreatDoorZRoundsNeededW
import Derived.Test.YthkfjbodohaglaaGreatDoorZRoundsNeededShelf
import Derived.Test.YthkfjbodohaglaaGreatDoorZRoundsNeededHandSort
import Derived.Test.YthkfjbodohaglaaGreatDoorZRoundsNeededHandForm
import Derived.Test.YthkfjbodohaglaaGreatDoorZRoundsNeededHandAlone
import Derived.Test.YthkfjbodohaglaaGreatDoorZRoundsNeededHandReach
import Derived.Test.YthkfjbodohaglaaGreatDoorZRoundsNeededHandPut
import Derived.Test.YthkfjbodohaglaaGreatDoorZRoundsNeededHandRepl
namespace Go.Proofs.YthkfjbodohaglaaGreatDoor.PFnExactRoundsNeeded
open Go.RowKit Go.Proofs.YthkfjbodohaglaaGreatDoorW.PrintWords Go.Proofs.YthkfjbodohaglaaGreatDoorW.PrintLast Go.Proofs.YthkfjbodohaglaaGreatDoorW.PrintMore Go.Proofs.YthkfjbodohaglaaGreatDoor.Sq
attribute [local go_sem] kG kI lY lZ jH jI kH kJ
set_option maxHeartbeats 8000000
set_option maxRecDepth 100000
set_option linter.unusedVariables false
set_option linter.unusedSimpArgs false
mutual
def bG.l0 : Nat → List (S92) → Int → Int → Int → ByteArray → Option (Bool)
 | 0, _, _, _, _, _ => none
 | k + 1, a, b, c, d, e => if b < (a.length : Int) then ((dJ.f k c d e b).bind fun f => (if 0 ≤ b then (if (wrap64 (2 * f)) > ((aQ a b).f3) then (some true) else (bG.l0 k a (wrap64 (b + 1)) c d e)) else (none))) else (bG.l1 k 0 c d e)
def bG.l1 : Nat → Int → Int → Int → ByteArray → Option (Bool)
 | 0, _, _, _, _ => none
 | k + 1, a, b, c, d => if a < (d.size : Int) then ((kE.f k b c d a).bind fun e => (if e = true then ((bZ.f k b c d a).bind fun f => (if (f.length : Int) = 0 then (some true) else (bG.l1 k (wrap64 (a + 1)) b c d))) else (bG.l1 k (wrap64 (a + 1)) b c d))) else (some false)
end
def bG.f (k : Nat) (La Lb : Int) (Lc : ByteArray) : Option (Bool) := (aN.f k La Lb Lc).bind fun t360 => (bG.l0 k t360 0 La Lb Lc)
def bG.T5 : Bool × List (List Nat × List Nat) := (true, [([], []), ([], []), ([0, 1], [0, 1]), ([2], [2]), ([], []), ([], []), ([4, 5], [4, 5]), ([6], [6]), ([7], [7]), ([3, 8], [3, 8])])
def bG.B5 : List Nat := [0, 0, 3, 7, 0, 0, 48, 112, 240, 511]
theorem bG.KY : kP .any (opsOf Tryz.f94 5) = bG.T5 := by kernel_rfl
theorem bG.KH : iZ bG.T5.2 bG.B5 = true := by kernel_rfl
theorem bG.calls (k : Nat) (La Lb : Int) (Lc : ByteArray) (r : Bool) (w : World) (h : bG.f k La Lb Lc = some r) :
  Calls Tryz.prog 94 #[.agg #[.int .i64 La, .int .i64 Lb, .string Lc]] w fun e w' => e = .returned (.bool r) ∧ Below w.heap.size w w' := by
 have xS := Tryz.underlying34;have HB := ah.mk (Below.refl w.heap.size w);unfold bG.f at h;have H := h;clear h;replace H := be H; obtain ⟨o, A2, H⟩ := H;have H' := ah.mk H;clear H;go_enter Tryz.func94, Tryz.ntmps94;go_wp2_with (first | ((with_reducible refine aJ (N := 1) rfl ?_); (try (refine je (by rfl) ?_; dsimp only)); refine aZ (N := 1) (cs := #[.int .i64 La, .int .i64 Lb, .string Lc]) (t := 34) ?_; intro y hg w3 hbox hb; have a := ah.mk hbox; have xh := SZ (w := w) hg; have xL := xh; replace HB := BS (w := w) hb; clear hb hbox hg; obtain ⟨I, J, L, M, O, P⟩ := cz3 a.out) | ((with_reducible refine ay (f := 54) rfl ?_); refine bf (some 7) Tryz.func54 #[.agg #[.int .i64 La, .int .i64 Lb, .string Lc]] ?_; (with_reducible refine (aN.calls k La Lb Lc o _ A2.out).mono ?_); rintro e w5 ⟨xA, rfl, Z, hb⟩; refine ⟨_, rfl, ?_⟩; replace a := KB a hb; have xi := ah.mk (Kd.cK Z (aM BL)); replace HB := BS (w := w) hb; (try clear hb); (try clear Z)))
 go_loopg [4] k (fun kq v4 w' => ∃ (m : Int), v4 = .int .i64 m ∧ ah (bG.l0 kq o m La Lb Lc = some r) ∧ ah (kq ≤ k) ∧ ah (Kd.R k92 92 w' w.heap.size (fun _ => True) xA o) ∧ ah (w'.heap[y]? = some (.cells #[.int .i64 La, .int .i64 Lb, .string Lc] 34 (0, 0))) ∧ ah (Below w.heap.size w w'))
 case atStart => exact ⟨_, EQ, H', ⟨Nat.le_refl _⟩, ⟨(RR xi)⟩, ⟨BK⟩, ⟨BL⟩⟩
 case round =>
  clear H';(try clear I J L M O P);obtain ⟨m, rfl, HA, Y, x, a, HB⟩ := hrel
  cases gk with
  | zero => exact absurd HA.out (by simp [bG.l0])
  | succ k1 =>
   have H := HA.out;clear HA;simp only [bG.l0] at H;obtain ⟨xH, xI, xc⟩ := Kd.dN x.out;subst xc;replace H := ifD H; rcases H with ⟨xf, H⟩ | ⟨xf, H⟩
   ·replace H := be H; obtain ⟨U, A7, H⟩ := H;replace H := ifN H; obtain ⟨xT, H⟩ := H;replace H := ah.mk H;(try go_wp2);replace x := ah.mk (Kd.eH x.out);replace a := ah.mk (aH a.out);replace HB := ah.mk (dK HB.out);have xa : 0 ≤ (m : Int) := OD;have xb : m < (o.length : Int) := OD;obtain ⟨u, xB, A, D, E, G⟩ := pI (Kd.bO x.out).2.2 m xa xb
    cases xB
    replace xa := eq_true xa;replace xb := eq_true xb;refine jl (n := 10) (S := fun w' => w'.cell? ⟨y, 0, none⟩ = some (.int .i64 La) ∧ w'.cell? ⟨y, 1, none⟩ = some (.int .i64 Lb) ∧ w'.cell? ⟨y, 2, none⟩ = some (.string Lc) ∧ w'.cell? (u.add ((m).toNat * 4)) = some (.int .i64 ((aQ o m).f0)) ∧ w'.cell? ⟨(u.add ((m).toNat * 4)).block, (u.add ((m).toNat * 4)).off + 1, none⟩ = some (.bool ((aQ o m).f1)) ∧ w'.cell? ⟨(u.add ((m).toNat * 4)).block, (u.add ((m).toNat * 4)).off + 2, none⟩ = some (.int .i64 ((aQ o m).f2)) ∧ w'.cell? ⟨(u.add ((m).toNat * 4)).block, (u.add ((m).toNat * 4)).off + 3, none⟩ = some (.int .i64 ((aQ o m).f3))) (ds := []) #[F,F,F,F,F,F,F,F,F,F] (by kernel_rfl) rfl rfl ⟨(ak a.out 0).trans rfl, (ak a.out 1).trans rfl, (ak a.out 2).trans rfl, A, D, E, G⟩ (fun hHeld => ?_); refine iL bG.KY bG.KH (fun HT_ HW_ => ?_);generalize wr.drew = xM at x a HB A D E G hHeld ⊢;refine pS 1 (some 15) #[F,T,F,F,F,F,F,F,F,F] ?_;refine pS 4 (some 18) #[F,T,F,F,T,F,F,F,F,F] ?_;refine pS 5 (some 19) #[F,T,F,F,T,T,F,F,F,F] ?_;refine pS 6 (some 20) #[F,T,F,F,T,T,T,F,F,F] ?_;refine pS 7 (some 21) #[F,T,F,F,T,T,T,T,F,F] ?_;refine tS 0 (some 14) #[T,T,F,F,T,T,T,T,F,F] ?_;refine tS 8 (some 22) #[T,T,F,F,T,T,T,T,T,F] ?_;refine lC (i := 2) (N := some 16) #[T,T,T,F,T,T,T,T,T,F] rfl rfl (jh HT_.out (by kernel_rfl)) (by decide) (fun K hK => ?_);refine jd Tryz.func121 #[.agg #[.int .i64 La, .int .i64 Lb, .string Lc], .int .i64 m] ?_;(with_reducible refine (dJ.calls k1 La Lb Lc m U _ A7.out).mono ?_);rintro e xj ⟨rfl, hb⟩;have xC := (hb.cell (World.block_lt_of_cell? _ _ (hHeld.2.2.2.1))).trans (hHeld.2.2.2.1);have xD := (hb.cell (World.block_lt_of_cell? _ _ (hHeld.2.2.2.2.1))).trans (hHeld.2.2.2.2.1);have xE := (hb.cell (World.block_lt_of_cell? _ _ (hHeld.2.2.2.2.2.1))).trans (hHeld.2.2.2.2.2.1);have xF := (hb.cell (World.block_lt_of_cell? _ _ (hHeld.2.2.2.2.2.2))).trans (hHeld.2.2.2.2.2.2);refine ⟨_, rfl, ?_⟩;replace x := RB x hb;replace a := KB a hb;replace HB := BS (w := w) hb;(try clear hb);refine hK.out _ _ ⟨(ak a.out 0).trans rfl, (ak a.out 1).trans rfl, (ak a.out 2).trans rfl, xC, xD, xE, xF⟩ (fun hHeld => ?_);clear hK K;refine nrm (some 16) ?_;replace H := H.out;by_cases c9 : (wrap64 (2 * U)) > ((aQ o m).f3)
    ·rw [if_pos c9] at H;have xG : decide (((aQ o m).f3) < (wrap64 (2 * U))) = true := decide_eq_true c9;clear c9;obtain rfl := Option.some.inj H;refine pS 3 (some 17) #[T,T,T,T,T,T,T,T,T,F] ?_;refine pS 9 (some 23) #[T,T,T,T,T,T,T,T,T,T] ?_;refine iF (gJ HT_.out (by kernel_rfl)) ?_;(try go_wp2);go_ret;exact ⟨EWW, BL⟩
    ·rw [if_neg c9] at H;have xG : decide (((aQ o m).f3) < (wrap64 (2 * U))) = false := decide_eq_false c9;clear c9;have H' := ah.mk H;clear H;refine pS 3 (some 17) #[T,T,T,T,T,T,T,T,T,F] ?_;refine pS 9 (some 23) #[T,T,T,T,T,T,T,T,T,T] ?_;refine iF (gJ HT_.out (by kernel_rfl)) ?_;(try go_wp2);go_roundg k1;case measure => have := Y.out; omega
     case rel => exact ⟨_, EQ, H', ks Y, ⟨(RR x)⟩, ⟨BK⟩, ⟨BL⟩⟩
   ·have H' := ah.mk H;clear H;go_wp2
    go_loopg [5] k1 (fun kq v5 w' => ∃ (z : Int), v5 = .int .i64 z ∧ ah (bG.l1 kq z La Lb Lc = some r) ∧ ah (kq ≤ k1) ∧ ah (w'.heap[y]? = some (.cells #[.int .i64 La, .int .i64 Lb, .string Lc] 34 (0, 0))) ∧ ah (Below w.heap.size w w'))
    case atStart => exact ⟨_, EQ, H', ⟨Nat.le_refl _⟩, ⟨BK⟩, ⟨BL⟩⟩
    case round =>
     clear H';(try clear c6);(try clear xf);(try clear I J L M O P);obtain ⟨z, rfl, HA, xd, a, HB⟩ := hrel
     cases gk with
     | zero => exact absurd HA.out (by simp [bG.l1])
     | succ k2 =>
      have H := HA.out;clear HA;simp only [bG.l1] at H;obtain ⟨xk, xl, xm, xn, xo, xp⟩ := cz3 a.out;replace H := ifD H; rcases H with ⟨xq, H⟩ | ⟨xq, H⟩
      ·replace H := be H; obtain ⟨xU, xN, H⟩ := H;replace H := ah.mk H;go_wp2_with (first | ((with_reducible refine ay (f := 122) rfl ?_); refine bf (some 33) Tryz.func122 #[.agg #[.int .i64 La, .int .i64 Lb, .string Lc], .int .i64 z] ?_; (with_reducible refine (kE.calls k2 La Lb Lc z _ _ xN.out).mono ?_); rintro e xj ⟨rfl, hb⟩; refine ⟨_, rfl, ?_⟩; replace a := KB a hb; replace HB := BS (w := w) hb; (try clear hb); obtain ⟨xr, xs, xt, xu, xv, xw⟩ := cz3 a.out; refine bR ?_));refine Hide.mk ?_;replace H := H.out;replace H := ifB H; rcases H with ⟨rfl, H⟩ | ⟨rfl, H⟩
       ·replace H := be H; obtain ⟨xg, xO, H⟩ := H;replace H := ah.mk H;go_wp2_with (first | (go_at_call 123; (with_reducible refine (bZ.calls k2 La Lb Lc z xg _ xO.out).mono ?_); rintro e xP ⟨xV, rfl, Z, hb⟩; replace a := KB a hb; have xx := ah.mk (Kd.cK Z (aM BL)); replace HB := BS (w := w) hb; (try clear hb); (try clear Z); obtain ⟨xJ, xK, xe⟩ := Kd.dN xx.out; subst xe; refine bR ?_));refine Hide.mk ?_;replace H := H.out;replace H := ifE H; rcases H with ⟨xy, xz, H⟩ | ⟨xQ, xy, xz, H⟩
        ·obtain rfl := Option.some.inj H;(try go_wp2);go_ret;exact ⟨EWW, BL⟩
        ·have xR : ¬ (xg = []) := fun h_ => xQ (by rw [h_]; rfl);have H' := ah.mk H;clear H;(try go_wp2);go_roundg k2;case measure => have := Y.out; have := xd.out; omega
         case rel => exact ⟨_, EQ, H', ⟨by have := Y.out; have := xd.out; omega⟩, ⟨BK⟩, ⟨BL⟩⟩
       ·have H' := ah.mk H;clear H;(try go_wp2);go_roundg k2;case measure => have := Y.out; have := xd.out; omega
        case rel => exact ⟨_, EQ, H', ⟨by have := Y.out; have := xd.out; omega⟩, ⟨BK⟩, ⟨BL⟩⟩
      ·obtain rfl := Option.some.inj H;go_wp2;go_ret;exact ⟨EWW, BL⟩
def lD.f (k : Nat) (La Lb : Int) (Lc : ByteArray) : Option (Int) := (bI.f k La Lb Lc).bind fun t370 => (if t370 = true then ((dY.f k La Lb Lc).bind fun t371 => (if t371 = true then ((iX.f k La Lb Lc).bind fun t372 => (if t372 = true then ((fF.f k La Lb Lc).bind fun t373 => (if t373 = true then (some 4) else ((bG.f k La Lb Lc).bind fun t374 => (if t374 = true then (some 5) else (some 0))))) else (some 3))) else (some 2))) else (some 1))
theorem lD.calls (k : Nat) (La Lb : Int) (Lc : ByteArray) (r : Int) (w : World) (h : lD.f k La Lb Lc = some r) :
  Calls Tryz.prog 55 #[.agg #[.int .i64 La, .int .i64 Lb, .string Lc]] w fun e w' => e = .returned (.int .i64 r) ∧ Below w.heap.size w w' := by
 have xu := Tryz.underlying34;have HB := ah.mk (Below.refl w.heap.size w);unfold lD.f at h;have H := h;clear h;replace H := be H; obtain ⟨xv, A2, H⟩ := H;replace H := ah.mk H;go_enter Tryz.func55, Tryz.ntmps55;go_wp2_with (first | ((with_reducible refine aJ (N := 1) rfl ?_); refine aZ (N := 1) (cs := #[.int .i64 La, .int .i64 Lb, .string Lc]) (t := 34) ?_; intro xl hg xm hbox hb; have a := ah.mk hbox; have m := SZ (w := w) hg; have xn := m; replace HB := BS (w := w) hb; clear hb hbox hg; obtain ⟨o, u, x, y, z, A⟩ := cz3 a.out) | ((with_reducible refine ay (f := 67) rfl ?_); refine bf (some 5) Tryz.func67 #[.agg #[.int .i64 La, .int .i64 Lb, .string Lc]] ?_; (with_reducible refine (bI.calls k La Lb Lc _ _ A2.out).mono ?_); rintro e xo ⟨rfl, hb⟩; refine ⟨_, rfl, ?_⟩; replace a := KB a hb; replace HB := BS (w := w) hb; (try clear hb); obtain ⟨D, E, G, I, J, K⟩ := cz3 a.out; refine bR ?_));refine Hide.mk ?_;replace H := H.out;replace H := ifB H; rcases H with ⟨rfl, H⟩ | ⟨rfl, H⟩
 ·replace H := be H; obtain ⟨xw, A4, H⟩ := H;replace H := ah.mk H;go_wp2_with (first | ((with_reducible refine ay (f := 91) rfl ?_); refine bf (some 9) Tryz.func91 #[.agg #[.int .i64 La, .int .i64 Lb, .string Lc]] ?_; (with_reducible refine (dY.calls k La Lb Lc _ _ A4.out).mono ?_); rintro e xp ⟨rfl, hb⟩; refine ⟨_, rfl, ?_⟩; replace a := KB a hb; replace HB := BS (w := w) hb; (try clear hb); obtain ⟨L, M, O, P, U, Y⟩ := cz3 a.out; refine bR ?_));refine Hide.mk ?_;replace H := H.out;replace H := ifB H; rcases H with ⟨rfl, H⟩ | ⟨rfl, H⟩
  ·replace H := be H; obtain ⟨xx, A6, H⟩ := H;replace H := ah.mk H;go_wp2_with (first | ((with_reducible refine ay (f := 92) rfl ?_); refine bf (some 13) Tryz.func92 #[.agg #[.int .i64 La, .int .i64 Lb, .string Lc]] ?_; (with_reducible refine (iX.calls k La Lb Lc _ _ A6.out).mono ?_); rintro e xq ⟨rfl, hb⟩; refine ⟨_, rfl, ?_⟩; replace a := KB a hb; replace HB := BS (w := w) hb; (try clear hb); obtain ⟨Z, xa, xb, xc, xd, xe⟩ := cz3 a.out; refine bR ?_));refine Hide.mk ?_;replace H := H.out;replace H := ifB H; rcases H with ⟨rfl, H⟩ | ⟨rfl, H⟩
   ·replace H := be H; obtain ⟨xy, A8, H⟩ := H;replace H := ah.mk H;go_wp2_with (first | ((with_reducible refine ay (f := 93) rfl ?_); refine bf (some 17) Tryz.func93 #[.agg #[.int .i64 La, .int .i64 Lb, .string Lc]] ?_; (with_reducible refine (fF.calls k La Lb Lc _ _ A8.out).mono ?_); rintro e xr ⟨rfl, hb⟩; refine ⟨_, rfl, ?_⟩; replace a := KB a hb; replace HB := BS (w := w) hb; (try clear hb); obtain ⟨xf, xg, xh, xi, xj, xk⟩ := cz3 a.out; refine bR ?_));refine Hide.mk ?_;replace H := H.out;replace H := ifB H; rcases H with ⟨rfl, H⟩ | ⟨rfl, H⟩
    ·obtain rfl := Option.some.inj H;(try go_wp2);go_ret;exact ⟨EWW, BL⟩
    ·replace H := be H; obtain ⟨xz, xs, H⟩ := H;replace H := ah.mk H;go_wp2_with (first | ((with_reducible refine ay (f := 94) rfl ?_); refine bf (some 20) Tryz.func94 #[.agg #[.int .i64 La, .int .i64 Lb, .string Lc]] ?_; (with_reducible refine (bG.calls k La Lb Lc _ _ xs.out).mono ?_); rintro e xt ⟨rfl, hb⟩; refine ⟨_, rfl, ?_⟩; replace a := KB a hb; replace HB := BS (w := w) hb; (try clear hb); refine bR ?_));refine Hide.mk ?_;replace H := H.out;replace H := ifB H; rcases H with ⟨rfl, H⟩ | ⟨rfl, H⟩
     ·obtain rfl := Option.some.inj H;(try go_wp2);go_ret;exact ⟨EWW, BL⟩
     ·obtain rfl := Option.some.inj H;(try go_wp2);go_ret;exact ⟨EWW, BL⟩
   ·obtain rfl := Option.some.inj H;(try go_wp2);go_ret;exact ⟨EWW, BL⟩
  ·obtain rfl := Option.some.inj H;(try go_wp2);go_ret;exact ⟨EWW, BL⟩
 ·obtain rfl := Option.some.inj H;(try go_wp2);go_ret;exact ⟨EWW, BL⟩
def dS.l0 : Nat → Int → Int → Int → ByteArray → List (S72) → List Int → Int → Option (Bool)
 | 0, _, _, _, _, _, _, _ => none
 | k + 1, a, b, c, d, e, f, g => if a < (e.length : Int) then (if 0 ≤ a then ((lF.f k ((fO e a).f0) ((fO e a).f1)).bind fun h => (if h = true then (dS.l0 k (wrap64 (a + 1)) b c d e f g) else (some false))) else (none)) else ((aN.f k b c d).bind fun i => ((lD.f k b c d).bind fun j => (if j = 0 then (if (e.length : Int) = (i.length : Int) then (if (f.length : Int) = (i.length : Int) then ((bB.f g 1 9999).bind fun l => (some l)) else (some false)) else (some false)) else (some false))))
def dS.f (k : Nat) (La Lb : Int) (Lc : ByteArray) (Ld : List (S72)) (Le : List Int) (Lf : Int) : Option (Bool) := dS.l0 k 0 La Lb Lc Ld Le Lf
theorem dS.calls (k : Nat) (La Lb : Int) (Lc : ByteArray) (A0_3 : Option Addr) (c0_3 : Nat) (Ld : List (S72)) (A0_4 : Option Addr) (c0_4 : Nat) (Le : List Int) (Lf : Int) (r : Bool) (w : World) (hr0_3 : Kd.C k72 w A0_3 Ld.length Ld) (hc0_3 : Ld.length ≤ c0_3) (hr0_4 : Kd.C (Kd.int .i64) w A0_4 Le.length Le) (hc0_4 : Le.length ≤ c0_4) (h : dS.f k La Lb Lc Ld Le Lf = some r) :
  Calls Tryz.prog 31 #[.agg #[.int .i64 La, .int .i64 Lb, .string Lc, .slice A0_3 Ld.length c0_3, .slice A0_4 Le.length c0_4, .int .i64 Lf]] w fun e w' => e = .returned (.bool r) ∧ Below w.heap.size w w' := by
 have yh := Tryz.underlying37;have yi := Tryz.underlying72;have yj := Tryz.underlying34;have M := ah.mk hr0_3;have xY := ah.mk hc0_3;clear hr0_3 hc0_3;have xZ := ah.mk hr0_4;have ya := ah.mk hc0_4;clear hr0_4 hc0_4;have HB := ah.mk (Below.refl w.heap.size w);unfold dS.f at h;have H := h;clear h;have H' := ah.mk H;clear H;go_enter Tryz.func31, Tryz.ntmps31;go_wp2_with (first | ((with_reducible refine aJ (N := 1) rfl ?_); (try (refine je (by rfl) ?_; dsimp only)); refine aZ (N := 1) (cs := #[.int .i64 La, .int .i64 Lb, .string Lc, .slice A0_3 Ld.length c0_3, .slice A0_4 Le.length c0_4, .int .i64 Lf]) (t := 37) ?_; intro O hg w2 hbox hb; have m := ah.mk hbox; have P := SZ (w := w) hg; have yb := P; replace HB := BS (w := w) hb; clear hb hbox hg))
 go_loopg [3] k (fun kq v3 w' => ∃ (o : Int), v3 = .int .i64 o ∧ ah (dS.l0 kq o La Lb Lc Ld Le Lf = some r) ∧ ah (kq ≤ k) ∧ ah (w'.heap[O]? = some (.cells #[.int .i64 La, .int .i64 Lb, .string Lc, (.slice A0_3 Ld.length c0_3), (.slice A0_4 Le.length c0_4), .int .i64 Lf] 37 (0, 0))) ∧ ah (Below w.heap.size w w'))
 case atStart => exact ⟨_, EQ, H', ⟨Nat.le_refl _⟩, ⟨BK⟩, ⟨BL⟩⟩
 case round =>
  clear H';obtain ⟨o, rfl, HA, xQ, m, HB⟩ := hrel
  cases gk with
  | zero => exact absurd HA.out (by simp [dS.l0])
  | succ k1 =>
   have H := HA.out;clear HA;simp only [dS.l0] at H;obtain ⟨U, Y, Z, xa, xb, xc, xd, xe, xf, xg, xh, xi⟩ := cz6 m.out;replace H := ifD H; rcases H with ⟨xR, H⟩ | ⟨xR, H⟩
   ·replace H := ifN H; obtain ⟨yk, H⟩ := H;replace H := be H; obtain ⟨yl, A5, H⟩ := H;have D : 0 ≤ (o : Int) := OD;have E : o < (Ld.length : Int) := OD;obtain ⟨yc, J, K, xS, u, x, hl376_1, hi376_1⟩ := uN M.out o D E
    cases xS
    (try replace u := (HB.out.cell (World.block_lt_of_cell? w _ u)).trans u);(try replace x := (HB.out.cell (World.block_lt_of_cell? w _ x)).trans x);have G := ah.mk hi376_1;have I := ah.mk hl376_1;clear hi376_1 hl376_1;replace D := eq_true D;replace E := eq_true E;replace H := ah.mk H;go_wp2_with (first | ((with_reducible refine ay (f := 53) rfl ?_); refine bf (some 17) Tryz.func53 #[.agg #[.int .i64 ((fO Ld o).f0), .slice J ((fO Ld o).f1).length K]] ?_; (with_reducible refine (lF.calls k1 ((fO Ld o).f0) _ _ ((fO Ld o).f1) _ _ ?side1 ?side2 A5.out).mono ?_); (case side1 => exact CB G); (case side2 => exact I.out); rintro e xj ⟨rfl, hb⟩; refine ⟨_, rfl, ?_⟩; replace m := KB m hb; replace HB := BS (w := w) hb; (try clear hb); refine bR ?_));refine Hide.mk ?_;replace H := H.out;replace H := ifB H; rcases H with ⟨rfl, H⟩ | ⟨rfl, H⟩
    ·have H' := ah.mk H;clear H;(try go_wp2);go_roundg k1;case measure => have := xQ.out; omega
     case rel => exact ⟨_, EQ, H', ks xQ, ⟨BK⟩, ⟨BL⟩⟩
    ·obtain rfl := Option.some.inj H;(try go_wp2);go_ret;exact ⟨EWW, BL⟩
   ·replace H := be H; obtain ⟨a, yd, H⟩ := H;replace H := be H; obtain ⟨xT, ye, H⟩ := H;replace H := ah.mk H;go_wp2_with (first | ((with_reducible refine ay (f := 54) rfl ?_); refine bf (some 21) Tryz.func54 #[.agg #[.int .i64 La, .int .i64 Lb, .string Lc]] ?_; (with_reducible refine (aN.calls k1 La Lb Lc a _ yd.out).mono ?_); rintro e xj ⟨ym, rfl, xU, hb⟩; refine ⟨_, rfl, ?_⟩; replace m := KB m hb; have A := ah.mk (Kd.cK xU (aM BL)); replace HB := BS (w := w) hb; (try clear hb); (try clear xU); obtain ⟨xW, xX, L⟩ := Kd.dN A.out; subst L; obtain ⟨xk, xl, xm, xn, xo, xp, xq, xr, xs, xt, xu, xv⟩ := cz6 m.out) | ((with_reducible refine ay (f := 55) rfl ?_); refine bf (some 25) Tryz.func55 #[.agg #[.int .i64 La, .int .i64 Lb, .string Lc]] ?_; (with_reducible refine (lD.calls k1 La Lb Lc xT _ ye.out).mono ?_); rintro e yf ⟨rfl, hb⟩; refine ⟨_, rfl, ?_⟩; replace A := RB A hb; replace m := KB m hb; replace HB := BS (w := w) hb; (try clear hb); obtain ⟨xw, xx, xy, xz, xA, xB, xC, xD, xE, xF, xG, xH⟩ := cz6 m.out; refine bR ?_));refine Hide.mk ?_;replace H := H.out;replace H := ifE H; rcases H with ⟨xI, xJ, H⟩ | ⟨yp, xI, xJ, H⟩
    ·by_cases y : (Ld.length : Int) = (a.length : Int)
     ·rw [if_pos y] at H;have xK : ((Ld.length : Int) == (a.length : Int)) = true := beq_iff_eq.mpr y;have xL : ((Ld.length : Int) != (a.length : Int)) = false := bne_eq_false_iff_eq.mpr y;have xM : (Ld.length == a.length) = true := by first | simpa using y | (simp at y ⊢; omega)
      clear y;by_cases z : (Le.length : Int) = (a.length : Int)
      ·rw [if_pos z] at H;have xN : ((Le.length : Int) == (a.length : Int)) = true := beq_iff_eq.mpr z;have xO : ((Le.length : Int) != (a.length : Int)) = false := bne_eq_false_iff_eq.mpr z;have xP : (Le.length == a.length) = true := by first | simpa using z | (simp at z ⊢; omega)
       clear z;replace H := be H; obtain ⟨xV, yg, H⟩ := H;obtain rfl := Option.some.inj H;(try go_wp2_with (first | (go_at_call 56; (with_reducible refine (bB.calls Lf 1 9999 xV _ yg.out).mono ?_); rintro e w' ⟨rfl, ⟨nd, rfl⟩⟩)));go_ret;exact ⟨EWW, BL⟩
      ·rw [if_neg z] at H;have xN : ((Le.length : Int) == (a.length : Int)) = false := beq_eq_false_iff_ne.mpr z;have xO : ((Le.length : Int) != (a.length : Int)) = true := bne_iff_ne.mpr z;have xP : (Le.length == a.length) = false := by first | simpa using z | (simp at z ⊢; omega)
       obtain rfl := Option.some.inj H;(try go_wp2);go_ret;exact ⟨EWW, BL⟩
     ·rw [if_neg y] at H;have xK : ((Ld.length : Int) == (a.length : Int)) = false := beq_eq_false_iff_ne.mpr y;have xL : ((Ld.length : Int) != (a.length : Int)) = true := bne_iff_ne.mpr y;have xM : (Ld.length == a.length) = false := by first | simpa using y | (simp at y ⊢; omega)
      obtain rfl := Option.some.inj H;(try go_wp2);go_ret;exact ⟨EWW, BL⟩
    ·obtain rfl := Option.some.inj H;(try go_wp2);go_ret;exact ⟨EWW, BL⟩
mutual
def bT.l0 : Nat → ByteArray → Int → Int → Int → ByteArray → Option (ByteArray)
 | 0, _, _, _, _, _ => none
 | k + 1, a, b, c, d, e => if b < (e.size : Int) then ((bI.f k c d e).bind fun f => (bT.j1 k a b f c d e)) else (bT.j1 k a b false c d e)
def bT.j1 : Nat → ByteArray → Int → Bool → Int → Int → ByteArray → Option (ByteArray)
 | 0, _, _, _, _, _, _ => none
 | k + 1, a, b, c, d, e, f => if c = true then (if 0 ≤ b then (if b < (f.size : Int) then (if (bt f b) = 35 then (if a.size + 1 ≤ 9223372036854775807 then (bT.l0 k (a ++ (⟨#[35]⟩ : ByteArray)) (wrap64 (b + 1)) d e f) else (none)) else (if a.size + 1 ≤ 9223372036854775807 then (bT.l0 k (a ++ (⟨#[63]⟩ : ByteArray)) (wrap64 (b + 1)) d e f) else (none))) else (none)) else (none)) else (some a)
end
def bT.f (k : Nat) (La Lb : Int) (Lc : ByteArray) : Option (ByteArray) := bT.l0 k (⟨#[]⟩ : ByteArray) 0 La Lb Lc
theorem bT.calls (k : Nat) (La Lb : Int) (Lc r : ByteArray) (w : World) (h : bT.f k La Lb Lc = some r) :
  Calls Tryz.prog 41 #[.agg #[.int .i64 La, .int .i64 Lb, .string Lc]] w fun e w' => e = .returned (.string r) ∧ Below w.heap.size w w' := by
 have xs := Tryz.underlying34;have HB := ah.mk (Below.refl w.heap.size w);unfold bT.f at h;have H := h;clear h;have H' := ah.mk H;clear H;go_enter Tryz.func41, Tryz.ntmps41;go_wp2_with (first | ((with_reducible refine aJ (N := 1) rfl ?_); refine aZ (N := 1) (cs := #[.int .i64 La, .int .i64 Lb, .string Lc]) (t := 34) ?_; intro z hg w2 hbox hb; have a := ah.mk hbox; have D := SZ (w := w) hg; have xh := D; replace HB := BS (w := w) hb; clear hb hbox hg))
 go_loopg [3, 4] k (fun kq v3 v4 w' => ∃ (m : ByteArray) (o : Int), v3 = .string m ∧ v4 = .int .i64 o ∧ ah (bT.l0 kq m o La Lb Lc = some r) ∧ ah (kq ≤ k) ∧ ah (w'.heap[z]? = some (.cells #[.int .i64 La, .int .i64 Lb, .string Lc] 34 (0, 0))) ∧ ah (Below w.heap.size w w'))
 case atStart => exact ⟨_, _, EQ, EQ, H', ⟨Nat.le_refl _⟩, ⟨BK⟩, ⟨BL⟩⟩
 case round =>
  clear H';obtain ⟨m, o, rfl, rfl, HA, y, a, HB⟩ := hrel
  cases gk with
  | zero => exact absurd HA.out (by simp [bT.l0])
  | succ k1 =>
   have H := HA.out;clear HA;simp only [bT.l0] at H;have E := ah.mk H;clear H;go_upto_region 3 with (fail)
   go_cut [13] (fun xi wc => ∃ (kq : Nat) (x : Bool), xi = .bool x ∧ ah (bT.j1 kq m o x La Lb Lc = some r) ∧ ah (kq ≤ k1) ∧ ah (wc.heap[z]? = some (.cells #[.int .i64 La, .int .i64 Lb, .string Lc] 34 (0, 0))) ∧ ah (Below w.heap.size w wc))
   case first =>
    have H := E.out;clear E;obtain ⟨G, I, J, K, L, M⟩ := cz3 a.out;replace H := ifD H; rcases H with ⟨u, H⟩ | ⟨u, H⟩
    ·(first | rw [u] | (simp only [gZ, iR]; rw [u]) | skip);replace H := be H; obtain ⟨xf, A5, H⟩ := H;have H' := ah.mk H;clear H;go_wp2_with (first | (go_at_call 67; (with_reducible refine (bI.calls k1 La Lb Lc xf _ A5.out).mono ?_); rintro e xj ⟨rfl, hb⟩; replace a := KB a hb; replace HB := BS (w := w) hb; (try clear hb); (try clear hb2); (try clear hk); (try clear hi)));go_meet;case rel => exact ⟨_, _, EQ, H', ⟨by have := y.out; first | omega | exact Nat.le_refl _⟩, ⟨BK⟩, ⟨BL⟩⟩
    ·(first | rw [u] | (simp only [gZ, iR]; rw [u]) | skip);have H' := ah.mk H;clear H;go_wp2;go_meet;case rel => exact ⟨_, _, EQ, H', ⟨by have := y.out; first | omega | exact Nat.le_refl _⟩, ⟨BK⟩, ⟨BL⟩⟩
   case rest =>
    clear E;obtain ⟨kq, x, rfl, HA, A, a, HB⟩ := hcut
    cases kq with
    | zero => exact absurd HA.out (by simp [bT.j1])
    | succ xg =>
     have H := HA.out;clear HA;simp only [bT.j1] at H;replace H := ifB H; rcases H with ⟨rfl, H⟩ | ⟨rfl, H⟩
     ·replace H := ifN H; obtain ⟨xk, H⟩ := H;replace H := ifN H; obtain ⟨xl, H⟩ := H;obtain ⟨O, P, U, Y, Z, xa⟩ := cz3 a.out;have xw : (0 ≤ (o : Int)) = True := OT;have xx : (o < (Lc.size : Int)) = True := OT;have hx12 := fU Lc o;replace H := ifE H; rcases H with ⟨xb, xc, H⟩ | ⟨xy, xb, xc, H⟩
      ·replace H := ifP H; obtain ⟨xd, H⟩ := H;have xm := eq_true xd;have xn : decide (m.size + 1 ≤ 9223372036854775807) = true := decide_eq_true xd;(try have xo : (9223372036854775807 < m.size + 1) = False := eq_false (Nat.not_lt.2 xd));have H' := ah.mk H;clear H;go_wp2;go_roundg xg;case measure => have := y.out; have := A.out; omega
       case rel => exact ⟨_, _, EQ, EQ, H', kt y A, ⟨BK⟩, ⟨BL⟩⟩
      ·replace H := ifP H; obtain ⟨xe, H⟩ := H;have xp := eq_true xe;have xq : decide (m.size + 1 ≤ 9223372036854775807) = true := decide_eq_true xe;(try have xr : (9223372036854775807 < m.size + 1) = False := eq_false (Nat.not_lt.2 xe));have H' := ah.mk H;clear H;go_wp2;go_roundg xg;case measure => have := y.out; have := A.out; omega
       case rel => exact ⟨_, _, EQ, EQ, H', kt y A, ⟨BK⟩, ⟨BL⟩⟩
     ·obtain rfl := Option.some.inj H;go_wp2;go_ret;exact ⟨EWW, BL⟩
mutual
def bM.j0 : Nat → ByteArray → Bool → Int → Int → ByteArray → Option (Bool)
 | 0, _, _, _, _, _ => none
 | k + 1, a, b, c, d, e => if b = true then (some false) else (bM.l0 k a 0 c d e)
def bM.l0 : Nat → ByteArray → Int → Int → Int → ByteArray → Option (Bool)
 | 0, _, _, _, _, _ => none
 | k + 1, a, b, c, d, e => if b < (a.size : Int) then (if 0 ≤ b then (if (bt a b) = 63 then (if b < (e.size : Int) then (if (bt e b) = 35 then (if (bt a b) = 35 then (if (bt e b) = 46 then (bM.l0 k a (wrap64 (b + 1)) c d e) else (bM.l0 k a (wrap64 (b + 1)) c d e)) else (some false)) else (if (bt e b) = 46 then (bM.l0 k a (wrap64 (b + 1)) c d e) else (bM.l0 k a (wrap64 (b + 1)) c d e))) else (none)) else (if (bt a b) ≥ 97 then (if b < (e.size : Int) then (if (bt e b) = 35 then (if (bt a b) = 35 then (if (bt e b) = 46 then (if ((bt a b) ≤ 122) then (bM.l0 k a (wrap64 (b + 1)) c d e) else (some false)) else (bM.l0 k a (wrap64 (b + 1)) c d e)) else (some false)) else (if (bt e b) = 46 then (if ((bt a b) ≤ 122) then (bM.l0 k a (wrap64 (b + 1)) c d e) else (some false)) else (bM.l0 k a (wrap64 (b + 1)) c d e))) else (none)) else (if b < (e.size : Int) then (if (bt e b) = 35 then (if (bt a b) = 35 then (if (bt e b) = 46 then (some false) else (bM.l0 k a (wrap64 (b + 1)) c d e)) else (some false)) else (if (bt e b) = 46 then (some false) else (bM.l0 k a (wrap64 (b + 1)) c d e))) else (none)))) else (none)) else (some true)
end
def bM.f (k : Nat) (La Lb : Int) (Lc a1 : ByteArray) : Option (Bool) := (bI.f k La Lb Lc).bind fun t386 => (if t386 = true then (bM.j0 k a1 ((a1.size : Int) != (Lc.size : Int)) La Lb Lc) else (bM.j0 k a1 true La Lb Lc))
theorem bM.calls (k : Nat) (La Lb : Int) (Lc x : ByteArray) (r : Bool) (w : World) (h : bM.f k La Lb Lc x = some r) :
  Calls Tryz.prog 65 #[.agg #[.int .i64 La, .int .i64 Lb, .string Lc], .string x] w fun e w' => e = .returned (.bool r) ∧ Below w.heap.size w w' := by
 have xZ := Tryz.underlying34;have HB := ah.mk (Below.refl w.heap.size w);unfold bM.f at h;have H := h;clear h;have O := ah.mk H;clear H;go_enter Tryz.func65, Tryz.ntmps65;go_upto_region 1 with (first | ((with_reducible refine aJ (N := 2) rfl ?_); (try (refine je (by rfl) ?_; dsimp only)); refine aZ (N := 2) (cs := #[.int .i64 La, .int .i64 Lb, .string Lc]) (t := 34) ?_; intro M hg w4 hbox hb; have u := ah.mk hbox; have P := SZ (w := w) hg; have xO := P; replace HB := BS (w := w) hb; clear hb hbox hg));(try simp only [Act.put, List.setIfInBounds_toArray, List.set_cons_zero, List.set_cons_succ])
 go_cut [17] (fun xP wc => ∃ (kq : Nat) (I : Bool), xP = .bool I ∧ ah (bM.j0 kq x I La Lb Lc = some r) ∧ ah (kq ≤ k) ∧ ah (wc.heap[M]? = some (.cells #[.int .i64 La, .int .i64 Lb, .string Lc] 34 (0, 0))) ∧ ah (Below w.heap.size w wc))
 case first =>
  have H := O.out;clear O;replace H := be H; obtain ⟨ya, A5, H⟩ := H;obtain ⟨U, Y, Z, xa, xb, xc⟩ := cz3 u.out;replace H := ah.mk H;go_wp2_with (first | ((with_reducible refine ay (f := 67) rfl ?_); refine bf (some 8) Tryz.func67 #[.agg #[.int .i64 La, .int .i64 Lb, .string Lc]] ?_; (with_reducible refine (bI.calls k La Lb Lc _ _ A5.out).mono ?_); rintro e xQ ⟨rfl, hb⟩; refine ⟨_, rfl, ?_⟩; replace u := KB u hb; replace HB := BS (w := w) hb; (try clear hb); obtain ⟨xd, xe, xf, xg, xh, xi⟩ := cz3 u.out; refine bR ?_));refine Hide.mk ?_;replace H := H.out;replace H := ifB H; rcases H with ⟨rfl, H⟩ | ⟨rfl, H⟩
  ·have H' := ah.mk H;clear H;(try go_wp2);go_meet;case rel => exact ⟨_, _, EQ, H', ⟨by first | omega | exact Nat.le_refl _⟩, ⟨BK⟩, ⟨BL⟩⟩
  ·have H' := ah.mk H;clear H;(try go_wp2);go_meet;case rel => exact ⟨_, _, EQ, H', ⟨by first | omega | exact Nat.le_refl _⟩, ⟨BK⟩, ⟨BL⟩⟩
 case rest =>
  clear O;obtain ⟨kq, I, rfl, HA, m, u, HB⟩ := hcut
  cases kq with
  | zero => exact absurd HA.out (by simp [bM.j0])
  | succ xN =>
   have H := HA.out;clear HA;simp only [bM.j0] at H;replace H := ifB H; rcases H with ⟨rfl, H⟩ | ⟨rfl, H⟩
   ·obtain rfl := Option.some.inj H;go_wp2;go_ret;exact ⟨EWW, BL⟩
   ·have H' := ah.mk H;clear H;go_wp2
    go_loopg [5] xN (fun kq v5 w' => ∃ (a : Int), v5 = .int .i64 a ∧ ah (bM.l0 kq x a La Lb Lc = some r) ∧ ah (kq ≤ xN) ∧ ah (w'.heap[M]? = some (.cells #[.int .i64 La, .int .i64 Lb, .string Lc] 34 (0, 0))) ∧ ah (Below w.heap.size w w'))
    case atStart => exact ⟨_, EQ, H', ⟨Nat.le_refl _⟩, ⟨BK⟩, ⟨BL⟩⟩
    case round =>
     clear H';(try clear yd);obtain ⟨a, rfl, HA, o, u, HB⟩ := hrel
     cases gk with
     | zero => exact absurd HA.out (by simp [bM.l0])
     | succ k2 =>
      have H := HA.out;clear HA;simp only [bM.l0] at H;replace H := ifD H; rcases H with ⟨xj, H⟩ | ⟨xj, H⟩
      ·replace H := ifN H; obtain ⟨xR, H⟩ := H;replace H := ifE H; rcases H with ⟨xk, xl, H⟩ | ⟨ye, xk, xl, H⟩
       ·replace H := ifN H; obtain ⟨xS, H⟩ := H;have xT : (0 ≤ (a : Int)) = True := OT;have xU : (a < (x.size : Int)) = True := OT;have hx15 := fU x a;obtain ⟨y, z, A, D, E, G⟩ := cz3 u.out;have yf : (0 ≤ (a : Int)) = True := OT;have yg : (a < (Lc.size : Int)) = True := OT;have hx18 := fU Lc a;replace H := ifE H; rcases H with ⟨xm, xn, H⟩ | ⟨yh, xm, xn, H⟩
        ·have yi : (0 ≤ (a : Int)) = True := OT;have yj : (a < (x.size : Int)) = True := OT;have hx20 := fU x a;replace H := ifE H; rcases H with ⟨xo, xp, H⟩ | ⟨yk, xo, xp, H⟩
         ·have yl : (0 ≤ (a : Int)) = True := OT;have ym : (a < (Lc.size : Int)) = True := OT;have hx22 := fU Lc a;replace H := ifE H; rcases H with ⟨xq, xr, H⟩ | ⟨yn, xq, xr, H⟩
          ·have H' := ah.mk H;clear H;go_wp2;go_roundg k2;case measure => have := m.out; have := o.out; omega
           case rel => exact ⟨_, EQ, H', ⟨by have := m.out; have := o.out; omega⟩, ⟨BK⟩, ⟨BL⟩⟩
          ·have H' := ah.mk H;clear H;go_wp2;go_roundg k2;case measure => have := m.out; have := o.out; omega
           case rel => exact ⟨_, EQ, H', ⟨by have := m.out; have := o.out; omega⟩, ⟨BK⟩, ⟨BL⟩⟩
         ·obtain rfl := Option.some.inj H;go_wp2;go_ret;exact ⟨EWW, BL⟩
        ·have yo : (0 ≤ (a : Int)) = True := OT;have yp : (a < (Lc.size : Int)) = True := OT;have hx27 := fU Lc a;replace H := ifE H; rcases H with ⟨xs, xt, H⟩ | ⟨yq, xs, xt, H⟩
         ·have H' := ah.mk H;clear H;go_wp2;go_roundg k2;case measure => have := m.out; have := o.out; omega
          case rel => exact ⟨_, EQ, H', ⟨by have := m.out; have := o.out; omega⟩, ⟨BK⟩, ⟨BL⟩⟩
         ·have H' := ah.mk H;clear H;go_wp2;go_roundg k2;case measure => have := m.out; have := o.out; omega
          case rel => exact ⟨_, EQ, H', ⟨by have := m.out; have := o.out; omega⟩, ⟨BK⟩, ⟨BL⟩⟩
       ·have xT : (0 ≤ (a : Int)) = True := OT;have xU : (a < (x.size : Int)) = True := OT;have hx15 := fU x a;by_cases J : (bt x a) ≥ 97
        ·rw [if_pos J] at H;have xu : decide (97 ≤ (bt x a)) = true := decide_eq_true J;clear J;replace H := ifN H; obtain ⟨xV, H⟩ := H;have xW : (0 ≤ (a : Int)) = True := OT;have xX : (a < (x.size : Int)) = True := OT;have hx31 := fU x a;have yr : (0 ≤ (a : Int)) = True := OT;have ys : (a < (x.size : Int)) = True := OT;have hx33 := fU x a;obtain ⟨y, z, A, D, E, G⟩ := cz3 u.out;have yt : (0 ≤ (a : Int)) = True := OT;have yu : (a < (Lc.size : Int)) = True := OT;have hx35 := fU Lc a;replace H := ifE H; rcases H with ⟨xv, xw, H⟩ | ⟨yv, xv, xw, H⟩
         ·have yw : (0 ≤ (a : Int)) = True := OT;have yx : (a < (x.size : Int)) = True := OT;have hx37 := fU x a;replace H := ifE H; rcases H with ⟨xx, xy, H⟩ | ⟨yy, xx, xy, H⟩
          ·have yz : (0 ≤ (a : Int)) = True := OT;have yA : (a < (Lc.size : Int)) = True := OT;have hx39 := fU Lc a;replace H := ifE H; rcases H with ⟨xz, xA, H⟩ | ⟨yB, xz, xA, H⟩
           ·by_cases K : ((bt x a) ≤ 122)
            ·rw [if_pos K] at H;have xB : decide ((bt x a) ≤ 122) = true := decide_eq_true K;clear K;have H' := ah.mk H;clear H;go_wp2;go_roundg k2;case measure => have := m.out; have := o.out; omega
             case rel => exact ⟨_, EQ, H', ⟨by have := m.out; have := o.out; omega⟩, ⟨BK⟩, ⟨BL⟩⟩
            ·rw [if_neg K] at H;have xB : decide ((bt x a) ≤ 122) = false := decide_eq_false K;clear K;obtain rfl := Option.some.inj H;go_wp2;go_ret;exact ⟨EWW, BL⟩
           ·have H' := ah.mk H;clear H;go_wp2;go_roundg k2;case measure => have := m.out; have := o.out; omega
            case rel => exact ⟨_, EQ, H', ⟨by have := m.out; have := o.out; omega⟩, ⟨BK⟩, ⟨BL⟩⟩
          ·obtain rfl := Option.some.inj H;go_wp2;go_ret;exact ⟨EWW, BL⟩
         ·have yC : (0 ≤ (a : Int)) = True := OT;have yD : (a < (Lc.size : Int)) = True := OT;have hx46 := fU Lc a;replace H := ifE H; rcases H with ⟨xC, xD, H⟩ | ⟨yE, xC, xD, H⟩
          ·by_cases L : ((bt x a) ≤ 122)
           ·rw [if_pos L] at H;have xE : decide ((bt x a) ≤ 122) = true := decide_eq_true L;clear L;have H' := ah.mk H;clear H;go_wp2;go_roundg k2;case measure => have := m.out; have := o.out; omega
            case rel => exact ⟨_, EQ, H', ⟨by have := m.out; have := o.out; omega⟩, ⟨BK⟩, ⟨BL⟩⟩
           ·rw [if_neg L] at H;have xE : decide ((bt x a) ≤ 122) = false := decide_eq_false L;clear L;obtain rfl := Option.some.inj H;go_wp2;go_ret;exact ⟨EWW, BL⟩
          ·have H' := ah.mk H;clear H;go_wp2;go_roundg k2;case measure => have := m.out; have := o.out; omega
           case rel => exact ⟨_, EQ, H', ⟨by have := m.out; have := o.out; omega⟩, ⟨BK⟩, ⟨BL⟩⟩
        ·rw [if_neg J] at H;have xu : decide (97 ≤ (bt x a)) = false := decide_eq_false J;clear J;replace H := ifN H; obtain ⟨xY, H⟩ := H;have xW : (0 ≤ (a : Int)) = True := OT;have xX : (a < (x.size : Int)) = True := OT;have hx31 := fU x a;obtain ⟨y, z, A, D, E, G⟩ := cz3 u.out;have yF : (0 ≤ (a : Int)) = True := OT;have yG : (a < (Lc.size : Int)) = True := OT;have hx53 := fU Lc a;replace H := ifE H; rcases H with ⟨xF, xG, H⟩ | ⟨yH, xF, xG, H⟩
         ·have yI : (0 ≤ (a : Int)) = True := OT;have yJ : (a < (x.size : Int)) = True := OT;have hx55 := fU x a;replace H := ifE H; rcases H with ⟨xH, xI, H⟩ | ⟨yK, xH, xI, H⟩
          ·have yL : (0 ≤ (a : Int)) = True := OT;have yM : (a < (Lc.size : Int)) = True := OT;have hx57 := fU Lc a;replace H := ifE H; rcases H with ⟨xJ, xK, H⟩ | ⟨yN, xJ, xK, H⟩
           ·obtain rfl := Option.some.inj H;go_wp2;go_ret;exact ⟨EWW, BL⟩
           ·have H' := ah.mk H;clear H;go_wp2;go_roundg k2;case measure => have := m.out; have := o.out; omega
            case rel => exact ⟨_, EQ, H', ⟨by have := m.out; have := o.out; omega⟩, ⟨BK⟩, ⟨BL⟩⟩
          ·obtain rfl := Option.some.inj H;go_wp2;go_ret;exact ⟨EWW, BL⟩
         ·have yO : (0 ≤ (a : Int)) = True := OT;have yP : (a < (Lc.size : Int)) = True := OT;have hx62 := fU Lc a;replace H := ifE H; rcases H with ⟨xL, xM, H⟩ | ⟨yQ, xL, xM, H⟩
          ·obtain rfl := Option.some.inj H;go_wp2;go_ret;exact ⟨EWW, BL⟩
          ·have H' := ah.mk H;clear H;go_wp2;go_roundg k2;case measure => have := m.out; have := o.out; omega
           case rel => exact ⟨_, EQ, H', ⟨by have := m.out; have := o.out; omega⟩, ⟨BK⟩, ⟨BL⟩⟩
      ·obtain rfl := Option.some.inj H;go_wp2;go_ret;exact ⟨EWW, BL⟩
def fK.l0 : Nat → ByteArray → Int → Option (Bool)
 | 0, _, _ => none
 | k + 1, a, b => if b < (a.size : Int) then (if 0 ≤ b then (if (bt a b) = 63 then (some true) else (fK.l0 k a (wrap64 (b + 1)))) else (none)) else (some false)
def fK.f (k : Nat) (a0 : ByteArray) : Option (Bool) := fK.l0 k a0 0
theorem fK.calls (k : Nat) (m : ByteArray) (r : Bool) (w : World) (h : fK.f k m = some r) :
  Calls Tryz.prog 84 #[.string m] w fun e w' => e = .returned (.bool r) ∧ cB w w' := by
 have H : (fK.l0 k m 0) = some r := h;clear h;have H' := ah.mk H;clear H;go_enter Tryz.func84, Tryz.ntmps84;go_wp2
 go_loopg [3] k (fun kq A w' => ∃ (a : Int), A = .int .i64 a ∧ ah (fK.l0 kq m a = some r) ∧ ah (kq ≤ k) ∧ cB w w')
 case atStart => exact ⟨_, EQ, H', ⟨Nat.le_refl _⟩, DR⟩
 case round =>
  clear H';obtain ⟨a, rfl, HA, o, ⟨m1, rfl⟩⟩ := hrel
  cases gk with
  | zero => exact absurd HA.out (by simp [fK.l0])
  | succ k1 =>
   have H := HA.out;clear HA;simp only [fK.l0] at H;replace H := ifD H; rcases H with ⟨u, H⟩ | ⟨u, H⟩
   ·replace H := ifN H; obtain ⟨z, H⟩ := H;have D : (0 ≤ (a : Int)) = True := OT;have E : (a < (m.size : Int)) = True := OT;have hx4 := fU m a;replace H := ifE H; rcases H with ⟨x, y, H⟩ | ⟨c5, x, y, H⟩
    ·obtain rfl := Option.some.inj H;go_wp2;go_ret;exact ⟨EQ, DR⟩
    ·have H' := ah.mk H;clear H;go_wp2;go_roundg k1;case measure => have := o.out; omega
     case rel => exact ⟨_, EQ, H', ks o, DR⟩
   ·obtain rfl := Option.some.inj H;go_wp2;go_ret;exact ⟨EQ, DR⟩
def lG.f (k : Nat) (La Lb : Int) (Lc a1 : ByteArray) : Option (Bool) := (bM.f k La Lb Lc a1).bind fun t388 => (if t388 = true then ((fK.f k a1).bind fun t389 => (some (!t389))) else (some false))
theorem lG.calls (k : Nat) (La Lb : Int) (Lc D : ByteArray) (r : Bool) (w : World) (h : lG.f k La Lb Lc D = some r) :
  Calls Tryz.prog 48 #[.agg #[.int .i64 La, .int .i64 Lb, .string Lc], .string D] w fun e w' => e = .returned (.bool r) ∧ Below w.heap.size w w' := by
 have L := Tryz.underlying34;have HB := ah.mk (Below.refl w.heap.size w);unfold lG.f at h;have H := h;clear h;replace H := be H; obtain ⟨M, O, H⟩ := H;replace H := ah.mk H;go_enter Tryz.func48, Tryz.ntmps48;go_wp2_with (first | ((with_reducible refine aJ (N := 2) rfl ?_); refine aZ (N := 2) (cs := #[.int .i64 La, .int .i64 Lb, .string Lc]) (t := 34) ?_; intro G hg I hbox hb; have a := ah.mk hbox; have m := SZ (w := w) hg; have J := m; replace HB := BS (w := w) hb; clear hb hbox hg; obtain ⟨o, u, x, y, z, A⟩ := cz3 a.out) | ((with_reducible refine ay (f := 65) rfl ?_); refine bf (some 7) Tryz.func65 #[.agg #[.int .i64 La, .int .i64 Lb, .string Lc], .string D] ?_; (with_reducible refine (bM.calls k La Lb Lc D _ _ O.out).mono ?_); rintro e K ⟨rfl, hb⟩; refine ⟨_, rfl, ?_⟩; replace a := KB a hb; replace HB := BS (w := w) hb; (try clear hb); refine bR ?_));refine Hide.mk ?_;replace H := H.out;replace H := ifB H; rcases H with ⟨rfl, H⟩ | ⟨rfl, H⟩
 ·replace H := be H; obtain ⟨E, P, H⟩ := H;obtain rfl := Option.some.inj H;(try go_wp2_with (first | (go_at_call 84; (with_reducible refine (fK.calls k D E _ P.out).mono ?_); rintro e w' ⟨rfl, ⟨nd, rfl⟩⟩)));go_ret;exact ⟨EWW, BL⟩
 ·obtain rfl := Option.some.inj H;(try go_wp2);go_ret;exact ⟨EWW, BL⟩
mutual
def bn.j0 : Nat → ByteArray → Int → List (S92) → Bool → Int → Int → ByteArray → Option (ByteArray)
 | 0, _, _, _, _, _, _, _ => none
 | k + 1, a, b, c, d, e, f, g => if d = true then (some (⟨#[]⟩ : ByteArray)) else (if 0 ≤ b then (if b < (c.length : Int) then ((bJ.f k e f g ((aQ c b).f0) ((aQ c b).f1) ((aQ c b).f2) ((aQ c b).f3)).bind fun h => (bn.l0 k a (⟨#[]⟩ : ByteArray) h 0)) else (none)) else (none))
def bn.l0 : Nat → ByteArray → ByteArray → List Int → Int → Option (ByteArray)
 | 0, _, _, _, _ => none
 | k + 1, a, b, c, d => if d < (c.length : Int) then (if 0 ≤ d then (if 0 ≤ (rd c d) then (if (rd c d) ≤ (wrap64 ((rd c d) + 1)) then (if (wrap64 ((rd c d) + 1)) ≤ (a.size : Int) then (if b.size + (a.extract ((rd c d) : Int).toNat ((wrap64 ((rd c d) + 1)) : Int).toNat).size ≤ 9223372036854775807 then (bn.l0 k a (b ++ (a.extract ((rd c d) : Int).toNat ((wrap64 ((rd c d) + 1)) : Int).toNat)) c (wrap64 (d + 1))) else (none)) else (none)) else (none)) else (none)) else (none)) else (some b)
end
def bn.f (k : Nat) (La Lb : Int) (Lc a1 : ByteArray) (a2 : Int) : Option (ByteArray) := (aN.f k La Lb Lc).bind fun t391 => ((bM.f k La Lb Lc a1).bind fun t394 => (if t394 = true then ((bB.f a2 0 (wrap64 ((t391.length : Int) - 1))).bind fun t395 => (bn.j0 k a1 a2 t391 (!t395) La Lb Lc)) else (bn.j0 k a1 a2 t391 true La Lb Lc)))
def bn.T9 : Bool × List (List Nat × List Nat) := (true, [([], []), ([], []), ([], []), ([], []), ([2, 3], [2, 3]), ([4], [4]), ([], []), ([], []), ([6, 7], [6, 7]), ([8], [8]), ([9], [9]), ([1, 5, 10], [1, 5, 10]), ([0, 11], [0, 11]), ([12, 0, 1, 2, 3, 4, 5, 6, 7, 8, 9, 10, 11, 12], [0, 12])])
def bn.B9 : List Nat := [0, 0, 0, 0, 12, 28, 0, 0, 192, 448, 960, 2046, 4095, 8191]
theorem bn.KZ : kP .any (opsOf Tryz.f40 9) = bn.T9 := by kernel_rfl
theorem bn.KI : iZ bn.T9.2 bn.B9 = true := by kernel_rfl
theorem bn.calls (k : Nat) (La Lb : Int) (Lc a1 : ByteArray) (y : Int) (r : ByteArray) (w : World) (h : bn.f k La Lb Lc a1 y = some r) :
  Calls Tryz.prog 40 #[.agg #[.int .i64 La, .int .i64 Lb, .string Lc], .string a1, .int .i64 y] w fun e w' => e = .returned (.string r) ∧ Below w.heap.size w w' := by
 have yt := Tryz.underlying34;have yu := Tryz.underlying92;have HB := ah.mk (Below.refl w.heap.size w);unfold bn.f at h;have H := h;clear h;replace H := be H; obtain ⟨u, A4, H⟩ := H;have xr := ah.mk H;clear H;go_enter Tryz.func40, Tryz.ntmps40;go_upto_region 2 with (first | ((with_reducible refine aJ (N := 3) rfl ?_); (try (refine je (by rfl) ?_; dsimp only)); refine aZ (N := 3) (cs := #[.int .i64 La, .int .i64 Lb, .string Lc]) (t := 34) ?_; intro z hg w6 hbox hb; have m := ah.mk hbox; have xs := SZ (w := w) hg; have yb := xs; replace HB := BS (w := w) hb; clear hb hbox hg; obtain ⟨Z, xa, xb, xc, xd, xe⟩ := cz3 m.out) | ((with_reducible refine ay (f := 54) rfl ?_); refine bf (some 12) Tryz.func54 #[.agg #[.int .i64 La, .int .i64 Lb, .string Lc]] ?_; (with_reducible refine (aN.calls k La Lb Lc u _ A4.out).mono ?_); rintro e w8 ⟨xH, rfl, xj, hb⟩; refine ⟨_, rfl, ?_⟩; replace m := KB m hb; have A := ah.mk (Kd.cK xj (aM BL)); replace HB := BS (w := w) hb; (try clear hb); (try clear xj)));(try simp only [Act.put, List.setIfInBounds_toArray, List.set_cons_zero, List.set_cons_succ])
 go_cut [24] (fun yc wc => ∃ (kq : Nat) (U : Bool), yc = .bool U ∧ ah (bn.j0 kq a1 y u U La Lb Lc = some r) ∧ ah (kq ≤ k) ∧ ah (Kd.R k92 92 wc w.heap.size (fun _ => True) xH u) ∧ ah (wc.heap[z]? = some (.cells #[.int .i64 La, .int .i64 Lb, .string Lc] 34 (0, 0))) ∧ ah (Below w.heap.size w wc))
 case first =>
  have H := xr.out;clear xr;replace H := be H; obtain ⟨yv, A9, H⟩ := H;obtain ⟨xt, xu, xv, xw, xx, xy⟩ := cz3 m.out;replace H := ah.mk H;go_wp2_with (first | ((with_reducible refine ay (f := 65) rfl ?_); refine bf (some 15) Tryz.func65 #[.agg #[.int .i64 La, .int .i64 Lb, .string Lc], .string a1] ?_; (with_reducible refine (bM.calls k La Lb Lc a1 _ _ A9.out).mono ?_); rintro e yd ⟨rfl, hb⟩; refine ⟨_, rfl, ?_⟩; replace A := RB A hb; replace m := KB m hb; replace HB := BS (w := w) hb; (try clear hb); refine bR ?_));refine Hide.mk ?_;replace H := H.out;replace H := ifB H; rcases H with ⟨rfl, H⟩ | ⟨rfl, H⟩
  ·replace H := be H; obtain ⟨xI, ye, H⟩ := H;have H' := ah.mk H;clear H;obtain ⟨xV, xW, xp⟩ := Kd.dN A.out;subst xp;go_wp2_with (first | (go_at_call 56; (with_reducible refine (bB.calls y 0 (wrap64 ((u.length : Int) - 1)) xI _ ye.out).mono ?_); rintro e w' ⟨rfl, ⟨nd, rfl⟩⟩));go_meet;case rel => exact ⟨_, _, EQ, H', ⟨by first | omega | exact Nat.le_refl _⟩, ⟨(RR A)⟩, ⟨BK⟩, ⟨BL⟩⟩
  ·have H' := ah.mk H;clear H;(try go_wp2);go_meet;case rel => exact ⟨_, _, EQ, H', ⟨by first | omega | exact Nat.le_refl _⟩, ⟨(RR A)⟩, ⟨BK⟩, ⟨BL⟩⟩
 case rest =>
  clear xr;(try clear Z xa xb xc xd xe);obtain ⟨kq, U, rfl, HA, xJ, D, m, HB⟩ := hcut
  cases kq with
  | zero => exact absurd HA.out (by simp [bn.j0])
  | succ xz =>
   have H := HA.out;clear HA;simp only [bn.j0] at H;replace H := ifB H; rcases H with ⟨rfl, H⟩ | ⟨rfl, H⟩
   ·obtain rfl := Option.some.inj H;go_wp2;go_ret;exact ⟨EWW, BL⟩
   ·replace H := ifN H; obtain ⟨xA, H⟩ := H;replace H := ifN H; obtain ⟨xB, H⟩ := H;replace H := be H; obtain ⟨o, yf, H⟩ := H;have H' := ah.mk H;clear H;(try go_wp2);replace D := ah.mk (Kd.eH D.out);replace m := ah.mk (aH m.out);replace HB := ah.mk (dK HB.out);obtain ⟨xX, xY, xf⟩ := Kd.dN D.out;(first | subst xf | (injection xf with f1_ f2_ f3_; have f4_ := f1_.symm; have f5_ := f3_.symm; clear f1_ f2_ f3_; subst f4_; subst f5_));have xg : 0 ≤ (y : Int) := OD;have xh : y < (u.length : Int) := OD;obtain ⟨x, xK, E, G, I, J⟩ := pI (Kd.bO D.out).2.2 y xg xh
    cases xK
    replace xg := eq_true xg;replace xh := eq_true xh;refine jl (n := 7) (S := fun w' => w'.cell? ⟨z, 0, none⟩ = some (.int .i64 La) ∧ w'.cell? ⟨z, 1, none⟩ = some (.int .i64 Lb) ∧ w'.cell? ⟨z, 2, none⟩ = some (.string Lc) ∧ w'.cell? (x.add ((y).toNat * 4)) = some (.int .i64 ((aQ u y).f0)) ∧ w'.cell? ⟨(x.add ((y).toNat * 4)).block, (x.add ((y).toNat * 4)).off + 1, none⟩ = some (.bool ((aQ u y).f1)) ∧ w'.cell? ⟨(x.add ((y).toNat * 4)).block, (x.add ((y).toNat * 4)).off + 2, none⟩ = some (.int .i64 ((aQ u y).f2)) ∧ w'.cell? ⟨(x.add ((y).toNat * 4)).block, (x.add ((y).toNat * 4)).off + 3, none⟩ = some (.int .i64 ((aQ u y).f3))) (ds := []) #[F,F,F,F,F,F,F] (by kernel_rfl) rfl rfl ⟨(ak m.out 0).trans rfl, (ak m.out 1).trans rfl, (ak m.out 2).trans rfl, E, G, I, J⟩ (fun hHeld => ?_);generalize wc.drew = yg at D m HB E G I J hHeld ⊢;refine puS (i := 1) (N := some 26) #[F,T,F,F,F,F,F] (by kernel_rfl) ?_;refine puS (i := 2) (N := some 27) #[F,T,T,F,F,F,F] (by kernel_rfl) ?_;refine puS (i := 3) (N := some 28) #[F,T,T,T,F,F,F] (by kernel_rfl) ?_;refine taS (i := 0) (N := some 25) #[T,T,T,T,F,F,F] (by kernel_rfl) hHeld ?_;refine taS (i := 4) (N := some 29) #[T,T,T,T,T,F,F] (by kernel_rfl) hHeld ?_;refine lC (i := 5) (N := some 30) #[T,T,T,T,T,T,F] rfl rfl (by kernel_rfl) (by decide) (fun K hK => ?_);refine jd Tryz.func66 #[.agg #[.int .i64 La, .int .i64 Lb, .string Lc], .agg #[.int .i64 ((aQ u y).f0), .bool ((aQ u y).f1), .int .i64 ((aQ u y).f2), .int .i64 ((aQ u y).f3)]] ?_;(with_reducible refine (bJ.calls xz La Lb Lc ((aQ u y).f0) ((aQ u y).f1) ((aQ u y).f2) ((aQ u y).f3) o _ yf.out).mono ?_);rintro e yh ⟨xL, rfl, xj, hb⟩;have xM := (hb.cell (World.block_lt_of_cell? _ _ (hHeld.2.2.2.1))).trans (hHeld.2.2.2.1);have xN := (hb.cell (World.block_lt_of_cell? _ _ (hHeld.2.2.2.2.1))).trans (hHeld.2.2.2.2.1);have xO := (hb.cell (World.block_lt_of_cell? _ _ (hHeld.2.2.2.2.2.1))).trans (hHeld.2.2.2.2.2.1);have xP := (hb.cell (World.block_lt_of_cell? _ _ (hHeld.2.2.2.2.2.2))).trans (hHeld.2.2.2.2.2.2);refine ⟨_, rfl, ?_⟩;replace D := RB D hb;have xC := ah.mk (Kd.cK xj (aM BL));replace m := KB m hb;replace HB := BS (w := w) hb;(try clear hb);(try clear xj);refine hK.out _ _ ⟨(ak m.out 0).trans rfl, (ak m.out 1).trans rfl, (ak m.out 2).trans rfl, xM, xN, xO, xP⟩ (fun hHeld => ?_);clear hK K;refine nrm (some 30) ?_;refine puS (i := 6) (N := some 9) #[T,T,T,T,T,T,T] (by kernel_rfl) ?_;refine iF (by kernel_rfl) ?_;try go_wp2
    go_loopg [8, 10] xz (fun kq v8 yi w' => ∃ (L : ByteArray) (a : Int), v8 = .string L ∧ yi = .int .i64 a ∧ ah (bn.l0 kq a1 L o a = some r) ∧ ah (kq ≤ xz) ∧ ah (Kd.R (Kd.int .i64) 3 w' w.heap.size (fun _ => True) xL o) ∧ ah (w'.heap[z]? = some (.cells #[.int .i64 La, .int .i64 Lb, .string Lc] 34 (0, 0))) ∧ ah (Below w.heap.size w w'))
    case atStart => exact ⟨_, _, EQ, EQ, H', ⟨Nat.le_refl _⟩, ⟨(RR xC)⟩, ⟨BK⟩, ⟨BL⟩⟩
    case round =>
     clear H';(try clear yz);(try clear yA);(try clear xA);(try clear yB);(try clear xB);(try clear Z xa xb xc xd xe);(try clear E);(try clear G);(try clear I);(try clear J);(try clear xg);(try clear xh);obtain ⟨L, a, rfl, rfl, HA, xQ, M, m, HB⟩ := hrel
     cases gk with
     | zero => exact absurd HA.out (by simp [bn.l0])
     | succ k2 =>
      have H := HA.out;clear HA;simp only [bn.l0] at H;obtain ⟨xZ, ya, xq⟩ := Kd.dN M.out;subst xq;replace H := ifD H; rcases H with ⟨xD, H⟩ | ⟨xD, H⟩
      ·replace H := ifN H; obtain ⟨yj, H⟩ := H;replace H := ifP H; obtain ⟨xE, H⟩ := H;have yk := eq_true xE;have yl : decide (0 ≤ (rd o a)) = true := decide_eq_true xE;clear xE;replace H := ifP H; obtain ⟨xR, H⟩ := H;have ym := eq_true xR;have yn : decide ((rd o a) ≤ (wrap64 ((rd o a) + 1))) = true := decide_eq_true xR;replace H := ifP H; obtain ⟨xS, H⟩ := H;have yo := eq_true xS;have yp : decide ((wrap64 ((rd o a) + 1)) ≤ (a1.size : Int)) = true := decide_eq_true xS;by_cases xk : L.size + (a1.extract ((rd o a) : Int).toNat ((wrap64 ((rd o a) + 1)) : Int).toNat).size ≤ 9223372036854775807
       ·rw [if_pos xk] at H;have yq := eq_true xk;have yr : decide (L.size + (a1.extract ((rd o a) : Int).toNat ((wrap64 ((rd o a) + 1)) : Int).toNat).size ≤ 9223372036854775807) = true := decide_eq_true xk;try have xF : (9223372036854775807 < L.size + (a1.extract ((rd o a) : Int).toNat ((wrap64 ((rd o a) + 1)) : Int).toNat).size) = False := eq_false (Nat.not_lt.2 xk)
        have c29b3c : (9223372036854775807 < L.size + (((wrap64 ((rd o a) + 1))).toNat - ((rd o a)).toNat)) = False := by
         have hy_ : (wrap64 ((rd o a) + 1)) ≤ (a1.size : Int) := OD;have hs_ : (a1.extract ((rd o a) : Int).toNat ((wrap64 ((rd o a) + 1)) : Int).toNat).size = ((wrap64 ((rd o a) + 1))).toNat - ((rd o a)).toNat := by rw [ByteArray.size_extract]; omega
         rw [← hs_]; exact xF
        have H' := ah.mk H;clear H;(try go_wp2);replace M := ah.mk (Kd.eH M.out);replace m := ah.mk (aH m.out);replace HB := ah.mk (dK HB.out);have xl : 0 ≤ (a : Int) := OD;have xm : a < (o.length : Int) := OD;obtain ⟨Y, xT, O⟩ := Kd.mV (Kd.bO M.out).2.2 a xl xm
        cases xT
        replace xl := eq_true xl;replace xm := eq_true xm;have xn : 0 ≤ (a : Int) := OD;have xo : a < (o.length : Int) := OD;obtain ⟨xG, xU, P⟩ := Kd.mV (Kd.bO M.out).2.2 a xn xo;obtain rfl : Y = xG := (by injection xU);replace xn := eq_true xn;replace xo := eq_true xo;refine jl (n := 14) (S := fun w' => w'.cell? (Y.add (a).toNat) = some (.int .i64 (rd o a)) ∧ w'.cell? (Y.add (a).toNat) = some (.int .i64 (rd o a))) (ds := []) #[F,F,F,F,F,F,F,F,F,F,F,F,F,F] (by kernel_rfl) rfl rfl ⟨O, P⟩ (fun hHeld => ?_); refine iL bn.KZ bn.KI (fun HT_ HW_ => ?_);generalize wr.drew = ys at M m HB O P hHeld ⊢;refine pS 0 (some 37) #[T,F,F,F,F,F,F,F,F,F,F,F,F,F] ?_;refine pS 1 (some 38) #[T,T,F,F,F,F,F,F,F,F,F,F,F,F] ?_;refine pS 2 (some 39) #[T,T,T,F,F,F,F,F,F,F,F,F,F,F] ?_;refine pS 3 (some 40) #[T,T,T,T,F,F,F,F,F,F,F,F,F,F] ?_;refine pS 4 (some 41) #[T,T,T,T,T,F,F,F,F,F,F,F,F,F] ?_;refine pS 6 (some 43) #[T,T,T,T,T,F,T,F,F,F,F,F,F,F] ?_;refine pS 7 (some 44) #[T,T,T,T,T,F,T,T,F,F,F,F,F,F] ?_;refine pS 8 (some 45) #[T,T,T,T,T,F,T,T,T,F,F,F,F,F] ?_;refine tS 5 (some 42) #[T,T,T,T,T,T,T,T,T,F,F,F,F,F] ?_;refine tS 9 (some 46) #[T,T,T,T,T,T,T,T,T,T,F,F,F,F] ?_;refine pS 10 (some 47) #[T,T,T,T,T,T,T,T,T,T,T,F,F,F] ?_;refine pS 11 (some 48) #[T,T,T,T,T,T,T,T,T,T,T,T,F,F] ?_;refine pS 12 (some 49) #[T,T,T,T,T,T,T,T,T,T,T,T,T,F] ?_;refine pS 13 (some 8) #[T,T,T,T,T,T,T,T,T,T,T,T,T,T] ?_;refine iF (gJ HT_.out (by kernel_rfl)) ?_;(try go_wp2);go_roundg k2;case measure => have := xJ.out; have := xQ.out; omega
        case rel => exact ⟨_, _, EQ, EQ, H', ⟨by have := xJ.out; have := xQ.out; omega⟩, ⟨(RR M)⟩, ⟨BK⟩, ⟨BL⟩⟩
       ·rw [if_neg xk] at H;exact absurd H (by simp)
      ·obtain rfl := Option.some.inj H;go_wp2;go_ret;exact ⟨EWW, BL⟩
def fE.l0 : Nat → List (S62) → ByteArray → Int → Int → Option (Bool)
 | 0, _, _, _, _ => none
 | k + 1, a, b, c, d => if d < (a.length : Int) then (if 0 ≤ d then (if ((gy a d).f0).toList = b.toList then (if ((gy a d).f1) = c then (some true) else (fE.l0 k a b c (wrap64 (d + 1)))) else (fE.l0 k a b c (wrap64 (d + 1)))) else (none)) else (some false)
def fE.f (k : Nat) (l0 : List (S62)) (a1 : ByteArray) (a2 : Int) : Option (Bool) := fE.l0 k l0 a1 a2 0
theorem fE.calls (k : Nat) (A0 : Option Addr) (c0 : Nat) (l0 : List (S62)) (a1 : ByteArray) (a2 : Int) (r : Bool) (w : World) (D : Kd.C k62 w A0 l0.length l0) (E : l0.length ≤ c0) (h : fE.f k l0 a1 a2 = some r) :
  Calls Tryz.prog 68 #[.slice A0 l0.length c0, .string a1, .int .i64 a2] w fun e w' => e = .returned (.bool r) ∧ cB w w' := by
 have G := ah.mk D;have xg := ah.mk E;clear D E;have H : (fE.l0 k l0 a1 a2 0) = some r := h;clear h;have H' := ah.mk H;clear H;go_enter Tryz.func68, Tryz.ntmps68;go_wp2
 go_loopg [7] k (fun kq v7 w' => ∃ (a : Int), v7 = .int .i64 a ∧ ah (fE.l0 kq l0 a1 a2 a = some r) ∧ ah (kq ≤ k) ∧ cB w w')
 case atStart => exact ⟨_, EQ, H', ⟨Nat.le_refl _⟩, DR⟩
 case round =>
  clear H';obtain ⟨a, rfl, HA, y, ⟨m1, rfl⟩⟩ := hrel
  cases gk with
  | zero => exact absurd HA.out (by simp [fE.l0])
  | succ k1 =>
   have H := HA.out;clear HA;simp only [fE.l0] at H;replace H := ifD H; rcases H with ⟨I, H⟩ | ⟨I, H⟩
   ·replace H := ifN H; obtain ⟨xf, H⟩ := H;have m : 0 ≤ (a : Int) := OD;have o : a < (l0.length : Int) := OD;obtain ⟨z, J, K, L⟩ := wZ G.out a m o
    cases J
    replace m := eq_true m;replace o := eq_true o;replace H := ifE H; rcases H with ⟨M, O, H⟩ | ⟨c6, M, O, H⟩
    ·have u : 0 ≤ (a : Int) := OD;have x : a < (l0.length : Int) := OD;obtain ⟨A, P, U, Y⟩ := wZ G.out a u x;obtain rfl : z = A := (by injection P);replace u := eq_true u;replace x := eq_true x;replace H := ifE H; rcases H with ⟨Z, xa, H⟩ | ⟨c7, Z, xa, H⟩
     ·obtain rfl := Option.some.inj H;go_wp2;go_ret;exact ⟨EQ, DR⟩
     ·have H' := ah.mk H;clear H;go_wp2;go_roundg k1;case measure => have := y.out; omega
      case rel => exact ⟨_, EQ, H', ks y, DR⟩
    ·have H' := ah.mk H;clear H;go_wp2;go_roundg k1;case measure => have := y.out; omega
     case rel => exact ⟨_, EQ, H', ks y, DR⟩
   ·obtain rfl := Option.some.inj H;go_wp2;go_ret;exact ⟨EQ, DR⟩
mutual
def aY.l0 : Nat → ByteArray → ByteArray → Int → Option (ByteArray)
 | 0, _, _, _ => none
 | k + 1, a, b, c => if c ≤ 122 then ((bC.f k a).bind fun d => (aY.j1 k a b c d)) else (aY.j1 k a b c false)
def aY.j1 : Nat → ByteArray → ByteArray → Int → Bool → Option (ByteArray)
 | 0, _, _, _, _ => none
 | k + 1, a, b, c, d => if d = true then (aY.l1 k a b c 0) else (some b)
def aY.l1 : Nat → ByteArray → ByteArray → Int → Int → Option (ByteArray)
 | 0, _, _, _, _ => none
 | k + 1, a, b, c, d => if d < (a.size : Int) then (if 0 ≤ d then (if (wrap32 (bt a d)) = c then (if d ≤ (wrap64 (d + 1)) then (if (wrap64 (d + 1)) ≤ (a.size : Int) then (if b.size + (a.extract (d : Int).toNat ((wrap64 (d + 1)) : Int).toNat).size ≤ 9223372036854775807 then (aY.l1 k a (b ++ (a.extract (d : Int).toNat ((wrap64 (d + 1)) : Int).toNat)) c (wrap64 (d + 1))) else (none)) else (none)) else (none)) else (aY.l1 k a b c (wrap64 (d + 1)))) else (none)) else (aY.l0 k a b (wrap32 (c + 1)))
end
def aY.f (k : Nat) (a0 : ByteArray) : Option (ByteArray) := aY.l0 k a0 (⟨#[]⟩ : ByteArray) 97
theorem aY.calls (k : Nat) (E r : ByteArray) (w : World) (h : aY.f k E = some r) :
  Calls Tryz.prog 159 #[.string E] w fun e w' => e = .returned (.string r) ∧ cB w w' := by
 unfold aY.f at h;have H := h;clear h;have H' := ah.mk H;clear H;go_enter Tryz.func159, Tryz.ntmps159;go_wp2
 go_loopg [3, 4] k (fun kq Y v4 w' => ∃ (z : ByteArray) (m : Int), Y = .string z ∧ v4 = .int .i32 m ∧ ah (aY.l0 kq E z m = some r) ∧ ah (kq ≤ k) ∧ cB w w')
 case atStart => exact ⟨_, _, EQ, EQ, H', ⟨Nat.le_refl _⟩, DR⟩
 case round =>
  clear H';obtain ⟨z, m, rfl, rfl, HA, o, ⟨m1, rfl⟩⟩ := hrel
  cases gk with
  | zero => exact absurd HA.out (by simp [aY.l0])
  | succ k1 =>
   have H := HA.out;clear HA;simp only [aY.l0] at H;have G := ah.mk H;clear H;go_upto_region 3 with (fail)
   go_cut [11] (fun Z wc => ∃ (kq : Nat) (y : Bool), Z = .bool y ∧ ah (aY.j1 kq E z m y = some r) ∧ ah (kq ≤ k1) ∧ cB w wc)
   case first =>
    have H := G.out;clear G;replace H := ifD H; rcases H with ⟨u, H⟩ | ⟨u, H⟩
    ·(first | rw [u] | (simp only [gZ, iR]; rw [u]) | skip);replace H := be H; obtain ⟨J, A4, H⟩ := H;have H' := ah.mk H;clear H;go_wp2_with (first | (go_at_call 104; (with_reducible refine (bC.calls k1 E J _ A4.out).mono ?_); rintro e w' ⟨rfl, ⟨nd, rfl⟩⟩));go_meet;case rel => exact ⟨_, _, EQ, H', ⟨by have := o.out; first | omega | exact Nat.le_refl _⟩, DR⟩
    ·(first | rw [u] | (simp only [gZ, iR]; rw [u]) | skip);have H' := ah.mk H;clear H;go_wp2;go_meet;case rel => exact ⟨_, _, EQ, H', ⟨by have := o.out; first | omega | exact Nat.le_refl _⟩, DR⟩
   case rest =>
    clear G;obtain ⟨kq, y, rfl, HA, A, ⟨mc1, rfl⟩⟩ := hcut
    cases kq with
    | zero => exact absurd HA.out (by simp [aY.j1])
    | succ K =>
     have H := HA.out;clear HA;simp only [aY.j1] at H;replace H := ifB H; rcases H with ⟨rfl, H⟩ | ⟨rfl, H⟩
     ·have H' := ah.mk H;clear H;go_wp2
      go_loopg [3, 5] K (fun kq Y v5 w' => ∃ (x : ByteArray) (a : Int), Y = .string x ∧ v5 = .int .i64 a ∧ ah (aY.l1 kq E x m a = some r) ∧ ah (kq ≤ K) ∧ cB w w')
      case atStart => exact ⟨_, _, EQ, EQ, H', ⟨Nat.le_refl _⟩, DR⟩
      case round =>
       clear H';(try clear c5);obtain ⟨x, a, rfl, rfl, HA, D, ⟨m3, rfl⟩⟩ := hrel
       cases gk with
       | zero => exact absurd HA.out (by simp [aY.l1])
       | succ k3 =>
        have H := HA.out;clear HA;simp only [aY.l1] at H;replace H := ifD H; rcases H with ⟨L, H⟩ | ⟨L, H⟩
        ·replace H := ifN H; obtain ⟨xi, H⟩ := H;have p8 : (0 ≤ (a : Int)) = True := OT;have q8 : (a < (E.size : Int)) = True := OT;have hx8 := fU E a;replace H := ifE H; rcases H with ⟨M, O, H⟩ | ⟨c9, M, O, H⟩
         ·have xa := eq_true (OD : 0 ≤ a);replace H := ifP H; obtain ⟨P, H⟩ := H;have xb := eq_true P;have xc : decide (a ≤ (wrap64 (a + 1))) = true := decide_eq_true P;replace H := ifP H; obtain ⟨U, H⟩ := H;have xd := eq_true U;have xe : decide ((wrap64 (a + 1)) ≤ (E.size : Int)) = true := decide_eq_true U;replace H := ifP H; obtain ⟨I, H⟩ := H;have xf := eq_true I;have xg : decide (x.size + (E.extract (a : Int).toNat ((wrap64 (a + 1)) : Int).toNat).size ≤ 9223372036854775807) = true := decide_eq_true I;(try have xh : (9223372036854775807 < x.size + (E.extract (a : Int).toNat ((wrap64 (a + 1)) : Int).toNat).size) = False := eq_false (Nat.not_lt.2 I));have H' := ah.mk H;clear H;go_wp2;go_roundg k3;case measure => have := o.out; have := A.out; have := D.out; omega
          case rel => exact ⟨_, _, EQ, EQ, H', ⟨by have := o.out; have := A.out; have := D.out; omega⟩, DR⟩
         ·have H' := ah.mk H;clear H;go_wp2;go_roundg k3;case measure => have := o.out; have := A.out; have := D.out; omega
          case rel => exact ⟨_, _, EQ, EQ, H', ⟨by have := o.out; have := A.out; have := D.out; omega⟩, DR⟩
        ·have H' := ah.mk H;clear H;go_wp2;go_roundg k3;case measure => have := o.out; have := A.out; have := D.out; omega
         case rel => exact ⟨_, _, EQ, EQ, H', ⟨by have := o.out; have := A.out; have := D.out; omega⟩, DR⟩
     ·obtain rfl := Option.some.inj H;go_wp2;go_ret;exact ⟨EQ, DR⟩
def iC.f (k : Nat) (a0 a1 : ByteArray) : Option (Bool) := (bC.f k a0).bind fun t405 => (if t405 = true then ((bC.f k a1).bind fun t406 => (if t406 = true then (if a0.toList = a1.toList then (some false) else ((aY.f k a0).bind fun t407 => ((aY.f k a1).bind fun t408 => (some (t407.toList == t408.toList))))) else (some false))) else (some false))
theorem iC.calls (k : Nat) (a y : ByteArray) (r : Bool) (w : World) (h : iC.f k a y = some r) :
  Calls Tryz.prog 133 #[.string a, .string y] w fun e w' => e = .returned (.bool r) ∧ cB w w' := by
 unfold iC.f at h;have H := h;clear h;replace H := be H; obtain ⟨z, D, H⟩ := H;replace H := ah.mk H;go_enter Tryz.func133, Tryz.ntmps133;go_wp2_with (first | ((with_reducible refine ay (f := 104) rfl ?_); refine bf (some 6) Tryz.func104 #[.string a] ?_; (with_reducible refine (bC.calls k a _ _ D.out).mono ?_); rintro e w' ⟨rfl, ⟨nd, rfl⟩⟩; refine ⟨_, rfl, ?_⟩; refine bR ?_));refine Hide.mk ?_;replace H := H.out;replace H := ifB H; rcases H with ⟨rfl, H⟩ | ⟨rfl, H⟩
 ·replace H := be H; obtain ⟨A, E, H⟩ := H;replace H := ah.mk H;go_wp2_with (first | (go_at_call 104; (with_reducible refine (bC.calls k y _ _ E.out).mono ?_); rintro e w' ⟨rfl, ⟨nd, rfl⟩⟩; refine bR ?_));refine Hide.mk ?_;replace H := H.out;replace H := ifB H; rcases H with ⟨rfl, H⟩ | ⟨rfl, H⟩
  ·replace H := ifE H; rcases H with ⟨m, o, H⟩ | ⟨c7, m, o, H⟩
   ·obtain rfl := Option.some.inj H;(try go_wp2);go_ret;exact ⟨EQ, DR⟩
   ·replace H := be H; obtain ⟨u, G, H⟩ := H;replace H := be H; obtain ⟨x, I, H⟩ := H;obtain rfl := Option.some.inj H;(try go_wp2_with (first | (go_at_call 159; (with_reducible refine (aY.calls k a u _ G.out).mono ?_); rintro e w' ⟨rfl, ⟨nd, rfl⟩⟩) | (go_at_call 159; (with_reducible refine (aY.calls k y x _ I.out).mono ?_); rintro e w' ⟨rfl, ⟨nd, rfl⟩⟩)));go_ret;exact ⟨EQ, DR⟩
  ·obtain rfl := Option.some.inj H;(try go_wp2);go_ret;exact ⟨EQ, DR⟩
 ·obtain rfl := Option.some.inj H;(try go_wp2);go_ret;exact ⟨EQ, DR⟩
def bX.l0 (M : Nat → List (dD) → Int → ByteArray → Option Bool) : Nat → List (dD) → ByteArray → Int → Int → ByteArray → Int → Int → Option (Bool)
 | 0, _, _, _, _, _, _, _ => none
 | k + 1, a, b, c, d, e, f, g => if c < (b.size : Int) then (if 0 ≤ c then (if c ≤ (b.size : Int) then ((M k a f (b.extract 0 (c : Int).toNat)).bind fun h => (if h = true then ((M k a g (b.extract (c : Int).toNat b.size)).bind fun i => (if i = true then (some true) else (bX.l0 M k a b (wrap64 (c + 1)) d e f g))) else (bX.l0 M k a b (wrap64 (c + 1)) d e f g))) else (none)) else (none)) else (some false)
def bX.f (M : Nat → List (dD) → Int → ByteArray → Option Bool) (k : Nat) (l0 : List (dD)) (a1_0 : Int) (a1_1 : ByteArray) (a1_2 a1_3 : Int) (a2 : ByteArray) : Option (Bool) := bX.l0 M k l0 a2 1 a1_0 a1_1 a1_2 a1_3
def bX.T4 : Bool × List (List Nat × List Nat) := (true, [([], []), ([], []), ([1], [1]), ([], []), ([], []), ([3, 4], [3, 4]), ([0, 2, 5], [0, 2, 5]), ([6, 6], [6]), ([7], [7]), ([7], [7]), ([9, 7], [7, 9]), ([7], [7]), ([7], [7]), ([11, 12, 7], [7, 11, 12]), ([8, 10, 13, 7, 7], [7, 8, 10, 13]), ([7, 14], [7, 14])])
def bX.B4 : List Nat := [0, 0, 2, 0, 0, 24, 63, 127, 255, 255, 767, 255, 255, 6399, 16383, 32767]
theorem bX.KX : kP .any (opsOf Tryz.f134 4) = bX.T4 := by kernel_rfl
theorem bX.KG : iZ bX.T4.2 bX.B4 = true := by kernel_rfl
theorem bX.calls (M : Nat → List (dD) → Int → ByteArray → Option Bool) (hM : ∀ (j : Nat) (A : Option Addr) (c : Nat) (l : List (dD)) (i : Int) (s : ByteArray) (b : Bool) (W : World), Kd.C jC W A l.length l → l.length ≤ c → M j l i s = some b → Calls Tryz.prog 105 #[.slice A l.length c, .int .i64 i, .string s] W fun e w' => e = .returned (.bool b) ∧ Below W.heap.size W w') (k : Nat) (A0 : Option Addr) (c0 : Nat) (l0 : List (dD)) (y : Int) (z : ByteArray) (o u : Int) (D : ByteArray) (r : Bool) (w : World) (P : Kd.C jC w A0 l0.length l0) (U : l0.length ≤ c0) (h : bX.f M k l0 y z o u D = some r) :
  Calls Tryz.prog 134 #[.slice A0 l0.length c0, .agg #[.int .i64 y, .string z, .int .i64 o, .int .i64 u], .string D] w fun e w' => e = .returned (.bool r) ∧ Below w.heap.size w w' := by
 have xc := Tryz.underlying121;have E := ah.mk P;have G := ah.mk U;clear P U;have HB := ah.mk (Below.refl w.heap.size w);have HMM := ah.mk hM;clear hM;unfold bX.f at h;have H := h;clear h;have H' := ah.mk H;clear H;go_enter Tryz.func134, Tryz.ntmps134;go_wp2_with (first | ((with_reducible refine aJ (N := 4) rfl ?_); refine aZ (N := 4) (cs := #[.int .i64 y, .string z, .int .i64 o, .int .i64 u]) (t := 121) ?_; intro x hg w4 hbox hb; have a := ah.mk hbox; have J := SZ (w := w) hg; have xd := J; replace HB := BS (w := w) hb; clear hb hbox hg))
 go_loopg [7] k (fun kq v7 w' => ∃ (m : Int), v7 = .int .i64 m ∧ ah (bX.l0 M kq l0 D m y z o u = some r) ∧ ah (kq ≤ k) ∧ ah (w'.heap[x]? = some (.cells #[.int .i64 y, .string z, .int .i64 o, .int .i64 u] 121 (0, 0))) ∧ ah (Below w.heap.size w w'))
 case atStart => exact ⟨_, EQ, H', ⟨Nat.le_refl _⟩, ⟨BK⟩, ⟨BL⟩⟩
 case round =>
  clear H';obtain ⟨m, rfl, HA, I, a, HB⟩ := hrel
  cases gk with
  | zero => exact absurd HA.out (by simp [bX.l0])
  | succ k1 =>
   have H := HA.out;clear HA;simp only [bX.l0] at H;replace H := ifD H; rcases H with ⟨Y, H⟩ | ⟨Y, H⟩
   ·replace H := ifP H; obtain ⟨c6, H⟩ := H;have xh := eq_true c6;have xi : decide (0 ≤ m) = true := decide_eq_true c6;clear c6;replace H := ifP H; obtain ⟨c7, H⟩ := H;have xj := eq_true c7;have xk : decide (m ≤ (D.size : Int)) = true := decide_eq_true c7;clear c7;replace H := be H; obtain ⟨xl, A8, H⟩ := H;replace H := ah.mk H;(try go_wp2);replace a := ah.mk (aH a.out);replace HB := ah.mk (dK HB.out);refine jl (n := 16) (S := fun w' => w'.cell? ⟨x, 0, none⟩ = some (.int .i64 y) ∧ w'.cell? ⟨x, 1, none⟩ = some (.string z) ∧ w'.cell? ⟨x, 2, none⟩ = some (.int .i64 o) ∧ w'.cell? ⟨x, 3, none⟩ = some (.int .i64 u)) (ds := []) #[F,F,F,F,F,F,F,F,F,F,F,F,F,F,F,F] (by kernel_rfl) rfl rfl ⟨(ak a.out 0).trans rfl, (ak a.out 1).trans rfl, (ak a.out 2).trans rfl, (ak a.out 3).trans rfl⟩ (fun hHeld => ?_); refine iL bX.KX bX.KG (fun HT_ HW_ => ?_);generalize wr.drew = xe at a HB hHeld ⊢;refine pS 0 (some 14) #[T,F,F,F,F,F,F,F,F,F,F,F,F,F,F,F] ?_;refine pS 1 (some 15) #[T,T,F,F,F,F,F,F,F,F,F,F,F,F,F,F] ?_;refine pS 3 (some 17) #[T,T,F,T,F,F,F,F,F,F,F,F,F,F,F,F] ?_;refine pS 4 (some 18) #[T,T,F,T,T,F,F,F,F,F,F,F,F,F,F,F] ?_;refine pS 5 (some 19) #[T,T,F,T,T,T,F,F,F,F,F,F,F,F,F,F] ?_;refine tS 2 (some 16) #[T,T,T,T,T,T,F,F,F,F,F,F,F,F,F,F] ?_;refine lC (i := 6) (N := some 20) #[T,T,T,T,T,T,T,F,F,F,F,F,F,F,F,F] rfl rfl (jh HT_.out (by kernel_rfl)) (by decide) (fun K hK => ?_);refine jd Tryz.func105 #[.slice A0 l0.length c0, .int .i64 o, .string (D.extract 0 (m : Int).toNat)] ?_;replace H := H.out;replace H := ifB H; rcases H with ⟨rfl, H⟩ | ⟨rfl, H⟩
    ·have xf := eq_true (OD : 0 ≤ m);have xg := eq_true (OD : m ≤ (D.size : Int));replace H := be H; obtain ⟨xn, Z, H⟩ := H;replace H := ah.mk H;(with_reducible refine (HMM.out k1 _ _ l0 o (D.extract 0 (m : Int).toNat) true _ ?side1 ?side2 A8.out).mono ?_);(case side1 => exact CB E);(case side2 => exact G.out);rintro e L ⟨rfl, hb⟩;refine ⟨_, rfl, ?_⟩;replace a := KB a hb;replace HB := BS (w := w) hb;(try clear hb);refine hK.out _ _ ⟨(ak a.out 0).trans rfl, (ak a.out 1).trans rfl, (ak a.out 2).trans rfl, (ak a.out 3).trans rfl⟩ (fun hHeld => ?_);clear hK K;refine nrm (some 20) ?_;refine pS 7 (some 21) #[T,T,T,T,T,T,T,T,F,F,F,F,F,F,F,F] ?_;refine pS 8 (some 22) #[T,T,T,T,T,T,T,T,T,F,F,F,F,F,F,F] ?_;refine pS 9 (some 23) #[T,T,T,T,T,T,T,T,T,T,F,F,F,F,F,F] ?_;refine pS 11 (some 25) #[T,T,T,T,T,T,T,T,T,T,F,T,F,F,F,F] ?_;refine pS 12 (some 26) #[T,T,T,T,T,T,T,T,T,T,F,T,T,F,F,F] ?_;refine pS 13 (some 27) #[T,T,T,T,T,T,T,T,T,T,F,T,T,T,F,F] ?_;refine tS 10 (some 24) #[T,T,T,T,T,T,T,T,T,T,T,T,T,T,F,F] ?_;refine lC (i := 14) (N := some 28) #[T,T,T,T,T,T,T,T,T,T,T,T,T,T,T,F] rfl rfl (jh HT_.out (by kernel_rfl)) (by decide) (fun K hK => ?_);refine jd Tryz.func105 #[.slice A0 l0.length c0, .int .i64 u, .string (D.extract (m : Int).toNat D.size)] ?_;replace H := H.out;replace H := ifB H; rcases H with ⟨rfl, H⟩ | ⟨rfl, H⟩
     ·obtain rfl := Option.some.inj H;(with_reducible refine (HMM.out k1 _ _ l0 u (D.extract (m : Int).toNat D.size) true _ ?side1 ?side2 Z.out).mono ?_);(case side1 => exact CB E);(case side2 => exact G.out);rintro e O ⟨rfl, hb⟩;refine ⟨_, rfl, ?_⟩;replace a := KB a hb;replace HB := BS (w := w) hb;(try clear hb);refine hK.out _ _ ⟨(ak a.out 0).trans rfl, (ak a.out 1).trans rfl, (ak a.out 2).trans rfl, (ak a.out 3).trans rfl⟩ (fun hHeld => ?_);clear hK K;refine nrm (some 28) ?_;refine pS 15 (some 29) #[T,T,T,T,T,T,T,T,T,T,T,T,T,T,T,T] ?_;refine iF (gJ HT_.out (by kernel_rfl)) ?_;(try go_wp2);go_ret;exact ⟨EWW, BL⟩
     ·have H' := ah.mk H;clear H;(with_reducible refine (HMM.out k1 _ _ l0 u (D.extract (m : Int).toNat D.size) false _ ?side1 ?side2 Z.out).mono ?_);(case side1 => exact CB E);(case side2 => exact G.out);rintro e O ⟨rfl, hb⟩;refine ⟨_, rfl, ?_⟩;replace a := KB a hb;replace HB := BS (w := w) hb;(try clear hb);refine hK.out _ _ ⟨(ak a.out 0).trans rfl, (ak a.out 1).trans rfl, (ak a.out 2).trans rfl, (ak a.out 3).trans rfl⟩ (fun hHeld => ?_);clear hK K;refine nrm (some 28) ?_;refine pS 15 (some 29) #[T,T,T,T,T,T,T,T,T,T,T,T,T,T,T,T] ?_;refine iF (gJ HT_.out (by kernel_rfl)) ?_;(try go_wp2);go_roundg k1;case measure => have := I.out; omega
      case rel => exact ⟨_, EQ, H', ks I, ⟨BK⟩, ⟨BL⟩⟩
    ·have H' := ah.mk H;clear H;(with_reducible refine (HMM.out k1 _ _ l0 o (D.extract 0 (m : Int).toNat) false _ ?side1 ?side2 A8.out).mono ?_);(case side1 => exact CB E);(case side2 => exact G.out);rintro e L ⟨rfl, hb⟩;refine ⟨_, rfl, ?_⟩;replace a := KB a hb;replace HB := BS (w := w) hb;(try clear hb);refine hK.out _ _ ⟨(ak a.out 0).trans rfl, (ak a.out 1).trans rfl, (ak a.out 2).trans rfl, (ak a.out 3).trans rfl⟩ (fun hHeld => ?_);clear hK K;refine nrm (some 20) ?_;refine pS 7 (some 21) #[T,T,T,T,T,T,T,T,F,F,F,F,F,F,F,F] ?_;refine pU 8 (some 22) #[T,T,T,T,T,T,T,T,T,F,F,F,F,F,F,F] ?_;refine pU 9 (some 23) #[T,T,T,T,T,T,T,T,T,T,F,F,F,F,F,F] ?_;refine pU 10 (some 24) #[T,T,T,T,T,T,T,T,T,T,T,F,F,F,F,F] ?_;refine pU 11 (some 25) #[T,T,T,T,T,T,T,T,T,T,T,T,F,F,F,F] ?_;refine pU 12 (some 26) #[T,T,T,T,T,T,T,T,T,T,T,T,T,F,F,F] ?_;refine pU 13 (some 27) #[T,T,T,T,T,T,T,T,T,T,T,T,T,T,F,F] ?_;refine pU 14 (some 28) #[T,T,T,T,T,T,T,T,T,T,T,T,T,T,T,F] ?_;refine pS 15 (some 29) #[T,T,T,T,T,T,T,T,T,T,T,T,T,T,T,T] ?_;refine iF (gJ HT_.out (by kernel_rfl)) ?_;(try go_wp2);go_roundg k1;case measure => have := I.out; omega
     case rel => exact ⟨_, EQ, H', ks I, ⟨BK⟩, ⟨BL⟩⟩
   ·obtain rfl := Option.some.inj H;go_wp2;go_ret;exact ⟨EWW, BL⟩
end Go.Proofs.YthkfjbodohaglaaGreatDoor.PFnExactRoundsNeeded
