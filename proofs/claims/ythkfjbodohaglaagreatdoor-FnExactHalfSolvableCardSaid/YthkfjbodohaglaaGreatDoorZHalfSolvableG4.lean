/- Walks of functions: what each computes. -/
import Derived.Test.YthkfjbodohaglaaGreatDoorZHalfSolvableG0
import Derived.Test.YthkfjbodohaglaaGreatDoorZHalfSolvableG1
import Derived.Test.YthkfjbodohaglaaGreatDoorZHalfSolvableG2
import Derived.Test.YthkfjbodohaglaaGreatDoorZHalfSolvableG3
import Derived.Test.YthkfjbodohaglaaGreatDoorZHalfSolvableW
import Derived.Test.YthkfjbodohaglaaGreatDoorZHalfSolvableShelf
import Derived.Test.YthkfjbodohaglaaGreatDoorZHalfSolvableHandSort
import Derived.Test.YthkfjbodohaglaaGreatDoorZHalfSolvableHandForm
import Derived.Test.YthkfjbodohaglaaGreatDoorZHalfSolvableHandAlone
import Derived.Test.YthkfjbodohaglaaGreatDoorZHalfSolvableHandReach
import Derived.Test.YthkfjbodohaglaaGreatDoorZHalfSolvableHandRepl
namespace Go.Proofs.YthkfjbodohaglaaGreatDoor.PFnExactHalfSolvable
open Go.RowKit Go.Proofs.YthkfjbodohaglaaGreatDoorW.PrintWords Go.Proofs.YthkfjbodohaglaaGreatDoorW.PrintLast Go.Proofs.YthkfjbodohaglaaGreatDoorW.PrintMore Go.Proofs.YthkfjbodohaglaaGreatDoor.Sq
attribute [local go_sem] kH kJ lY lZ jG jH kI kK
set_option maxHeartbeats 8000000
set_option maxRecDepth 100000
set_option linter.unusedVariables false
set_option linter.unusedSimpArgs false
mutual
def bH.l0 : Nat → List (S92) → Int → Int → Int → ByteArray → Option (Bool)
 | 0, _, _, _, _, _ => none
 | k + 1, a, b, c, d, e => if b < (a.length : Int) then ((dM.f k c d e b).bind fun f => (if 0 ≤ b then (if (wrap64 (2 * f)) > ((aT a b).f3) then (some true) else (bH.l0 k a (wrap64 (b + 1)) c d e)) else (none))) else (bH.l1 k 0 c d e)
def bH.l1 : Nat → Int → Int → Int → ByteArray → Option (Bool)
 | 0, _, _, _, _ => none
 | k + 1, a, b, c, d => if a < (d.size : Int) then ((kS.f k b c d a).bind fun e => (if e = true then ((cK.f k b c d a).bind fun f => (if (f.length : Int) = 0 then (some true) else (bH.l1 k (wrap64 (a + 1)) b c d))) else (bH.l1 k (wrap64 (a + 1)) b c d))) else (some false)
end
def bH.f (k : Nat) (LU LV : Int) (LW : ByteArray) : Option (Bool) := (aN.f k LU LV LW).bind fun t360 => (bH.l0 k t360 0 LU LV LW)
def bH.T5 : Bool × List (List Nat × List Nat) := (true, [([], []), ([], []), ([0, 1], [0, 1]), ([2], [2]), ([], []), ([], []), ([4, 5], [4, 5]), ([6], [6]), ([7], [7]), ([3, 8], [3, 8])])
def bH.B5 : List Nat := [0, 0, 3, 7, 0, 0, 48, 112, 240, 511]
theorem bH.KU : lN .any (opsOf Tryz.f94 5) = bH.T5 := by kernel_rfl
theorem bH.Ih : jD bH.T5.2 bH.B5 = true := by kernel_rfl
theorem bH.calls (k : Nat) (LU LV : Int) (LW : ByteArray) (r : Bool) (w : World) (h : bH.f k LU LV LW = some r) :
  Calls Tryz.prog 94 #[.agg #[.int .i64 LU, .int .i64 LV, .string LW]] w fun e w' => e = .returned (.bool r) ∧ Below w.heap.size w w' := by
 have xR := Tryz.underlying34;have HB := ah.mk (Below.refl w.heap.size w);unfold bH.f at h;have H := h;clear h;replace H := be H; obtain ⟨m, A2, H⟩ := H;have H' := ah.mk H;clear H;go_enter Tryz.func94, Tryz.ntmps94;go_wp2_with (first | ((with_reducible refine aJ (N := 1) rfl ?_); (try (refine jI (by rfl) ?_; dsimp only)); refine bf (N := 1) (cs := #[.int .i64 LU, .int .i64 LV, .string LW]) (t := 34) ?_; intro x hg w3 hbox hb; have a := ah.mk hbox; have xg := SZ (w := w) hg; have xK := xg; replace HB := BS (w := w) hb; clear hb hbox hg; obtain ⟨G, I, J, L, M, O⟩ := cz3 a.out) | ((with_reducible refine ay (f := 54) rfl ?_); refine bg (some 7) Tryz.func54 #[.agg #[.int .i64 LU, .int .i64 LV, .string LW]] ?_; (with_reducible refine (aN.calls k LU LV LW m _ A2.out).mono ?_); rintro e w5 ⟨xz, rfl, Y, hb⟩; refine ⟨_, rfl, ?_⟩; replace a := KB a hb; have xh := ah.mk (Kd.bV Y (aK BL)); replace HB := BS (w := w) hb; (try clear hb); (try clear Y)))
 go_loopg [4] k (fun kq v4 w' => ∃ (l : Int), v4 = .int .i64 l ∧ ah (bH.l0 kq m l LU LV LW = some r) ∧ ah (kq ≤ k) ∧ ah (Kd.R k92 92 w' w.heap.size (fun _ => True) xz m) ∧ ah (w'.heap[x]? = some (.cells #[.int .i64 LU, .int .i64 LV, .string LW] 34 (0, 0))) ∧ ah (Below w.heap.size w w'))
 case atStart => exact ⟨_, EQ, H', ⟨Nat.le_refl _⟩, ⟨(RR xh)⟩, ⟨BK⟩, ⟨BL⟩⟩
 case round =>
  clear H';(try clear G I J L M O);obtain ⟨l, rfl, HA, U, u, a, HB⟩ := hrel
  cases gk with
  | zero => exact absurd HA.out (by simp [bH.l0])
  | succ k1 =>
   have H := HA.out;clear HA;simp only [bH.l0] at H;obtain ⟨xG, xH, xb⟩ := Kd.dw u.out;subst xb;replace H := ifD H; rcases H with ⟨xe, H⟩ | ⟨xe, H⟩
   ·replace H := be H; obtain ⟨P, A7, H⟩ := H;replace H := ifN H; obtain ⟨xS, H⟩ := H;replace H := ah.mk H;(try go_wp2);replace u := ah.mk (Kd.dN u.out);replace a := ah.mk (aH a.out);replace HB := ah.mk (dR HB.out);have Z : 0 ≤ (l : Int) := OD;have xa : l < (m.length : Int) := OD;obtain ⟨o, xA, z, A, D, E⟩ := pY (Kd.bq u.out).2.2 l Z xa
    cases xA
    replace Z := eq_true Z;replace xa := eq_true xa;refine jS (n := 10) (S := fun w' => w'.cell? ⟨x, 0, none⟩ = some (.int .i64 LU) ∧ w'.cell? ⟨x, 1, none⟩ = some (.int .i64 LV) ∧ w'.cell? ⟨x, 2, none⟩ = some (.string LW) ∧ w'.cell? (o.add ((l).toNat * 4)) = some (.int .i64 ((aT m l).f0)) ∧ w'.cell? ⟨(o.add ((l).toNat * 4)).block, (o.add ((l).toNat * 4)).off + 1, none⟩ = some (.bool ((aT m l).f1)) ∧ w'.cell? ⟨(o.add ((l).toNat * 4)).block, (o.add ((l).toNat * 4)).off + 2, none⟩ = some (.int .i64 ((aT m l).f2)) ∧ w'.cell? ⟨(o.add ((l).toNat * 4)).block, (o.add ((l).toNat * 4)).off + 3, none⟩ = some (.int .i64 ((aT m l).f3))) (ds := []) #[F,F,F,F,F,F,F,F,F,F] (by kernel_rfl) rfl rfl ⟨(ak a.out 0).trans rfl, (ak a.out 1).trans rfl, (ak a.out 2).trans rfl, z, A, D, E⟩ (fun hHeld => ?_); refine jk bH.KU bH.Ih (fun HT_ HW_ => ?_);generalize wr.drew = xL at u a HB z A D E hHeld ⊢;refine pS 1 (some 15) #[F,T,F,F,F,F,F,F,F,F] ?_;refine pS 4 (some 18) #[F,T,F,F,T,F,F,F,F,F] ?_;refine pS 5 (some 19) #[F,T,F,F,T,T,F,F,F,F] ?_;refine pS 6 (some 20) #[F,T,F,F,T,T,T,F,F,F] ?_;refine pS 7 (some 21) #[F,T,F,F,T,T,T,T,F,F] ?_;refine tS 0 (some 14) #[T,T,F,F,T,T,T,T,F,F] ?_;refine tS 8 (some 22) #[T,T,F,F,T,T,T,T,T,F] ?_;refine mh (i := 2) (N := some 16) #[T,T,T,F,T,T,T,T,T,F] rfl rfl (jA HT_.out (by kernel_rfl)) (by decide) (fun K hK => ?_);refine jq Tryz.func121 #[.agg #[.int .i64 LU, .int .i64 LV, .string LW], .int .i64 l] ?_;(with_reducible refine (dM.calls k1 LU LV LW l P _ A7.out).mono ?_);rintro e xi ⟨rfl, hb⟩;have xB := (hb.cell (World.block_lt_of_cell? _ _ (hHeld.2.2.2.1))).trans (hHeld.2.2.2.1);have xC := (hb.cell (World.block_lt_of_cell? _ _ (hHeld.2.2.2.2.1))).trans (hHeld.2.2.2.2.1);have xD := (hb.cell (World.block_lt_of_cell? _ _ (hHeld.2.2.2.2.2.1))).trans (hHeld.2.2.2.2.2.1);have xE := (hb.cell (World.block_lt_of_cell? _ _ (hHeld.2.2.2.2.2.2))).trans (hHeld.2.2.2.2.2.2);refine ⟨_, rfl, ?_⟩;replace u := RB u hb;replace a := KB a hb;replace HB := BS (w := w) hb;(try clear hb);refine hK.out _ _ ⟨(ak a.out 0).trans rfl, (ak a.out 1).trans rfl, (ak a.out 2).trans rfl, xB, xC, xD, xE⟩ (fun hHeld => ?_);clear hK K;refine nrm (some 16) ?_;replace H := H.out;by_cases c9 : (wrap64 (2 * P)) > ((aT m l).f3)
    ·rw [if_pos c9] at H;have xF : decide (((aT m l).f3) < (wrap64 (2 * P))) = true := decide_eq_true c9;clear c9;obtain rfl := Option.some.inj H;refine pS 3 (some 17) #[T,T,T,T,T,T,T,T,T,F] ?_;refine pS 9 (some 23) #[T,T,T,T,T,T,T,T,T,T] ?_;refine iU (gX HT_.out (by kernel_rfl)) ?_;(try go_wp2);go_ret;exact ⟨EWW, BL⟩
    ·rw [if_neg c9] at H;have xF : decide (((aT m l).f3) < (wrap64 (2 * P))) = false := decide_eq_false c9;clear c9;have H' := ah.mk H;clear H;refine pS 3 (some 17) #[T,T,T,T,T,T,T,T,T,F] ?_;refine pS 9 (some 23) #[T,T,T,T,T,T,T,T,T,T] ?_;refine iU (gX HT_.out (by kernel_rfl)) ?_;(try go_wp2);go_roundg k1;case measure => have := U.out; omega
     case rel => exact ⟨_, EQ, H', ks U, ⟨(RR u)⟩, ⟨BK⟩, ⟨BL⟩⟩
   ·have H' := ah.mk H;clear H;go_wp2
    go_loopg [5] k1 (fun kq v5 w' => ∃ (y : Int), v5 = .int .i64 y ∧ ah (bH.l1 kq y LU LV LW = some r) ∧ ah (kq ≤ k1) ∧ ah (w'.heap[x]? = some (.cells #[.int .i64 LU, .int .i64 LV, .string LW] 34 (0, 0))) ∧ ah (Below w.heap.size w w'))
    case atStart => exact ⟨_, EQ, H', ⟨Nat.le_refl _⟩, ⟨BK⟩, ⟨BL⟩⟩
    case round =>
     clear H';(try clear c6);(try clear xe);(try clear G I J L M O);obtain ⟨y, rfl, HA, xc, a, HB⟩ := hrel
     cases gk with
     | zero => exact absurd HA.out (by simp [bH.l1])
     | succ k2 =>
      have H := HA.out;clear HA;simp only [bH.l1] at H;obtain ⟨xj, xk, xl, xm, xn, xo⟩ := cz3 a.out;replace H := ifD H; rcases H with ⟨xp, H⟩ | ⟨xp, H⟩
      ·replace H := be H; obtain ⟨xT, xM, H⟩ := H;replace H := ah.mk H;go_wp2_with (first | ((with_reducible refine ay (f := 122) rfl ?_); refine bg (some 33) Tryz.func122 #[.agg #[.int .i64 LU, .int .i64 LV, .string LW], .int .i64 y] ?_; (with_reducible refine (kS.calls k2 LU LV LW y _ _ xM.out).mono ?_); rintro e xi ⟨rfl, hb⟩; refine ⟨_, rfl, ?_⟩; replace a := KB a hb; replace HB := BS (w := w) hb; (try clear hb); obtain ⟨xq, xr, xs, xt, xu, xv⟩ := cz3 a.out; refine cB ?_));refine Hide.mk ?_;replace H := H.out;replace H := ifB H; rcases H with ⟨rfl, H⟩ | ⟨rfl, H⟩
       ·replace H := be H; obtain ⟨xf, xN, H⟩ := H;replace H := ah.mk H;go_wp2_with (first | (go_at_call 123; (with_reducible refine (cK.calls k2 LU LV LW y xf _ xN.out).mono ?_); rintro e xO ⟨xU, rfl, Y, hb⟩; replace a := KB a hb; have xw := ah.mk (Kd.bV Y (aK BL)); replace HB := BS (w := w) hb; (try clear hb); (try clear Y); obtain ⟨xI, xJ, xd⟩ := Kd.dw xw.out; subst xd; refine cB ?_));refine Hide.mk ?_;replace H := H.out;replace H := ifE H; rcases H with ⟨xx, xy, H⟩ | ⟨xP, xx, xy, H⟩
        ·obtain rfl := Option.some.inj H;(try go_wp2);go_ret;exact ⟨EWW, BL⟩
        ·have xQ : ¬ (xf = []) := fun h_ => xP (by rw [h_]; rfl);have H' := ah.mk H;clear H;(try go_wp2);go_roundg k2;case measure => have := U.out; have := xc.out; omega
         case rel => exact ⟨_, EQ, H', ⟨by have := U.out; have := xc.out; omega⟩, ⟨BK⟩, ⟨BL⟩⟩
       ·have H' := ah.mk H;clear H;(try go_wp2);go_roundg k2;case measure => have := U.out; have := xc.out; omega
        case rel => exact ⟨_, EQ, H', ⟨by have := U.out; have := xc.out; omega⟩, ⟨BK⟩, ⟨BL⟩⟩
      ·obtain rfl := Option.some.inj H;go_wp2;go_ret;exact ⟨EWW, BL⟩
def lQ.f (k : Nat) (LU LV : Int) (LW : ByteArray) : Option (Int) := (bL.f k LU LV LW).bind fun t370 => (if t370 = true then ((eG.f k LU LV LW).bind fun t371 => (if t371 = true then ((ji.f k LU LV LW).bind fun t372 => (if t372 = true then ((fP.f k LU LV LW).bind fun t373 => (if t373 = true then (some 4) else ((bH.f k LU LV LW).bind fun t374 => (if t374 = true then (some 5) else (some 0))))) else (some 3))) else (some 2))) else (some 1))
theorem lQ.calls (k : Nat) (LU LV : Int) (LW : ByteArray) (r : Int) (w : World) (h : lQ.f k LU LV LW = some r) :
  Calls Tryz.prog 55 #[.agg #[.int .i64 LU, .int .i64 LV, .string LW]] w fun e w' => e = .returned (.int .i64 r) ∧ Below w.heap.size w w' := by
 have xt := Tryz.underlying34;have HB := ah.mk (Below.refl w.heap.size w);unfold lQ.f at h;have H := h;clear h;replace H := be H; obtain ⟨xu, A2, H⟩ := H;replace H := ah.mk H;go_enter Tryz.func55, Tryz.ntmps55;go_wp2_with (first | ((with_reducible refine aJ (N := 1) rfl ?_); refine bf (N := 1) (cs := #[.int .i64 LU, .int .i64 LV, .string LW]) (t := 34) ?_; intro xk hg xl hbox hb; have a := ah.mk hbox; have l := SZ (w := w) hg; have xm := l; replace HB := BS (w := w) hb; clear hb hbox hg; obtain ⟨m, o, u, x, y, z⟩ := cz3 a.out) | ((with_reducible refine ay (f := 67) rfl ?_); refine bg (some 5) Tryz.func67 #[.agg #[.int .i64 LU, .int .i64 LV, .string LW]] ?_; (with_reducible refine (bL.calls k LU LV LW _ _ A2.out).mono ?_); rintro e xn ⟨rfl, hb⟩; refine ⟨_, rfl, ?_⟩; replace a := KB a hb; replace HB := BS (w := w) hb; (try clear hb); obtain ⟨A, D, E, G, I, J⟩ := cz3 a.out; refine cB ?_));refine Hide.mk ?_;replace H := H.out;replace H := ifB H; rcases H with ⟨rfl, H⟩ | ⟨rfl, H⟩
 ·replace H := be H; obtain ⟨xv, A4, H⟩ := H;replace H := ah.mk H;go_wp2_with (first | ((with_reducible refine ay (f := 91) rfl ?_); refine bg (some 9) Tryz.func91 #[.agg #[.int .i64 LU, .int .i64 LV, .string LW]] ?_; (with_reducible refine (eG.calls k LU LV LW _ _ A4.out).mono ?_); rintro e xo ⟨rfl, hb⟩; refine ⟨_, rfl, ?_⟩; replace a := KB a hb; replace HB := BS (w := w) hb; (try clear hb); obtain ⟨K, L, M, O, P, U⟩ := cz3 a.out; refine cB ?_));refine Hide.mk ?_;replace H := H.out;replace H := ifB H; rcases H with ⟨rfl, H⟩ | ⟨rfl, H⟩
  ·replace H := be H; obtain ⟨xw, A6, H⟩ := H;replace H := ah.mk H;go_wp2_with (first | ((with_reducible refine ay (f := 92) rfl ?_); refine bg (some 13) Tryz.func92 #[.agg #[.int .i64 LU, .int .i64 LV, .string LW]] ?_; (with_reducible refine (ji.calls k LU LV LW _ _ A6.out).mono ?_); rintro e xp ⟨rfl, hb⟩; refine ⟨_, rfl, ?_⟩; replace a := KB a hb; replace HB := BS (w := w) hb; (try clear hb); obtain ⟨Y, Z, xa, xb, xc, xd⟩ := cz3 a.out; refine cB ?_));refine Hide.mk ?_;replace H := H.out;replace H := ifB H; rcases H with ⟨rfl, H⟩ | ⟨rfl, H⟩
   ·replace H := be H; obtain ⟨xx, A8, H⟩ := H;replace H := ah.mk H;go_wp2_with (first | ((with_reducible refine ay (f := 93) rfl ?_); refine bg (some 17) Tryz.func93 #[.agg #[.int .i64 LU, .int .i64 LV, .string LW]] ?_; (with_reducible refine (fP.calls k LU LV LW _ _ A8.out).mono ?_); rintro e xq ⟨rfl, hb⟩; refine ⟨_, rfl, ?_⟩; replace a := KB a hb; replace HB := BS (w := w) hb; (try clear hb); obtain ⟨xe, xf, xg, xh, xi, xj⟩ := cz3 a.out; refine cB ?_));refine Hide.mk ?_;replace H := H.out;replace H := ifB H; rcases H with ⟨rfl, H⟩ | ⟨rfl, H⟩
    ·obtain rfl := Option.some.inj H;(try go_wp2);go_ret;exact ⟨EWW, BL⟩
    ·replace H := be H; obtain ⟨xy, xr, H⟩ := H;replace H := ah.mk H;go_wp2_with (first | ((with_reducible refine ay (f := 94) rfl ?_); refine bg (some 20) Tryz.func94 #[.agg #[.int .i64 LU, .int .i64 LV, .string LW]] ?_; (with_reducible refine (bH.calls k LU LV LW _ _ xr.out).mono ?_); rintro e xs ⟨rfl, hb⟩; refine ⟨_, rfl, ?_⟩; replace a := KB a hb; replace HB := BS (w := w) hb; (try clear hb); refine cB ?_));refine Hide.mk ?_;replace H := H.out;replace H := ifB H; rcases H with ⟨rfl, H⟩ | ⟨rfl, H⟩
     ·obtain rfl := Option.some.inj H;(try go_wp2);go_ret;exact ⟨EWW, BL⟩
     ·obtain rfl := Option.some.inj H;(try go_wp2);go_ret;exact ⟨EWW, BL⟩
   ·obtain rfl := Option.some.inj H;(try go_wp2);go_ret;exact ⟨EWW, BL⟩
  ·obtain rfl := Option.some.inj H;(try go_wp2);go_ret;exact ⟨EWW, BL⟩
 ·obtain rfl := Option.some.inj H;(try go_wp2);go_ret;exact ⟨EWW, BL⟩
def eX.l0 : Nat → Int → Int → Int → ByteArray → List (S72) → List Int → Int → Option (Bool)
 | 0, _, _, _, _, _, _, _ => none
 | k + 1, a, b, c, d, e, f, g => if a < (e.length : Int) then (if 0 ≤ a then ((lS.f k ((dY e a).f0) ((dY e a).f1)).bind fun h => (if h = true then (eX.l0 k (wrap64 (a + 1)) b c d e f g) else (some false))) else (none)) else ((aN.f k b c d).bind fun i => ((lQ.f k b c d).bind fun j => (if j = 0 then (if (e.length : Int) = (i.length : Int) then (if (f.length : Int) = (i.length : Int) then ((bD.f g 1 9999).bind fun l => (some l)) else (some false)) else (some false)) else (some false))))
def eX.f (k : Nat) (LU LV : Int) (LW : ByteArray) (LX : List (S72)) (LY : List Int) (LZ : Int) : Option (Bool) := eX.l0 k 0 LU LV LW LX LY LZ
theorem eX.calls (k : Nat) (LU LV : Int) (LW : ByteArray) (A0_3 : Option Addr) (c0_3 : Nat) (LX : List (S72)) (A0_4 : Option Addr) (c0_4 : Nat) (LY : List Int) (LZ : Int) (r : Bool) (w : World) (hr0_3 : Kd.C k72 w A0_3 LX.length LX) (hc0_3 : LX.length ≤ c0_3) (hr0_4 : Kd.C (Kd.int .i64) w A0_4 LY.length LY) (hc0_4 : LY.length ≤ c0_4) (h : eX.f k LU LV LW LX LY LZ = some r) :
  Calls Tryz.prog 31 #[.agg #[.int .i64 LU, .int .i64 LV, .string LW, .slice A0_3 LX.length c0_3, .slice A0_4 LY.length c0_4, .int .i64 LZ]] w fun e w' => e = .returned (.bool r) ∧ Below w.heap.size w w' := by
 have yg := Tryz.underlying37;have yh := Tryz.underlying72;have yi := Tryz.underlying34;have L := ah.mk hr0_3;have xX := ah.mk hc0_3;clear hr0_3 hc0_3;have xY := ah.mk hr0_4;have xZ := ah.mk hc0_4;clear hr0_4 hc0_4;have HB := ah.mk (Below.refl w.heap.size w);unfold eX.f at h;have H := h;clear h;have H' := ah.mk H;clear H;go_enter Tryz.func31, Tryz.ntmps31;go_wp2_with (first | ((with_reducible refine aJ (N := 1) rfl ?_); (try (refine jI (by rfl) ?_; dsimp only)); refine bf (N := 1) (cs := #[.int .i64 LU, .int .i64 LV, .string LW, .slice A0_3 LX.length c0_3, .slice A0_4 LY.length c0_4, .int .i64 LZ]) (t := 37) ?_; intro M hg w2 hbox hb; have l := ah.mk hbox; have O := SZ (w := w) hg; have ya := O; replace HB := BS (w := w) hb; clear hb hbox hg))
 go_loopg [3] k (fun kq v3 w' => ∃ (m : Int), v3 = .int .i64 m ∧ ah (eX.l0 kq m LU LV LW LX LY LZ = some r) ∧ ah (kq ≤ k) ∧ ah (w'.heap[M]? = some (.cells #[.int .i64 LU, .int .i64 LV, .string LW, (.slice A0_3 LX.length c0_3), (.slice A0_4 LY.length c0_4), .int .i64 LZ] 37 (0, 0))) ∧ ah (Below w.heap.size w w'))
 case atStart => exact ⟨_, EQ, H', ⟨Nat.le_refl _⟩, ⟨BK⟩, ⟨BL⟩⟩
 case round =>
  clear H';obtain ⟨m, rfl, HA, xP, l, HB⟩ := hrel
  cases gk with
  | zero => exact absurd HA.out (by simp [eX.l0])
  | succ k1 =>
   have H := HA.out;clear HA;simp only [eX.l0] at H;obtain ⟨P, U, Y, Z, xa, xb, xc, xd, xe, xf, xg, xh⟩ := cz6 l.out;replace H := ifD H; rcases H with ⟨xQ, H⟩ | ⟨xQ, H⟩
   ·replace H := ifN H; obtain ⟨yj, H⟩ := H;replace H := be H; obtain ⟨yk, A5, H⟩ := H;have A : 0 ≤ (m : Int) := OD;have D : m < (LX.length : Int) := OD;obtain ⟨yb, I, J, xR, o, u, hl376_1, hi376_1⟩ := wH L.out m A D
    cases xR
    (try replace o := (HB.out.cell (World.block_lt_of_cell? w _ o)).trans o);(try replace u := (HB.out.cell (World.block_lt_of_cell? w _ u)).trans u);have E := ah.mk hi376_1;have G := ah.mk hl376_1;clear hi376_1 hl376_1;replace A := eq_true A;replace D := eq_true D;replace H := ah.mk H;go_wp2_with (first | ((with_reducible refine ay (f := 53) rfl ?_); refine bg (some 17) Tryz.func53 #[.agg #[.int .i64 ((dY LX m).f0), .slice I ((dY LX m).f1).length J]] ?_; (with_reducible refine (lS.calls k1 ((dY LX m).f0) _ _ ((dY LX m).f1) _ _ ?side1 ?side2 A5.out).mono ?_); (case side1 => exact CB E); (case side2 => exact G.out); rintro e xi ⟨rfl, hb⟩; refine ⟨_, rfl, ?_⟩; replace l := KB l hb; replace HB := BS (w := w) hb; (try clear hb); refine cB ?_));refine Hide.mk ?_;replace H := H.out;replace H := ifB H; rcases H with ⟨rfl, H⟩ | ⟨rfl, H⟩
    ·have H' := ah.mk H;clear H;(try go_wp2);go_roundg k1;case measure => have := xP.out; omega
     case rel => exact ⟨_, EQ, H', ks xP, ⟨BK⟩, ⟨BL⟩⟩
    ·obtain rfl := Option.some.inj H;(try go_wp2);go_ret;exact ⟨EWW, BL⟩
   ·replace H := be H; obtain ⟨a, yc, H⟩ := H;replace H := be H; obtain ⟨xS, yd, H⟩ := H;replace H := ah.mk H;go_wp2_with (first | ((with_reducible refine ay (f := 54) rfl ?_); refine bg (some 21) Tryz.func54 #[.agg #[.int .i64 LU, .int .i64 LV, .string LW]] ?_; (with_reducible refine (aN.calls k1 LU LV LW a _ yc.out).mono ?_); rintro e xi ⟨yl, rfl, xT, hb⟩; refine ⟨_, rfl, ?_⟩; replace l := KB l hb; have z := ah.mk (Kd.bV xT (aK BL)); replace HB := BS (w := w) hb; (try clear hb); (try clear xT); obtain ⟨xV, xW, K⟩ := Kd.dw z.out; subst K; obtain ⟨xj, xk, xl, xm, xn, xo, xp, xq, xr, xs, xt, xu⟩ := cz6 l.out) | ((with_reducible refine ay (f := 55) rfl ?_); refine bg (some 25) Tryz.func55 #[.agg #[.int .i64 LU, .int .i64 LV, .string LW]] ?_; (with_reducible refine (lQ.calls k1 LU LV LW xS _ yd.out).mono ?_); rintro e ye ⟨rfl, hb⟩; refine ⟨_, rfl, ?_⟩; replace z := RB z hb; replace l := KB l hb; replace HB := BS (w := w) hb; (try clear hb); obtain ⟨xv, xw, xx, xy, xz, xA, xB, xC, xD, xE, xF, xG⟩ := cz6 l.out; refine cB ?_));refine Hide.mk ?_;replace H := H.out;replace H := ifE H; rcases H with ⟨xH, xI, H⟩ | ⟨yo, xH, xI, H⟩
    ·by_cases x : (LX.length : Int) = (a.length : Int)
     ·rw [if_pos x] at H;have xJ : ((LX.length : Int) == (a.length : Int)) = true := beq_iff_eq.mpr x;have xK : ((LX.length : Int) != (a.length : Int)) = false := bne_eq_false_iff_eq.mpr x;have xL : (LX.length == a.length) = true := by first | simpa using x | (simp at x ⊢; omega)
      clear x;by_cases y : (LY.length : Int) = (a.length : Int)
      ·rw [if_pos y] at H;have xM : ((LY.length : Int) == (a.length : Int)) = true := beq_iff_eq.mpr y;have xN : ((LY.length : Int) != (a.length : Int)) = false := bne_eq_false_iff_eq.mpr y;have xO : (LY.length == a.length) = true := by first | simpa using y | (simp at y ⊢; omega)
       clear y;replace H := be H; obtain ⟨xU, yf, H⟩ := H;obtain rfl := Option.some.inj H;(try go_wp2_with (first | (go_at_call 56; (with_reducible refine (bD.calls LZ 1 9999 xU _ yf.out).mono ?_); rintro e w' ⟨rfl, ⟨nd, rfl⟩⟩)));go_ret;exact ⟨EWW, BL⟩
      ·rw [if_neg y] at H;have xM : ((LY.length : Int) == (a.length : Int)) = false := beq_eq_false_iff_ne.mpr y;have xN : ((LY.length : Int) != (a.length : Int)) = true := bne_iff_ne.mpr y;have xO : (LY.length == a.length) = false := by first | simpa using y | (simp at y ⊢; omega)
       obtain rfl := Option.some.inj H;(try go_wp2);go_ret;exact ⟨EWW, BL⟩
     ·rw [if_neg x] at H;have xJ : ((LX.length : Int) == (a.length : Int)) = false := beq_eq_false_iff_ne.mpr x;have xK : ((LX.length : Int) != (a.length : Int)) = true := bne_iff_ne.mpr x;have xL : (LX.length == a.length) = false := by first | simpa using x | (simp at x ⊢; omega)
      obtain rfl := Option.some.inj H;(try go_wp2);go_ret;exact ⟨EWW, BL⟩
    ·obtain rfl := Option.some.inj H;(try go_wp2);go_ret;exact ⟨EWW, BL⟩
mutual
def bS.j0 : Nat → ByteArray → Bool → Int → Int → ByteArray → Option (Bool)
 | 0, _, _, _, _, _ => none
 | k + 1, a, b, c, d, e => if b = true then (some false) else (bS.l0 k a 0 c d e)
def bS.l0 : Nat → ByteArray → Int → Int → Int → ByteArray → Option (Bool)
 | 0, _, _, _, _, _ => none
 | k + 1, a, b, c, d, e => if b < (a.size : Int) then (if 0 ≤ b then (if (bt a b) = 63 then (if b < (e.size : Int) then (if (bt e b) = 35 then (if (bt a b) = 35 then (if (bt e b) = 46 then (bS.l0 k a (wrap64 (b + 1)) c d e) else (bS.l0 k a (wrap64 (b + 1)) c d e)) else (some false)) else (if (bt e b) = 46 then (bS.l0 k a (wrap64 (b + 1)) c d e) else (bS.l0 k a (wrap64 (b + 1)) c d e))) else (none)) else (if (bt a b) ≥ 97 then (if b < (e.size : Int) then (if (bt e b) = 35 then (if (bt a b) = 35 then (if (bt e b) = 46 then (if ((bt a b) ≤ 122) then (bS.l0 k a (wrap64 (b + 1)) c d e) else (some false)) else (bS.l0 k a (wrap64 (b + 1)) c d e)) else (some false)) else (if (bt e b) = 46 then (if ((bt a b) ≤ 122) then (bS.l0 k a (wrap64 (b + 1)) c d e) else (some false)) else (bS.l0 k a (wrap64 (b + 1)) c d e))) else (none)) else (if b < (e.size : Int) then (if (bt e b) = 35 then (if (bt a b) = 35 then (if (bt e b) = 46 then (some false) else (bS.l0 k a (wrap64 (b + 1)) c d e)) else (some false)) else (if (bt e b) = 46 then (some false) else (bS.l0 k a (wrap64 (b + 1)) c d e))) else (none)))) else (none)) else (some true)
end
def bS.f (k : Nat) (LU LV : Int) (LW a1 : ByteArray) : Option (Bool) := (bL.f k LU LV LW).bind fun t384 => (if t384 = true then (bS.j0 k a1 ((a1.size : Int) != (LW.size : Int)) LU LV LW) else (bS.j0 k a1 true LU LV LW))
theorem bS.calls (k : Nat) (LU LV : Int) (LW u : ByteArray) (r : Bool) (w : World) (h : bS.f k LU LV LW u = some r) :
  Calls Tryz.prog 65 #[.agg #[.int .i64 LU, .int .i64 LV, .string LW], .string u] w fun e w' => e = .returned (.bool r) ∧ Below w.heap.size w w' := by
 have xY := Tryz.underlying34;have HB := ah.mk (Below.refl w.heap.size w);unfold bS.f at h;have H := h;clear h;have M := ah.mk H;clear H;go_enter Tryz.func65, Tryz.ntmps65;go_upto_region 1 with (first | ((with_reducible refine aJ (N := 2) rfl ?_); (try (refine jI (by rfl) ?_; dsimp only)); refine bf (N := 2) (cs := #[.int .i64 LU, .int .i64 LV, .string LW]) (t := 34) ?_; intro L hg w4 hbox hb; have o := ah.mk hbox; have O := SZ (w := w) hg; have xN := O; replace HB := BS (w := w) hb; clear hb hbox hg));(try simp only [Act.put, List.setIfInBounds_toArray, List.set_cons_zero, List.set_cons_succ])
 go_cut [17] (fun xO wc => ∃ (kq : Nat) (G : Bool), xO = .bool G ∧ ah (bS.j0 kq u G LU LV LW = some r) ∧ ah (kq ≤ k) ∧ ah (wc.heap[L]? = some (.cells #[.int .i64 LU, .int .i64 LV, .string LW] 34 (0, 0))) ∧ ah (Below w.heap.size w wc))
 case first =>
  have H := M.out;clear M;replace H := be H; obtain ⟨xZ, A5, H⟩ := H;obtain ⟨P, U, Y, Z, xa, xb⟩ := cz3 o.out;replace H := ah.mk H;go_wp2_with (first | ((with_reducible refine ay (f := 67) rfl ?_); refine bg (some 8) Tryz.func67 #[.agg #[.int .i64 LU, .int .i64 LV, .string LW]] ?_; (with_reducible refine (bL.calls k LU LV LW _ _ A5.out).mono ?_); rintro e xP ⟨rfl, hb⟩; refine ⟨_, rfl, ?_⟩; replace o := KB o hb; replace HB := BS (w := w) hb; (try clear hb); obtain ⟨xc, xd, xe, xf, xg, xh⟩ := cz3 o.out; refine cB ?_));refine Hide.mk ?_;replace H := H.out;replace H := ifB H; rcases H with ⟨rfl, H⟩ | ⟨rfl, H⟩
  ·have H' := ah.mk H;clear H;(try go_wp2);go_meet;case rel => exact ⟨_, _, EQ, H', ⟨by first | omega | exact Nat.le_refl _⟩, ⟨BK⟩, ⟨BL⟩⟩
  ·have H' := ah.mk H;clear H;(try go_wp2);go_meet;case rel => exact ⟨_, _, EQ, H', ⟨by first | omega | exact Nat.le_refl _⟩, ⟨BK⟩, ⟨BL⟩⟩
 case rest =>
  clear M;obtain ⟨kq, G, rfl, HA, l, o, HB⟩ := hcut
  cases kq with
  | zero => exact absurd HA.out (by simp [bS.j0])
  | succ xM =>
   have H := HA.out;clear HA;simp only [bS.j0] at H;replace H := ifB H; rcases H with ⟨rfl, H⟩ | ⟨rfl, H⟩
   ·obtain rfl := Option.some.inj H;go_wp2;go_ret;exact ⟨EWW, BL⟩
   ·have H' := ah.mk H;clear H;go_wp2
    go_loopg [5] xM (fun kq v5 w' => ∃ (a : Int), v5 = .int .i64 a ∧ ah (bS.l0 kq u a LU LV LW = some r) ∧ ah (kq ≤ xM) ∧ ah (w'.heap[L]? = some (.cells #[.int .i64 LU, .int .i64 LV, .string LW] 34 (0, 0))) ∧ ah (Below w.heap.size w w'))
    case atStart => exact ⟨_, EQ, H', ⟨Nat.le_refl _⟩, ⟨BK⟩, ⟨BL⟩⟩
    case round =>
     clear H';(try clear yc);obtain ⟨a, rfl, HA, m, o, HB⟩ := hrel
     cases gk with
     | zero => exact absurd HA.out (by simp [bS.l0])
     | succ k2 =>
      have H := HA.out;clear HA;simp only [bS.l0] at H;replace H := ifD H; rcases H with ⟨xi, H⟩ | ⟨xi, H⟩
      ·replace H := ifN H; obtain ⟨xQ, H⟩ := H;replace H := ifE H; rcases H with ⟨xj, xk, H⟩ | ⟨yd, xj, xk, H⟩
       ·replace H := ifN H; obtain ⟨xR, H⟩ := H;have xS : (0 ≤ (a : Int)) = True := OT;have xT : (a < (u.size : Int)) = True := OT;have hx15 := gF u a;obtain ⟨x, y, z, A, D, E⟩ := cz3 o.out;have ye : (0 ≤ (a : Int)) = True := OT;have yf : (a < (LW.size : Int)) = True := OT;have hx18 := gF LW a;replace H := ifE H; rcases H with ⟨xl, xm, H⟩ | ⟨yg, xl, xm, H⟩
        ·have yh : (0 ≤ (a : Int)) = True := OT;have yi : (a < (u.size : Int)) = True := OT;have hx20 := gF u a;replace H := ifE H; rcases H with ⟨xn, xo, H⟩ | ⟨yj, xn, xo, H⟩
         ·have yk : (0 ≤ (a : Int)) = True := OT;have yl : (a < (LW.size : Int)) = True := OT;have hx22 := gF LW a;replace H := ifE H; rcases H with ⟨xp, xq, H⟩ | ⟨ym, xp, xq, H⟩
          ·have H' := ah.mk H;clear H;go_wp2;go_roundg k2;case measure => have := l.out; have := m.out; omega
           case rel => exact ⟨_, EQ, H', ⟨by have := l.out; have := m.out; omega⟩, ⟨BK⟩, ⟨BL⟩⟩
          ·have H' := ah.mk H;clear H;go_wp2;go_roundg k2;case measure => have := l.out; have := m.out; omega
           case rel => exact ⟨_, EQ, H', ⟨by have := l.out; have := m.out; omega⟩, ⟨BK⟩, ⟨BL⟩⟩
         ·obtain rfl := Option.some.inj H;go_wp2;go_ret;exact ⟨EWW, BL⟩
        ·have yn : (0 ≤ (a : Int)) = True := OT;have yo : (a < (LW.size : Int)) = True := OT;have hx27 := gF LW a;replace H := ifE H; rcases H with ⟨xr, xs, H⟩ | ⟨yp, xr, xs, H⟩
         ·have H' := ah.mk H;clear H;go_wp2;go_roundg k2;case measure => have := l.out; have := m.out; omega
          case rel => exact ⟨_, EQ, H', ⟨by have := l.out; have := m.out; omega⟩, ⟨BK⟩, ⟨BL⟩⟩
         ·have H' := ah.mk H;clear H;go_wp2;go_roundg k2;case measure => have := l.out; have := m.out; omega
          case rel => exact ⟨_, EQ, H', ⟨by have := l.out; have := m.out; omega⟩, ⟨BK⟩, ⟨BL⟩⟩
       ·have xS : (0 ≤ (a : Int)) = True := OT;have xT : (a < (u.size : Int)) = True := OT;have hx15 := gF u a;by_cases I : (bt u a) ≥ 97
        ·rw [if_pos I] at H;have xt : decide (97 ≤ (bt u a)) = true := decide_eq_true I;clear I;replace H := ifN H; obtain ⟨xU, H⟩ := H;have xV : (0 ≤ (a : Int)) = True := OT;have xW : (a < (u.size : Int)) = True := OT;have hx31 := gF u a;have yq : (0 ≤ (a : Int)) = True := OT;have yr : (a < (u.size : Int)) = True := OT;have hx33 := gF u a;obtain ⟨x, y, z, A, D, E⟩ := cz3 o.out;have ys : (0 ≤ (a : Int)) = True := OT;have yt : (a < (LW.size : Int)) = True := OT;have hx35 := gF LW a;replace H := ifE H; rcases H with ⟨xu, xv, H⟩ | ⟨yu, xu, xv, H⟩
         ·have yv : (0 ≤ (a : Int)) = True := OT;have yw : (a < (u.size : Int)) = True := OT;have hx37 := gF u a;replace H := ifE H; rcases H with ⟨xw, xx, H⟩ | ⟨yx, xw, xx, H⟩
          ·have yy : (0 ≤ (a : Int)) = True := OT;have yz : (a < (LW.size : Int)) = True := OT;have hx39 := gF LW a;replace H := ifE H; rcases H with ⟨xy, xz, H⟩ | ⟨yA, xy, xz, H⟩
           ·by_cases J : ((bt u a) ≤ 122)
            ·rw [if_pos J] at H;have xA : decide ((bt u a) ≤ 122) = true := decide_eq_true J;clear J;have H' := ah.mk H;clear H;go_wp2;go_roundg k2;case measure => have := l.out; have := m.out; omega
             case rel => exact ⟨_, EQ, H', ⟨by have := l.out; have := m.out; omega⟩, ⟨BK⟩, ⟨BL⟩⟩
            ·rw [if_neg J] at H;have xA : decide ((bt u a) ≤ 122) = false := decide_eq_false J;clear J;obtain rfl := Option.some.inj H;go_wp2;go_ret;exact ⟨EWW, BL⟩
           ·have H' := ah.mk H;clear H;go_wp2;go_roundg k2;case measure => have := l.out; have := m.out; omega
            case rel => exact ⟨_, EQ, H', ⟨by have := l.out; have := m.out; omega⟩, ⟨BK⟩, ⟨BL⟩⟩
          ·obtain rfl := Option.some.inj H;go_wp2;go_ret;exact ⟨EWW, BL⟩
         ·have yB : (0 ≤ (a : Int)) = True := OT;have yC : (a < (LW.size : Int)) = True := OT;have hx46 := gF LW a;replace H := ifE H; rcases H with ⟨xB, xC, H⟩ | ⟨yD, xB, xC, H⟩
          ·by_cases K : ((bt u a) ≤ 122)
           ·rw [if_pos K] at H;have xD : decide ((bt u a) ≤ 122) = true := decide_eq_true K;clear K;have H' := ah.mk H;clear H;go_wp2;go_roundg k2;case measure => have := l.out; have := m.out; omega
            case rel => exact ⟨_, EQ, H', ⟨by have := l.out; have := m.out; omega⟩, ⟨BK⟩, ⟨BL⟩⟩
           ·rw [if_neg K] at H;have xD : decide ((bt u a) ≤ 122) = false := decide_eq_false K;clear K;obtain rfl := Option.some.inj H;go_wp2;go_ret;exact ⟨EWW, BL⟩
          ·have H' := ah.mk H;clear H;go_wp2;go_roundg k2;case measure => have := l.out; have := m.out; omega
           case rel => exact ⟨_, EQ, H', ⟨by have := l.out; have := m.out; omega⟩, ⟨BK⟩, ⟨BL⟩⟩
        ·rw [if_neg I] at H;have xt : decide (97 ≤ (bt u a)) = false := decide_eq_false I;clear I;replace H := ifN H; obtain ⟨xX, H⟩ := H;have xV : (0 ≤ (a : Int)) = True := OT;have xW : (a < (u.size : Int)) = True := OT;have hx31 := gF u a;obtain ⟨x, y, z, A, D, E⟩ := cz3 o.out;have yE : (0 ≤ (a : Int)) = True := OT;have yF : (a < (LW.size : Int)) = True := OT;have hx53 := gF LW a;replace H := ifE H; rcases H with ⟨xE, xF, H⟩ | ⟨yG, xE, xF, H⟩
         ·have yH : (0 ≤ (a : Int)) = True := OT;have yI : (a < (u.size : Int)) = True := OT;have hx55 := gF u a;replace H := ifE H; rcases H with ⟨xG, xH, H⟩ | ⟨yJ, xG, xH, H⟩
          ·have yK : (0 ≤ (a : Int)) = True := OT;have yL : (a < (LW.size : Int)) = True := OT;have hx57 := gF LW a;replace H := ifE H; rcases H with ⟨xI, xJ, H⟩ | ⟨yM, xI, xJ, H⟩
           ·obtain rfl := Option.some.inj H;go_wp2;go_ret;exact ⟨EWW, BL⟩
           ·have H' := ah.mk H;clear H;go_wp2;go_roundg k2;case measure => have := l.out; have := m.out; omega
            case rel => exact ⟨_, EQ, H', ⟨by have := l.out; have := m.out; omega⟩, ⟨BK⟩, ⟨BL⟩⟩
          ·obtain rfl := Option.some.inj H;go_wp2;go_ret;exact ⟨EWW, BL⟩
         ·have yN : (0 ≤ (a : Int)) = True := OT;have yO : (a < (LW.size : Int)) = True := OT;have hx62 := gF LW a;replace H := ifE H; rcases H with ⟨xK, xL, H⟩ | ⟨yP, xK, xL, H⟩
          ·obtain rfl := Option.some.inj H;go_wp2;go_ret;exact ⟨EWW, BL⟩
          ·have H' := ah.mk H;clear H;go_wp2;go_roundg k2;case measure => have := l.out; have := m.out; omega
           case rel => exact ⟨_, EQ, H', ⟨by have := l.out; have := m.out; omega⟩, ⟨BK⟩, ⟨BL⟩⟩
      ·obtain rfl := Option.some.inj H;go_wp2;go_ret;exact ⟨EWW, BL⟩
mutual
def bC.j0 : Nat → ByteArray → Int → List (S92) → Bool → Int → Int → ByteArray → Option (ByteArray)
 | 0, _, _, _, _, _, _, _ => none
 | k + 1, a, b, c, d, e, f, g => if d = true then (some (⟨#[]⟩ : ByteArray)) else (if 0 ≤ b then (if b < (c.length : Int) then ((bO.f k e f g ((aT c b).f0) ((aT c b).f1) ((aT c b).f2) ((aT c b).f3)).bind fun h => (bC.l0 k a (⟨#[]⟩ : ByteArray) h 0)) else (none)) else (none))
def bC.l0 : Nat → ByteArray → ByteArray → List Int → Int → Option (ByteArray)
 | 0, _, _, _, _ => none
 | k + 1, a, b, c, d => if d < (c.length : Int) then (if 0 ≤ d then (if 0 ≤ (rd c d) then (if (rd c d) ≤ (wrap64 ((rd c d) + 1)) then (if (wrap64 ((rd c d) + 1)) ≤ (a.size : Int) then (if b.size + (a.extract ((rd c d) : Int).toNat ((wrap64 ((rd c d) + 1)) : Int).toNat).size ≤ 9223372036854775807 then (bC.l0 k a (b ++ (a.extract ((rd c d) : Int).toNat ((wrap64 ((rd c d) + 1)) : Int).toNat)) c (wrap64 (d + 1))) else (none)) else (none)) else (none)) else (none)) else (none)) else (some b)
end
def bC.f (k : Nat) (LU LV : Int) (LW a1 : ByteArray) (a2 : Int) : Option (ByteArray) := (aN.f k LU LV LW).bind fun t386 => ((bS.f k LU LV LW a1).bind fun t389 => (if t389 = true then ((bD.f a2 0 (wrap64 ((t386.length : Int) - 1))).bind fun t390 => (bC.j0 k a1 a2 t386 (!t390) LU LV LW)) else (bC.j0 k a1 a2 t386 true LU LV LW)))
def bC.T9 : Bool × List (List Nat × List Nat) := (true, [([], []), ([], []), ([], []), ([], []), ([2, 3], [2, 3]), ([4], [4]), ([], []), ([], []), ([6, 7], [6, 7]), ([8], [8]), ([9], [9]), ([1, 5, 10], [1, 5, 10]), ([0, 11], [0, 11]), ([12, 0, 1, 2, 3, 4, 5, 6, 7, 8, 9, 10, 11, 12], [0, 12])])
def bC.B9 : List Nat := [0, 0, 0, 0, 12, 28, 0, 0, 192, 448, 960, 2046, 4095, 8191]
theorem bC.LP : lN .any (opsOf Tryz.f40 9) = bC.T9 := by kernel_rfl
theorem bC.Lp : jD bC.T9.2 bC.B9 = true := by kernel_rfl
theorem bC.calls (k : Nat) (LU LV : Int) (LW a1 : ByteArray) (x : Int) (r : ByteArray) (w : World) (h : bC.f k LU LV LW a1 x = some r) :
  Calls Tryz.prog 40 #[.agg #[.int .i64 LU, .int .i64 LV, .string LW], .string a1, .int .i64 x] w fun e w' => e = .returned (.string r) ∧ Below w.heap.size w w' := by
 have ys := Tryz.underlying34;have yt := Tryz.underlying92;have HB := ah.mk (Below.refl w.heap.size w);unfold bC.f at h;have H := h;clear h;replace H := be H; obtain ⟨o, A4, H⟩ := H;have xq := ah.mk H;clear H;go_enter Tryz.func40, Tryz.ntmps40;go_upto_region 2 with (first | ((with_reducible refine aJ (N := 3) rfl ?_); (try (refine jI (by rfl) ?_; dsimp only)); refine bf (N := 3) (cs := #[.int .i64 LU, .int .i64 LV, .string LW]) (t := 34) ?_; intro y hg w6 hbox hb; have l := ah.mk hbox; have xr := SZ (w := w) hg; have ya := xr; replace HB := BS (w := w) hb; clear hb hbox hg; obtain ⟨Y, Z, xa, xb, xc, xd⟩ := cz3 l.out) | ((with_reducible refine ay (f := 54) rfl ?_); refine bg (some 12) Tryz.func54 #[.agg #[.int .i64 LU, .int .i64 LV, .string LW]] ?_; (with_reducible refine (aN.calls k LU LV LW o _ A4.out).mono ?_); rintro e w8 ⟨xG, rfl, xi, hb⟩; refine ⟨_, rfl, ?_⟩; replace l := KB l hb; have z := ah.mk (Kd.bV xi (aK BL)); replace HB := BS (w := w) hb; (try clear hb); (try clear xi)));(try simp only [Act.put, List.setIfInBounds_toArray, List.set_cons_zero, List.set_cons_succ])
 go_cut [24] (fun yb wc => ∃ (kq : Nat) (P : Bool), yb = .bool P ∧ ah (bC.j0 kq a1 x o P LU LV LW = some r) ∧ ah (kq ≤ k) ∧ ah (Kd.R k92 92 wc w.heap.size (fun _ => True) xG o) ∧ ah (wc.heap[y]? = some (.cells #[.int .i64 LU, .int .i64 LV, .string LW] 34 (0, 0))) ∧ ah (Below w.heap.size w wc))
 case first =>
  have H := xq.out;clear xq;replace H := be H; obtain ⟨yu, A9, H⟩ := H;obtain ⟨xs, xt, xu, xv, xw, xx⟩ := cz3 l.out;replace H := ah.mk H;go_wp2_with (first | ((with_reducible refine ay (f := 65) rfl ?_); refine bg (some 15) Tryz.func65 #[.agg #[.int .i64 LU, .int .i64 LV, .string LW], .string a1] ?_; (with_reducible refine (bS.calls k LU LV LW a1 _ _ A9.out).mono ?_); rintro e yc ⟨rfl, hb⟩; refine ⟨_, rfl, ?_⟩; replace z := RB z hb; replace l := KB l hb; replace HB := BS (w := w) hb; (try clear hb); refine cB ?_));refine Hide.mk ?_;replace H := H.out;replace H := ifB H; rcases H with ⟨rfl, H⟩ | ⟨rfl, H⟩
  ·replace H := be H; obtain ⟨xH, yd, H⟩ := H;have H' := ah.mk H;clear H;obtain ⟨xU, xV, xo⟩ := Kd.dw z.out;subst xo;go_wp2_with (first | (go_at_call 56; (with_reducible refine (bD.calls x 0 (wrap64 ((o.length : Int) - 1)) xH _ yd.out).mono ?_); rintro e w' ⟨rfl, ⟨nd, rfl⟩⟩));go_meet;case rel => exact ⟨_, _, EQ, H', ⟨by first | omega | exact Nat.le_refl _⟩, ⟨(RR z)⟩, ⟨BK⟩, ⟨BL⟩⟩
  ·have H' := ah.mk H;clear H;(try go_wp2);go_meet;case rel => exact ⟨_, _, EQ, H', ⟨by first | omega | exact Nat.le_refl _⟩, ⟨(RR z)⟩, ⟨BK⟩, ⟨BL⟩⟩
 case rest =>
  clear xq;(try clear Y Z xa xb xc xd);obtain ⟨kq, P, rfl, HA, xI, A, l, HB⟩ := hcut
  cases kq with
  | zero => exact absurd HA.out (by simp [bC.j0])
  | succ xy =>
   have H := HA.out;clear HA;simp only [bC.j0] at H;replace H := ifB H; rcases H with ⟨rfl, H⟩ | ⟨rfl, H⟩
   ·obtain rfl := Option.some.inj H;go_wp2;go_ret;exact ⟨EWW, BL⟩
   ·replace H := ifN H; obtain ⟨xz, H⟩ := H;replace H := ifN H; obtain ⟨xA, H⟩ := H;replace H := be H; obtain ⟨m, ye, H⟩ := H;have H' := ah.mk H;clear H;(try go_wp2);replace A := ah.mk (Kd.dN A.out);replace l := ah.mk (aH l.out);replace HB := ah.mk (dR HB.out);obtain ⟨xW, xX, xe⟩ := Kd.dw A.out;(first | subst xe | (injection xe with f1_ f2_ f3_; have f4_ := f1_.symm; have f5_ := f3_.symm; clear f1_ f2_ f3_; subst f4_; subst f5_));have xf : 0 ≤ (x : Int) := OD;have xg : x < (o.length : Int) := OD;obtain ⟨u, xJ, D, E, G, I⟩ := pY (Kd.bq A.out).2.2 x xf xg
    cases xJ
    replace xf := eq_true xf;replace xg := eq_true xg;refine jS (n := 7) (S := fun w' => w'.cell? ⟨y, 0, none⟩ = some (.int .i64 LU) ∧ w'.cell? ⟨y, 1, none⟩ = some (.int .i64 LV) ∧ w'.cell? ⟨y, 2, none⟩ = some (.string LW) ∧ w'.cell? (u.add ((x).toNat * 4)) = some (.int .i64 ((aT o x).f0)) ∧ w'.cell? ⟨(u.add ((x).toNat * 4)).block, (u.add ((x).toNat * 4)).off + 1, none⟩ = some (.bool ((aT o x).f1)) ∧ w'.cell? ⟨(u.add ((x).toNat * 4)).block, (u.add ((x).toNat * 4)).off + 2, none⟩ = some (.int .i64 ((aT o x).f2)) ∧ w'.cell? ⟨(u.add ((x).toNat * 4)).block, (u.add ((x).toNat * 4)).off + 3, none⟩ = some (.int .i64 ((aT o x).f3))) (ds := []) #[F,F,F,F,F,F,F] (by kernel_rfl) rfl rfl ⟨(ak l.out 0).trans rfl, (ak l.out 1).trans rfl, (ak l.out 2).trans rfl, D, E, G, I⟩ (fun hHeld => ?_);generalize wc.drew = yf at A l HB D E G I hHeld ⊢;refine puS (i := 1) (N := some 26) #[F,T,F,F,F,F,F] (by kernel_rfl) ?_;refine puS (i := 2) (N := some 27) #[F,T,T,F,F,F,F] (by kernel_rfl) ?_;refine puS (i := 3) (N := some 28) #[F,T,T,T,F,F,F] (by kernel_rfl) ?_;refine taS (i := 0) (N := some 25) #[T,T,T,T,F,F,F] (by kernel_rfl) hHeld ?_;refine taS (i := 4) (N := some 29) #[T,T,T,T,T,F,F] (by kernel_rfl) hHeld ?_;refine mh (i := 5) (N := some 30) #[T,T,T,T,T,T,F] rfl rfl (by kernel_rfl) (by decide) (fun K hK => ?_);refine jq Tryz.func66 #[.agg #[.int .i64 LU, .int .i64 LV, .string LW], .agg #[.int .i64 ((aT o x).f0), .bool ((aT o x).f1), .int .i64 ((aT o x).f2), .int .i64 ((aT o x).f3)]] ?_;(with_reducible refine (bO.calls xy LU LV LW ((aT o x).f0) ((aT o x).f1) ((aT o x).f2) ((aT o x).f3) m _ ye.out).mono ?_);rintro e yg ⟨xK, rfl, xi, hb⟩;have xL := (hb.cell (World.block_lt_of_cell? _ _ (hHeld.2.2.2.1))).trans (hHeld.2.2.2.1);have xM := (hb.cell (World.block_lt_of_cell? _ _ (hHeld.2.2.2.2.1))).trans (hHeld.2.2.2.2.1);have xN := (hb.cell (World.block_lt_of_cell? _ _ (hHeld.2.2.2.2.2.1))).trans (hHeld.2.2.2.2.2.1);have xO := (hb.cell (World.block_lt_of_cell? _ _ (hHeld.2.2.2.2.2.2))).trans (hHeld.2.2.2.2.2.2);refine ⟨_, rfl, ?_⟩;replace A := RB A hb;have xB := ah.mk (Kd.bV xi (aK BL));replace l := KB l hb;replace HB := BS (w := w) hb;(try clear hb);(try clear xi);refine hK.out _ _ ⟨(ak l.out 0).trans rfl, (ak l.out 1).trans rfl, (ak l.out 2).trans rfl, xL, xM, xN, xO⟩ (fun hHeld => ?_);clear hK K;refine nrm (some 30) ?_;refine puS (i := 6) (N := some 9) #[T,T,T,T,T,T,T] (by kernel_rfl) ?_;refine iU (by kernel_rfl) ?_;try go_wp2
    go_loopg [8, 10] xy (fun kq v8 yh w' => ∃ (J : ByteArray) (a : Int), v8 = .string J ∧ yh = .int .i64 a ∧ ah (bC.l0 kq a1 J m a = some r) ∧ ah (kq ≤ xy) ∧ ah (Kd.R (Kd.int .i64) 3 w' w.heap.size (fun _ => True) xK m) ∧ ah (w'.heap[y]? = some (.cells #[.int .i64 LU, .int .i64 LV, .string LW] 34 (0, 0))) ∧ ah (Below w.heap.size w w'))
    case atStart => exact ⟨_, _, EQ, EQ, H', ⟨Nat.le_refl _⟩, ⟨(RR xB)⟩, ⟨BK⟩, ⟨BL⟩⟩
    case round =>
     clear H';(try clear yy);(try clear yz);(try clear xz);(try clear yA);(try clear xA);(try clear Y Z xa xb xc xd);(try clear D);(try clear E);(try clear G);(try clear I);(try clear xf);(try clear xg);obtain ⟨J, a, rfl, rfl, HA, xP, L, l, HB⟩ := hrel
     cases gk with
     | zero => exact absurd HA.out (by simp [bC.l0])
     | succ k2 =>
      have H := HA.out;clear HA;simp only [bC.l0] at H;obtain ⟨xY, xZ, xp⟩ := Kd.dw L.out;subst xp;replace H := ifD H; rcases H with ⟨xC, H⟩ | ⟨xC, H⟩
      ·replace H := ifN H; obtain ⟨yi, H⟩ := H;replace H := ifP H; obtain ⟨xD, H⟩ := H;have yj := eq_true xD;have yk : decide (0 ≤ (rd m a)) = true := decide_eq_true xD;clear xD;replace H := ifP H; obtain ⟨xQ, H⟩ := H;have yl := eq_true xQ;have ym : decide ((rd m a) ≤ (wrap64 ((rd m a) + 1))) = true := decide_eq_true xQ;replace H := ifP H; obtain ⟨xR, H⟩ := H;have yn := eq_true xR;have yo : decide ((wrap64 ((rd m a) + 1)) ≤ (a1.size : Int)) = true := decide_eq_true xR;by_cases xj : J.size + (a1.extract ((rd m a) : Int).toNat ((wrap64 ((rd m a) + 1)) : Int).toNat).size ≤ 9223372036854775807
       ·rw [if_pos xj] at H;have yp := eq_true xj;have yq : decide (J.size + (a1.extract ((rd m a) : Int).toNat ((wrap64 ((rd m a) + 1)) : Int).toNat).size ≤ 9223372036854775807) = true := decide_eq_true xj;try have xE : (9223372036854775807 < J.size + (a1.extract ((rd m a) : Int).toNat ((wrap64 ((rd m a) + 1)) : Int).toNat).size) = False := eq_false (Nat.not_lt.2 xj)
        have c29b3c : (9223372036854775807 < J.size + (((wrap64 ((rd m a) + 1))).toNat - ((rd m a)).toNat)) = False := by
         have hy_ : (wrap64 ((rd m a) + 1)) ≤ (a1.size : Int) := OD;have hs_ : (a1.extract ((rd m a) : Int).toNat ((wrap64 ((rd m a) + 1)) : Int).toNat).size = ((wrap64 ((rd m a) + 1))).toNat - ((rd m a)).toNat := by rw [ByteArray.size_extract]; omega
         rw [← hs_]; exact xE
        have H' := ah.mk H;clear H;(try go_wp2);replace L := ah.mk (Kd.dN L.out);replace l := ah.mk (aH l.out);replace HB := ah.mk (dR HB.out);have xk : 0 ≤ (a : Int) := OD;have xl : a < (m.length : Int) := OD;obtain ⟨U, xS, M⟩ := Kd.nU (Kd.bq L.out).2.2 a xk xl
        cases xS
        replace xk := eq_true xk;replace xl := eq_true xl;have xm : 0 ≤ (a : Int) := OD;have xn : a < (m.length : Int) := OD;obtain ⟨xF, xT, O⟩ := Kd.nU (Kd.bq L.out).2.2 a xm xn;obtain rfl : U = xF := (by injection xT);replace xm := eq_true xm;replace xn := eq_true xn;refine jS (n := 14) (S := fun w' => w'.cell? (U.add (a).toNat) = some (.int .i64 (rd m a)) ∧ w'.cell? (U.add (a).toNat) = some (.int .i64 (rd m a))) (ds := []) #[F,F,F,F,F,F,F,F,F,F,F,F,F,F] (by kernel_rfl) rfl rfl ⟨M, O⟩ (fun hHeld => ?_); refine jk bC.LP bC.Lp (fun HT_ HW_ => ?_);generalize wr.drew = yr at L l HB M O hHeld ⊢;refine pS 0 (some 37) #[T,F,F,F,F,F,F,F,F,F,F,F,F,F] ?_;refine pS 1 (some 38) #[T,T,F,F,F,F,F,F,F,F,F,F,F,F] ?_;refine pS 2 (some 39) #[T,T,T,F,F,F,F,F,F,F,F,F,F,F] ?_;refine pS 3 (some 40) #[T,T,T,T,F,F,F,F,F,F,F,F,F,F] ?_;refine pS 4 (some 41) #[T,T,T,T,T,F,F,F,F,F,F,F,F,F] ?_;refine pS 6 (some 43) #[T,T,T,T,T,F,T,F,F,F,F,F,F,F] ?_;refine pS 7 (some 44) #[T,T,T,T,T,F,T,T,F,F,F,F,F,F] ?_;refine pS 8 (some 45) #[T,T,T,T,T,F,T,T,T,F,F,F,F,F] ?_;refine tS 5 (some 42) #[T,T,T,T,T,T,T,T,T,F,F,F,F,F] ?_;refine tS 9 (some 46) #[T,T,T,T,T,T,T,T,T,T,F,F,F,F] ?_;refine pS 10 (some 47) #[T,T,T,T,T,T,T,T,T,T,T,F,F,F] ?_;refine pS 11 (some 48) #[T,T,T,T,T,T,T,T,T,T,T,T,F,F] ?_;refine pS 12 (some 49) #[T,T,T,T,T,T,T,T,T,T,T,T,T,F] ?_;refine pS 13 (some 8) #[T,T,T,T,T,T,T,T,T,T,T,T,T,T] ?_;refine iU (gX HT_.out (by kernel_rfl)) ?_;(try go_wp2);go_roundg k2;case measure => have := xI.out; have := xP.out; omega
        case rel => exact ⟨_, _, EQ, EQ, H', ⟨by have := xI.out; have := xP.out; omega⟩, ⟨(RR L)⟩, ⟨BK⟩, ⟨BL⟩⟩
       ·rw [if_neg xj] at H;exact absurd H (by simp)
      ·obtain rfl := Option.some.inj H;go_wp2;go_ret;exact ⟨EWW, BL⟩
mutual
def bU.l0 : Nat → ByteArray → Int → Int → Int → ByteArray → Option (ByteArray)
 | 0, _, _, _, _, _ => none
 | k + 1, a, b, c, d, e => if b < (e.size : Int) then ((bL.f k c d e).bind fun f => (bU.j1 k a b f c d e)) else (bU.j1 k a b false c d e)
def bU.j1 : Nat → ByteArray → Int → Bool → Int → Int → ByteArray → Option (ByteArray)
 | 0, _, _, _, _, _, _ => none
 | k + 1, a, b, c, d, e, f => if c = true then (if 0 ≤ b then (if b < (f.size : Int) then (if (bt f b) = 35 then (if a.size + 1 ≤ 9223372036854775807 then (bU.l0 k (a ++ (⟨#[35]⟩ : ByteArray)) (wrap64 (b + 1)) d e f) else (none)) else (if a.size + 1 ≤ 9223372036854775807 then (bU.l0 k (a ++ (⟨#[63]⟩ : ByteArray)) (wrap64 (b + 1)) d e f) else (none))) else (none)) else (none)) else (some a)
end
def bU.f (k : Nat) (LU LV : Int) (LW : ByteArray) : Option (ByteArray) := bU.l0 k (⟨#[]⟩ : ByteArray) 0 LU LV LW
theorem bU.calls (k : Nat) (LU LV : Int) (LW r : ByteArray) (w : World) (h : bU.f k LU LV LW = some r) :
  Calls Tryz.prog 41 #[.agg #[.int .i64 LU, .int .i64 LV, .string LW]] w fun e w' => e = .returned (.string r) ∧ Below w.heap.size w w' := by
 have xr := Tryz.underlying34;have HB := ah.mk (Below.refl w.heap.size w);unfold bU.f at h;have H := h;clear h;have H' := ah.mk H;clear H;go_enter Tryz.func41, Tryz.ntmps41;go_wp2_with (first | ((with_reducible refine aJ (N := 1) rfl ?_); refine bf (N := 1) (cs := #[.int .i64 LU, .int .i64 LV, .string LW]) (t := 34) ?_; intro y hg w2 hbox hb; have a := ah.mk hbox; have A := SZ (w := w) hg; have xg := A; replace HB := BS (w := w) hb; clear hb hbox hg))
 go_loopg [3, 4] k (fun kq v3 v4 w' => ∃ (l : ByteArray) (m : Int), v3 = .string l ∧ v4 = .int .i64 m ∧ ah (bU.l0 kq l m LU LV LW = some r) ∧ ah (kq ≤ k) ∧ ah (w'.heap[y]? = some (.cells #[.int .i64 LU, .int .i64 LV, .string LW] 34 (0, 0))) ∧ ah (Below w.heap.size w w'))
 case atStart => exact ⟨_, _, EQ, EQ, H', ⟨Nat.le_refl _⟩, ⟨BK⟩, ⟨BL⟩⟩
 case round =>
  clear H';obtain ⟨l, m, rfl, rfl, HA, x, a, HB⟩ := hrel
  cases gk with
  | zero => exact absurd HA.out (by simp [bU.l0])
  | succ k1 =>
   have H := HA.out;clear HA;simp only [bU.l0] at H;have D := ah.mk H;clear H;go_upto_region 3 with (fail)
   go_cut [13] (fun xh wc => ∃ (kq : Nat) (u : Bool), xh = .bool u ∧ ah (bU.j1 kq l m u LU LV LW = some r) ∧ ah (kq ≤ k1) ∧ ah (wc.heap[y]? = some (.cells #[.int .i64 LU, .int .i64 LV, .string LW] 34 (0, 0))) ∧ ah (Below w.heap.size w wc))
   case first =>
    have H := D.out;clear D;obtain ⟨E, G, I, J, K, L⟩ := cz3 a.out;replace H := ifD H; rcases H with ⟨o, H⟩ | ⟨o, H⟩
    ·(first | rw [o] | (simp only [iB, iZ]; rw [o]) | skip);replace H := be H; obtain ⟨xe, A5, H⟩ := H;have H' := ah.mk H;clear H;go_wp2_with (first | (go_at_call 67; (with_reducible refine (bL.calls k1 LU LV LW xe _ A5.out).mono ?_); rintro e xi ⟨rfl, hb⟩; replace a := KB a hb; replace HB := BS (w := w) hb; (try clear hb); (try clear hb2); (try clear hk); (try clear hi)));go_meet;case rel => exact ⟨_, _, EQ, H', ⟨by have := x.out; first | omega | exact Nat.le_refl _⟩, ⟨BK⟩, ⟨BL⟩⟩
    ·(first | rw [o] | (simp only [iB, iZ]; rw [o]) | skip);have H' := ah.mk H;clear H;go_wp2;go_meet;case rel => exact ⟨_, _, EQ, H', ⟨by have := x.out; first | omega | exact Nat.le_refl _⟩, ⟨BK⟩, ⟨BL⟩⟩
   case rest =>
    clear D;obtain ⟨kq, u, rfl, HA, z, a, HB⟩ := hcut
    cases kq with
    | zero => exact absurd HA.out (by simp [bU.j1])
    | succ xf =>
     have H := HA.out;clear HA;simp only [bU.j1] at H;replace H := ifB H; rcases H with ⟨rfl, H⟩ | ⟨rfl, H⟩
     ·replace H := ifN H; obtain ⟨xj, H⟩ := H;replace H := ifN H; obtain ⟨xk, H⟩ := H;obtain ⟨M, O, P, U, Y, Z⟩ := cz3 a.out;have xv : (0 ≤ (m : Int)) = True := OT;have xw : (m < (LW.size : Int)) = True := OT;have hx12 := gF LW m;replace H := ifE H; rcases H with ⟨xa, xb, H⟩ | ⟨xx, xa, xb, H⟩
      ·replace H := ifP H; obtain ⟨xc, H⟩ := H;have xl := eq_true xc;have xm : decide (l.size + 1 ≤ 9223372036854775807) = true := decide_eq_true xc;(try have xn : (9223372036854775807 < l.size + 1) = False := eq_false (Nat.not_lt.2 xc));have H' := ah.mk H;clear H;go_wp2;go_roundg xf;case measure => have := x.out; have := z.out; omega
       case rel => exact ⟨_, _, EQ, EQ, H', kt x z, ⟨BK⟩, ⟨BL⟩⟩
      ·replace H := ifP H; obtain ⟨xd, H⟩ := H;have xo := eq_true xd;have xp : decide (l.size + 1 ≤ 9223372036854775807) = true := decide_eq_true xd;(try have xq : (9223372036854775807 < l.size + 1) = False := eq_false (Nat.not_lt.2 xd));have H' := ah.mk H;clear H;go_wp2;go_roundg xf;case measure => have := x.out; have := z.out; omega
       case rel => exact ⟨_, _, EQ, EQ, H', kt x z, ⟨BK⟩, ⟨BL⟩⟩
     ·obtain rfl := Option.some.inj H;go_wp2;go_ret;exact ⟨EWW, BL⟩
def fO.l0 : Nat → List (S62) → ByteArray → Int → Int → Option (Bool)
 | 0, _, _, _, _ => none
 | k + 1, a, b, c, d => if d < (a.length : Int) then (if 0 ≤ d then (if ((eT a d).f0).toList = b.toList then (if ((eT a d).f1) = c then (some true) else (fO.l0 k a b c (wrap64 (d + 1)))) else (fO.l0 k a b c (wrap64 (d + 1)))) else (none)) else (some false)
def fO.f (k : Nat) (l0 : List (S62)) (a1 : ByteArray) (a2 : Int) : Option (Bool) := fO.l0 k l0 a1 a2 0
theorem fO.calls (k : Nat) (A0 : Option Addr) (c0 : Nat) (l0 : List (S62)) (a1 : ByteArray) (a2 : Int) (r : Bool) (w : World) (A : Kd.C k62 w A0 l0.length l0) (D : l0.length ≤ c0) (h : fO.f k l0 a1 a2 = some r) :
  Calls Tryz.prog 68 #[.slice A0 l0.length c0, .string a1, .int .i64 a2] w fun e w' => e = .returned (.bool r) ∧ dn w w' := by
 have E := ah.mk A;have xf := ah.mk D;clear A D;have H : (fO.l0 k l0 a1 a2 0) = some r := h;clear h;have H' := ah.mk H;clear H;go_enter Tryz.func68, Tryz.ntmps68;go_wp2
 go_loopg [7] k (fun kq v7 w' => ∃ (a : Int), v7 = .int .i64 a ∧ ah (fO.l0 kq l0 a1 a2 a = some r) ∧ ah (kq ≤ k) ∧ dn w w')
 case atStart => exact ⟨_, EQ, H', ⟨Nat.le_refl _⟩, DR⟩
 case round =>
  clear H';obtain ⟨a, rfl, HA, x, ⟨m1, rfl⟩⟩ := hrel
  cases gk with
  | zero => exact absurd HA.out (by simp [fO.l0])
  | succ k1 =>
   have H := HA.out;clear HA;simp only [fO.l0] at H;replace H := ifD H; rcases H with ⟨G, H⟩ | ⟨G, H⟩
   ·replace H := ifN H; obtain ⟨xe, H⟩ := H;have l : 0 ≤ (a : Int) := OD;have m : a < (l0.length : Int) := OD;obtain ⟨y, I, J, K⟩ := Bg E.out a l m
    cases I
    replace l := eq_true l;replace m := eq_true m;replace H := ifE H; rcases H with ⟨L, M, H⟩ | ⟨c6, L, M, H⟩
    ·have o : 0 ≤ (a : Int) := OD;have u : a < (l0.length : Int) := OD;obtain ⟨z, O, P, U⟩ := Bg E.out a o u;obtain rfl : y = z := (by injection O);replace o := eq_true o;replace u := eq_true u;replace H := ifE H; rcases H with ⟨Y, Z, H⟩ | ⟨c7, Y, Z, H⟩
     ·obtain rfl := Option.some.inj H;go_wp2;go_ret;exact ⟨EQ, DR⟩
     ·have H' := ah.mk H;clear H;go_wp2;go_roundg k1;case measure => have := x.out; omega
      case rel => exact ⟨_, EQ, H', ks x, DR⟩
    ·have H' := ah.mk H;clear H;go_wp2;go_roundg k1;case measure => have := x.out; omega
     case rel => exact ⟨_, EQ, H', ks x, DR⟩
   ·obtain rfl := Option.some.inj H;go_wp2;go_ret;exact ⟨EQ, DR⟩
mutual
def aZ.l0 : Nat → ByteArray → ByteArray → Int → Option (ByteArray)
 | 0, _, _, _ => none
 | k + 1, a, b, c => if c ≤ 122 then ((bE.f k a).bind fun d => (aZ.j1 k a b c d)) else (aZ.j1 k a b c false)
def aZ.j1 : Nat → ByteArray → ByteArray → Int → Bool → Option (ByteArray)
 | 0, _, _, _, _ => none
 | k + 1, a, b, c, d => if d = true then (aZ.l1 k a b c 0) else (some b)
def aZ.l1 : Nat → ByteArray → ByteArray → Int → Int → Option (ByteArray)
 | 0, _, _, _, _ => none
 | k + 1, a, b, c, d => if d < (a.size : Int) then (if 0 ≤ d then (if (wrap32 (bt a d)) = c then (if d ≤ (wrap64 (d + 1)) then (if (wrap64 (d + 1)) ≤ (a.size : Int) then (if b.size + (a.extract (d : Int).toNat ((wrap64 (d + 1)) : Int).toNat).size ≤ 9223372036854775807 then (aZ.l1 k a (b ++ (a.extract (d : Int).toNat ((wrap64 (d + 1)) : Int).toNat)) c (wrap64 (d + 1))) else (none)) else (none)) else (none)) else (aZ.l1 k a b c (wrap64 (d + 1)))) else (none)) else (aZ.l0 k a b (wrap32 (c + 1)))
end
def aZ.f (k : Nat) (a0 : ByteArray) : Option (ByteArray) := aZ.l0 k a0 (⟨#[]⟩ : ByteArray) 97
theorem aZ.calls (k : Nat) (D r : ByteArray) (w : World) (h : aZ.f k D = some r) :
  Calls Tryz.prog 159 #[.string D] w fun e w' => e = .returned (.string r) ∧ dn w w' := by
 unfold aZ.f at h;have H := h;clear h;have H' := ah.mk H;clear H;go_enter Tryz.func159, Tryz.ntmps159;go_wp2
 go_loopg [3, 4] k (fun kq U v4 w' => ∃ (y : ByteArray) (l : Int), U = .string y ∧ v4 = .int .i32 l ∧ ah (aZ.l0 kq D y l = some r) ∧ ah (kq ≤ k) ∧ dn w w')
 case atStart => exact ⟨_, _, EQ, EQ, H', ⟨Nat.le_refl _⟩, DR⟩
 case round =>
  clear H';obtain ⟨y, l, rfl, rfl, HA, m, ⟨m1, rfl⟩⟩ := hrel
  cases gk with
  | zero => exact absurd HA.out (by simp [aZ.l0])
  | succ k1 =>
   have H := HA.out;clear HA;simp only [aZ.l0] at H;have E := ah.mk H;clear H;go_upto_region 3 with (fail)
   go_cut [11] (fun Y wc => ∃ (kq : Nat) (x : Bool), Y = .bool x ∧ ah (aZ.j1 kq D y l x = some r) ∧ ah (kq ≤ k1) ∧ dn w wc)
   case first =>
    have H := E.out;clear E;replace H := ifD H; rcases H with ⟨o, H⟩ | ⟨o, H⟩
    ·(first | rw [o] | (simp only [iB, iZ]; rw [o]) | skip);replace H := be H; obtain ⟨I, A4, H⟩ := H;have H' := ah.mk H;clear H;go_wp2_with (first | (go_at_call 104; (with_reducible refine (bE.calls k1 D I _ A4.out).mono ?_); rintro e w' ⟨rfl, ⟨nd, rfl⟩⟩));go_meet;case rel => exact ⟨_, _, EQ, H', ⟨by have := m.out; first | omega | exact Nat.le_refl _⟩, DR⟩
    ·(first | rw [o] | (simp only [iB, iZ]; rw [o]) | skip);have H' := ah.mk H;clear H;go_wp2;go_meet;case rel => exact ⟨_, _, EQ, H', ⟨by have := m.out; first | omega | exact Nat.le_refl _⟩, DR⟩
   case rest =>
    clear E;obtain ⟨kq, x, rfl, HA, z, ⟨mc1, rfl⟩⟩ := hcut
    cases kq with
    | zero => exact absurd HA.out (by simp [aZ.j1])
    | succ J =>
     have H := HA.out;clear HA;simp only [aZ.j1] at H;replace H := ifB H; rcases H with ⟨rfl, H⟩ | ⟨rfl, H⟩
     ·have H' := ah.mk H;clear H;go_wp2
      go_loopg [3, 5] J (fun kq U v5 w' => ∃ (u : ByteArray) (a : Int), U = .string u ∧ v5 = .int .i64 a ∧ ah (aZ.l1 kq D u l a = some r) ∧ ah (kq ≤ J) ∧ dn w w')
      case atStart => exact ⟨_, _, EQ, EQ, H', ⟨Nat.le_refl _⟩, DR⟩
      case round =>
       clear H';(try clear c5);obtain ⟨u, a, rfl, rfl, HA, A, ⟨m3, rfl⟩⟩ := hrel
       cases gk with
       | zero => exact absurd HA.out (by simp [aZ.l1])
       | succ k3 =>
        have H := HA.out;clear HA;simp only [aZ.l1] at H;replace H := ifD H; rcases H with ⟨K, H⟩ | ⟨K, H⟩
        ·replace H := ifN H; obtain ⟨xh, H⟩ := H;have p8 : (0 ≤ (a : Int)) = True := OT;have q8 : (a < (D.size : Int)) = True := OT;have hx8 := gF D a;replace H := ifE H; rcases H with ⟨L, M, H⟩ | ⟨c9, L, M, H⟩
         ·have Z := eq_true (OD : 0 ≤ a);replace H := ifP H; obtain ⟨O, H⟩ := H;have xa := eq_true O;have xb : decide (a ≤ (wrap64 (a + 1))) = true := decide_eq_true O;replace H := ifP H; obtain ⟨P, H⟩ := H;have xc := eq_true P;have xd : decide ((wrap64 (a + 1)) ≤ (D.size : Int)) = true := decide_eq_true P;replace H := ifP H; obtain ⟨G, H⟩ := H;have xe := eq_true G;have xf : decide (u.size + (D.extract (a : Int).toNat ((wrap64 (a + 1)) : Int).toNat).size ≤ 9223372036854775807) = true := decide_eq_true G;(try have xg : (9223372036854775807 < u.size + (D.extract (a : Int).toNat ((wrap64 (a + 1)) : Int).toNat).size) = False := eq_false (Nat.not_lt.2 G));have H' := ah.mk H;clear H;go_wp2;go_roundg k3;case measure => have := m.out; have := z.out; have := A.out; omega
          case rel => exact ⟨_, _, EQ, EQ, H', ⟨by have := m.out; have := z.out; have := A.out; omega⟩, DR⟩
         ·have H' := ah.mk H;clear H;go_wp2;go_roundg k3;case measure => have := m.out; have := z.out; have := A.out; omega
          case rel => exact ⟨_, _, EQ, EQ, H', ⟨by have := m.out; have := z.out; have := A.out; omega⟩, DR⟩
        ·have H' := ah.mk H;clear H;go_wp2;go_roundg k3;case measure => have := m.out; have := z.out; have := A.out; omega
         case rel => exact ⟨_, _, EQ, EQ, H', ⟨by have := m.out; have := z.out; have := A.out; omega⟩, DR⟩
     ·obtain rfl := Option.some.inj H;go_wp2;go_ret;exact ⟨EQ, DR⟩
def iK.f (k : Nat) (a0 a1 : ByteArray) : Option (Bool) := (bE.f k a0).bind fun t402 => (if t402 = true then ((bE.f k a1).bind fun t403 => (if t403 = true then (if a0.toList = a1.toList then (some false) else ((aZ.f k a0).bind fun t404 => ((aZ.f k a1).bind fun t405 => (some (t404.toList == t405.toList))))) else (some false))) else (some false))
theorem iK.calls (k : Nat) (a x : ByteArray) (r : Bool) (w : World) (h : iK.f k a x = some r) :
  Calls Tryz.prog 133 #[.string a, .string x] w fun e w' => e = .returned (.bool r) ∧ dn w w' := by
 unfold iK.f at h;have H := h;clear h;replace H := be H; obtain ⟨y, A, H⟩ := H;replace H := ah.mk H;go_enter Tryz.func133, Tryz.ntmps133;go_wp2_with (first | ((with_reducible refine ay (f := 104) rfl ?_); refine bg (some 6) Tryz.func104 #[.string a] ?_; (with_reducible refine (bE.calls k a _ _ A.out).mono ?_); rintro e w' ⟨rfl, ⟨nd, rfl⟩⟩; refine ⟨_, rfl, ?_⟩; refine cB ?_));refine Hide.mk ?_;replace H := H.out;replace H := ifB H; rcases H with ⟨rfl, H⟩ | ⟨rfl, H⟩
 ·replace H := be H; obtain ⟨z, D, H⟩ := H;replace H := ah.mk H;go_wp2_with (first | (go_at_call 104; (with_reducible refine (bE.calls k x _ _ D.out).mono ?_); rintro e w' ⟨rfl, ⟨nd, rfl⟩⟩; refine cB ?_));refine Hide.mk ?_;replace H := H.out;replace H := ifB H; rcases H with ⟨rfl, H⟩ | ⟨rfl, H⟩
  ·replace H := ifE H; rcases H with ⟨l, m, H⟩ | ⟨c7, l, m, H⟩
   ·obtain rfl := Option.some.inj H;(try go_wp2);go_ret;exact ⟨EQ, DR⟩
   ·replace H := be H; obtain ⟨o, E, H⟩ := H;replace H := be H; obtain ⟨u, G, H⟩ := H;obtain rfl := Option.some.inj H;(try go_wp2_with (first | (go_at_call 159; (with_reducible refine (aZ.calls k a o _ E.out).mono ?_); rintro e w' ⟨rfl, ⟨nd, rfl⟩⟩) | (go_at_call 159; (with_reducible refine (aZ.calls k x u _ G.out).mono ?_); rintro e w' ⟨rfl, ⟨nd, rfl⟩⟩)));go_ret;exact ⟨EQ, DR⟩
  ·obtain rfl := Option.some.inj H;(try go_wp2);go_ret;exact ⟨EQ, DR⟩
 ·obtain rfl := Option.some.inj H;(try go_wp2);go_ret;exact ⟨EQ, DR⟩
def cu.l0 (M : Nat → List (bQ) → Int → ByteArray → Option Bool) : Nat → List (bQ) → ByteArray → Int → Int → ByteArray → Int → Int → Option (Bool)
 | 0, _, _, _, _, _, _, _ => none
 | k + 1, a, b, c, d, e, f, g => if c < (b.size : Int) then (if 0 ≤ c then (if c ≤ (b.size : Int) then ((M k a f (b.extract 0 (c : Int).toNat)).bind fun h => (if h = true then ((M k a g (b.extract (c : Int).toNat b.size)).bind fun i => (if i = true then (some true) else (cu.l0 M k a b (wrap64 (c + 1)) d e f g))) else (cu.l0 M k a b (wrap64 (c + 1)) d e f g))) else (none)) else (none)) else (some false)
def cu.f (M : Nat → List (bQ) → Int → ByteArray → Option Bool) (k : Nat) (l0 : List (bQ)) (a1_0 : Int) (a1_1 : ByteArray) (a1_2 a1_3 : Int) (a2 : ByteArray) : Option (Bool) := cu.l0 M k l0 a2 1 a1_0 a1_1 a1_2 a1_3
def cu.T4 : Bool × List (List Nat × List Nat) := (true, [([], []), ([], []), ([1], [1]), ([], []), ([], []), ([3, 4], [3, 4]), ([0, 2, 5], [0, 2, 5]), ([6, 6], [6]), ([7], [7]), ([7], [7]), ([9, 7], [7, 9]), ([7], [7]), ([7], [7]), ([11, 12, 7], [7, 11, 12]), ([8, 10, 13, 7, 7], [7, 8, 10, 13]), ([7, 14], [7, 14])])
def cu.B4 : List Nat := [0, 0, 2, 0, 0, 24, 63, 127, 255, 255, 767, 255, 255, 6399, 16383, 32767]
theorem cu.KT : lN .any (opsOf Tryz.f134 4) = cu.T4 := by kernel_rfl
theorem cu.Ig : jD cu.T4.2 cu.B4 = true := by kernel_rfl
theorem cu.calls (M : Nat → List (bQ) → Int → ByteArray → Option Bool) (hM : ∀ (j : Nat) (A : Option Addr) (c : Nat) (l : List (bQ)) (i : Int) (s : ByteArray) (b : Bool) (W : World), Kd.C iH W A l.length l → l.length ≤ c → M j l i s = some b → Calls Tryz.prog 105 #[.slice A l.length c, .int .i64 i, .string s] W fun e w' => e = .returned (.bool b) ∧ Below W.heap.size W w') (k : Nat) (A0 : Option Addr) (c0 : Nat) (l0 : List (bQ)) (y : Int) (z : ByteArray) (o u : Int) (D : ByteArray) (r : Bool) (w : World) (P : Kd.C iH w A0 l0.length l0) (U : l0.length ≤ c0) (h : cu.f M k l0 y z o u D = some r) :
  Calls Tryz.prog 134 #[.slice A0 l0.length c0, .agg #[.int .i64 y, .string z, .int .i64 o, .int .i64 u], .string D] w fun e w' => e = .returned (.bool r) ∧ Below w.heap.size w w' := by
 have xc := Tryz.underlying121;have E := ah.mk P;have G := ah.mk U;clear P U;have HB := ah.mk (Below.refl w.heap.size w);have HMM := ah.mk hM;clear hM;unfold cu.f at h;have H := h;clear h;have H' := ah.mk H;clear H;go_enter Tryz.func134, Tryz.ntmps134;go_wp2_with (first | ((with_reducible refine aJ (N := 4) rfl ?_); refine bf (N := 4) (cs := #[.int .i64 y, .string z, .int .i64 o, .int .i64 u]) (t := 121) ?_; intro x hg w4 hbox hb; have a := ah.mk hbox; have J := SZ (w := w) hg; have xd := J; replace HB := BS (w := w) hb; clear hb hbox hg))
 go_loopg [7] k (fun kq v7 w' => ∃ (m : Int), v7 = .int .i64 m ∧ ah (cu.l0 M kq l0 D m y z o u = some r) ∧ ah (kq ≤ k) ∧ ah (w'.heap[x]? = some (.cells #[.int .i64 y, .string z, .int .i64 o, .int .i64 u] 121 (0, 0))) ∧ ah (Below w.heap.size w w'))
 case atStart => exact ⟨_, EQ, H', ⟨Nat.le_refl _⟩, ⟨BK⟩, ⟨BL⟩⟩
 case round =>
  clear H';obtain ⟨m, rfl, HA, I, a, HB⟩ := hrel
  cases gk with
  | zero => exact absurd HA.out (by simp [cu.l0])
  | succ k1 =>
   have H := HA.out;clear HA;simp only [cu.l0] at H;replace H := ifD H; rcases H with ⟨Y, H⟩ | ⟨Y, H⟩
   ·replace H := ifP H; obtain ⟨c6, H⟩ := H;have xh := eq_true c6;have xi : decide (0 ≤ m) = true := decide_eq_true c6;clear c6;replace H := ifP H; obtain ⟨c7, H⟩ := H;have xj := eq_true c7;have xk : decide (m ≤ (D.size : Int)) = true := decide_eq_true c7;clear c7;replace H := be H; obtain ⟨xl, A8, H⟩ := H;replace H := ah.mk H;(try go_wp2);replace a := ah.mk (aH a.out);replace HB := ah.mk (dR HB.out);refine jS (n := 16) (S := fun w' => w'.cell? ⟨x, 0, none⟩ = some (.int .i64 y) ∧ w'.cell? ⟨x, 1, none⟩ = some (.string z) ∧ w'.cell? ⟨x, 2, none⟩ = some (.int .i64 o) ∧ w'.cell? ⟨x, 3, none⟩ = some (.int .i64 u)) (ds := []) #[F,F,F,F,F,F,F,F,F,F,F,F,F,F,F,F] (by kernel_rfl) rfl rfl ⟨(ak a.out 0).trans rfl, (ak a.out 1).trans rfl, (ak a.out 2).trans rfl, (ak a.out 3).trans rfl⟩ (fun hHeld => ?_); refine jk cu.KT cu.Ig (fun HT_ HW_ => ?_);generalize wr.drew = xe at a HB hHeld ⊢;refine pS 0 (some 14) #[T,F,F,F,F,F,F,F,F,F,F,F,F,F,F,F] ?_;refine pS 1 (some 15) #[T,T,F,F,F,F,F,F,F,F,F,F,F,F,F,F] ?_;refine pS 3 (some 17) #[T,T,F,T,F,F,F,F,F,F,F,F,F,F,F,F] ?_;refine pS 4 (some 18) #[T,T,F,T,T,F,F,F,F,F,F,F,F,F,F,F] ?_;refine pS 5 (some 19) #[T,T,F,T,T,T,F,F,F,F,F,F,F,F,F,F] ?_;refine tS 2 (some 16) #[T,T,T,T,T,T,F,F,F,F,F,F,F,F,F,F] ?_;refine mh (i := 6) (N := some 20) #[T,T,T,T,T,T,T,F,F,F,F,F,F,F,F,F] rfl rfl (jA HT_.out (by kernel_rfl)) (by decide) (fun K hK => ?_);refine jq Tryz.func105 #[.slice A0 l0.length c0, .int .i64 o, .string (D.extract 0 (m : Int).toNat)] ?_;replace H := H.out;replace H := ifB H; rcases H with ⟨rfl, H⟩ | ⟨rfl, H⟩
    ·have xf := eq_true (OD : 0 ≤ m);have xg := eq_true (OD : m ≤ (D.size : Int));replace H := be H; obtain ⟨xn, Z, H⟩ := H;replace H := ah.mk H;(with_reducible refine (HMM.out k1 _ _ l0 o (D.extract 0 (m : Int).toNat) true _ ?side1 ?side2 A8.out).mono ?_);(case side1 => exact CB E);(case side2 => exact G.out);rintro e L ⟨rfl, hb⟩;refine ⟨_, rfl, ?_⟩;replace a := KB a hb;replace HB := BS (w := w) hb;(try clear hb);refine hK.out _ _ ⟨(ak a.out 0).trans rfl, (ak a.out 1).trans rfl, (ak a.out 2).trans rfl, (ak a.out 3).trans rfl⟩ (fun hHeld => ?_);clear hK K;refine nrm (some 20) ?_;refine pS 7 (some 21) #[T,T,T,T,T,T,T,T,F,F,F,F,F,F,F,F] ?_;refine pS 8 (some 22) #[T,T,T,T,T,T,T,T,T,F,F,F,F,F,F,F] ?_;refine pS 9 (some 23) #[T,T,T,T,T,T,T,T,T,T,F,F,F,F,F,F] ?_;refine pS 11 (some 25) #[T,T,T,T,T,T,T,T,T,T,F,T,F,F,F,F] ?_;refine pS 12 (some 26) #[T,T,T,T,T,T,T,T,T,T,F,T,T,F,F,F] ?_;refine pS 13 (some 27) #[T,T,T,T,T,T,T,T,T,T,F,T,T,T,F,F] ?_;refine tS 10 (some 24) #[T,T,T,T,T,T,T,T,T,T,T,T,T,T,F,F] ?_;refine mh (i := 14) (N := some 28) #[T,T,T,T,T,T,T,T,T,T,T,T,T,T,T,F] rfl rfl (jA HT_.out (by kernel_rfl)) (by decide) (fun K hK => ?_);refine jq Tryz.func105 #[.slice A0 l0.length c0, .int .i64 u, .string (D.extract (m : Int).toNat D.size)] ?_;replace H := H.out;replace H := ifB H; rcases H with ⟨rfl, H⟩ | ⟨rfl, H⟩
     ·obtain rfl := Option.some.inj H;(with_reducible refine (HMM.out k1 _ _ l0 u (D.extract (m : Int).toNat D.size) true _ ?side1 ?side2 Z.out).mono ?_);(case side1 => exact CB E);(case side2 => exact G.out);rintro e O ⟨rfl, hb⟩;refine ⟨_, rfl, ?_⟩;replace a := KB a hb;replace HB := BS (w := w) hb;(try clear hb);refine hK.out _ _ ⟨(ak a.out 0).trans rfl, (ak a.out 1).trans rfl, (ak a.out 2).trans rfl, (ak a.out 3).trans rfl⟩ (fun hHeld => ?_);clear hK K;refine nrm (some 28) ?_;refine pS 15 (some 29) #[T,T,T,T,T,T,T,T,T,T,T,T,T,T,T,T] ?_;refine iU (gX HT_.out (by kernel_rfl)) ?_;(try go_wp2);go_ret;exact ⟨EWW, BL⟩
     ·have H' := ah.mk H;clear H;(with_reducible refine (HMM.out k1 _ _ l0 u (D.extract (m : Int).toNat D.size) false _ ?side1 ?side2 Z.out).mono ?_);(case side1 => exact CB E);(case side2 => exact G.out);rintro e O ⟨rfl, hb⟩;refine ⟨_, rfl, ?_⟩;replace a := KB a hb;replace HB := BS (w := w) hb;(try clear hb);refine hK.out _ _ ⟨(ak a.out 0).trans rfl, (ak a.out 1).trans rfl, (ak a.out 2).trans rfl, (ak a.out 3).trans rfl⟩ (fun hHeld => ?_);clear hK K;refine nrm (some 28) ?_;refine pS 15 (some 29) #[T,T,T,T,T,T,T,T,T,T,T,T,T,T,T,T] ?_;refine iU (gX HT_.out (by kernel_rfl)) ?_;(try go_wp2);go_roundg k1;case measure => have := I.out; omega
      case rel => exact ⟨_, EQ, H', ks I, ⟨BK⟩, ⟨BL⟩⟩
    ·have H' := ah.mk H;clear H;(with_reducible refine (HMM.out k1 _ _ l0 o (D.extract 0 (m : Int).toNat) false _ ?side1 ?side2 A8.out).mono ?_);(case side1 => exact CB E);(case side2 => exact G.out);rintro e L ⟨rfl, hb⟩;refine ⟨_, rfl, ?_⟩;replace a := KB a hb;replace HB := BS (w := w) hb;(try clear hb);refine hK.out _ _ ⟨(ak a.out 0).trans rfl, (ak a.out 1).trans rfl, (ak a.out 2).trans rfl, (ak a.out 3).trans rfl⟩ (fun hHeld => ?_);clear hK K;refine nrm (some 20) ?_;refine pS 7 (some 21) #[T,T,T,T,T,T,T,T,F,F,F,F,F,F,F,F] ?_;refine pU 8 (some 22) #[T,T,T,T,T,T,T,T,T,F,F,F,F,F,F,F] ?_;refine pU 9 (some 23) #[T,T,T,T,T,T,T,T,T,T,F,F,F,F,F,F] ?_;refine pU 10 (some 24) #[T,T,T,T,T,T,T,T,T,T,T,F,F,F,F,F] ?_;refine pU 11 (some 25) #[T,T,T,T,T,T,T,T,T,T,T,T,F,F,F,F] ?_;refine pU 12 (some 26) #[T,T,T,T,T,T,T,T,T,T,T,T,T,F,F,F] ?_;refine pU 13 (some 27) #[T,T,T,T,T,T,T,T,T,T,T,T,T,T,F,F] ?_;refine pU 14 (some 28) #[T,T,T,T,T,T,T,T,T,T,T,T,T,T,T,F] ?_;refine pS 15 (some 29) #[T,T,T,T,T,T,T,T,T,T,T,T,T,T,T,T] ?_;refine iU (gX HT_.out (by kernel_rfl)) ?_;(try go_wp2);go_roundg k1;case measure => have := I.out; omega
     case rel => exact ⟨_, EQ, H', ks I, ⟨BK⟩, ⟨BL⟩⟩
   ·obtain rfl := Option.some.inj H;go_wp2;go_ret;exact ⟨EWW, BL⟩
end Go.Proofs.YthkfjbodohaglaaGreatDoor.PFnExactHalfSolvable
