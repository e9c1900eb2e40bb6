/- Walks of functions: what each computes. -/
import Derived.Test.YthkfjbodohaglaaGreatDoorZGradeOfG0
import Derived.Test.YthkfjbodohaglaaGreatDoorZGradeOfG6
import Derived.Test.YthkfjbodohaglaaGreatDoorZGradeOfG7
import Derived.Test.YthkfjbodohaglaaGreatDoorZGradeOfW
import Derived.Test.YthkfjbodohaglaaGreatDoorZGradeOfShelf
import Derived.Test.YthkfjbodohaglaaGreatDoorZGradeOfHandSort
import Derived.Test.YthkfjbodohaglaaGreatDoorZGradeOfHandForm
import Derived.Test.YthkfjbodohaglaaGreatDoorZGradeOfHandAlone
import Derived.Test.YthkfjbodohaglaaGreatDoorZGradeOfHandReach
import Derived.Test.YthkfjbodohaglaaGreatDoorZGradeOfHandPut
import Derived.Test.YthkfjbodohaglaaGreatDoorZGradeOfHandRepl
namespace Go.Proofs.YthkfjbodohaglaaGreatDoor.PFnExactGradeOf
open Go.RowKit Go.Proofs.YthkfjbodohaglaaGreatDoorW.PrintWords Go.Proofs.YthkfjbodohaglaaGreatDoorW.PrintLast Go.Proofs.YthkfjbodohaglaaGreatDoorW.PrintMore Go.Proofs.YthkfjbodohaglaaGreatDoor.Sq
attribute [local go_sem] jZ ko lT lU jw jy kg kr
set_option maxHeartbeats 8000000
set_option maxRecDepth 100000
set_option linter.unusedVariables false
set_option linter.unusedSimpArgs false
def jD.f (a0 : Int) : Option (Bool) := if a0 = 3 then (some true) else (some (decide (a0 ≥ 6)))
theorem jD.calls (o : Int) (r : Bool) (w : World) (h : jD.f o = some r) :
  Calls Tryz.prog 129 #[.int .i64 o] w fun e w' => e = .returned (.bool r) ∧ cB w w' := by
 unfold jD.f at h;have H := h;clear h;replace H := ah.mk H;go_enter Tryz.func129, Tryz.ntmps129;replace H := H.out;replace H := ifE H; rcases H with ⟨a, m, H⟩ | ⟨c2, a, m, H⟩
 ·obtain rfl := Option.some.inj H;(try go_wp2);go_ret;exact ⟨EQ, DR⟩
 ·obtain rfl := Option.some.inj H;(try go_wp2);go_ret;exact ⟨EQ, DR⟩
def jc.f (a0 : Int) : Option (Bool) := if a0 = 4 then (some true) else (some (a0 == 5))
theorem jc.calls (o : Int) (r : Bool) (w : World) (h : jc.f o = some r) :
  Calls Tryz.prog 130 #[.int .i64 o] w fun e w' => e = .returned (.bool r) ∧ cB w w' := by
 unfold jc.f at h;have H := h;clear h;replace H := ah.mk H;go_enter Tryz.func130, Tryz.ntmps130;replace H := H.out;replace H := ifE H; rcases H with ⟨a, m, H⟩ | ⟨c2, a, m, H⟩
 ·obtain rfl := Option.some.inj H;(try go_wp2);go_ret;exact ⟨EQ, DR⟩
 ·obtain rfl := Option.some.inj H;(try go_wp2);go_ret;exact ⟨EQ, DR⟩
mutual
def bV.l0 : Nat → List (dG) → List (dG) → Int → Int → Option (Bool)
 | 0, _, _, _, _ => none
 | k + 1, a, b, c, d => if d < c then (if 0 ≤ d then (if d < (b.length : Int) then ((dw.f ((aj b d).f0) 1 9).bind fun e => (if e = true then (if ((aj b d).f0) = 1 then ((bK.f k ((aj b d).f1)).bind fun f => (if f = true then (if ((aj b d).f2) = 0 then (if ((aj b d).f3) = 0 then (bV.l0 k a b c (wrap64 (d + 1))) else (some false)) else (some false)) else (some false))) else (if ((aj b d).f1).toList = ([] : List UInt8) then ((lM.f ((aj b d).f2) d).bind fun g => (if g = true then ((jD.f ((aj b d).f0)).bind fun h => (if h = true then (if 0 ≤ ((aj b d).f2) then (if ((aj b d).f2) < (a.length : Int) then (bV.j1 k a d b c d (((aj a ((aj b d).f2)).f0) != 1) ((aj b d).f0) ((aj b d).f1) ((aj b d).f2) ((aj b d).f3)) else (none)) else (none)) else (bV.j1 k a d b c d false ((aj b d).f0) ((aj b d).f1) ((aj b d).f2) ((aj b d).f3)))) else (bV.j1 k a d b c d true ((aj b d).f0) ((aj b d).f1) ((aj b d).f2) ((aj b d).f3)))) else (bV.j1 k a d b c d true ((aj b d).f0) ((aj b d).f1) ((aj b d).f2) ((aj b d).f3)))) else (some false))) else (none)) else (none)) else (some true)
def bV.j1 : Nat → List (dG) → Int → List (dG) → Int → Int → Bool → Int → ByteArray → Int → Int → Option (Bool)
 | 0, _, _, _, _, _, _, _, _, _, _ => none
 | k + 1, a, b, c, d, e, f, g, h, i, j => if f = true then (some false) else ((jc.f g).bind fun l => (if l = true then ((lM.f j b).bind fun m => (if m = true then ((jc.f g).bind fun n => (if n = true then (bV.l0 k a c d (wrap64 (e + 1))) else (if j = 0 then (bV.l0 k a c d (wrap64 (e + 1))) else (some false)))) else (some false))) else ((jc.f g).bind fun o => (if o = true then (bV.l0 k a c d (wrap64 (e + 1))) else (if j = 0 then (bV.l0 k a c d (wrap64 (e + 1))) else (some false))))))
end
def bV.f (k : Nat) (l0 : List (dG)) : Option (Bool) := (dw.f (l0.length : Int) 1 9).bind fun t545 => (if t545 = true then (bV.l0 k l0 l0 (l0.length : Int) 0) else (some false))
theorem bV.calls (k : Nat) (A0 : Option Addr) (c0 : Nat) (l0 : List (dG)) (r : Bool) (w : World) (xR : Kd.C jE w A0 l0.length l0) (xS : l0.length ≤ c0) (h : bV.f k l0 = some r) :
  Calls Tryz.prog 102 #[.slice A0 l0.length c0] w fun e w' => e = .returned (.bool r) ∧ Below w.heap.size w w' := by
 have xY := Tryz.underlying121;have xT := ah.mk xR;have yx := ah.mk xS;clear xR xS;have HB := ah.mk (Below.refl w.heap.size w);unfold bV.f at h;have H := h;clear h;replace H := be H; obtain ⟨yo, A2, H⟩ := H;replace H := ah.mk H;go_enter Tryz.func102, Tryz.ntmps102;go_wp2_with (first | ((with_reducible refine ay (f := 60) rfl ?_); refine aW (some 7) Tryz.func60 #[.int .i64 (l0.length : Int), .int .i64 1, .int .i64 9] ?_; (with_reducible refine (dw.calls (l0.length : Int) 1 9 _ _ A2.out).mono ?_); rintro e w' ⟨rfl, ⟨nd, rfl⟩⟩; refine ⟨_, rfl, ?_⟩; refine bP ?_));refine Hide.mk ?_;replace H := H.out;replace H := ifB H; rcases H with ⟨rfl, H⟩ | ⟨rfl, H⟩
 ·have H' := ah.mk H;clear H;try go_wp2
  go_loopg [11] k (fun kq xZ w' => ∃ (a : Int), xZ = .int .i64 a ∧ ah (bV.l0 kq l0 l0 (l0.length : Int) a = some r) ∧ ah (kq ≤ k) ∧ ah (Below w.heap.size w w'))
  case atStart => exact ⟨_, EQ, H', ⟨Nat.le_refl _⟩, ⟨BL⟩⟩
  case round =>
   clear H';(try clear c3);obtain ⟨a, rfl, HA, A, HB⟩ := hrel
   cases gk with
   | zero => exact absurd HA.out (by simp [bV.l0])
   | succ k1 =>
    have H := HA.out;clear HA;simp only [bV.l0] at H;replace H := ifD H; rcases H with ⟨xo, H⟩ | ⟨xo, H⟩
    ·replace H := ifN H; obtain ⟨xU, H⟩ := H;replace H := ifN H; obtain ⟨xV, H⟩ := H;replace H := be H; obtain ⟨yp, A7, H⟩ := H;have xe : 0 ≤ (a : Int) := OD;have xf : a < (l0.length : Int) := OD;obtain ⟨K, xW, D, E, G, I⟩ := jT xT.out a xe xf
     cases xW
     (try replace D := (HB.out.cell (World.block_lt_of_cell? w _ D)).trans D);(try replace E := (HB.out.cell (World.block_lt_of_cell? w _ E)).trans E);(try replace G := (HB.out.cell (World.block_lt_of_cell? w _ G)).trans G);(try replace I := (HB.out.cell (World.block_lt_of_cell? w _ I)).trans I);replace xe := eq_true xe;replace xf := eq_true xf;replace H := ah.mk H;go_wp2_with (first | ((with_reducible refine aJ (N := 4) rfl ?_); refine aY (N := 4) (cs := #[.int .i64 0, .string (⟨#[]⟩ : ByteArray), .int .i64 0, .int .i64 0]) (t := 121) ?_; intro o hg ya hbox hb; have z := ah.mk hbox; have L := SZ (w := w) hg; have yb := L; replace HB := BS (w := w) hb; clear hb hbox hg; obtain ⟨P, U, Y, Z, xa, xb, xc, xd⟩ := cz4 z.out) | ((with_reducible refine ay (f := 60) rfl ?_); refine aW (some 18) Tryz.func60 #[.int .i64 ((aj l0 a).f0), .int .i64 1, .int .i64 9] ?_; (with_reducible refine (dw.calls ((aj l0 a).f0) 1 9 _ _ A7.out).mono ?_); rintro e w' ⟨rfl, ⟨nd, rfl⟩⟩; refine ⟨_, rfl, ?_⟩; refine bP ?_));refine Hide.mk ?_;replace H := H.out;replace H := ifB H; rcases H with ⟨rfl, H⟩ | ⟨rfl, H⟩
     ·replace H := ifE H; rcases H with ⟨xp, xq, H⟩ | ⟨c9, xp, xq, H⟩
      ·replace H := be H; obtain ⟨yq, yc, H⟩ := H;replace H := ah.mk H;go_wp2_with (first | ((with_reducible refine ay (f := 112) rfl ?_); refine aW (some 25) Tryz.func112 #[.string ((aj l0 a).f1)] ?_; (with_reducible refine (bK.calls k1 ((aj l0 a).f1) _ _ yc.out).mono ?_); rintro e w' ⟨rfl, ⟨nd, rfl⟩⟩; refine ⟨_, rfl, ?_⟩; refine bP ?_));refine Hide.mk ?_;replace H := H.out;replace H := ifB H; rcases H with ⟨rfl, H⟩ | ⟨rfl, H⟩
       ·replace H := ifE H; rcases H with ⟨xr, xs, H⟩ | ⟨yz, xr, xs, H⟩
        ·replace H := ifE H; rcases H with ⟨xt, xu, H⟩ | ⟨yA, xt, xu, H⟩
         ·have H' := ah.mk H;clear H;(try go_wp2);go_roundg k1;case measure => have := A.out; omega
          case rel => exact ⟨_, EQ, H', ks A, ⟨BL⟩⟩
         ·obtain rfl := Option.some.inj H;(try go_wp2);go_ret;exact ⟨EWW, BL⟩
        ·obtain rfl := Option.some.inj H;(try go_wp2);go_ret;exact ⟨EWW, BL⟩
       ·obtain rfl := Option.some.inj H;(try go_wp2);go_ret;exact ⟨EWW, BL⟩
      ·have xh := ah.mk H;clear H;go_upto_region 11 with (fail);(try simp only [Act.put, List.setIfInBounds_toArray, List.set_cons_zero, List.set_cons_succ])
       go_cut [60] (fun yd wc => ∃ (kq : Nat) (O : Bool), yd = .bool O ∧ ah (bV.j1 kq l0 a l0 (l0.length : Int) a O ((aj l0 a).f0) ((aj l0 a).f1) ((aj l0 a).f2) ((aj l0 a).f3) = some r) ∧ ah (kq ≤ k1) ∧ ah (wc.heap[o]? = some (.cells #[.int .i64 ((aj l0 a).f0), .string ((aj l0 a).f1), .int .i64 ((aj l0 a).f2), .int .i64 ((aj l0 a).f3)] 121 (0, 0))) ∧ ah (Below w.heap.size w wc))
       case first =>
        have H := xh.out;clear xh;obtain ⟨xv, xw, xx, xy, xz, xA, xB, xC⟩ := cz4 z.out;replace H := ifE H; rcases H with ⟨M, xD, H⟩ | ⟨yB, M, xD, H⟩
        ·(first | rw [M] | (simp only [gZ, iT]; rw [M]) | skip);replace H := be H; obtain ⟨yr, ye, H⟩ := H;replace H := ah.mk H;go_wp2_with (first | (go_at_call 127; (with_reducible refine (lM.calls ((aj l0 a).f2) a _ _ ye.out).mono ?_); rintro e w' ⟨rfl, ⟨nd, rfl⟩⟩; refine bP ?_));refine Hide.mk ?_;replace H := H.out;replace H := ifB H; rcases H with ⟨rfl, H⟩ | ⟨rfl, H⟩
         ·replace H := be H; obtain ⟨ys, yf, H⟩ := H;replace H := ah.mk H;go_wp2_with (first | (go_at_call 129; (with_reducible refine (jD.calls ((aj l0 a).f0) _ _ yf.out).mono ?_); rintro e w' ⟨rfl, ⟨nd, rfl⟩⟩; refine bP ?_));refine Hide.mk ?_;replace H := H.out;replace H := ifB H; rcases H with ⟨rfl, H⟩ | ⟨rfl, H⟩
          ·replace H := ifN H; obtain ⟨yg, H⟩ := H;replace H := ifN H; obtain ⟨yh, H⟩ := H;have H' := ah.mk H;clear H;have xi : 0 ≤ (((aj l0 a).f2) : Int) := OD;have xj : ((aj l0 a).f2) < (l0.length : Int) := OD;obtain ⟨xE, xX, m, u, x, y⟩ := jT xT.out ((aj l0 a).f2) xi xj;obtain rfl : K = xE := (by injection xX);have xk : K.block ≠ o := Nat.ne_of_lt (Nat.lt_of_lt_of_le (by have := World.block_lt_of_cell? _ _ m; first | rwa [add_block] at this | exact this) L.out);have xl : K.block ≠ o := Nat.ne_of_lt (Nat.lt_of_lt_of_le (by have := World.block_lt_of_cell? _ _ m; first | rwa [add_block] at this | exact this) L.out);have xm : K.block ≠ o := Nat.ne_of_lt (Nat.lt_of_lt_of_le (by have := World.block_lt_of_cell? _ _ m; first | rwa [add_block] at this | exact this) L.out);have xn : K.block ≠ o := Nat.ne_of_lt (Nat.lt_of_lt_of_le (by have := World.block_lt_of_cell? _ _ m; first | rwa [add_block] at this | exact this) L.out);replace m := (HB.out.cell (World.block_lt_of_cell? w _ m)).trans m;replace u := (HB.out.cell (World.block_lt_of_cell? w _ u)).trans u;replace x := (HB.out.cell (World.block_lt_of_cell? w _ x)).trans x;replace y := (HB.out.cell (World.block_lt_of_cell? w _ y)).trans y;replace m := (cell_far (p := ⟨o, 0, none⟩) AB (.int .i64 ((aj l0 a).f0))).trans m;replace u := (cell_far (p := ⟨o, 0, none⟩) AB (.int .i64 ((aj l0 a).f0))).trans u;replace x := (cell_far (p := ⟨o, 0, none⟩) AB (.int .i64 ((aj l0 a).f0))).trans x;replace y := (cell_far (p := ⟨o, 0, none⟩) AB (.int .i64 ((aj l0 a).f0))).trans y;replace m := (cell_far (p := ⟨o, 1, none⟩) AB (.string ((aj l0 a).f1))).trans m;replace u := (cell_far (p := ⟨o, 1, none⟩) AB (.string ((aj l0 a).f1))).trans u;replace x := (cell_far (p := ⟨o, 1, none⟩) AB (.string ((aj l0 a).f1))).trans x;replace y := (cell_far (p := ⟨o, 1, none⟩) AB (.string ((aj l0 a).f1))).trans y;replace m := (cell_far (p := ⟨o, 2, none⟩) AB (.int .i64 ((aj l0 a).f2))).trans m;replace u := (cell_far (p := ⟨o, 2, none⟩) AB (.int .i64 ((aj l0 a).f2))).trans u;replace x := (cell_far (p := ⟨o, 2, none⟩) AB (.int .i64 ((aj l0 a).f2))).trans x;replace y := (cell_far (p := ⟨o, 2, none⟩) AB (.int .i64 ((aj l0 a).f2))).trans y;replace m := (cell_far (p := ⟨o, 3, none⟩) AB (.int .i64 ((aj l0 a).f3))).trans m;replace u := (cell_far (p := ⟨o, 3, none⟩) AB (.int .i64 ((aj l0 a).f3))).trans u;replace x := (cell_far (p := ⟨o, 3, none⟩) AB (.int .i64 ((aj l0 a).f3))).trans x;replace y := (cell_far (p := ⟨o, 3, none⟩) AB (.int .i64 ((aj l0 a).f3))).trans y;clear xk xl xm xn;replace xi := eq_true xi;replace xj := eq_true xj;go_wp2;go_meet;case rel => exact ⟨_, _, EQ, H', ⟨by have := A.out; first | omega | exact Nat.le_refl _⟩, ⟨by (with_reducible repeat (first | refine aD ?_ _ | refine aH ?_ | refine aC ?_ _)); refine aX (cs := #[.int .i64 ((aj l0 a).f0), .string ((aj l0 a).f1), .int .i64 ((aj l0 a).f2), .int .i64 0]) ?_ 3 _ rfl; (with_reducible repeat (first | refine aD ?_ _ | refine aH ?_ | refine aC ?_ _)); refine aX (cs := #[.int .i64 ((aj l0 a).f0), .string ((aj l0 a).f1), .int .i64 0, .int .i64 0]) ?_ 2 _ rfl; (with_reducible repeat (first | refine aD ?_ _ | refine aH ?_ | refine aC ?_ _)); refine aX (cs := #[.int .i64 ((aj l0 a).f0), .string (⟨#[]⟩ : ByteArray), .int .i64 0, .int .i64 0]) ?_ 1 _ rfl; (with_reducible repeat (first | refine aD ?_ _ | refine aH ?_ | refine aC ?_ _)); refine aX (cs := #[.int .i64 0, .string (⟨#[]⟩ : ByteArray), .int .i64 0, .int .i64 0]) ?_ 0 _ rfl; (with_reducible repeat (first | refine aD ?_ _ | refine aH ?_ | refine aC ?_ _)); exact z.out⟩, ⟨BL⟩⟩
          ·have H' := ah.mk H;clear H;(try go_wp2);go_meet;case rel => exact ⟨_, _, EQ, H', ⟨by have := A.out; first | omega | exact Nat.le_refl _⟩, ⟨by (with_reducible repeat (first | refine aD ?_ _ | refine aH ?_ | refine aC ?_ _)); refine aX (cs := #[.int .i64 ((aj l0 a).f0), .string ((aj l0 a).f1), .int .i64 ((aj l0 a).f2), .int .i64 0]) ?_ 3 _ rfl; (with_reducible repeat (first | refine aD ?_ _ | refine aH ?_ | refine aC ?_ _)); refine aX (cs := #[.int .i64 ((aj l0 a).f0), .string ((aj l0 a).f1), .int .i64 0, .int .i64 0]) ?_ 2 _ rfl; (with_reducible repeat (first | refine aD ?_ _ | refine aH ?_ | refine aC ?_ _)); refine aX (cs := #[.int .i64 ((aj l0 a).f0), .string (⟨#[]⟩ : ByteArray), .int .i64 0, .int .i64 0]) ?_ 1 _ rfl; (with_reducible repeat (first | refine aD ?_ _ | refine aH ?_ | refine aC ?_ _)); refine aX (cs := #[.int .i64 0, .string (⟨#[]⟩ : ByteArray), .int .i64 0, .int .i64 0]) ?_ 0 _ rfl; (with_reducible repeat (first | refine aD ?_ _ | refine aH ?_ | refine aC ?_ _)); exact z.out⟩, ⟨BL⟩⟩
         ·have H' := ah.mk H;clear H;(try go_wp2);go_meet;case rel => exact ⟨_, _, EQ, H', ⟨by have := A.out; first | omega | exact Nat.le_refl _⟩, ⟨by (with_reducible repeat (first | refine aD ?_ _ | refine aH ?_ | refine aC ?_ _)); refine aX (cs := #[.int .i64 ((aj l0 a).f0), .string ((aj l0 a).f1), .int .i64 ((aj l0 a).f2), .int .i64 0]) ?_ 3 _ rfl; (with_reducible repeat (first | refine aD ?_ _ | refine aH ?_ | refine aC ?_ _)); refine aX (cs := #[.int .i64 ((aj l0 a).f0), .string ((aj l0 a).f1), .int .i64 0, .int .i64 0]) ?_ 2 _ rfl; (with_reducible repeat (first | refine aD ?_ _ | refine aH ?_ | refine aC ?_ _)); refine aX (cs := #[.int .i64 ((aj l0 a).f0), .string (⟨#[]⟩ : ByteArray), .int .i64 0, .int .i64 0]) ?_ 1 _ rfl; (with_reducible repeat (first | refine aD ?_ _ | refine aH ?_ | refine aC ?_ _)); refine aX (cs := #[.int .i64 0, .string (⟨#[]⟩ : ByteArray), .int .i64 0, .int .i64 0]) ?_ 0 _ rfl; (with_reducible repeat (first | refine aD ?_ _ | refine aH ?_ | refine aC ?_ _)); exact z.out⟩, ⟨BL⟩⟩
        ·(first | rw [M] | (simp only [gZ, iT]; rw [M]) | skip);have H' := ah.mk H;clear H;go_wp2;go_meet;case rel => exact ⟨_, _, EQ, H', ⟨by have := A.out; first | omega | exact Nat.le_refl _⟩, ⟨by (with_reducible repeat (first | refine aD ?_ _ | refine aH ?_ | refine aC ?_ _)); refine aX (cs := #[.int .i64 ((aj l0 a).f0), .string ((aj l0 a).f1), .int .i64 ((aj l0 a).f2), .int .i64 0]) ?_ 3 _ rfl; (with_reducible repeat (first | refine aD ?_ _ | refine aH ?_ | refine aC ?_ _)); refine aX (cs := #[.int .i64 ((aj l0 a).f0), .string ((aj l0 a).f1), .int .i64 0, .int .i64 0]) ?_ 2 _ rfl; (with_reducible repeat (first | refine aD ?_ _ | refine aH ?_ | refine aC ?_ _)); refine aX (cs := #[.int .i64 ((aj l0 a).f0), .string (⟨#[]⟩ : ByteArray), .int .i64 0, .int .i64 0]) ?_ 1 _ rfl; (with_reducible repeat (first | refine aD ?_ _ | refine aH ?_ | refine aC ?_ _)); refine aX (cs := #[.int .i64 0, .string (⟨#[]⟩ : ByteArray), .int .i64 0, .int .i64 0]) ?_ 0 _ rfl; (with_reducible repeat (first | refine aD ?_ _ | refine aH ?_ | refine aC ?_ _)); exact z.out⟩, ⟨BL⟩⟩
       case rest =>
        clear xh;(try clear c3);(try clear c4);(try clear xo);(try clear c5);(try clear xU);(try clear c6);(try clear xV);(try clear c8);(try clear c9);(try clear xp);(try clear xq);(try clear P U Y Z xa xb xc xd);(try clear D);(try clear E);(try clear G);(try clear I);(try clear xe);(try clear xf);obtain ⟨kq, O, rfl, HA, J, z, HB⟩ := hcut
        cases kq with
        | zero => exact absurd HA.out (by simp [bV.j1])
        | succ xg =>
         have H := HA.out;clear HA;simp only [bV.j1] at H;replace H := ifB H; rcases H with ⟨rfl, H⟩ | ⟨rfl, H⟩
         ·obtain rfl := Option.some.inj H;go_wp2;go_ret;exact ⟨EWW, BL⟩
         ·replace H := be H; obtain ⟨yt, yi, H⟩ := H;obtain ⟨xF, xG, xH, xI, xJ, xK, xL, xM⟩ := cz4 z.out;replace H := ah.mk H;go_wp2_with (first | ((with_reducible refine ay (f := 130) rfl ?_); refine aW (some 63) Tryz.func130 #[.int .i64 ((aj l0 a).f0)] ?_; (with_reducible refine (jc.calls ((aj l0 a).f0) _ _ yi.out).mono ?_); rintro e w' ⟨rfl, ⟨nd, rfl⟩⟩; refine ⟨_, rfl, ?_⟩; refine bP ?_));refine Hide.mk ?_;replace H := H.out;replace H := ifB H; rcases H with ⟨rfl, H⟩ | ⟨rfl, H⟩
          ·replace H := be H; obtain ⟨yu, yj, H⟩ := H;replace H := ah.mk H;go_wp2_with (first | (go_at_call 127; (with_reducible refine (lM.calls ((aj l0 a).f3) a _ _ yj.out).mono ?_); rintro e w' ⟨rfl, ⟨nd, rfl⟩⟩; refine bP ?_));refine Hide.mk ?_;replace H := H.out;replace H := ifB H; rcases H with ⟨rfl, H⟩ | ⟨rfl, H⟩
           ·replace H := be H; obtain ⟨yv, yk, H⟩ := H;replace H := ah.mk H;go_wp2_with (first | (go_at_call 130; (with_reducible refine (jc.calls ((aj l0 a).f0) _ _ yk.out).mono ?_); rintro e w' ⟨rfl, ⟨nd, rfl⟩⟩; refine bP ?_));refine Hide.mk ?_;replace H := H.out;replace H := ifB H; rcases H with ⟨rfl, H⟩ | ⟨rfl, H⟩
            ·have H' := ah.mk H;clear H;(try go_wp2);go_roundg xg;case measure => have := A.out; have := J.out; omega
             case rel => exact ⟨_, EQ, H', kt A J, ⟨BL⟩⟩
            ·replace H := ifE H; rcases H with ⟨xN, xO, H⟩ | ⟨yC, xN, xO, H⟩
             ·have H' := ah.mk H;clear H;(try go_wp2);go_roundg xg;case measure => have := A.out; have := J.out; omega
              case rel => exact ⟨_, EQ, H', kt A J, ⟨BL⟩⟩
             ·obtain rfl := Option.some.inj H;(try go_wp2);go_ret;exact ⟨EWW, BL⟩
           ·obtain rfl := Option.some.inj H;(try go_wp2);go_ret;exact ⟨EWW, BL⟩
          ·replace H := be H; obtain ⟨yw, yl, H⟩ := H;replace H := ah.mk H;go_wp2_with (first | (go_at_call 130; (with_reducible refine (jc.calls ((aj l0 a).f0) _ _ yl.out).mono ?_); rintro e w' ⟨rfl, ⟨nd, rfl⟩⟩; refine bP ?_));refine Hide.mk ?_;replace H := H.out;replace H := ifB H; rcases H with ⟨rfl, H⟩ | ⟨rfl, H⟩
           ·have H' := ah.mk H;clear H;(try go_wp2);go_roundg xg;case measure => have := A.out; have := J.out; omega
            case rel => exact ⟨_, EQ, H', kt A J, ⟨BL⟩⟩
           ·replace H := ifE H; rcases H with ⟨xP, xQ, H⟩ | ⟨yD, xP, xQ, H⟩
            ·have H' := ah.mk H;clear H;(try go_wp2);go_roundg xg;case measure => have := A.out; have := J.out; omega
             case rel => exact ⟨_, EQ, H', kt A J, ⟨BL⟩⟩
            ·obtain rfl := Option.some.inj H;(try go_wp2);go_ret;exact ⟨EWW, BL⟩
     ·obtain rfl := Option.some.inj H;(try go_wp2);go_ret;exact ⟨EWW, BL⟩
    ·obtain rfl := Option.some.inj H;go_wp2;go_ret;exact ⟨EWW, BL⟩
 ·obtain rfl := Option.some.inj H;(try go_wp2);go_ret;exact ⟨EWW, BL⟩
def kW.f (k : Nat) (Lh : Int) (l0_1 : List (dG)) : Option (Bool) := (dw.f Lh 1 99).bind fun t558 => (if t558 = true then ((bV.f k l0_1).bind fun t559 => (some t559)) else (some false))
theorem kW.calls (k : Nat) (Lh : Int) (o : Option Addr) (u : Nat) (a : List (dG)) (r : Bool) (w : World) (x : Kd.C jE w o a.length a) (y : a.length ≤ u) (h : kW.f k Lh a = some r) :
  Calls Tryz.prog 63 #[.agg #[.int .i64 Lh, .slice o a.length u]] w fun e w' => e = .returned (.bool r) ∧ Below w.heap.size w w' := by
 have U := Tryz.underlying72;have z := ah.mk x;have A := ah.mk y;clear x y;have HB := ah.mk (Below.refl w.heap.size w);unfold kW.f at h;have H := h;clear h;replace H := be H; obtain ⟨Y, A2, H⟩ := H;replace H := ah.mk H;go_enter Tryz.func63, Tryz.ntmps63;go_wp2_with (first | ((with_reducible refine aJ (N := 1) rfl ?_); refine aY (N := 1) (cs := #[.int .i64 Lh, .slice o a.length u]) (t := 72) ?_; intro L hg M hbox hb; have m := ah.mk hbox; have D := SZ (w := w) hg; have O := D; replace HB := BS (w := w) hb; clear hb hbox hg; obtain ⟨E, G, I, J⟩ := cz2 m.out) | ((with_reducible refine ay (f := 60) rfl ?_); refine aW (some 5) Tryz.func60 #[.int .i64 Lh, .int .i64 1, .int .i64 99] ?_; (with_reducible refine (dw.calls Lh 1 99 _ _ A2.out).mono ?_); rintro e w' ⟨rfl, ⟨nd, rfl⟩⟩; refine ⟨_, rfl, ?_⟩; refine bP ?_));refine Hide.mk ?_;replace H := H.out;replace H := ifB H; rcases H with ⟨rfl, H⟩ | ⟨rfl, H⟩
 ·replace H := be H; obtain ⟨K, Z, H⟩ := H;obtain rfl := Option.some.inj H;(try go_wp2_with (first | (go_at_call 102; (with_reducible refine (bV.calls k _ _ a K _ ?side1 ?side2 Z.out).mono ?_); (case side1 => repeat (first | exact (Kd.eP z.out BL) | (with_reducible refine Kd.gB ?_ _) | (with_reducible refine Kd.gD ?_ _) | (with_reducible refine Kd.iw ?_))); (case side2 => exact A.out); rintro e P ⟨rfl, hb⟩; replace m := KB m hb; replace HB := BS (w := w) hb; (try clear hb))));go_ret;exact ⟨EWW, BL⟩
 ·obtain rfl := Option.some.inj H;(try go_wp2);go_ret;exact ⟨EWW, BL⟩
def jf.f (k : Nat) (Lh : Int) (l0_1 : List (dG)) : Option (Bool) := (kW.f k Lh l0_1).bind fun t561 => (some (!t561))
theorem jf.calls (k : Nat) (Lh : Int) (o : Option Addr) (u : Nat) (a : List (dG)) (r : Bool) (w : World) (x : Kd.C jE w o a.length a) (y : a.length ≤ u) (h : jf.f k Lh a = some r) :
  Calls Tryz.prog 62 #[.agg #[.int .i64 Lh, .slice o a.length u]] w fun e w' => e = .returned (.bool r) ∧ Below w.heap.size w w' := by
 have O := Tryz.underlying72;have z := ah.mk x;have A := ah.mk y;clear x y;have HB := ah.mk (Below.refl w.heap.size w);unfold jf.f at h;have H := h;clear h;replace H := be H; obtain ⟨E, A2, H⟩ := H;obtain rfl := Option.some.inj H;go_enter Tryz.func62, Tryz.ntmps62;go_wp2_with (first | ((with_reducible refine aJ (N := 1) rfl ?_); refine aY (N := 1) (cs := #[.int .i64 Lh, .slice o a.length u]) (t := 72) ?_; intro L hg P hbox hb; have m := ah.mk hbox; have D := SZ (w := w) hg; have M := D; replace HB := BS (w := w) hb; clear hb hbox hg; obtain ⟨G, I, J, K⟩ := cz2 m.out) | ((with_reducible refine ay (f := 63) rfl ?_); refine aW (some 4) Tryz.func63 #[.agg #[.int .i64 Lh, .slice o a.length u]] ?_; (with_reducible refine (kW.calls k Lh _ _ a E _ ?side1 ?side2 A2.out).mono ?_); (case side1 => exact CB z); (case side2 => exact A.out); rintro e U ⟨rfl, hb⟩; refine ⟨_, rfl, ?_⟩; replace m := KB m hb; replace HB := BS (w := w) hb; (try clear hb)));go_ret;exact ⟨EWW, BL⟩
def fO.l0 : Nat → List (S72) → Int → Int → Option (Int)
 | 0, _, _, _ => none
 | k + 1, a, b, c => if c < b then (if 0 ≤ c then (if c < (a.length : Int) then ((jf.f k ((fM a c).f0) ((fM a c).f1)).bind fun d => (if d = true then (some c) else (fO.l0 k a b (wrap64 (c + 1))))) else (none)) else (none)) else (some (-1))
def fO.f (k : Nat) (l0 : List (S72)) (a1 : ByteArray) : Option (Int) := fO.l0 k l0 (l0.length : Int) 0
theorem fO.calls (k : Nat) (P : Option Addr) (U : Nat) (l0 : List (S72)) (a1 : ByteArray) (r : Int) (w : World) (A : Kd.C k72 w P l0.length l0) (D : l0.length ≤ U) (h : fO.f k l0 a1 = some r) :
  Calls Tryz.prog 101 #[.slice P l0.length U, .func (.func 62) #[] #[]] w fun e w' => e = .returned (.int .i64 r) ∧ Below w.heap.size w w' := by
 have Y := Tryz.underlying72;have L := ah.mk A;have xd := ah.mk D;clear A D;have HB := ah.mk (Below.refl w.heap.size w);unfold fO.f at h;have H := h;clear h;have H' := ah.mk H;clear H;go_enter Tryz.func101, Tryz.ntmps101;go_wp2
 go_loopg [8] k (fun kq v8 w' => ∃ (a : Int), v8 = .int .i64 a ∧ ah (fO.l0 kq l0 (l0.length : Int) a = some r) ∧ ah (kq ≤ k) ∧ ah (Below w.heap.size w w'))
 case atStart => exact ⟨_, EQ, H', ⟨Nat.le_refl _⟩, ⟨BL⟩⟩
 case round =>
  clear H';obtain ⟨a, rfl, HA, E, HB⟩ := hrel
  cases gk with
  | zero => exact absurd HA.out (by simp [fO.l0])
  | succ k1 =>
   have H := HA.out;clear HA;simp only [fO.l0] at H;replace H := ifD H; rcases H with ⟨G, H⟩ | ⟨G, H⟩
   ·replace H := ifN H; obtain ⟨Z, H⟩ := H;replace H := ifN H; obtain ⟨xa, H⟩ := H;replace H := be H; obtain ⟨xb, A6, H⟩ := H;have u : 0 ≤ (a : Int) := OD;have x : a < (l0.length : Int) := OD;obtain ⟨M, J, K, I, m, o, hl562_1, hi562_1⟩ := uP L.out a u x
    cases I
    (try replace m := (HB.out.cell (World.block_lt_of_cell? w _ m)).trans m);(try replace o := (HB.out.cell (World.block_lt_of_cell? w _ o)).trans o);have y := ah.mk hi562_1;have z := ah.mk hl562_1;clear hi562_1 hl562_1;replace u := eq_true u;replace x := eq_true x;replace H := ah.mk H;go_wp2_with (first | ((with_reducible refine (jf.calls k1 ((fM l0 a).f0) _ _ ((fM l0 a).f1) _ _ ?side1 ?side2 A6.out).mono ?_); (case side1 => exact CB y); (case side2 => exact z.out); rintro e O ⟨rfl, hb⟩; replace HB := BS (w := w) hb; (try clear hb); (try clear hb2); (try clear hk); (try clear hi); refine bP ?_));refine Hide.mk ?_;replace H := H.out;replace H := ifB H; rcases H with ⟨rfl, H⟩ | ⟨rfl, H⟩
    ·obtain rfl := Option.some.inj H;(try go_wp2);go_ret;exact ⟨EWW, BL⟩
    ·have H' := ah.mk H;clear H;(try go_wp2);go_roundg k1;case measure => have := E.out; omega
     case rel => exact ⟨_, EQ, H', ks E, ⟨BL⟩⟩
   ·obtain rfl := Option.some.inj H;go_wp2;go_ret;exact ⟨EWW, BL⟩
def kG.f (k : Nat) (l0 : List (S72)) (a1 : ByteArray) : Option (Bool) := (fO.f k l0 a1).bind fun t564 => (some (decide (t564 ≥ 0)))
theorem kG.calls (k : Nat) (u : Option Addr) (x : Nat) (l0 : List (S72)) (A : ByteArray) (r : Bool) (w : World) (a : Kd.C k72 w u l0.length l0) (m : l0.length ≤ x) (h : kG.f k l0 A = some r) :
  Calls Tryz.prog 61 #[.slice u l0.length x, .func (.func 62) #[] #[]] w fun e w' => e = .returned (.bool r) ∧ Below w.heap.size w w' := by
 have y := ah.mk a;have z := ah.mk m;clear a m;have HB := ah.mk (Below.refl w.heap.size w);unfold kG.f at h;have H := h;clear h;replace H := be H; obtain ⟨o, D, H⟩ := H;obtain rfl := Option.some.inj H;go_enter Tryz.func61, Tryz.ntmps61;go_wp2_with (first | ((with_reducible refine ay (f := 101) rfl ?_); refine aW (some 7) Tryz.func101 #[.slice u l0.length x, .func (.func 62) #[] #[]] ?_; (with_reducible refine (fO.calls k _ _ l0 A o _ ?side1 ?side2 D.out).mono ?_); (case side1 => repeat (first | exact y.out | (with_reducible refine Kd.gB ?_ _) | (with_reducible refine Kd.gD ?_ _) | (with_reducible refine Kd.iw ?_))); (case side2 => exact z.out); rintro e E ⟨rfl, hb⟩; refine ⟨_, rfl, ?_⟩; replace HB := BS (w := w) hb; (try clear hb)));go_ret;exact ⟨EWW, BL⟩
def iD.f (k : Nat) (Lh Li : Int) (Lj : ByteArray) (Ll : List (S72)) (Lm : List Int) (Lp : Int) : Option (Bool) := (dH.f k Lh Li Lj).bind fun t566 => (if t566 = 0 then ((aZ.f k Lh Li Lj).bind fun t567 => (if (Ll.length : Int) = (t567.length : Int) then (if (Lm.length : Int) = (t567.length : Int) then ((dw.f Lp 1 9999).bind fun t570 => (if t570 = true then ((kG.f k Ll (⟨#[70, 73, 88]⟩ : ByteArray)).bind fun t571 => (some (!t571))) else (some false))) else (some false)) else (some false))) else (some false))
theorem iD.calls (k : Nat) (Lh Li : Int) (Lj : ByteArray) (A0_3 : Option Addr) (c0_3 : Nat) (Ll : List (S72)) (A0_4 : Option Addr) (c0_4 : Nat) (Lm : List Int) (Lp : Int) (r : Bool) (w : World) (hr0_3 : Kd.C k72 w A0_3 Ll.length Ll) (hc0_3 : Ll.length ≤ c0_3) (hr0_4 : Kd.C (Kd.int .i64) w A0_4 Lm.length Lm) (hc0_4 : Lm.length ≤ c0_4) (h : iD.f k Lh Li Lj Ll Lm Lp = some r) :
  Calls Tryz.prog 36 #[.agg #[.int .i64 Lh, .int .i64 Li, .string Lj, .slice A0_3 Ll.length c0_3, .slice A0_4 Lm.length c0_4, .int .i64 Lp]] w fun e w' => e = .returned (.bool r) ∧ Below w.heap.size w w' := by
 have xR := Tryz.underlying37;have xS := Tryz.underlying34;have x := ah.mk hr0_3;have y := ah.mk hc0_3;clear hr0_3 hc0_3;have xJ := ah.mk hr0_4;have xK := ah.mk hc0_4;clear hr0_4 hc0_4;have HB := ah.mk (Below.refl w.heap.size w);unfold iD.f at h;have H := h;clear h;replace H := be H; obtain ⟨xw, A2, H⟩ := H;replace H := ah.mk H;go_enter Tryz.func36, Tryz.ntmps36;go_wp2_with (first | ((with_reducible refine aJ (N := 1) rfl ?_); (try (refine je (by rfl) ?_; dsimp only)); refine aY (N := 1) (cs := #[.int .i64 Lh, .int .i64 Li, .string Lj, .slice A0_3 Ll.length c0_3, .slice A0_4 Lm.length c0_4, .int .i64 Lp]) (t := 37) ?_; intro xL hg xM hbox hb; have m := ah.mk hbox; have z := SZ (w := w) hg; have xN := z; replace HB := BS (w := w) hb; clear hb hbox hg; obtain ⟨A, D, E, G, I, J, K, L, M, O, P, U⟩ := cz6 m.out) | ((with_reducible refine ay (f := 58) rfl ?_); refine aW (some 6) Tryz.func58 #[.agg #[.int .i64 Lh, .int .i64 Li, .string Lj]] ?_; (with_reducible refine (dH.calls k Lh Li Lj xw _ A2.out).mono ?_); rintro e xO ⟨rfl, hb⟩; refine ⟨_, rfl, ?_⟩; replace m := KB m hb; replace HB := BS (w := w) hb; (try clear hb); obtain ⟨Y, Z, xa, xb, xc, xd, xe, xf, xg, xh, xi, xj⟩ := cz6 m.out; refine bP ?_));refine Hide.mk ?_;replace H := H.out;replace H := ifE H; rcases H with ⟨xx, xy, H⟩ | ⟨c3, xx, xy, H⟩
 ·replace H := be H; obtain ⟨a, A4, H⟩ := H;replace H := ah.mk H;go_wp2_with (first | ((with_reducible refine ay (f := 59) rfl ?_); refine aW (some 10) Tryz.func59 #[.agg #[.int .i64 Lh, .int .i64 Li, .string Lj]] ?_; (with_reducible refine (aZ.calls k Lh Li Lj a _ A4.out).mono ?_); rintro e xP ⟨xT, rfl, xz, hb⟩; refine ⟨_, rfl, ?_⟩; replace m := KB m hb; have o := ah.mk (Kd.cK xz (aM BL)); replace HB := BS (w := w) hb; (try clear hb); (try clear xz); obtain ⟨xH, xI, u⟩ := Kd.dO o.out; subst u; obtain ⟨xk, xl, xm, xn, xo, xp, xq, xr, xs, xt, xu, xv⟩ := cz6 m.out; refine bP ?_));refine Hide.mk ?_;replace H := H.out;by_cases c5 : (Ll.length : Int) = (a.length : Int)
  ·rw [if_pos c5] at H;have xA : ((Ll.length : Int) == (a.length : Int)) = true := beq_iff_eq.mpr c5;have xB : ((Ll.length : Int) != (a.length : Int)) = false := bne_eq_false_iff_eq.mpr c5;have xC : (Ll.length == a.length) = true := by first | simpa using c5 | (simp at c5 ⊢; omega)
   clear c5;by_cases c6 : (Lm.length : Int) = (a.length : Int)
   ·rw [if_pos c6] at H;have xD : ((Lm.length : Int) == (a.length : Int)) = true := beq_iff_eq.mpr c6;have xE : ((Lm.length : Int) != (a.length : Int)) = false := bne_eq_false_iff_eq.mpr c6;have xF : (Lm.length == a.length) = true := by first | simpa using c6 | (simp at c6 ⊢; omega)
    clear c6;replace H := be H; obtain ⟨xU, A7, H⟩ := H;replace H := ah.mk H;go_wp2_with (first | (go_at_call 60; (with_reducible refine (dw.calls Lp 1 9999 _ _ A7.out).mono ?_); rintro e w' ⟨rfl, ⟨nd, rfl⟩⟩; refine bP ?_));refine Hide.mk ?_;replace H := H.out;replace H := ifB H; rcases H with ⟨rfl, H⟩ | ⟨rfl, H⟩
    ·replace H := be H; obtain ⟨xG, A9, H⟩ := H;obtain rfl := Option.some.inj H;(try go_wp2_with (first | (go_at_call 61; (with_reducible refine (kG.calls k _ _ Ll (⟨#[70, 73, 88]⟩ : ByteArray) xG _ ?side1 ?side2 A9.out).mono ?_); (case side1 => repeat (first | exact (Kd.eP x.out BL) | (with_reducible refine Kd.gB ?_ _) | (with_reducible refine Kd.gD ?_ _) | (with_reducible refine Kd.iw ?_))); (case side2 => exact y.out); rintro e xQ ⟨rfl, hb⟩; replace o := RB o hb; replace m := KB m hb; replace HB := BS (w := w) hb; (try clear hb))));go_ret;exact ⟨EWW, BL⟩
    ·obtain rfl := Option.some.inj H;(try go_wp2);go_ret;exact ⟨EWW, BL⟩
   ·rw [if_neg c6] at H;have xD : ((Lm.length : Int) == (a.length : Int)) = false := beq_eq_false_iff_ne.mpr c6;have xE : ((Lm.length : Int) != (a.length : Int)) = true := bne_iff_ne.mpr c6;have xF : (Lm.length == a.length) = false := by first | simpa using c6 | (simp at c6 ⊢; omega)
    obtain rfl := Option.some.inj H;(try go_wp2);go_ret;exact ⟨EWW, BL⟩
  ·rw [if_neg c5] at H;have xA : ((Ll.length : Int) == (a.length : Int)) = false := beq_eq_false_iff_ne.mpr c5;have xB : ((Ll.length : Int) != (a.length : Int)) = true := bne_iff_ne.mpr c5;have xC : (Ll.length == a.length) = false := by first | simpa using c5 | (simp at c5 ⊢; omega)
   obtain rfl := Option.some.inj H;(try go_wp2);go_ret;exact ⟨EWW, BL⟩
 ·obtain rfl := Option.some.inj H;(try go_wp2);go_ret;exact ⟨EWW, BL⟩
def strings_ReplaceAll.f (a0 a1 a2 : ByteArray) : Option (ByteArray) := if a1 = ⟨#[46]⟩ ∧ a2 = ⟨#[63]⟩ ∧ a0.size ≤ 1048576 then (some (⟨(Go.Proofs.YthkfjbodohaglaaGreatDoor.HandRepl.qc 46 63 a0.data.toList).toArray⟩ : ByteArray)) else (none)
theorem strings_ReplaceAll.calls (a m : ByteArray) (o r : ByteArray) (w : World) (h : strings_ReplaceAll.f a m o = some r) :
  Calls Tryz.prog 76 #[.string a, .string m, .string o] w fun e w' => e = .returned (.string r) ∧ Below w.heap.size w w' := by
 unfold strings_ReplaceAll.f at h;split at h
 ·rename_i hc;obtain ⟨rfl, rfl, u⟩ := hc;obtain rfl := Option.some.inj h;exact Go.Proofs.YthkfjbodohaglaaGreatDoor.HandRepl.Dn a w u
 ·exact absurd h (by simp)
def jA.f (k : Nat) (Lh Li : Int) (Lj : ByteArray) : Option (ByteArray) := (bA.f k Lh Li Lj).bind fun t573 => (if t573 = true then ((strings_ReplaceAll.f Lj (⟨#[46]⟩ : ByteArray) (⟨#[63]⟩ : ByteArray)).bind fun t574 => (some t574)) else (some (⟨#[]⟩ : ByteArray)))
theorem jA.calls (k : Nat) (Lh Li : Int) (Lj r : ByteArray) (w : World) (h : jA.f k Lh Li Lj = some r) :
  Calls Tryz.prog 44 #[.agg #[.int .i64 Lh, .int .i64 Li, .string Lj]] w fun e w' => e = .returned (.string r) ∧ Below w.heap.size w w' := by
 have Z := Tryz.underlying34;have HB := ah.mk (Below.refl w.heap.size w);unfold jA.f at h;have H := h;clear h;replace H := be H; obtain ⟨xa, A2, H⟩ := H;replace H := ah.mk H;go_enter Tryz.func44, Tryz.ntmps44;go_wp2_with (first | ((with_reducible refine aJ (N := 1) rfl ?_); refine aY (N := 1) (cs := #[.int .i64 Lh, .int .i64 Li, .string Lj]) (t := 34) ?_; intro M hg O hbox hb; have a := ah.mk hbox; have m := SZ (w := w) hg; have P := m; replace HB := BS (w := w) hb; clear hb hbox hg; obtain ⟨o, u, x, y, z, A⟩ := cz3 a.out) | ((with_reducible refine ay (f := 75) rfl ?_); refine aW (some 4) Tryz.func75 #[.agg #[.int .i64 Lh, .int .i64 Li, .string Lj]] ?_; (with_reducible refine (bA.calls k Lh Li Lj _ _ A2.out).mono ?_); rintro e U ⟨rfl, hb⟩; refine ⟨_, rfl, ?_⟩; replace a := KB a hb; replace HB := BS (w := w) hb; (try clear hb); obtain ⟨D, E, G, I, J, K⟩ := cz3 a.out; refine bP ?_));refine Hide.mk ?_;replace H := H.out;replace H := ifB H; rcases H with ⟨rfl, H⟩ | ⟨rfl, H⟩
 ·replace H := be H; obtain ⟨L, A4, H⟩ := H;obtain rfl := Option.some.inj H;(try go_wp2_with (first | ((with_reducible refine ay (f := 76) rfl ?_); refine aW (some 8) Tryz.func76 #[.string Lj, .string (⟨#[46]⟩ : ByteArray), .string (⟨#[63]⟩ : ByteArray)] ?_; (with_reducible refine (strings_ReplaceAll.calls Lj (⟨#[46]⟩ : ByteArray) (⟨#[63]⟩ : ByteArray) L _ A4.out).mono ?_); rintro e Y ⟨rfl, hb⟩; refine ⟨_, rfl, ?_⟩; replace a := KB a hb; replace HB := BS (w := w) hb; (try clear hb))));go_ret;exact ⟨EWW, BL⟩
 ·obtain rfl := Option.some.inj H;(try go_wp2);go_ret;exact ⟨EWW, BL⟩
mutual
def dn.j0 : Nat → ByteArray → Bool → Int → Int → ByteArray → Option (Bool)
 | 0, _, _, _, _, _ => none
 | k + 1, a, b, c, d, e => if b = true then (some false) else (dn.l0 k a (a.size : Int) 0 c d e)
def dn.l0 : Nat → ByteArray → Int → Int → Int → Int → ByteArray → Option (Bool)
 | 0, _, _, _, _, _, _ => none
 | k + 1, a, b, c, d, e, f => if c < b then (if 0 ≤ c then (if c < (f.size : Int) then (if c < (a.size : Int) then (if (((bt f c) == 35) != ((bt a c) == 35)) = true then (some false) else (if (bt a c) = 35 then (dn.l0 k a b (wrap64 (c + 1)) d e f) else (if (bt a c) = 63 then (dn.l0 k a b (wrap64 (c + 1)) d e f) else ((eG.f (bt a c)).bind fun g => (if g = true then (dn.l0 k a b (wrap64 (c + 1)) d e f) else (some false)))))) else (none)) else (none)) else (none)) else (some true)
end
def dn.f (k : Nat) (Lh Li : Int) (Lj a1 : ByteArray) : Option (Bool) := (bA.f k Lh Li Lj).bind fun t576 => (if t576 = true then (dn.j0 k a1 ((a1.size : Int) != (Lj.size : Int)) Lh Li Lj) else (dn.j0 k a1 true Lh Li Lj))
theorem dn.calls (k : Nat) (Lh Li : Int) (Lj o : ByteArray) (r : Bool) (w : World) (h : dn.f k Lh Li Lj o = some r) :
  Calls Tryz.prog 72 #[.agg #[.int .i64 Lh, .int .i64 Li, .string Lj], .string o] w fun e w' => e = .returned (.bool r) ∧ Below w.heap.size w w' := by
 have xB := Tryz.underlying34;have HB := ah.mk (Below.refl w.heap.size w);unfold dn.f at h;have H := h;clear h;have xa := ah.mk H;clear H;go_enter Tryz.func72, Tryz.ntmps72;go_upto_region 1 with (first | ((with_reducible refine aJ (N := 2) rfl ?_); (try (refine je (by rfl) ?_; dsimp only)); refine aY (N := 2) (cs := #[.int .i64 Lh, .int .i64 Li, .string Lj]) (t := 34) ?_; intro J hg w4 hbox hb; have m := ah.mk hbox; have u := SZ (w := w) hg; have Z := u; replace HB := BS (w := w) hb; clear hb hbox hg))
 repeat (go_quiet (first | ((with_reducible refine aJ (N := 2) rfl ?_); (try (refine je (by rfl) ?_; dsimp only)); refine aY (N := 2) (cs := #[.int .i64 Lh, .int .i64 Li, .string Lj]) (t := 34) ?_; intro J hg w4 hbox hb; have m := ah.mk hbox; have u := SZ (w := w) hg; have Z := u; replace HB := BS (w := w) hb; clear hb hbox hg)); go_upto_region 1 with (first | ((with_reducible refine aJ (N := 2) rfl ?_); (try (refine je (by rfl) ?_; dsimp only)); refine aY (N := 2) (cs := #[.int .i64 Lh, .int .i64 Li, .string Lj]) (t := 34) ?_; intro J hg w4 hbox hb; have m := ah.mk hbox; have u := SZ (w := w) hg; have Z := u; replace HB := BS (w := w) hb; clear hb hbox hg)))
 (try simp only [Act.put, List.setIfInBounds_toArray, List.set_cons_zero, List.set_cons_succ])
 go_cut [16] (fun xv wc => ∃ (kq : Nat) (K : Bool), xv = .bool K ∧ ah (dn.j0 kq o K Lh Li Lj = some r) ∧ ah (kq ≤ k) ∧ ah (wc.heap[J]? = some (.cells #[.int .i64 Lh, .int .i64 Li, .string Lj] 34 (0, 0))) ∧ ah (Below w.heap.size w wc))
 case first =>
  have H := xa.out;clear xa;replace H := be H; obtain ⟨xD, A5, H⟩ := H;obtain ⟨xb, xc, xd, xe, xf, xg⟩ := cz3 m.out;replace H := ifB H; rcases H with ⟨rfl, H⟩ | ⟨rfl, H⟩
  ·have H' := ah.mk H;clear H
   repeat (go_wp2_with (first | (go_at_call 75; (with_reducible refine (bA.calls k Lh Li Lj _ _ A5.out).mono ?_); rintro e x ⟨rfl, hb⟩; replace m := KB m hb; replace HB := BS (w := w) hb; (try clear hb); (try clear hb2); (try clear hk); (try clear hi); obtain ⟨y, z, A, D, E, G⟩ := cz3 m.out)); go_quiet (first | (go_at_call 75; (with_reducible refine (bA.calls k Lh Li Lj _ _ A5.out).mono ?_); rintro e x ⟨rfl, hb⟩; replace m := KB m hb; replace HB := BS (w := w) hb; (try clear hb); (try clear hb2); (try clear hk); (try clear hi); obtain ⟨y, z, A, D, E, G⟩ := cz3 m.out)))
   go_wp2_with (first | (go_at_call 75; (with_reducible refine (bA.calls k Lh Li Lj _ _ A5.out).mono ?_); rintro e x ⟨rfl, hb⟩; replace m := KB m hb; replace HB := BS (w := w) hb; (try clear hb); (try clear hb2); (try clear hk); (try clear hi); obtain ⟨y, z, A, D, E, G⟩ := cz3 m.out));go_meet;case rel => exact ⟨_, _, EQ, H', ⟨by first | omega | exact Nat.le_refl _⟩, ⟨BK⟩, ⟨BL⟩⟩
  ·have H' := ah.mk H;clear H
   repeat (go_wp2_with (first | (go_at_call 75; (with_reducible refine (bA.calls k Lh Li Lj _ _ A5.out).mono ?_); rintro e x ⟨rfl, hb⟩; replace m := KB m hb; replace HB := BS (w := w) hb; (try clear hb); (try clear hb2); (try clear hk); (try clear hi))); go_quiet (first | (go_at_call 75; (with_reducible refine (bA.calls k Lh Li Lj _ _ A5.out).mono ?_); rintro e x ⟨rfl, hb⟩; replace m := KB m hb; replace HB := BS (w := w) hb; (try clear hb); (try clear hb2); (try clear hk); (try clear hi))))
   go_wp2_with (first | (go_at_call 75; (with_reducible refine (bA.calls k Lh Li Lj _ _ A5.out).mono ?_); rintro e x ⟨rfl, hb⟩; replace m := KB m hb; replace HB := BS (w := w) hb; (try clear hb); (try clear hb2); (try clear hk); (try clear hi)));go_meet;case rel => exact ⟨_, _, EQ, H', ⟨by first | omega | exact Nat.le_refl _⟩, ⟨BK⟩, ⟨BL⟩⟩
 case rest =>
  clear xa;obtain ⟨kq, K, rfl, HA, P, m, HB⟩ := hcut
  cases kq with
  | zero => exact absurd HA.out (by simp [dn.j0])
  | succ xu =>
   have H := HA.out;clear HA;simp only [dn.j0] at H;replace H := ifB H; rcases H with ⟨rfl, H⟩ | ⟨rfl, H⟩
   ·obtain rfl := Option.some.inj H;go_wp2
    repeat (go_quiet (fail); try go_wp2)
    go_ret;exact ⟨EWW, BL⟩
   ·have H' := ah.mk H;clear H;go_wp2
    repeat (go_quiet (fail); try go_wp2)
    go_loopg [19] xu (fun kq xw w' => ∃ (a : Int), xw = .int .i64 a ∧ ah (dn.l0 kq o (o.size : Int) a Lh Li Lj = some r) ∧ ah (kq ≤ xu) ∧ ah (w'.heap[J]? = some (.cells #[.int .i64 Lh, .int .i64 Li, .string Lj] 34 (0, 0))) ∧ ah (Below w.heap.size w w'))
    case atStart => exact ⟨_, EQ, H', ⟨Nat.le_refl _⟩, ⟨BK⟩, ⟨BL⟩⟩
    case round =>
     clear H';(try clear xF);obtain ⟨a, rfl, HA, U, m, HB⟩ := hrel
     cases gk with
     | zero => exact absurd HA.out (by simp [dn.l0])
     | succ k2 =>
      have H := HA.out;clear HA;simp only [dn.l0] at H;replace H := ifD H; rcases H with ⟨xh, H⟩ | ⟨xh, H⟩
      ·replace H := ifN H; obtain ⟨xx, H⟩ := H;replace H := ifN H; obtain ⟨xy, H⟩ := H;replace H := ifN H; obtain ⟨xz, H⟩ := H;obtain ⟨xi, xj, xk, xl, xm, xn⟩ := cz3 m.out;have xG : (0 ≤ (a : Int)) = True := OT;have xH : (a < (Lj.size : Int)) = True := OT;have hx16 := fT Lj a;have xI : (0 ≤ (a : Int)) = True := OT;have xJ : (a < (o.size : Int)) = True := OT;have hx18 := fT o a;by_cases I : (((bt Lj a) == 35) != ((bt o a) == 35)) = true
       ·rw [if_pos I] at H;have L : (((bt Lj a) == 35) != ((bt o a) == 35)) = true := I;(try (have xo : decide (((bt Lj a) == 35) = ((bt o a) == 35)) = false := by simpa using I));(try (have xp : (((bt Lj a) == 35) == ((bt o a) == 35)) = false := by simpa using I));(try (have xA : ¬ (((bt Lj a) == 35) = ((bt o a) == 35)) := by simpa using I));clear I;obtain rfl := Option.some.inj H;go_wp2
        repeat (go_quiet (fail); try go_wp2)
        go_ret;exact ⟨EWW, BL⟩
       ·rw [if_neg I] at H;have L : (((bt Lj a) == 35) != ((bt o a) == 35)) = false := by simpa using I
        (try (have xo : decide (((bt Lj a) == 35) = ((bt o a) == 35)) = true := by simpa using I));(try (have xp : (((bt Lj a) == 35) == ((bt o a) == 35)) = true := by simpa using I));clear I;have xK : (0 ≤ (a : Int)) = True := OT;have xL : (a < (o.size : Int)) = True := OT;have hx21 := fT o a;by_cases M : (bt o a) = 35
        ·rw [if_pos M] at H;have O : ((bt o a) == 35) = true := beq_iff_eq.mpr M;have cwc19_ : ((bt Lj a) == 35) = true := (bne_eq_false_iff_eq.mp L).trans O;have xq : ((bt o a) != 35) = false := bne_eq_false_iff_eq.mpr M;clear M;have H' := ah.mk H;clear H;go_wp2
         repeat (go_quiet (fail); try go_wp2)
         go_roundg k2;case measure => have := P.out; have := U.out; omega
         case rel => exact ⟨_, EQ, H', ⟨by have := P.out; have := U.out; omega⟩, ⟨BK⟩, ⟨BL⟩⟩
        ·rw [if_neg M] at H;have O : ((bt o a) == 35) = false := beq_eq_false_iff_ne.mpr M;have cwc19_ : ((bt Lj a) == 35) = false := (bne_eq_false_iff_eq.mp L).trans O;have xq : ((bt o a) != 35) = true := bne_iff_ne.mpr M;have xM : (0 ≤ (a : Int)) = True := OT;have xN : (a < (o.size : Int)) = True := OT;have hx24 := fT o a;replace H := ifE H; rcases H with ⟨xr, xs, H⟩ | ⟨xO, xr, xs, H⟩
         ·have H' := ah.mk H;clear H;go_wp2
          repeat (go_quiet (fail); try go_wp2)
          go_roundg k2;case measure => have := P.out; have := U.out; omega
          case rel => exact ⟨_, EQ, H', ⟨by have := P.out; have := U.out; omega⟩, ⟨BK⟩, ⟨BL⟩⟩
         ·replace H := be H; obtain ⟨xE, Y, H⟩ := H;have xP : (0 ≤ (a : Int)) = True := OT;have xQ : (a < (o.size : Int)) = True := OT;have hx27 := fT o a;replace H := ifB H; rcases H with ⟨rfl, H⟩ | ⟨rfl, H⟩
          ·have H' := ah.mk H;clear H
           repeat (go_wp2_with (first | (go_at_call 107; (with_reducible refine (eG.calls (bt o a) _ _ Y.out).mono ?_); rintro e w' ⟨rfl, ⟨nd, rfl⟩⟩; (try first | exact da | exact DD))); go_quiet (first | (go_at_call 107; (with_reducible refine (eG.calls (bt o a) _ _ Y.out).mono ?_); rintro e w' ⟨rfl, ⟨nd, rfl⟩⟩; (try first | exact da | exact DD))))
           go_wp2_with (first | (go_at_call 107; (with_reducible refine (eG.calls (bt o a) _ _ Y.out).mono ?_); rintro e w' ⟨rfl, ⟨nd, rfl⟩⟩; (try first | exact da | exact DD)));go_roundg k2;case measure => have := P.out; have := U.out; omega
           case rel => exact ⟨_, EQ, H', ⟨by have := P.out; have := U.out; omega⟩, ⟨BK⟩, ⟨BL⟩⟩
          ·obtain rfl := Option.some.inj H
           repeat (go_wp2_with (first | (go_at_call 107; (with_reducible refine (eG.calls (bt o a) _ _ Y.out).mono ?_); rintro e w' ⟨rfl, ⟨nd, rfl⟩⟩; (try first | exact da | exact DD))); go_quiet (first | (go_at_call 107; (with_reducible refine (eG.calls (bt o a) _ _ Y.out).mono ?_); rintro e w' ⟨rfl, ⟨nd, rfl⟩⟩; (try first | exact da | exact DD))))
           go_wp2_with (first | (go_at_call 107; (with_reducible refine (eG.calls (bt o a) _ _ Y.out).mono ?_); rintro e w' ⟨rfl, ⟨nd, rfl⟩⟩; (try first | exact da | exact DD)));go_ret;exact ⟨EWW, BL⟩
      ·obtain rfl := Option.some.inj H;go_wp2
       repeat (go_quiet (fail); try go_wp2)
       go_ret;exact ⟨EWW, BL⟩
def fK.l0 : Nat → ByteArray → Int → Int → Int → Option (Int)
 | 0, _, _, _, _ => none
 | k + 1, a, b, c, d => if d < c then (if 0 ≤ d then (if d < (a.size : Int) then (if (bt a d) = 63 then (fK.l0 k a (wrap64 (b + 1)) c (wrap64 (d + 1))) else (fK.l0 k a b c (wrap64 (d + 1)))) else (none)) else (none)) else (some b)
def fK.f (k : Nat) (a0 : ByteArray) : Option (Int) := fK.l0 k a0 0 (a0.size : Int) 0
theorem fK.calls (k : Nat) (u : ByteArray) (r : Int) (w : World) (h : fK.f k u = some r) :
  Calls Tryz.prog 86 #[.string u] w fun e w' => e = .returned (.int .i64 r) ∧ cB w w' := by
 unfold fK.f at h;have H := h;clear h;have H' := ah.mk H;clear H;go_enter Tryz.func86, Tryz.ntmps86;go_wp2
 go_loopg [3, 7] k (fun kq E G w' => ∃ (m : Int) (a : Int), E = .int .i64 m ∧ G = .int .i64 a ∧ ah (fK.l0 kq u m (u.size : Int) a = some r) ∧ ah (kq ≤ k) ∧ cB w w')
 case atStart => exact ⟨_, _, EQ, EQ, H', ⟨Nat.le_refl _⟩, DR⟩
 case round =>
  clear H';obtain ⟨m, a, rfl, rfl, HA, o, ⟨m1, rfl⟩⟩ := hrel
  cases gk with
  | zero => exact absurd HA.out (by simp [fK.l0])
  | succ k1 =>
   have H := HA.out;clear HA;simp only [fK.l0] at H;replace H := ifD H; rcases H with ⟨x, H⟩ | ⟨x, H⟩
   ·replace H := ifN H; obtain ⟨A, H⟩ := H;replace H := ifN H; obtain ⟨D, H⟩ := H;have I : (0 ≤ (a : Int)) = True := OT;have J : (a < (u.size : Int)) = True := OT;have hx5 := fT u a;replace H := ifE H; rcases H with ⟨y, z, H⟩ | ⟨c6, y, z, H⟩
    ·have H' := ah.mk H;clear H;go_wp2;go_roundg k1;case measure => have := o.out; omega
     case rel => exact ⟨_, _, EQ, EQ, H', ks o, DR⟩
    ·have H' := ah.mk H;clear H;go_wp2;go_roundg k1;case measure => have := o.out; omega
     case rel => exact ⟨_, _, EQ, EQ, H', ks o, DR⟩
   ·obtain rfl := Option.some.inj H;go_wp2;go_ret;exact ⟨EQ, DR⟩
def kX.f (k : Nat) (Lh Li : Int) (Lj a1 : ByteArray) : Option (Bool) := (dn.f k Lh Li Lj a1).bind fun t579 => (if t579 = true then ((fK.f k a1).bind fun t580 => (some (t580 == 0))) else (some false))
theorem kX.calls (k : Nat) (Lh Li : Int) (Lj D : ByteArray) (r : Bool) (w : World) (h : kX.f k Lh Li Lj D = some r) :
  Calls Tryz.prog 50 #[.agg #[.int .i64 Lh, .int .i64 Li, .string Lj], .string D] w fun e w' => e = .returned (.bool r) ∧ Below w.heap.size w w' := by
 have L := Tryz.underlying34;have HB := ah.mk (Below.refl w.heap.size w);unfold kX.f at h;have H := h;clear h;replace H := be H; obtain ⟨M, O, H⟩ := H;replace H := ah.mk H;go_enter Tryz.func50, Tryz.ntmps50;go_wp2_with (first | ((with_reducible refine aJ (N := 2) rfl ?_); refine aY (N := 2) (cs := #[.int .i64 Lh, .int .i64 Li, .string Lj]) (t := 34) ?_; intro G hg I hbox hb; have a := ah.mk hbox; have m := SZ (w := w) hg; have J := m; replace HB := BS (w := w) hb; clear hb hbox hg; obtain ⟨o, u, x, y, z, A⟩ := cz3 a.out) | ((with_reducible refine ay (f := 72) rfl ?_); refine aW (some 7) Tryz.func72 #[.agg #[.int .i64 Lh, .int .i64 Li, .string Lj], .string D] ?_; (with_reducible refine (dn.calls k Lh Li Lj D _ _ O.out).mono ?_); rintro e K ⟨rfl, hb⟩; refine ⟨_, rfl, ?_⟩; replace a := KB a hb; replace HB := BS (w := w) hb; (try clear hb); refine bP ?_));refine Hide.mk ?_;replace H := H.out;replace H := ifB H; rcases H with ⟨rfl, H⟩ | ⟨rfl, H⟩
 ·replace H := be H; obtain ⟨E, P, H⟩ := H;obtain rfl := Option.some.inj H;(try go_wp2_with (first | (go_at_call 86; (with_reducible refine (fK.calls k D E _ P.out).mono ?_); rintro e w' ⟨rfl, ⟨nd, rfl⟩⟩)));go_ret;exact ⟨EWW, BL⟩
 ·obtain rfl := Option.some.inj H;(try go_wp2);go_ret;exact ⟨EWW, BL⟩
def eU.l0 : Nat → ByteArray → List Int → List Int → Int → Int → Option (ByteArray)
 | 0, _, _, _, _, _ => none
 | k + 1, a, b, c, d, e => if e < d then (if 0 ≤ e then (if e < (c.length : Int) then (if 0 ≤ (rd c e) then (if (rd c e) < (a.size : Int) then (if b.length < 140737488355328 then (eU.l0 k a (b ++ [bt a (rd c e)]) c d (wrap64 (e + 1))) else (none)) else (none)) else (none)) else (none)) else (none)) else (some (strOfNums b))
def eU.f (k : Nat) (a0 : ByteArray) (l1 : List Int) : Option (ByteArray) := eU.l0 k a0 ([] : List Int) l1 (l1.length : Int) 0
theorem eU.calls (k : Nat) (A : ByteArray) (A1 : Option Addr) (c1 : Nat) (l1 : List Int) (r : ByteArray) (w : World) (hr1 : Kd.C (Kd.int .i64) w A1 l1.length l1) (hc1 : l1.length ≤ c1) (h : eU.f k A l1 = some r) :
  Calls Tryz.prog 74 #[.string A, .slice A1 l1.length c1] w fun e w' => e = .returned (.string r) ∧ Below w.heap.size w w' := by
 have M := ah.mk hr1;have xe := ah.mk hc1;clear hr1 hc1;have HB := ah.mk (Below.refl w.heap.size w);unfold eU.f at h;have H := h;clear h;have H' := ah.mk H;clear H;go_enter Tryz.func74, Tryz.ntmps74;go_wp2
 go_loopg [5, 10] k (fun kq v5 O w' => ∃ (u : List Int) (a : Int), O = .int .i64 a ∧ ah (eU.l0 kq A u l1 (l1.length : Int) a = some r) ∧ ah (kq ≤ k) ∧ ah (Kd.R (Kd.int .u8) 5 w' w.heap.size (fun _ => True) v5 u) ∧ ah (Below w.heap.size w w'))
 case atStart => exact ⟨_, _, EQ, H', ⟨Nat.le_refl _⟩, ⟨by first | exact Kd.oM _ _ _ _ _ | exact Kd.sw _ _ _ _ _ | exact Kd.sG _ _ _ _ _ | exact Kd.sD _ _ _ _ _ | exact Kd.sF _ _ _ _ _⟩, ⟨BL⟩⟩
 case round =>
  clear H';(try clear c1);obtain ⟨u, a, rfl, HA, G, x, HB⟩ := hrel
  cases gk with
  | zero => exact absurd HA.out (by simp [eU.l0])
  | succ k1 =>
   have H := HA.out;clear HA;simp only [eU.l0] at H;replace H := ifD H; rcases H with ⟨I, H⟩ | ⟨I, H⟩
   ·replace H := ifN H; obtain ⟨Z, H⟩ := H;replace H := ifN H; obtain ⟨xa, H⟩ := H;replace H := ifN H; obtain ⟨xb, H⟩ := H;replace H := ifN H; obtain ⟨xc, H⟩ := H;replace H := ifP H; obtain ⟨c9, H⟩ := H;have J := ah.mk c9;clear c9;obtain ⟨K, m⟩ : ∃ y_ : List Int, y_ = (u ++ [bt A (rd l1 a)]) := ⟨_, rfl⟩;replace H : (eU.l0 k1 A K l1 (l1.length : Int) (wrap64 (a + 1))) = some r := by first | (rw [m]; with_reducible exact H) | (have H2_ := (Option.bind_some _ _).symm.trans H; rw [m]; with_reducible exact H2_) | (have H2_ := (Option.bind_some _ _).symm.trans H; with_reducible exact H2_) | with_reducible exact H | (rw [m]; exact H) | exact H
    have D := ah.mk m;clear m;have H' := ah.mk H;clear H;have y : 0 ≤ (a : Int) := OD;have z : a < (l1.length : Int) := OD;obtain ⟨U, L, o⟩ := Kd.mY M.out a y z
    cases L
    (try replace o := (HB.out.cell (World.block_lt_of_cell? w _ o)).trans o);replace y := eq_true y;replace z := eq_true z;have p8 : (0 ≤ ((rd l1 a) : Int)) = True := OT;have q8 : ((rd l1 a) < (A.size : Int)) = True := OT;have hx8 := fT A (rd l1 a);go_wp2_with (first | ((with_reducible refine dU (b := .append) (xs := #[.tmp 14, .tmp 18]) rfl ?_); at_builtin; refine Kd.gU (Kd.int .u8) (w0 := w) w.heap.size rfl (.tmp 14) (.tmp 18) 105 5 (.int .u8 0) 1 rfl Tryz.underlying105 info5 rfl (by decide) (by omega) u5 u (bt A (rd l1 a)) [.int .u8 (bt A (rd l1 a))] (fun _ => True) (fun _ => False) rfl rfl ?aP (fun _ hk => hk.elim) ?aF ?aO ?aB ?aS ?aL ?_; (case aP => exact rfl); (case aB => exact BL); (case aF => exact (fun _ _ => trivial)); (case aO => exact (RR x)); (case aS => exact (aM BL)); (case aL => have := J.out; omega); intro xd Y ho hb hg hat; rw [← D.out] at ho; replace HB := ah.mk (hb); have E := ah.mk (ho); clear x; clear ho hb hg hat));go_roundg k1;case measure => have := G.out; omega
    case rel => exact ⟨_, _, EQ, H', ks G, ⟨(RR E)⟩, ⟨BL⟩⟩
   ·obtain rfl := Option.some.inj H;have hcv11 := EL (P := Tryz.prog) Tryz.underlying105 Tryz.underlying5 Tryz.underlying9 (Kd.uD x.out);go_wp2;go_ret;exact ⟨EWW, BL⟩
def eT.l0 : Nat → ByteArray → List ByteArray → List (List Int) → Int → Int → Option (List ByteArray)
 | 0, _, _, _, _, _ => none
 | k + 1, a, b, c, d, e => if e < d then (if 0 ≤ e then (if e < (c.length : Int) then ((eU.f k a (iR c e)).bind fun f => (if b.length < 8796093022208 then (eT.l0 k a (b ++ [f]) c d (wrap64 (e + 1))) else (none))) else (none)) else (none)) else (some b)
def eT.f (k : Nat) (Lh Li : Int) (Lj a1 : ByteArray) : Option (List ByteArray) := (dn.f k Lh Li Lj a1).bind fun t586 => (if t586 = true then ((dZ.f k Lh Li Lj).bind fun t587 => (eT.l0 k a1 ([] : List ByteArray) t587 (t587.length : Int) 0)) else (some ([] : List ByteArray)))
theorem eT.calls (k : Nat) (Lh Li : Int) (Lj a1 : ByteArray) (r : List ByteArray) (w : World) (h : eT.f k Lh Li Lj a1 = some r) :
  Calls Tryz.prog 43 #[.agg #[.int .i64 Lh, .int .i64 Li, .string Lj], .string a1] w fun e w' => ∃ v0_ : Value, e = .returned (v0_) ∧ Kd.R Kd.string 9 w' w.heap.size (fun _ => True) v0_ r ∧ Below w.heap.size w w' := by
 have xJ := Tryz.underlying34;have HB := ah.mk (Below.refl w.heap.size w);unfold eT.f at h;have H := h;clear h;replace H := be H; obtain ⟨xK, A3, H⟩ := H;replace H := ah.mk H;go_enter Tryz.func43, Tryz.ntmps43;go_wp2_with (first | ((with_reducible refine aJ (N := 2) rfl ?_); refine aY (N := 2) (cs := #[.int .i64 Lh, .int .i64 Li, .string Lj]) (t := 34) ?_; intro xd hg xy hbox hb; have a := ah.mk hbox; have xn := SZ (w := w) hg; have xz := xn; replace HB := BS (w := w) hb; clear hb hbox hg; obtain ⟨E, G, I, J, K, L⟩ := cz3 a.out) | ((with_reducible refine ay (f := 72) rfl ?_); refine aW (some 10) Tryz.func72 #[.agg #[.int .i64 Lh, .int .i64 Li, .string Lj], .string a1] ?_; (with_reducible refine (dn.calls k Lh Li Lj a1 _ _ A3.out).mono ?_); rintro e xA ⟨rfl, hb⟩; refine ⟨_, rfl, ?_⟩; replace a := KB a hb; replace HB := BS (w := w) hb; (try clear hb); obtain ⟨M, O, P, U, Y, Z⟩ := cz3 a.out; refine bP ?_));refine Hide.mk ?_;replace H := H.out;replace H := ifB H; rcases H with ⟨rfl, H⟩ | ⟨rfl, H⟩
 ·replace H := be H; obtain ⟨u, A5, H⟩ := H;have H' := ah.mk H;clear H;try go_wp2_with (first | ((with_reducible refine ay (f := 73) rfl ?_); refine aW (some 13) Tryz.func73 #[.agg #[.int .i64 Lh, .int .i64 Li, .string Lj]] ?_; (with_reducible refine (dZ.calls k Lh Li Lj u _ A5.out).mono ?_); rintro e xB ⟨xL, rfl, xt, hb⟩; refine ⟨_, rfl, ?_⟩; replace a := KB a hb; have xe := ah.mk (Kd.oH xt (aM BL)); replace HB := BS (w := w) hb; (try clear hb); (try clear xt); obtain ⟨xh, xi, xj⟩ := Kd.pq xe.out; subst xj))
  go_loopg [5, 15] k (fun kq v5 xC w' => ∃ (D : List ByteArray) (m : Int), xC = .int .i64 m ∧ ah (eT.l0 kq a1 D u (u.length : Int) m = some r) ∧ ah (kq ≤ k) ∧ ah (Kd.R Kd.string 9 w' w.heap.size (fun _ => True) v5 D) ∧ ah (Kd.S (Kd.slice 3 (Kd.int .i64)) 25 w' w.heap.size (fun _ => True) (.slice xh u.length xi) u) ∧ ah (w'.heap[xd]? = some (.cells #[.int .i64 Lh, .int .i64 Li, .string Lj] 34 (0, 0))) ∧ ah (Below w.heap.size w w'))
  case atStart => exact ⟨_, _, EQ, H', ⟨Nat.le_refl _⟩, ⟨by first | exact Kd.oM _ _ _ _ _ | exact Kd.sw _ _ _ _ _ | exact Kd.sG _ _ _ _ _ | exact Kd.sD _ _ _ _ _ | exact Kd.sF _ _ _ _ _⟩, ⟨(SR xe)⟩, ⟨BK⟩, ⟨BL⟩⟩
  case round =>
   clear H';(try clear c4);(try clear E G I);(try clear M O P);(try clear J K L);(try clear U Y Z);obtain ⟨D, m, rfl, HA, xu, z, x, a, HB⟩ := hrel
   cases gk with
   | zero => exact absurd HA.out (by simp [eT.l0])
   | succ k1 =>
    have H := HA.out;clear HA;simp only [eT.l0] at H;replace H := ifD H; rcases H with ⟨xo, H⟩ | ⟨xo, H⟩
    ·replace H := ifN H; obtain ⟨xD, H⟩ := H;replace H := ifN H; obtain ⟨xE, H⟩ := H;replace H := be H; obtain ⟨xa, xF, H⟩ := H;replace H := ifP H; obtain ⟨xv, H⟩ := H;have xp := ah.mk xv;clear xv;obtain ⟨xw, A⟩ : ∃ y_ : List ByteArray, y_ = (D ++ [xa]) := ⟨_, rfl⟩;replace H : (eT.l0 k1 a1 xw u (u.length : Int) (wrap64 (m + 1))) = some r := by first | (rw [A]; with_reducible exact H) | (have H2_ := (Option.bind_some _ _).symm.trans H; rw [A]; with_reducible exact H2_) | (have H2_ := (Option.bind_some _ _).symm.trans H; with_reducible exact H2_) | with_reducible exact H | (rw [A]; exact H) | exact H
     have xq := ah.mk A;clear A;have H' := ah.mk H;clear H;have xb : 0 ≤ (m : Int) := OD;have xc : m < (u.length : Int) := OD;obtain ⟨xG, xk, xl, xx, xf, hl590_0, hi590_0⟩ := CF (Kd.iO x.out).2.2 m xb xc
     cases xx
     obtain ⟨ce590, hce590, hMe590, hcc590⟩ := Kd.DC x.out [] m xb (by first | exact xc | exact OD | (have e_ := (Kd.iO x.out).1; omega));obtain ⟨ve590_0, rfl, ge590_0⟩ := hMe590;have hv590_0 := hcc590 0 _ rfl;rw [Nat.add_zero, show ((Kd.slice 3 (Kd.int .i64))).sz = 1 from rfl, Nat.mul_one] at hv590_0;replace hv590_0 := Option.some.inj (hv590_0.symm.trans xf);rw [hv590_0] at ge590_0;have HL590_0 := ah.mk (show Kd.R (Kd.int .i64) 3 _ _ _ _ (iR u m) from ge590_0);clear hv590_0 ge590_0;clear hcc590 hce590;have y := ah.mk hi590_0;have xg := ah.mk hl590_0;clear hi590_0 hl590_0;replace xb := eq_true xb;replace xc := eq_true xc;go_wp2_with (first | ((with_reducible refine ay (f := 74) rfl ?_); refine aW (some 22) Tryz.func74 #[.string a1, .slice xk (iR u m).length xl] ?_; (with_reducible refine (eU.calls k1 a1 _ _ (iR u m) xa _ ?side1 ?side2 xF.out).mono ?_); (case side1 => repeat (first | exact (by repeat (first | (with_reducible exact y.out) | (with_reducible refine Kd.gB ?_ _) | (with_reducible refine Kd.gD ?_ _) | (with_reducible refine Kd.iw ?_) | exact y.out)) | (with_reducible refine Kd.gB ?_ _) | (with_reducible refine Kd.gD ?_ _) | (with_reducible refine Kd.iw ?_))); (case side2 => exact xg.out); rintro e xH ⟨rfl, hb⟩; refine ⟨_, rfl, ?_⟩; replace z := RB z hb; replace x := ah.mk (Kd.gJ (SR x) hb); replace HL590_0 := ah.mk (Kd.kE (by (with_reducible repeat (first | apply Kd.fP | apply Kd.fQ | apply Kd.eH)); exact HL590_0.out) hb); replace y := ah.mk (Kd.eP (by repeat (first | (with_reducible exact y.out) | (with_reducible refine Kd.gB ?_ _) | (with_reducible refine Kd.gD ?_ _) | (with_reducible refine Kd.iw ?_) | exact y.out)) hb); replace a := KB a hb; replace HB := BS (w := w) hb; (try clear hb)) | ((with_reducible refine dU (b := .append) (xs := #[.tmp 19, .tmp 23]) rfl ?_); at_builtin; refine Kd.gU Kd.string (w0 := w) w.heap.size rfl (.tmp 19) (.tmp 23) 29 9 (.string ⟨#[]⟩) 16 rfl Tryz.underlying29 DV rfl (by decide) (by omega) u5 D xa [.string xa] (fun _ => True) (fun _ => False) rfl rfl ?aP (fun _ hk => hk.elim) ?aF ?aO ?aB ?aS ?aL ?_; (case aP => exact rfl); (case aB => exact BL); (case aF => exact (fun _ _ => trivial)); (case aO => exact (RR z)); (case aS => exact (aM BL)); (case aL => have := xp.out; omega); intro xM xI ho hb hg hat; rw [← xq.out] at ho; replace x := ah.mk (Kd.IW (SR x) (Kd.nP (RR z)) (by decide) hg); replace HL590_0 := ah.mk (Kd.nO (by (with_reducible repeat (first | apply Kd.fP | apply Kd.fQ | apply Kd.eH)); exact HL590_0.out) (Kd.nP (RR z)) (by decide) hg); replace a := ah.mk (eF (g := xd) (o := .cells #[.int .i64 Lh, .int .i64 Li, .string Lj] 34 (0, 0)) BK hg (Kd.mR z.out a.out (by decide))); replace HB := ah.mk (hb); have xr := ah.mk (ho); clear z; clear ho hb hg hat));go_roundg k1;case measure => have := xu.out; omega
     case rel => exact ⟨_, _, EQ, H', ks xu, ⟨(RR xr)⟩, ⟨(SR x)⟩, ⟨BK⟩, ⟨BL⟩⟩
    ·obtain rfl := Option.some.inj H;go_wp2;go_ret;exact ⟨_, EWW, (RR z), BL⟩
 ·obtain rfl := Option.some.inj H;(try go_wp2);go_ret;exact ⟨_, EWW, by first | exact Kd.oM _ _ _ _ _ | exact Kd.sw _ _ _ _ _ | exact Kd.sG _ _ _ _ _ | exact Kd.sD _ _ _ _ _ | exact Kd.sF _ _ _ _ _, BL⟩
def bH.l0 : Nat → List ByteArray → ByteArray → Int → Int → Option (Int)
 | 0, _, _, _, _ => none
 | k + 1, a, b, c, d => if d < c then (if 0 ≤ d then (if d < (a.length : Int) then (if b.toList = (fF ByteArray.empty a d).toList then (some d) else (bH.l0 k a b c (wrap64 (d + 1)))) else (none)) else (none)) else (some (-1))
def bH.f (k : Nat) (l0 : List ByteArray) (a1 : ByteArray) : Option (Int) := bH.l0 k l0 a1 (l0.length : Int) 0
theorem bH.calls (k : Nat) (L : Option Addr) (M : Nat) (l0 : List ByteArray) (I : ByteArray) (r : Int) (w : World) (u : Kd.C Kd.string w L l0.length l0) (x : l0.length ≤ M) (h : bH.f k l0 I = some r) :
  Calls Tryz.prog 146 #[.slice L l0.length M, .string I] w fun e w' => e = .returned (.int .i64 r) ∧ cB w w' := by
 have J := ah.mk u;have U := ah.mk x;clear u x;unfold bH.f at h;have H := h;clear h;have H' := ah.mk H;clear H;go_enter Tryz.func146, Tryz.ntmps146;go_wp2
 go_loopg [8] k (fun kq Y w' => ∃ (a : Int), Y = .int .i64 a ∧ ah (bH.l0 kq l0 I (l0.length : Int) a = some r) ∧ ah (kq ≤ k) ∧ cB w w')
 case atStart => exact ⟨_, EQ, H', ⟨Nat.le_refl _⟩, DR⟩
 case round =>
  clear H';obtain ⟨a, rfl, HA, y, ⟨m1, rfl⟩⟩ := hrel
  cases gk with
  | zero => exact absurd HA.out (by simp [bH.l0])
  | succ k1 =>
   have H := HA.out;clear HA;simp only [bH.l0] at H;replace H := ifD H; rcases H with ⟨z, H⟩ | ⟨z, H⟩
   ·replace H := ifN H; obtain ⟨O, H⟩ := H;replace H := ifN H; obtain ⟨P, H⟩ := H;have m : 0 ≤ (a : Int) := OD;have o : a < (l0.length : Int) := OD;obtain ⟨K, A, D⟩ := Kd.jv J.out a m o
    cases A
    replace m := eq_true m;replace o := eq_true o;replace H := ifE H; rcases H with ⟨E, G, H⟩ | ⟨c6, E, G, H⟩
    ·obtain rfl := Option.some.inj H;go_wp2;go_ret;exact ⟨EQ, DR⟩
    ·have H' := ah.mk H;clear H;go_wp2;go_roundg k1;case measure => have := y.out; omega
     case rel => exact ⟨_, EQ, H', ks y, DR⟩
   ·obtain rfl := Option.some.inj H;go_wp2;go_ret;exact ⟨EQ, DR⟩
def eY.f (k : Nat) (l0 : List ByteArray) (a1 : ByteArray) : Option (Bool) := (bH.f k l0 a1).bind fun t596 => (some (decide (t596 ≥ 0)))
theorem eY.calls (k : Nat) (x : Option Addr) (y : Nat) (l0 : List ByteArray) (u : ByteArray) (r : Bool) (w : World) (a : Kd.C Kd.string w x l0.length l0) (m : l0.length ≤ y) (h : eY.f k l0 u = some r) :
  Calls Tryz.prog 110 #[.slice x l0.length y, .string u] w fun e w' => e = .returned (.bool r) ∧ cB w w' := by
 have z := ah.mk a;have A := ah.mk m;clear a m;unfold eY.f at h;have H := h;clear h;replace H := be H; obtain ⟨o, D, H⟩ := H;obtain rfl := Option.some.inj H;go_enter Tryz.func110, Tryz.ntmps110;go_wp2_with (first | ((with_reducible refine ay (f := 146) rfl ?_); refine aW (some 7) Tryz.func146 #[.slice x l0.length y, .string u] ?_; (with_reducible refine (bH.calls k _ _ l0 u o _ ?side1 ?side2 D.out).mono ?_); (case side1 => repeat (first | exact z.out | (with_reducible refine Kd.gB ?_ _) | (with_reducible refine Kd.gD ?_ _) | (with_reducible refine Kd.iw ?_))); (case side2 => exact A.out); rintro e w' ⟨rfl, ⟨nd, rfl⟩⟩; refine ⟨_, rfl, ?_⟩));go_ret;exact ⟨EQ, DR⟩
def gN.l0 : Nat → List ByteArray → List ByteArray → Int → Int → Option (List ByteArray)
 | 0, _, _, _, _ => none
 | k + 1, a, b, c, d => if d < c then (if 0 ≤ d then (if d < (b.length : Int) then ((eY.f k a (fF ByteArray.empty b d)).bind fun e => (if e = true then (gN.l0 k a b c (wrap64 (d + 1))) else (if a.length < 8796093022208 then (gN.l0 k (a ++ [fF ByteArray.empty b d]) b c (wrap64 (d + 1))) else (none)))) else (none)) else (none)) else (some a)
def gN.f (k : Nat) (l0 : List ByteArray) : Option (List ByteArray) := gN.l0 k ([] : List ByteArray) l0 (l0.length : Int) 0
theorem gN.calls (k : Nat) (A0 : Option Addr) (c0 : Nat) (l0 r : List ByteArray) (w : World) (K : Kd.C Kd.string w A0 l0.length l0) (L : l0.length ≤ c0) (h : gN.f k l0 = some r) :
  Calls Tryz.prog 77 #[.slice A0 l0.length c0] w fun e w' => ∃ v0_ : Value, e = .returned (v0_) ∧ Kd.R Kd.string 9 w' w.heap.size (fun _ => True) v0_ r ∧ Below w.heap.size w w' := by
 have Y := ah.mk K;have xh := ah.mk L;clear K L;have HB := ah.mk (Below.refl w.heap.size w);unfold gN.f at h;have H := h;clear h;have H' := ah.mk H;clear H;go_enter Tryz.func77, Tryz.ntmps77;go_wp2
 go_loopg [3, 8] k (fun kq v3 v8 w' => ∃ (m : List ByteArray) (a : Int), v8 = .int .i64 a ∧ ah (gN.l0 kq m l0 (l0.length : Int) a = some r) ∧ ah (kq ≤ k) ∧ ah (Kd.R Kd.string 9 w' w.heap.size (fun _ => True) v3 m) ∧ ah (Below w.heap.size w w'))
 case atStart => exact ⟨_, _, EQ, H', ⟨Nat.le_refl _⟩, ⟨by first | exact Kd.oM _ _ _ _ _ | exact Kd.sw _ _ _ _ _ | exact Kd.sG _ _ _ _ _ | exact Kd.sD _ _ _ _ _ | exact Kd.sF _ _ _ _ _⟩, ⟨BL⟩⟩
 case round =>
  clear H';obtain ⟨m, a, rfl, HA, E, o, HB⟩ := hrel
  cases gk with
  | zero => exact absurd HA.out (by simp [gN.l0])
  | succ k1 =>
   have H := HA.out;clear HA;simp only [gN.l0] at H;replace H := ifD H; rcases H with ⟨M, H⟩ | ⟨M, H⟩
   ·replace H := ifN H; obtain ⟨xd, H⟩ := H;replace H := ifN H; obtain ⟨xe, H⟩ := H;replace H := be H; obtain ⟨xf, A5, H⟩ := H;have A : 0 ≤ (a : Int) := OD;have D : a < (l0.length : Int) := OD;obtain ⟨Z, O, u⟩ := Kd.jv Y.out a A D
    cases O
    (try replace u := (HB.out.cell (World.block_lt_of_cell? w _ u)).trans u);replace A := eq_true A;replace D := eq_true D;obtain ⟨y, z, G⟩ := Kd.dO o.out;subst G;replace H := ah.mk H;go_wp2_with (first | ((with_reducible refine ay (f := 110) rfl ?_); refine aW (some 14) Tryz.func110 #[.slice y m.length z, .string (fF ByteArray.empty l0 a)] ?_; (with_reducible refine (eY.calls k1 _ _ m (fF ByteArray.empty l0 a) _ _ ?side1 ?side2 A5.out).mono ?_); (case side1 => exact CR2 o); (case side2 => exact (Kd.bO o.out).2.1); rintro e w' ⟨rfl, ⟨nd, rfl⟩⟩; refine ⟨_, rfl, ?_⟩; refine bP ?_));refine Hide.mk ?_;replace H := H.out;replace H := ifB H; rcases H with ⟨rfl, H⟩ | ⟨rfl, H⟩
    ·have H' := ah.mk H;clear H;(try go_wp2);go_roundg k1;case measure => have := E.out; omega
     case rel => exact ⟨_, _, EQ, H', ks E, ⟨(RR o)⟩, ⟨BL⟩⟩
    ·replace H := ifP H; obtain ⟨c8, H⟩ := H;have P := ah.mk c8;clear c8;obtain ⟨U, x⟩ : ∃ y_ : List ByteArray, y_ = (m ++ [fF ByteArray.empty l0 a]) := ⟨_, rfl⟩;replace H : (gN.l0 k1 U l0 (l0.length : Int) (wrap64 (a + 1))) = some r := by first | (rw [x]; with_reducible exact H) | (have H2_ := (Option.bind_some _ _).symm.trans H; rw [x]; with_reducible exact H2_) | (have H2_ := (Option.bind_some _ _).symm.trans H; with_reducible exact H2_) | with_reducible exact H | (rw [x]; exact H) | exact H
     have I := ah.mk x;clear x;have H' := ah.mk H;clear H;(try go_wp2_with (first | ((with_reducible refine dU (b := .append) (xs := #[.tmp 16, .tmp 18]) rfl ?_); at_builtin; refine Kd.gU Kd.string (w0 := w) w.heap.size rfl (.tmp 16) (.tmp 18) 29 9 (.string ⟨#[]⟩) 16 rfl Tryz.underlying29 DV rfl (by decide) (by omega) (.slice y m.length z) m (fF ByteArray.empty l0 a) [.string (fF ByteArray.empty l0 a)] (fun _ => True) (fun _ => False) rfl rfl ?aP (fun _ hk => hk.elim) ?aF ?aO ?aB ?aS ?aL ?_; (case aP => exact rfl); (case aB => exact BL); (case aF => exact (fun _ _ => trivial)); (case aO => exact (RR o)); (case aS => exact (aM BL)); (case aL => have := P.out; omega); intro xg xa ho hb hg hat; rw [← I.out] at ho; replace HB := ah.mk (hb); have J := ah.mk (ho); clear o; clear ho hb hg hat)));go_roundg k1;case measure => have := E.out; omega
     case rel => exact ⟨_, _, EQ, H', ks E, ⟨(RR J)⟩, ⟨BL⟩⟩
   ·obtain rfl := Option.some.inj H;go_wp2;go_ret;exact ⟨_, EWW, (RR o), BL⟩
def fB.l0 : Nat → (Nat → ByteArray → Option Bool) → List ByteArray → List ByteArray → Int → Int → Option (List ByteArray)
 | 0, _, _, _, _, _ => none
 | k + 1, a, b, c, d, e => if e < d then (if 0 ≤ e then (if e < (c.length : Int) then ((a k (fF ByteArray.empty c e)).bind fun f => (if f = true then (if b.length < 8796093022208 then (fB.l0 k a (b ++ [fF ByteArray.empty c e]) c d (wrap64 (e + 1))) else (none)) else (fB.l0 k a b c d (wrap64 (e + 1))))) else (none)) else (none)) else (some b)
def fB.f (k : Nat) (l0 : List ByteArray) (a1 : (Nat → ByteArray → Option Bool)) : Option (List ByteArray) := fB.l0 k a1 ([] : List ByteArray) l0 (l0.length : Int) 0
theorem fB.calls (k : Nat) (A0 : Option Addr) (c0 : Nat) (l0 : List ByteArray) (P : (Nat → ByteArray → Option Bool)) (r : List ByteArray) (w : World) (I : Kd.C Kd.string w A0 l0.length l0) (J : l0.length ≤ c0) (h : fB.f k l0 P = some r) (g : FuncId) (lb : Array Value) (eg : ∀ args w, (callFunc g args).run Tryz.prog w = .ok (.enter g args) w) (hp : ∀ (j : Nat) (s : ByteArray) (b : Bool) (W : World), Below w.heap.size w W → P j s = some b → Calls Tryz.prog g (#[.string s] ++ lb) W fun e w' => e = .returned (.bool b) ∧ Below W.heap.size W w') :
  Calls Tryz.prog 78 #[.slice A0 l0.length c0, .func (.func g) #[] lb] w fun e w' => ∃ v0_ : Value, e = .returned (v0_) ∧ Kd.R Kd.string 9 w' w.heap.size (fun _ => True) v0_ r ∧ Below w.heap.size w w' := by
 have U := ah.mk I;have xi := ah.mk J;clear I J;have HB := ah.mk (Below.refl w.heap.size w);have HPP := ah.mk hp;clear hp;unfold fB.f at h;have H := h;clear h;have H' := ah.mk H;clear H;go_enter Tryz.func78, Tryz.ntmps78;go_wp2
 go_loopg [5, 10] k (fun kq v5 Y w' => ∃ (x : List ByteArray) (a : Int), Y = .int .i64 a ∧ ah (fB.l0 kq P x l0 (l0.length : Int) a = some r) ∧ ah (kq ≤ k) ∧ ah (Kd.R Kd.string 9 w' w.heap.size (fun _ => True) v5 x) ∧ ah (Below w.heap.size w w'))
 case atStart => exact ⟨_, _, EQ, H', ⟨Nat.le_refl _⟩, ⟨by first | exact Kd.oM _ _ _ _ _ | exact Kd.sw _ _ _ _ _ | exact Kd.sG _ _ _ _ _ | exact Kd.sD _ _ _ _ _ | exact Kd.sF _ _ _ _ _⟩, ⟨BL⟩⟩
 case round =>
  clear H';obtain ⟨x, a, rfl, HA, A, m, HB⟩ := hrel
  cases gk with
  | zero => exact absurd HA.out (by simp [fB.l0])
  | succ k1 =>
   have H := HA.out;clear HA;simp only [fB.l0] at H;replace H := ifD H; rcases H with ⟨K, H⟩ | ⟨K, H⟩
   ·replace H := ifN H; obtain ⟨xd, H⟩ := H;replace H := ifN H; obtain ⟨xe, H⟩ := H;replace H := be H; obtain ⟨xf, A6, H⟩ := H;have y : 0 ≤ (a : Int) := OD;have z : a < (l0.length : Int) := OD;obtain ⟨Z, L, o⟩ := Kd.jv U.out a y z
    cases L
    (try replace o := (HB.out.cell (World.block_lt_of_cell? w _ o)).trans o);replace y := eq_true y;replace z := eq_true z;replace H := ifB H; rcases H with ⟨rfl, H⟩ | ⟨rfl, H⟩
    ·replace H := ifP H; obtain ⟨c8, H⟩ := H;have M := ah.mk c8;clear c8;obtain ⟨O, u⟩ : ∃ y_ : List ByteArray, y_ = (x ++ [fF ByteArray.empty l0 a]) := ⟨_, rfl⟩;replace H : (fB.l0 k1 P O l0 (l0.length : Int) (wrap64 (a + 1))) = some r := by first | (rw [u]; with_reducible exact H) | (have H2_ := (Option.bind_some _ _).symm.trans H; rw [u]; with_reducible exact H2_) | (have H2_ := (Option.bind_some _ _).symm.trans H; with_reducible exact H2_) | with_reducible exact H | (rw [u]; exact H) | exact H
     have D := ah.mk u;clear u;have H' := ah.mk H;clear H;go_wp2_with (first | (refine (HPP.out k1 (fF ByteArray.empty l0 a) true _ BL A6.out).mono ?_; rintro e E ⟨rfl, hb⟩; replace m := RB m hb; replace HB := BS (w := w) hb; (try clear hb)) | ((with_reducible refine dU (b := .append) (xs := #[.tmp 17, .tmp 19]) rfl ?_); at_builtin; refine Kd.gU Kd.string (w0 := w) w.heap.size rfl (.tmp 17) (.tmp 19) 29 9 (.string ⟨#[]⟩) 16 rfl Tryz.underlying29 DV rfl (by decide) (by omega) u5 x (fF ByteArray.empty l0 a) [.string (fF ByteArray.empty l0 a)] (fun _ => True) (fun _ => False) rfl rfl ?aP (fun _ hk => hk.elim) ?aF ?aO ?aB ?aS ?aL ?_; (case aP => exact rfl); (case aB => exact BL); (case aF => exact (fun _ _ => trivial)); (case aO => exact (RR m)); (case aS => exact (aM BL)); (case aL => have := M.out; omega); intro xh xa ho hb hg hat; rw [← D.out] at ho; replace HB := ah.mk (hb); have G := ah.mk (ho); clear m; clear ho hb hg hat));go_roundg k1;case measure => have := A.out; omega
     case rel => exact ⟨_, _, EQ, H', ks A, ⟨(RR G)⟩, ⟨BL⟩⟩
    ·have H' := ah.mk H;clear H;go_wp2_with (first | (refine (HPP.out k1 (fF ByteArray.empty l0 a) false _ BL A6.out).mono ?_; rintro e E ⟨rfl, hb⟩; replace m := RB m hb; replace HB := BS (w := w) hb; (try clear hb); (try clear hb2); (try clear hk); (try clear hi)));go_roundg k1;case measure => have := A.out; omega
     case rel => exact ⟨_, _, EQ, H', ks A, ⟨(RR m)⟩, ⟨BL⟩⟩
   ·obtain rfl := Option.some.inj H;go_wp2;go_ret;exact ⟨_, EWW, (RR m), BL⟩
def bU.l0 : Nat → ByteArray → Int → Int → Option (Bool)
 | 0, _, _, _ => none
 | k + 1, a, b, c => if c < b then (if 0 ≤ c then (if c < (a.size : Int) then (if (bt a c) = 63 then (bU.l0 k a b (wrap64 (c + 1))) else ((eG.f (bt a c)).bind fun d => (if d = true then (bU.l0 k a b (wrap64 (c + 1))) else (some false)))) else (none)) else (none)) else (some true)
def bU.f (k : Nat) (a0 : ByteArray) : Option (Bool) := (dw.f (a0.size : Int) 1 8).bind fun t607 => (if t607 = true then (bU.l0 k a0 (a0.size : Int) 0) else (some false))
theorem bU.calls (k : Nat) (m : ByteArray) (r : Bool) (w : World) (h : bU.f k m = some r) :
  Calls Tryz.prog 111 #[.string m] w fun e w' => e = .returned (.bool r) ∧ cB w w' := by
 unfold bU.f at h;have H := h;clear h;replace H := be H; obtain ⟨D, A2, H⟩ := H;replace H := ah.mk H;go_enter Tryz.func111, Tryz.ntmps111;go_wp2_with (first | ((with_reducible refine ay (f := 60) rfl ?_); refine aW (some 6) Tryz.func60 #[.int .i64 (m.size : Int), .int .i64 1, .int .i64 8] ?_; (with_reducible refine (dw.calls (m.size : Int) 1 8 _ _ A2.out).mono ?_); rintro e w' ⟨rfl, ⟨nd, rfl⟩⟩; refine ⟨_, rfl, ?_⟩; refine bP ?_));refine Hide.mk ?_;replace H := H.out;replace H := ifB H; rcases H with ⟨rfl, H⟩ | ⟨rfl, H⟩
 ·have H' := ah.mk H;clear H;try go_wp2
  go_loopg [10] k (fun kq z w' => ∃ (a : Int), z = .int .i64 a ∧ ah (bU.l0 kq m (m.size : Int) a = some r) ∧ ah (kq ≤ k) ∧ cB w w')
  case atStart => exact ⟨_, EQ, H', ⟨Nat.le_refl _⟩, DR⟩
  case round =>
   clear H';(try clear c3);obtain ⟨a, rfl, HA, o, ⟨m1, rfl⟩⟩ := hrel
   cases gk with
   | zero => exact absurd HA.out (by simp [bU.l0])
   | succ k1 =>
    have H := HA.out;clear HA;simp only [bU.l0] at H;replace H := ifD H; rcases H with ⟨u, H⟩ | ⟨u, H⟩
    ·replace H := ifN H; obtain ⟨E, H⟩ := H;replace H := ifN H; obtain ⟨G, H⟩ := H;have J : (0 ≤ (a : Int)) = True := OT;have K : (a < (m.size : Int)) = True := OT;have hx7 := fT m a;replace H := ifE H; rcases H with ⟨x, y, H⟩ | ⟨c8, x, y, H⟩
     ·have H' := ah.mk H;clear H;go_wp2;go_roundg k1;case measure => have := o.out; omega
      case rel => exact ⟨_, EQ, H', ks o, DR⟩
     ·replace H := be H; obtain ⟨I, A, H⟩ := H;have L : (0 ≤ (a : Int)) = True := OT;have M : (a < (m.size : Int)) = True := OT;have hx9 := fT m a;replace H := ah.mk H;go_wp2_with (first | (go_at_call 107; (with_reducible refine (eG.calls (bt m a) _ _ A.out).mono ?_); rintro e w' ⟨rfl, ⟨nd, rfl⟩⟩; refine bP ?_));refine Hide.mk ?_;replace H := H.out;replace H := ifB H; rcases H with ⟨rfl, H⟩ | ⟨rfl, H⟩
      ·have H' := ah.mk H;clear H;(try go_wp2);go_roundg k1;case measure => have := o.out; omega
       case rel => exact ⟨_, EQ, H', ks o, DR⟩
      ·obtain rfl := Option.some.inj H;(try go_wp2);go_ret;exact ⟨EQ, DR⟩
    ·obtain rfl := Option.some.inj H;go_wp2;go_ret;exact ⟨EQ, DR⟩
 ·obtain rfl := Option.some.inj H;(try go_wp2);go_ret;exact ⟨EQ, DR⟩
mutual
def aV.j0 : Nat → ByteArray → ByteArray → Bool → Option (Bool)
 | 0, _, _, _ => none
 | k + 1, a, b, c => if c = true then (some false) else (aV.l0 k a b (a.size : Int) 0)
def aV.l0 : Nat → ByteArray → ByteArray → Int → Int → Option (Bool)
 | 0, _, _, _, _ => none
 | k + 1, a, b, c, d => if d < c then (if 0 ≤ d then (if d < (a.size : Int) then (if (bt a d) = 63 then (aV.l0 k a b c (wrap64 (d + 1))) else (if d < (b.size : Int) then (if (bt a d) = (bt b d) then (aV.l0 k a b c (wrap64 (d + 1))) else (some false)) else (none))) else (none)) else (none)) else (some true)
end
def aV.f (k : Nat) (a0 a1 : ByteArray) : Option (Bool) := (bU.f k a0).bind fun t609 => (if t609 = true then ((bK.f k a1).bind fun t610 => (if t610 = true then (aV.j0 k a0 a1 ((a0.size : Int) != (a1.size : Int))) else (aV.j0 k a0 a1 true))) else (aV.j0 k a0 a1 true))
theorem aV.calls (k : Nat) (m u : ByteArray) (r : Bool) (w : World) (h : aV.f k m u = some r) :
  Calls Tryz.prog 80 #[.string m, .string u] w fun e w' => e = .returned (.bool r) ∧ cB w w' := by
 unfold aV.f at h;have H := h;clear h;have A := ah.mk H;clear H;go_enter Tryz.func80, Tryz.ntmps80;go_upto_region 1 with (fail)
 repeat (go_quiet (fail); go_upto_region 1 with (fail))
 go_cut [20] (fun M wc => ∃ (kq : Nat) (o : Bool), M = .bool o ∧ ah (aV.j0 kq m u o = some r) ∧ ah (kq ≤ k) ∧ cB w wc)
 case first =>
  have H := A.out;clear A;replace H := be H; obtain ⟨Z, x, H⟩ := H;replace H := ifB H; rcases H with ⟨rfl, H⟩ | ⟨rfl, H⟩
  ·replace H := be H; obtain ⟨xa, J, H⟩ := H;replace H := ifB H; rcases H with ⟨rfl, H⟩ | ⟨rfl, H⟩
   ·have H' := ah.mk H;clear H
    repeat (go_wp2_with (first | (go_at_call 111; (with_reducible refine (bU.calls k m _ _ x.out).mono ?_); rintro e w' ⟨rfl, ⟨nd, rfl⟩⟩; (try first | exact da | exact DD)) | (go_at_call 112; (with_reducible refine (bK.calls k u _ _ J.out).mono ?_); rintro e w' ⟨rfl, ⟨nd, rfl⟩⟩; (try first | exact da | exact DD))); go_quiet (first | (go_at_call 111; (with_reducible refine (bU.calls k m _ _ x.out).mono ?_); rintro e w' ⟨rfl, ⟨nd, rfl⟩⟩; (try first | exact da | exact DD)) | (go_at_call 112; (with_reducible refine (bK.calls k u _ _ J.out).mono ?_); rintro e w' ⟨rfl, ⟨nd, rfl⟩⟩; (try first | exact da | exact DD))))
    go_wp2_with (first | (go_at_call 111; (with_reducible refine (bU.calls k m _ _ x.out).mono ?_); rintro e w' ⟨rfl, ⟨nd, rfl⟩⟩; (try first | exact da | exact DD)) | (go_at_call 112; (with_reducible refine (bK.calls k u _ _ J.out).mono ?_); rintro e w' ⟨rfl, ⟨nd, rfl⟩⟩; (try first | exact da | exact DD)));go_meet;case rel => exact ⟨_, _, EQ, H', ⟨by first | omega | exact Nat.le_refl _⟩, DR⟩
   ·have H' := ah.mk H;clear H
    repeat (go_wp2_with (first | (go_at_call 111; (with_reducible refine (bU.calls k m _ _ x.out).mono ?_); rintro e w' ⟨rfl, ⟨nd, rfl⟩⟩; (try first | exact da | exact DD)) | (go_at_call 112; (with_reducible refine (bK.calls k u _ _ J.out).mono ?_); rintro e w' ⟨rfl, ⟨nd, rfl⟩⟩; (try first | exact da | exact DD))); go_quiet (first | (go_at_call 111; (with_reducible refine (bU.calls k m _ _ x.out).mono ?_); rintro e w' ⟨rfl, ⟨nd, rfl⟩⟩; (try first | exact da | exact DD)) | (go_at_call 112; (with_reducible refine (bK.calls k u _ _ J.out).mono ?_); rintro e w' ⟨rfl, ⟨nd, rfl⟩⟩; (try first | exact da | exact DD))))
    go_wp2_with (first | (go_at_call 111; (with_reducible refine (bU.calls k m _ _ x.out).mono ?_); rintro e w' ⟨rfl, ⟨nd, rfl⟩⟩; (try first | exact da | exact DD)) | (go_at_call 112; (with_reducible refine (bK.calls k u _ _ J.out).mono ?_); rintro e w' ⟨rfl, ⟨nd, rfl⟩⟩; (try first | exact da | exact DD)));go_meet;case rel => exact ⟨_, _, EQ, H', ⟨by first | omega | exact Nat.le_refl _⟩, DR⟩
  ·have H' := ah.mk H;clear H
   repeat (go_wp2_with (first | (go_at_call 111; (with_reducible refine (bU.calls k m _ _ x.out).mono ?_); rintro e w' ⟨rfl, ⟨nd, rfl⟩⟩; (try first | exact da | exact DD))); go_quiet (first | (go_at_call 111; (with_reducible refine (bU.calls k m _ _ x.out).mono ?_); rintro e w' ⟨rfl, ⟨nd, rfl⟩⟩; (try first | exact da | exact DD))))
   go_wp2_with (first | (go_at_call 111; (with_reducible refine (bU.calls k m _ _ x.out).mono ?_); rintro e w' ⟨rfl, ⟨nd, rfl⟩⟩; (try first | exact da | exact DD)));go_meet;case rel => exact ⟨_, _, EQ, H', ⟨by first | omega | exact Nat.le_refl _⟩, DR⟩
 case rest =>
  clear A;obtain ⟨kq, o, rfl, HA, y, ⟨mc2, rfl⟩⟩ := hcut
  cases kq with
  | zero => exact absurd HA.out (by simp [aV.j0])
  | succ K =>
   have H := HA.out;clear HA;simp only [aV.j0] at H;replace H := ifB H; rcases H with ⟨rfl, H⟩ | ⟨rfl, H⟩
   ·obtain rfl := Option.some.inj H;go_wp2
    repeat (go_quiet (fail); try go_wp2)
    go_ret;exact ⟨EQ, DR⟩
   ·have H' := ah.mk H;clear H;go_wp2
    repeat (go_quiet (fail); try go_wp2)
    go_loopg [23] K (fun kq O w' => ∃ (a : Int), O = .int .i64 a ∧ ah (aV.l0 kq m u (m.size : Int) a = some r) ∧ ah (kq ≤ K) ∧ cB w w')
    case atStart => exact ⟨_, EQ, H', ⟨Nat.le_refl _⟩, DR⟩
    case round =>
     clear H';(try clear c8);obtain ⟨a, rfl, HA, z, ⟨m2, rfl⟩⟩ := hrel
     cases gk with
     | zero => exact absurd HA.out (by simp [aV.l0])
     | succ k2 =>
      have H := HA.out;clear HA;simp only [aV.l0] at H;replace H := ifD H; rcases H with ⟨L, H⟩ | ⟨L, H⟩
      ·replace H := ifN H; obtain ⟨P, H⟩ := H;replace H := ifN H; obtain ⟨U, H⟩ := H;have xb : (0 ≤ (a : Int)) = True := OT;have xc : (a < (m.size : Int)) = True := OT;have hx12 := fT m a;replace H := ifE H; rcases H with ⟨D, E, H⟩ | ⟨xd, D, E, H⟩
       ·have H' := ah.mk H;clear H;go_wp2
        repeat (go_quiet (fail); try go_wp2)
        go_roundg k2;case measure => have := y.out; have := z.out; omega
        case rel => exact ⟨_, EQ, H', ⟨by have := y.out; have := z.out; omega⟩, DR⟩
       ·replace H := ifN H; obtain ⟨Y, H⟩ := H;have xe : (0 ≤ (a : Int)) = True := OT;have xf : (a < (m.size : Int)) = True := OT;have hx14 := fT m a;have xg : (0 ≤ (a : Int)) = True := OT;have xh : (a < (u.size : Int)) = True := OT;have hx16 := fT u a;replace H := ifE H; rcases H with ⟨G, I, H⟩ | ⟨xi, G, I, H⟩
        ·have H' := ah.mk H;clear H;go_wp2
         repeat (go_quiet (fail); try go_wp2)
         go_roundg k2;case measure => have := y.out; have := z.out; omega
         case rel => exact ⟨_, EQ, H', ⟨by have := y.out; have := z.out; omega⟩, DR⟩
        ·obtain rfl := Option.some.inj H;go_wp2
         repeat (go_quiet (fail); try go_wp2)
         go_ret;exact ⟨EQ, DR⟩
      ·obtain rfl := Option.some.inj H;go_wp2
       repeat (go_quiet (fail); try go_wp2)
       go_ret;exact ⟨EQ, DR⟩
theorem KR (d : Nat) (w : World) (x0 a : ByteArray) (x1 e : Int) :
  (Op.equalIn (d + 2) 62 (.agg #[.string x0, .int .i64 x1]) (.agg #[.string a, .int .i64 e])).run Tryz.prog w = .ok (x0.toList == a.toList && (x1 == e)) w := by
 refine EH Tryz.underlying62 (by kernel_rfl) ?_;refine qg (by rfl) (by go_simp; rfl) (by go_simp; rfl) (by go_simp) ?_;exact Ah (by rfl) (by go_simp; rfl) (by go_simp; rfl) (by go_simp)
end Go.Proofs.YthkfjbodohaglaaGreatDoor.PFnExactGradeOf
