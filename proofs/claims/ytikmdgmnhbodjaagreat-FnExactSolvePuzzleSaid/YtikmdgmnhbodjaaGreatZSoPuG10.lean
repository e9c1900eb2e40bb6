/- Walks of functions: what each computes. -/
import Derived.Test.YtikmdgmnhbodjaaGreatZSoPuG0
import Derived.Test.YtikmdgmnhbodjaaGreatZSoPuG8
import Derived.Test.YtikmdgmnhbodjaaGreatZSoPuG9
namespace Go.Proofs.YtikmdgmnhbodjaaGreat.PFnExactSolvePuzzle
open Go.RowKit Go.Proofs.Yw.PrintWords Go.Proofs.Yw.PrintLast Go.Proofs.Yw.PrintMore Go.Proofs.YtikmdgmnhbodjaaGreat.Sq
attribute [local go_sem] jk jm jP jQ iP iQ jl jo
set_option maxHeartbeats 8000000
set_option maxRecDepth 100000
set_option linter.unusedVariables false
set_option linter.unusedSimpArgs false
def bH.l0 : Nat → Oo → Int → Int → Option (Bool)
 | 0, _, _, _ => none
 | k + 1, a, b, c => if c < b then if 0 ≤ c then if c < (a.size : Int) then (DL.f (bt a c)).bind fun d => if d = true then bH.l0 k a b (wrap64 (c + 1)) else some false else none else none else some true
def bH.f (k : Nat) (a0 : Oo) : Option (Bool) := (cK.f (a0.size : Int) 1 8).bind fun t603 => if t603 = true then bH.l0 k a0 (a0.size : Int) 0 else some false
theorem bH.calls (k : Nat) (m : Oo) (r : Bool) (w : World) (h : bH.f k m = some r) :
  Calls Tryz.prog 102 #[.string m] w fun e w' => e = .returned (.bool r) ∧ bU w w' := by
 unfold bH.f at h;have H := h;clear h;replace H := be H; obtain ⟨y, A2, H⟩ := H;replace H := ah.mk H;go_enter Tryz.func102, Tryz.ntmps102;go_wp2_with (first | ((with_reducible refine au (f := 63) rfl ?_); refine aK (some 6) Tryz.func63 #[.int .i64 (m.size : Int), .int .i64 1, .int .i64 8] ?_; (with_reducible refine (cK.calls (m.size : Int) 1 8 _ _ A2.out).mono ?_); rintro e w' ⟨rfl, ⟨nd, rfl⟩⟩; refine ⟨_, rfl, ?_⟩; refine bI ?_));refine Hide.mk ?_;replace H := H.out;replace H := ifB H; rcases H with ⟨rfl, H⟩ | ⟨rfl, H⟩
 ·have H' := ah.mk H;clear H;try go_wp2
  go_loopg [10] k (fun kq x w' => ∃ (a : Int), x = .int .i64 a ∧ ah (bH.l0 kq m (m.size : Int) a = some r) ∧ ah (kq ≤ k) ∧ bU w w')
  case atStart => exact ⟨_, EQ, H', ⟨nR _⟩, DR⟩
  case round =>
   clear H';obtain ⟨a, rfl, HA, o, ⟨m1, rfl⟩⟩ := hrel
   cases gk with
   | zero => exact absurd HA.out (by simp [bH.l0])
   | succ k1 =>
    have H := HA.out;clear HA;simp only [bH.l0] at H;replace H := ifD H; rcases H with ⟨u, H⟩ | ⟨u, H⟩
    ·replace H := ifN H; obtain ⟨z, H⟩ := H;replace H := ifN H; obtain ⟨A, H⟩ := H;replace H := be H; obtain ⟨D, E, H⟩ := H;have G : (0 ≤ (a : Int)) = True := OT;have I : (a < (m.size : Int)) = True := OT;have hx7 := fF m a;replace H := ah.mk H;go_wp2_with (first | ((with_reducible refine au (f := 123) rfl ?_); refine aK (some 16) Tryz.func123 #[.int .u8 (bt m a)] ?_; (with_reducible refine (DL.calls (bt m a) _ _ E.out).mono ?_); rintro e w' ⟨rfl, ⟨nd, rfl⟩⟩; refine ⟨_, rfl, ?_⟩; refine bI ?_));refine Hide.mk ?_;replace H := H.out;replace H := ifB H; rcases H with ⟨rfl, H⟩ | ⟨rfl, H⟩
     ·have H' := ah.mk H;clear H;(try go_wp2);go_roundg k1;case measure => have := o.out; omega
      case rel => exact ⟨_, EQ, H', ks o, DR⟩
     ·obtain rfl := sI H;(try go_wp2);go_ret;exact ⟨EQ, DR⟩
    ·obtain rfl := sI H;go_wp2;go_ret;exact ⟨EQ, DR⟩
 ·obtain rfl := sI H;(try go_wp2);go_ret;exact ⟨EQ, DR⟩
def ku.f (a0 : Int) : Option (Bool) := if a0 = 3 then some true else some (decide (a0 ≥ 6))
theorem ku.calls (o : Int) (r : Bool) (w : World) (h : ku.f o = some r) :
  Calls Tryz.prog 188 #[.int .i64 o] w fun e w' => e = .returned (.bool r) ∧ bU w w' := by
 unfold ku.f at h;have H := h;clear h;replace H := ah.mk H;go_enter Tryz.func188, Tryz.ntmps188;replace H := H.out;replace H := ifE H; rcases H with ⟨a, m, H⟩ | ⟨c2, a, m, H⟩
 ·obtain rfl := sI H;(try go_wp2);go_ret;exact ⟨EQ, DR⟩
 ·obtain rfl := sI H;(try go_wp2);go_ret;exact ⟨EQ, DR⟩
def jy.f (a0 : Int) : Option (Bool) := if a0 = 4 then some true else some (a0 == 5)
theorem jy.calls (o : Int) (r : Bool) (w : World) (h : jy.f o = some r) :
  Calls Tryz.prog 189 #[.int .i64 o] w fun e w' => e = .returned (.bool r) ∧ bU w w' := by
 unfold jy.f at h;have H := h;clear h;replace H := ah.mk H;go_enter Tryz.func189, Tryz.ntmps189;replace H := H.out;replace H := ifE H; rcases H with ⟨a, m, H⟩ | ⟨c2, a, m, H⟩
 ·obtain rfl := sI H;(try go_wp2);go_ret;exact ⟨EQ, DR⟩
 ·obtain rfl := sI H;(try go_wp2);go_ret;exact ⟨EQ, DR⟩
mutual
def dG.l0 : Nat → List bY → List bY → Int → Int → Option (Bool)
 | 0, _, _, _, _ => none
 | k + 1, a, b, c, d => if d < c then if 0 ≤ d then if d < (b.length : Int) then (cK.f ((aj b d).f0) 1 9).bind fun e => if e = true then if ((aj b d).f0) = 1 then (bH.f k ((aj b d).f1)).bind fun f => if f = true then if ((aj b d).f2) = 0 then if ((aj b d).f3) = 0 then dG.l0 k a b c (wrap64 (d + 1)) else some false else some false else some false else if ((aj b d).f1).toList = ([] : List UInt8) then (mI.f ((aj b d).f2) d).bind fun g => if g = true then (ku.f ((aj b d).f0)).bind fun h => if h = true then if 0 ≤ ((aj b d).f2) then if ((aj b d).f2) < (a.length : Int) then dG.j1 k a d b c d (((aj a ((aj b d).f2)).f0) != 1) ((aj b d).f0) ((aj b d).f1) ((aj b d).f2) ((aj b d).f3) else none else none else dG.j1 k a d b c d false ((aj b d).f0) ((aj b d).f1) ((aj b d).f2) ((aj b d).f3) else dG.j1 k a d b c d true ((aj b d).f0) ((aj b d).f1) ((aj b d).f2) ((aj b d).f3) else dG.j1 k a d b c d true ((aj b d).f0) ((aj b d).f1) ((aj b d).f2) ((aj b d).f3) else some false else none else none else some true
def dG.j1 : Nat → List bY → Int → List bY → Int → Int → Bool → Int → Oo → Int → Int → Option (Bool)
 | 0, _, _, _, _, _, _, _, _, _, _ => none
 | k + 1, a, b, c, d, e, f, g, h, i, j => if f = true then some false else (jy.f g).bind fun l => if l = true then (mI.f j b).bind fun m => if m = true then (jy.f g).bind fun n => if n = true then dG.l0 k a c d (wrap64 (e + 1)) else if j = 0 then dG.l0 k a c d (wrap64 (e + 1)) else some false else some false else (jy.f g).bind fun o => if o = true then dG.l0 k a c d (wrap64 (e + 1)) else if j = 0 then dG.l0 k a c d (wrap64 (e + 1)) else some false
end
def dG.f (k : Nat) (l0 : List bY) : Option (Bool) := (cK.f (l0.length : Int) 1 9).bind fun t605 => if t605 = true then dG.l0 k l0 l0 (l0.length : Int) 0 else some false
theorem dG.calls (k : Nat) (A0 : Option Addr) (c0 : Nat) (l0 : List bY) (r : Bool) (w : World) (xQ : Kd.C gV w A0 l0.length l0) (xR : l0.length ≤ c0) (h : dG.f k l0 = some r) :
  Calls Tryz.prog 143 #[.slice A0 l0.length c0] w fun e w' => e = .returned (.bool r) ∧ Below w.heap.size w w' := by
 have xX := Tryz.underlying127;have xS := ah.mk xQ;have yw := ah.mk xR;clear xQ xR;have HB := ah.mk (bR w.heap.size w);unfold dG.f at h;have H := h;clear h;replace H := be H; obtain ⟨yn, A2, H⟩ := H;replace H := ah.mk H;go_enter Tryz.func143, Tryz.ntmps143;go_wp2_with (first | ((with_reducible refine au (f := 63) rfl ?_); refine aK (some 7) Tryz.func63 #[.int .i64 (l0.length : Int), .int .i64 1, .int .i64 9] ?_; (with_reducible refine (cK.calls (l0.length : Int) 1 9 _ _ A2.out).mono ?_); rintro e w' ⟨rfl, ⟨nd, rfl⟩⟩; refine ⟨_, rfl, ?_⟩; refine bI ?_));refine Hide.mk ?_;replace H := H.out;replace H := ifB H; rcases H with ⟨rfl, H⟩ | ⟨rfl, H⟩
 ·have H' := ah.mk H;clear H;try go_wp2
  go_loopg [11] k (fun kq xY w' => ∃ (a : Int), xY = .int .i64 a ∧ ah (dG.l0 kq l0 l0 (l0.length : Int) a = some r) ∧ ah (kq ≤ k) ∧ ah (Below w.heap.size w w'))
  case atStart => exact ⟨_, EQ, H', ⟨nR _⟩, ⟨BL⟩⟩
  case round =>
   clear H';obtain ⟨a, rfl, HA, A, HB⟩ := hrel
   cases gk with
   | zero => exact absurd HA.out (by simp [dG.l0])
   | succ k1 =>
    have H := HA.out;clear HA;simp only [dG.l0] at H;replace H := ifD H; rcases H with ⟨xn, H⟩ | ⟨xn, H⟩
    ·replace H := ifN H; obtain ⟨xT, H⟩ := H;replace H := ifN H; obtain ⟨xU, H⟩ := H;replace H := be H; obtain ⟨yo, A7, H⟩ := H;have xd : 0 ≤ (a : Int) := OD;have xe : a < (l0.length : Int) := OD;obtain ⟨K, xV, D, E, G, I⟩ := jF xS.out a xd xe
     cases xV
     (try replace D := (HB.out.cell (wB w _ D)).trans D);(try replace E := (HB.out.cell (wB w _ E)).trans E);(try replace G := (HB.out.cell (wB w _ G)).trans G);(try replace I := (HB.out.cell (wB w _ I)).trans I);replace xd := eq_true xd;replace xe := eq_true xe;replace H := ah.mk H;go_wp2_with (first | ((with_reducible refine aG (N := 4) rfl ?_); refine aN (N := 4) (cs := #[.int .i64 0, .string (⟨#[]⟩ : Oo), .int .i64 0, .int .i64 0]) (t := 127) ?_; intro o hg xZ hbox hb; have z := ah.mk hbox; have L := SZ (w := w) hg; have ya := L; replace HB := BS (w := w) hb; clear hb hbox hg; obtain ⟨P, U, X, Y, Z, xa, xb, xc⟩ := cz4 z.out) | ((with_reducible refine au (f := 63) rfl ?_); refine aK (some 18) Tryz.func63 #[.int .i64 ((aj l0 a).f0), .int .i64 1, .int .i64 9] ?_; (with_reducible refine (cK.calls ((aj l0 a).f0) 1 9 _ _ A7.out).mono ?_); rintro e w' ⟨rfl, ⟨nd, rfl⟩⟩; refine ⟨_, rfl, ?_⟩; refine bI ?_));refine Hide.mk ?_;replace H := H.out;replace H := ifB H; rcases H with ⟨rfl, H⟩ | ⟨rfl, H⟩
     ·replace H := ifE H; rcases H with ⟨xo, xp, H⟩ | ⟨c9, xo, xp, H⟩
      ·replace H := be H; obtain ⟨yp, yb, H⟩ := H;replace H := ah.mk H;go_wp2_with (first | ((with_reducible refine au (f := 102) rfl ?_); refine aK (some 25) Tryz.func102 #[.string ((aj l0 a).f1)] ?_; (with_reducible refine (bH.calls k1 ((aj l0 a).f1) _ _ yb.out).mono ?_); rintro e w' ⟨rfl, ⟨nd, rfl⟩⟩; refine ⟨_, rfl, ?_⟩; refine bI ?_));refine Hide.mk ?_;replace H := H.out;replace H := ifB H; rcases H with ⟨rfl, H⟩ | ⟨rfl, H⟩
       ·replace H := ifE H; rcases H with ⟨xq, xr, H⟩ | ⟨yy, xq, xr, H⟩
        ·replace H := ifE H; rcases H with ⟨xs, xt, H⟩ | ⟨yz, xs, xt, H⟩
         ·have H' := ah.mk H;clear H;(try go_wp2);go_roundg k1;case measure => have := A.out; omega
          case rel => exact ⟨_, EQ, H', ks A, ⟨BL⟩⟩
         ·obtain rfl := sI H;(try go_wp2);go_ret;exact ⟨EWW, BL⟩
        ·obtain rfl := sI H;(try go_wp2);go_ret;exact ⟨EWW, BL⟩
       ·obtain rfl := sI H;(try go_wp2);go_ret;exact ⟨EWW, BL⟩
      ·have xg := ah.mk H;clear H;go_upto_region 11 with (fail);(try simp only [Act.put, List.setIfInBounds_toArray, List.set_cons_zero, List.set_cons_succ])
       go_cut [60] (fun yc wc => ∃ (kq : Nat) (O : Bool), yc = .bool O ∧ ah (dG.j1 kq l0 a l0 (l0.length : Int) a O ((aj l0 a).f0) ((aj l0 a).f1) ((aj l0 a).f2) ((aj l0 a).f3) = some r) ∧ ah (kq ≤ k1) ∧ ah (wc.heap[o]? = some (.cells #[.int .i64 ((aj l0 a).f0), .string ((aj l0 a).f1), .int .i64 ((aj l0 a).f2), .int .i64 ((aj l0 a).f3)] 127 (0, 0))) ∧ ah (Below w.heap.size w wc))
       case first =>
        have H := xg.out;clear xg;obtain ⟨xu, xv, xw, xx, xy, xz, xA, xB⟩ := cz4 z.out;replace H := ifE H; rcases H with ⟨M, xC, H⟩ | ⟨yA, M, xC, H⟩
        ·(first | rw [M] | (simp only [gH, iE]; rw [M]) | skip);replace H := be H; obtain ⟨yq, yd, H⟩ := H;replace H := ah.mk H;go_wp2_with (first | (go_at_call 186; (with_reducible refine (mI.calls ((aj l0 a).f2) a _ _ yd.out).mono ?_); rintro e w' ⟨rfl, ⟨nd, rfl⟩⟩; refine bI ?_));refine Hide.mk ?_;replace H := H.out;replace H := ifB H; rcases H with ⟨rfl, H⟩ | ⟨rfl, H⟩
         ·replace H := be H; obtain ⟨yr, ye, H⟩ := H;replace H := ah.mk H;go_wp2_with (first | (go_at_call 188; (with_reducible refine (ku.calls ((aj l0 a).f0) _ _ ye.out).mono ?_); rintro e w' ⟨rfl, ⟨nd, rfl⟩⟩; refine bI ?_));refine Hide.mk ?_;replace H := H.out;replace H := ifB H; rcases H with ⟨rfl, H⟩ | ⟨rfl, H⟩
          ·replace H := ifN H; obtain ⟨yf, H⟩ := H;replace H := ifN H; obtain ⟨yg, H⟩ := H;have H' := ah.mk H;clear H;have xh : 0 ≤ (((aj l0 a).f2) : Int) := OD;have xi : ((aj l0 a).f2) < (l0.length : Int) := OD;obtain ⟨xD, xW, m, u, x, y⟩ := jF xS.out ((aj l0 a).f2) xh xi;obtain rfl : K = xD := (by injection xW);have xj : K.block ≠ o := Nat.ne_of_lt (Nat.lt_of_lt_of_le (by have := wB _ _ m; first | rwa [add_block] at this | exact this) L.out);have xk : K.block ≠ o := Nat.ne_of_lt (Nat.lt_of_lt_of_le (by have := wB _ _ m; first | rwa [add_block] at this | exact this) L.out);have xl : K.block ≠ o := Nat.ne_of_lt (Nat.lt_of_lt_of_le (by have := wB _ _ m; first | rwa [add_block] at this | exact this) L.out);have xm : K.block ≠ o := Nat.ne_of_lt (Nat.lt_of_lt_of_le (by have := wB _ _ m; first | rwa [add_block] at this | exact this) L.out);replace m := (HB.out.cell (wB w _ m)).trans m;replace u := (HB.out.cell (wB w _ u)).trans u;replace x := (HB.out.cell (wB w _ x)).trans x;replace y := (HB.out.cell (wB w _ y)).trans y;replace m := (cell_far (p := ⟨o, 0, none⟩) AB (.int .i64 ((aj l0 a).f0))).trans m;replace u := (cell_far (p := ⟨o, 0, none⟩) AB (.int .i64 ((aj l0 a).f0))).trans u;replace x := (cell_far (p := ⟨o, 0, none⟩) AB (.int .i64 ((aj l0 a).f0))).trans x;replace y := (cell_far (p := ⟨o, 0, none⟩) AB (.int .i64 ((aj l0 a).f0))).trans y;replace m := (cell_far (p := ⟨o, 1, none⟩) AB (.string ((aj l0 a).f1))).trans m;replace u := (cell_far (p := ⟨o, 1, none⟩) AB (.string ((aj l0 a).f1))).trans u;replace x := (cell_far (p := ⟨o, 1, none⟩) AB (.string ((aj l0 a).f1))).trans x;replace y := (cell_far (p := ⟨o, 1, none⟩) AB (.string ((aj l0 a).f1))).trans y;replace m := (cell_far (p := ⟨o, 2, none⟩) AB (.int .i64 ((aj l0 a).f2))).trans m;replace u := (cell_far (p := ⟨o, 2, none⟩) AB (.int .i64 ((aj l0 a).f2))).trans u;replace x := (cell_far (p := ⟨o, 2, none⟩) AB (.int .i64 ((aj l0 a).f2))).trans x;replace y := (cell_far (p := ⟨o, 2, none⟩) AB (.int .i64 ((aj l0 a).f2))).trans y;replace m := (cell_far (p := ⟨o, 3, none⟩) AB (.int .i64 ((aj l0 a).f3))).trans m;replace u := (cell_far (p := ⟨o, 3, none⟩) AB (.int .i64 ((aj l0 a).f3))).trans u;replace x := (cell_far (p := ⟨o, 3, none⟩) AB (.int .i64 ((aj l0 a).f3))).trans x;replace y := (cell_far (p := ⟨o, 3, none⟩) AB (.int .i64 ((aj l0 a).f3))).trans y;clear xj xk xl xm;replace xh := eq_true xh;replace xi := eq_true xi;go_wp2;go_meet;case rel => exact ⟨_, _, EQ, H', ⟨by have := A.out; first | omega | exact nR _⟩, ⟨by (with_reducible repeat (first | refine ay ?_ _ | refine aC ?_ | refine av ?_ _ | apply aI)); exact z.out; all_goals rfl⟩, ⟨BL⟩⟩
          ·have H' := ah.mk H;clear H;(try go_wp2);go_meet;case rel => exact ⟨_, _, EQ, H', ⟨by have := A.out; first | omega | exact nR _⟩, ⟨by (with_reducible repeat (first | refine ay ?_ _ | refine aC ?_ | refine av ?_ _ | apply aI)); exact z.out; all_goals rfl⟩, ⟨BL⟩⟩
         ·have H' := ah.mk H;clear H;(try go_wp2);go_meet;case rel => exact ⟨_, _, EQ, H', ⟨by have := A.out; first | omega | exact nR _⟩, ⟨by (with_reducible repeat (first | refine ay ?_ _ | refine aC ?_ | refine av ?_ _ | apply aI)); exact z.out; all_goals rfl⟩, ⟨BL⟩⟩
        ·(first | rw [M] | (simp only [gH, iE]; rw [M]) | skip);have H' := ah.mk H;clear H;go_wp2;go_meet;case rel => exact ⟨_, _, EQ, H', ⟨by have := A.out; first | omega | exact nR _⟩, ⟨by (with_reducible repeat (first | refine ay ?_ _ | refine aC ?_ | refine av ?_ _ | apply aI)); exact z.out; all_goals rfl⟩, ⟨BL⟩⟩
       case rest =>
        clear xg;(try clear xn);(try clear xT);(try clear xU);(try clear c9);(try clear xo);(try clear xp);(try clear P U X Y Z xa xb xc);(try clear D);(try clear E);(try clear G);(try clear I);(try clear xd);(try clear xe);obtain ⟨kq, O, rfl, HA, J, z, HB⟩ := hcut
        cases kq with
        | zero => exact absurd HA.out (by simp [dG.j1])
        | succ xf =>
         have H := HA.out;clear HA;simp only [dG.j1] at H;replace H := ifB H; rcases H with ⟨rfl, H⟩ | ⟨rfl, H⟩
         ·obtain rfl := sI H;go_wp2;go_ret;exact ⟨EWW, BL⟩
         ·replace H := be H; obtain ⟨ys, yh, H⟩ := H;obtain ⟨xE, xF, xG, xH, xI, xJ, xK, xL⟩ := cz4 z.out;replace H := ah.mk H;go_wp2_with (first | ((with_reducible refine au (f := 189) rfl ?_); refine aK (some 63) Tryz.func189 #[.int .i64 ((aj l0 a).f0)] ?_; (with_reducible refine (jy.calls ((aj l0 a).f0) _ _ yh.out).mono ?_); rintro e w' ⟨rfl, ⟨nd, rfl⟩⟩; refine ⟨_, rfl, ?_⟩; refine bI ?_));refine Hide.mk ?_;replace H := H.out;replace H := ifB H; rcases H with ⟨rfl, H⟩ | ⟨rfl, H⟩
          ·replace H := be H; obtain ⟨yt, yi, H⟩ := H;replace H := ah.mk H;go_wp2_with (first | (go_at_call 186; (with_reducible refine (mI.calls ((aj l0 a).f3) a _ _ yi.out).mono ?_); rintro e w' ⟨rfl, ⟨nd, rfl⟩⟩; refine bI ?_));refine Hide.mk ?_;replace H := H.out;replace H := ifB H; rcases H with ⟨rfl, H⟩ | ⟨rfl, H⟩
           ·replace H := be H; obtain ⟨yu, yj, H⟩ := H;replace H := ah.mk H;go_wp2_with (first | (go_at_call 189; (with_reducible refine (jy.calls ((aj l0 a).f0) _ _ yj.out).mono ?_); rintro e w' ⟨rfl, ⟨nd, rfl⟩⟩; refine bI ?_));refine Hide.mk ?_;replace H := H.out;replace H := ifB H; rcases H with ⟨rfl, H⟩ | ⟨rfl, H⟩
            ·have H' := ah.mk H;clear H;(try go_wp2);go_roundg xf;case measure => have := A.out; have := J.out; omega
             case rel => exact ⟨_, EQ, H', kt A J, ⟨BL⟩⟩
            ·replace H := ifE H; rcases H with ⟨xM, xN, H⟩ | ⟨yB, xM, xN, H⟩
             ·have H' := ah.mk H;clear H;(try go_wp2);go_roundg xf;case measure => have := A.out; have := J.out; omega
              case rel => exact ⟨_, EQ, H', kt A J, ⟨BL⟩⟩
             ·obtain rfl := sI H;(try go_wp2);go_ret;exact ⟨EWW, BL⟩
           ·obtain rfl := sI H;(try go_wp2);go_ret;exact ⟨EWW, BL⟩
          ·replace H := be H; obtain ⟨yv, yk, H⟩ := H;replace H := ah.mk H;go_wp2_with (first | (go_at_call 189; (with_reducible refine (jy.calls ((aj l0 a).f0) _ _ yk.out).mono ?_); rintro e w' ⟨rfl, ⟨nd, rfl⟩⟩; refine bI ?_));refine Hide.mk ?_;replace H := H.out;replace H := ifB H; rcases H with ⟨rfl, H⟩ | ⟨rfl, H⟩
           ·have H' := ah.mk H;clear H;(try go_wp2);go_roundg xf;case measure => have := A.out; have := J.out; omega
            case rel => exact ⟨_, EQ, H', kt A J, ⟨BL⟩⟩
           ·replace H := ifE H; rcases H with ⟨xO, xP, H⟩ | ⟨yC, xO, xP, H⟩
            ·have H' := ah.mk H;clear H;(try go_wp2);go_roundg xf;case measure => have := A.out; have := J.out; omega
             case rel => exact ⟨_, EQ, H', kt A J, ⟨BL⟩⟩
            ·obtain rfl := sI H;(try go_wp2);go_ret;exact ⟨EWW, BL⟩
     ·obtain rfl := sI H;(try go_wp2);go_ret;exact ⟨EWW, BL⟩
    ·obtain rfl := sI H;go_wp2;go_ret;exact ⟨EWW, BL⟩
 ·obtain rfl := sI H;(try go_wp2);go_ret;exact ⟨EWW, BL⟩
def lN.f (k : Nat) (Dp : Int) (l0_1 : List bY) : Option (Bool) := (cK.f Dp 1 99).bind fun t618 => if t618 = true then (dG.f k l0_1).bind fun t619 => some t619 else some false
theorem lN.calls (k : Nat) (Dp : Int) (o : Option Addr) (u : Nat) (a : List bY) (r : Bool) (w : World) (x : Kd.C gV w o a.length a) (y : a.length ≤ u) (h : lN.f k Dp a = some r) :
  Calls Tryz.prog 87 #[.agg #[.int .i64 Dp, .slice o a.length u]] w fun e w' => e = .returned (.bool r) ∧ Below w.heap.size w w' := by
 have U := Tryz.underlying70;have z := ah.mk x;have A := ah.mk y;clear x y;have HB := ah.mk (bR w.heap.size w);unfold lN.f at h;have H := h;clear h;replace H := be H; obtain ⟨X, A2, H⟩ := H;replace H := ah.mk H;go_enter Tryz.func87, Tryz.ntmps87;go_wp2_with (first | ((with_reducible refine aG (N := 1) rfl ?_); refine aN (N := 1) (cs := #[.int .i64 Dp, .slice o a.length u]) (t := 70) ?_; intro L hg M hbox hb; have m := ah.mk hbox; have D := SZ (w := w) hg; have O := D; replace HB := BS (w := w) hb; clear hb hbox hg; obtain ⟨E, G, I, J⟩ := cz2 m.out) | ((with_reducible refine au (f := 63) rfl ?_); refine aK (some 5) Tryz.func63 #[.int .i64 Dp, .int .i64 1, .int .i64 99] ?_; (with_reducible refine (cK.calls Dp 1 99 _ _ A2.out).mono ?_); rintro e w' ⟨rfl, ⟨nd, rfl⟩⟩; refine ⟨_, rfl, ?_⟩; refine bI ?_));refine Hide.mk ?_;replace H := H.out;replace H := ifB H; rcases H with ⟨rfl, H⟩ | ⟨rfl, H⟩
 ·replace H := be H; obtain ⟨K, Y, H⟩ := H;obtain rfl := sI H;(try go_wp2_with (first | (go_at_call 143; (with_reducible refine (dG.calls k _ _ a K _ ?s1_ ?s2_ Y.out).mono ?_); (case s1_ => repeat (first | exact (Kd.dz z.out BL) | (with_reducible refine Kd.fU ?_ _) | (with_reducible refine Kd.fV ?_ _) | (with_reducible refine Kd.iy ?_))); (case s2_ => exact A.out); rintro e P ⟨rfl, hb⟩; replace m := KB m hb; replace HB := BS (w := w) hb; (try clear hb))));go_ret;exact ⟨EWW, BL⟩
 ·obtain rfl := sI H;(try go_wp2);go_ret;exact ⟨EWW, BL⟩
def jS.f (k : Nat) (Dp : Int) (l0_1 : List bY) : Option (Bool) := (lN.f k Dp l0_1).bind fun t621 => some (!t621)
theorem jS.calls (k : Nat) (Dp : Int) (o : Option Addr) (u : Nat) (a : List bY) (r : Bool) (w : World) (x : Kd.C gV w o a.length a) (y : a.length ≤ u) (h : jS.f k Dp a = some r) :
  Calls Tryz.prog 86 #[.agg #[.int .i64 Dp, .slice o a.length u]] w fun e w' => e = .returned (.bool r) ∧ Below w.heap.size w w' := by
 have O := Tryz.underlying70;have z := ah.mk x;have A := ah.mk y;clear x y;have HB := ah.mk (bR w.heap.size w);unfold jS.f at h;have H := h;clear h;replace H := be H; obtain ⟨E, A2, H⟩ := H;obtain rfl := sI H;go_enter Tryz.func86, Tryz.ntmps86;go_wp2_with (first | ((with_reducible refine aG (N := 1) rfl ?_); refine aN (N := 1) (cs := #[.int .i64 Dp, .slice o a.length u]) (t := 70) ?_; intro L hg P hbox hb; have m := ah.mk hbox; have D := SZ (w := w) hg; have M := D; replace HB := BS (w := w) hb; clear hb hbox hg; obtain ⟨G, I, J, K⟩ := cz2 m.out) | ((with_reducible refine au (f := 87) rfl ?_); refine aK (some 4) Tryz.func87 #[.agg #[.int .i64 Dp, .slice o a.length u]] ?_; (with_reducible refine (lN.calls k Dp _ _ a E _ ?s1_ ?s2_ A2.out).mono ?_); (case s1_ => exact CB z); (case s2_ => exact A.out); rintro e U ⟨rfl, hb⟩; refine ⟨_, rfl, ?_⟩; replace m := KB m hb; replace HB := BS (w := w) hb; (try clear hb)));go_ret;exact ⟨EWW, BL⟩
def gZ.l0 : Nat → List S70 → Int → Int → Option (Int)
 | 0, _, _, _ => none
 | k + 1, a, b, c => if c < b then if 0 ≤ c then if c < (a.length : Int) then (jS.f k ((Oh a c).f0) ((Oh a c).f1)).bind fun d => if d = true then some c else gZ.l0 k a b (wrap64 (c + 1)) else none else none else some (-1)
def gZ.f (k : Nat) (l0 : List S70) (a1 : Oo) : Option (Int) := gZ.l0 k l0 (l0.length : Int) 0
theorem gZ.calls (k : Nat) (P : Option Addr) (U : Nat) (l0 : List S70) (a1 : Oo) (r : Int) (w : World) (A : Kd.C k70 w P l0.length l0) (D : l0.length ≤ U) (h : gZ.f k l0 a1 = some r) :
  Calls Tryz.prog 142 #[.slice P l0.length U, .func (.func 86) #[] #[]] w fun e w' => e = .returned (.int .i64 r) ∧ Below w.heap.size w w' := by
 have X := Tryz.underlying70;have L := ah.mk A;have xb := ah.mk D;clear A D;have HB := ah.mk (bR w.heap.size w);unfold gZ.f at h;have H := h;clear h;have H' := ah.mk H;clear H;go_enter Tryz.func142, Tryz.ntmps142;go_wp2
 go_loopg [8] k (fun kq v8 w' => ∃ (a : Int), v8 = .int .i64 a ∧ ah (gZ.l0 kq l0 (l0.length : Int) a = some r) ∧ ah (kq ≤ k) ∧ ah (Below w.heap.size w w'))
 case atStart => exact ⟨_, EQ, H', ⟨nR _⟩, ⟨BL⟩⟩
 case round =>
  clear H';obtain ⟨a, rfl, HA, E, HB⟩ := hrel
  cases gk with
  | zero => exact absurd HA.out (by simp [gZ.l0])
  | succ k1 =>
   have H := HA.out;clear HA;simp only [gZ.l0] at H;replace H := ifD H; rcases H with ⟨G, H⟩ | ⟨G, H⟩
   ·replace H := ifN H; obtain ⟨Y, H⟩ := H;replace H := ifN H; obtain ⟨Z, H⟩ := H;replace H := be H; obtain ⟨xa, A6, H⟩ := H;have u : 0 ≤ (a : Int) := OD;have x : a < (l0.length : Int) := OD;obtain ⟨M, J, K, I, m, o, hl622_1, hi622_1⟩ := pE L.out a u x
    cases I
    (try replace m := (HB.out.cell (wB w _ m)).trans m);(try replace o := (HB.out.cell (wB w _ o)).trans o);have y := ah.mk hi622_1;have z := ah.mk hl622_1;clear hi622_1 hl622_1;replace u := eq_true u;replace x := eq_true x;replace H := ah.mk H;go_wp2_with (first | ((with_reducible refine (jS.calls k1 ((Oh l0 a).f0) _ _ ((Oh l0 a).f1) _ _ ?s1_ ?s2_ A6.out).mono ?_); (case s1_ => exact CB y); (case s2_ => exact z.out); rintro e O ⟨rfl, hb⟩; replace HB := BS (w := w) hb; (try clear hb); refine bI ?_));refine Hide.mk ?_;replace H := H.out;replace H := ifB H; rcases H with ⟨rfl, H⟩ | ⟨rfl, H⟩
    ·obtain rfl := sI H;(try go_wp2);go_ret;exact ⟨EWW, BL⟩
    ·have H' := ah.mk H;clear H;(try go_wp2);go_roundg k1;case measure => have := E.out; omega
     case rel => exact ⟨_, EQ, H', ks E, ⟨BL⟩⟩
   ·obtain rfl := sI H;go_wp2;go_ret;exact ⟨EWW, BL⟩
def lq.f (k : Nat) (l0 : List S70) (a1 : Oo) : Option (Bool) := (gZ.f k l0 a1).bind fun t624 => some (decide (t624 ≥ 0))
theorem lq.calls (k : Nat) (u : Option Addr) (x : Nat) (l0 : List S70) (a1 : Oo) (r : Bool) (w : World) (a : Kd.C k70 w u l0.length l0) (m : l0.length ≤ x) (h : lq.f k l0 a1 = some r) :
  Calls Tryz.prog 85 #[.slice u l0.length x, .func (.func 86) #[] #[]] w fun e w' => e = .returned (.bool r) ∧ Below w.heap.size w w' := by
 have y := ah.mk a;have z := ah.mk m;clear a m;have HB := ah.mk (bR w.heap.size w);unfold lq.f at h;have H := h;clear h;replace H := be H; obtain ⟨o, A3, H⟩ := H;obtain rfl := sI H;go_enter Tryz.func85, Tryz.ntmps85;go_wp2_with (first | ((with_reducible refine au (f := 142) rfl ?_); refine aK (some 7) Tryz.func142 #[.slice u l0.length x, .func (.func 86) #[] #[]] ?_; (with_reducible refine (gZ.calls k _ _ l0 a1 o _ ?s1_ ?s2_ A3.out).mono ?_); (case s1_ => repeat (first | exact y.out | (with_reducible refine Kd.fU ?_ _) | (with_reducible refine Kd.fV ?_ _) | (with_reducible refine Kd.iy ?_))); (case s2_ => exact z.out); rintro e A ⟨rfl, hb⟩; refine ⟨_, rfl, ?_⟩; replace HB := BS (w := w) hb; (try clear hb)));go_ret;exact ⟨EWW, BL⟩
def jB.f (k : Nat) (Dp Dq : Int) (Dr : Oo) (Dt : List S70) (Du : List Int) (Dv : Int) : Option (Bool) := (fQ.f k Dp Dq Dr).bind fun t626 => if t626 = 0 then (aX.f k Dp Dq Dr).bind fun t627 => if (Dt.length : Int) = (t627.length : Int) then if (Du.length : Int) = (t627.length : Int) then (cK.f Dv 1 9999).bind fun t630 => if t630 = true then (lq.f k Dt (⟨#[70, 73, 88]⟩ : Oo)).bind fun t631 => some (!t631) else some false else some false else some false else some false
theorem jB.calls (k : Nat) (Dp Dq : Int) (Dr : Oo) (A0_3 : Option Addr) (c0_3 : Nat) (Dt : List S70) (A0_4 : Option Addr) (c0_4 : Nat) (Du : List Int) (Dv : Int) (r : Bool) (w : World) (hr0_3 : Kd.C k70 w A0_3 Dt.length Dt) (hc0_3 : Dt.length ≤ c0_3) (hr0_4 : Kd.C (Kd.int .i64) w A0_4 Du.length Du) (hc0_4 : Du.length ≤ c0_4) (h : jB.f k Dp Dq Dr Dt Du Dv = some r) :
  Calls Tryz.prog 46 #[.agg #[.int .i64 Dp, .int .i64 Dq, .string Dr, .slice A0_3 Dt.length c0_3, .slice A0_4 Du.length c0_4, .int .i64 Dv]] w fun e w' => e = .returned (.bool r) ∧ Below w.heap.size w w' := by
 have xQ := Tryz.underlying38;have xR := Tryz.underlying35;have x := ah.mk hr0_3;have y := ah.mk hc0_3;clear hr0_3 hc0_3;have xI := ah.mk hr0_4;have xJ := ah.mk hc0_4;clear hr0_4 hc0_4;have HB := ah.mk (bR w.heap.size w);unfold jB.f at h;have H := h;clear h;replace H := be H; obtain ⟨xv, A2, H⟩ := H;replace H := ah.mk H;go_enter Tryz.func46, Tryz.ntmps46;go_wp2_with (first | ((with_reducible refine aG (N := 1) rfl ?_); (try (refine iO (by rfl) ?_; dsimp only)); refine aN (N := 1) (cs := #[.int .i64 Dp, .int .i64 Dq, .string Dr, .slice A0_3 Dt.length c0_3, .slice A0_4 Du.length c0_4, .int .i64 Dv]) (t := 38) ?_; intro xK hg xL hbox hb; have m := ah.mk hbox; have z := SZ (w := w) hg; have xM := z; replace HB := BS (w := w) hb; clear hb hbox hg; obtain ⟨A, D, E, G, I, J, K, L, M, O, P, U⟩ := cz6 m.out) | ((with_reducible refine au (f := 83) rfl ?_); refine aK (some 6) Tryz.func83 #[.agg #[.int .i64 Dp, .int .i64 Dq, .string Dr]] ?_; (with_reducible refine (fQ.calls k Dp Dq Dr xv _ A2.out).mono ?_); rintro e xN ⟨rfl, hb⟩; refine ⟨_, rfl, ?_⟩; replace m := KB m hb; replace HB := BS (w := w) hb; (try clear hb); obtain ⟨X, Y, Z, xa, xb, xc, xd, xe, xf, xg, xh, xi⟩ := cz6 m.out; refine bI ?_));refine Hide.mk ?_;replace H := H.out;replace H := ifE H; rcases H with ⟨xw, xx, H⟩ | ⟨c3, xw, xx, H⟩
 ·replace H := be H; obtain ⟨a, A4, H⟩ := H;replace H := ah.mk H;go_wp2_with (first | ((with_reducible refine au (f := 84) rfl ?_); refine aK (some 10) Tryz.func84 #[.agg #[.int .i64 Dp, .int .i64 Dq, .string Dr]] ?_; (with_reducible refine (aX.calls k Dp Dq Dr a _ A4.out).mono ?_); rintro e xO ⟨xS, rfl, xy, hb⟩; refine ⟨_, rfl, ?_⟩; replace m := KB m hb; have o := ah.mk (Kd.bD xy (aD BL)); replace HB := BS (w := w) hb; (try clear hb); (try clear xy); obtain ⟨xG, xH, u⟩ := Kd.bE o.out; subst u; obtain ⟨xj, xk, xl, xm, xn, xo, xp, xq, xr, xs, xt, xu⟩ := cz6 m.out; refine bI ?_));refine Hide.mk ?_;replace H := H.out;by_cases c5 : (Dt.length : Int) = (a.length : Int)
  ·rw [if_pos c5] at H;have xz : ((Dt.length : Int) == (a.length : Int)) = true := beq_iff_eq.mpr c5;have xA : ((Dt.length : Int) != (a.length : Int)) = false := bne_eq_false_iff_eq.mpr c5;have xB : (Dt.length == a.length) = true := by first | simpa using c5 | (simp at c5 ⊢; omega)
   clear c5;by_cases c6 : (Du.length : Int) = (a.length : Int)
   ·rw [if_pos c6] at H;have xC : ((Du.length : Int) == (a.length : Int)) = true := beq_iff_eq.mpr c6;have xD : ((Du.length : Int) != (a.length : Int)) = false := bne_eq_false_iff_eq.mpr c6;have xE : (Du.length == a.length) = true := by first | simpa using c6 | (simp at c6 ⊢; omega)
    clear c6;replace H := be H; obtain ⟨xT, A7, H⟩ := H;replace H := ah.mk H;go_wp2_with (first | (go_at_call 63; (with_reducible refine (cK.calls Dv 1 9999 _ _ A7.out).mono ?_); rintro e w' ⟨rfl, ⟨nd, rfl⟩⟩; refine bI ?_));refine Hide.mk ?_;replace H := H.out;replace H := ifB H; rcases H with ⟨rfl, H⟩ | ⟨rfl, H⟩
    ·replace H := be H; obtain ⟨xF, A9, H⟩ := H;obtain rfl := sI H;(try go_wp2_with (first | (go_at_call 85; (with_reducible refine (lq.calls k _ _ Dt (⟨#[70, 73, 88]⟩ : Oo) xF _ ?s1_ ?s2_ A9.out).mono ?_); (case s1_ => repeat (first | exact (Kd.dz x.out BL) | (with_reducible refine Kd.fU ?_ _) | (with_reducible refine Kd.fV ?_ _) | (with_reducible refine Kd.iy ?_))); (case s2_ => exact y.out); rintro e xP ⟨rfl, hb⟩; replace o := RB o hb; replace m := KB m hb; replace HB := BS (w := w) hb; (try clear hb))));go_ret;exact ⟨EWW, BL⟩
    ·obtain rfl := sI H;(try go_wp2);go_ret;exact ⟨EWW, BL⟩
   ·rw [if_neg c6] at H;have xC : ((Du.length : Int) == (a.length : Int)) = false := beq_eq_false_iff_ne.mpr c6;have xD : ((Du.length : Int) != (a.length : Int)) = true := bne_iff_ne.mpr c6;have xE : (Du.length == a.length) = false := by first | simpa using c6 | (simp at c6 ⊢; omega)
    obtain rfl := sI H;(try go_wp2);go_ret;exact ⟨EWW, BL⟩
  ·rw [if_neg c5] at H;have xz : ((Dt.length : Int) == (a.length : Int)) = false := beq_eq_false_iff_ne.mpr c5;have xA : ((Dt.length : Int) != (a.length : Int)) = true := bne_iff_ne.mpr c5;have xB : (Dt.length == a.length) = false := by first | simpa using c5 | (simp at c5 ⊢; omega)
   obtain rfl := sI H;(try go_wp2);go_ret;exact ⟨EWW, BL⟩
 ·obtain rfl := sI H;(try go_wp2);go_ret;exact ⟨EWW, BL⟩
mutual
def eu.j0 : Nat → Oo → Bool → Int → Int → Oo → Option (Bool)
 | 0, _, _, _, _, _ => none
 | k + 1, a, b, c, d, e => if b = true then some false else eu.l0 k a (a.size : Int) 0 c d e
def eu.l0 : Nat → Oo → Int → Int → Int → Int → Oo → Option (Bool)
 | 0, _, _, _, _, _, _ => none
 | k + 1, a, b, c, d, e, f => if c < b then if 0 ≤ c then if c < (f.size : Int) then if c < (a.size : Int) then if (((bt f c) == 35) != ((bt a c) == 35)) = true then some false else if (bt a c) = 35 then eu.l0 k a b (wrap64 (c + 1)) d e f else if (bt a c) = 63 then eu.l0 k a b (wrap64 (c + 1)) d e f else (DL.f (bt a c)).bind fun g => if g = true then eu.l0 k a b (wrap64 (c + 1)) d e f else some false else none else none else none else some true
end
def eu.f (k : Nat) (Dp Dq : Int) (Dr a1 : Oo) : Option (Bool) := (bC.f k Dp Dq Dr).bind fun t633 => if t633 = true then eu.j0 k a1 ((a1.size : Int) != (Dr.size : Int)) Dp Dq Dr else eu.j0 k a1 true Dp Dq Dr
theorem eu.calls (k : Nat) (Dp Dq : Int) (Dr a1 : Oo) (r : Bool) (w : World) (h : eu.f k Dp Dq Dr a1 = some r) :
  Calls Tryz.prog 71 #[.agg #[.int .i64 Dp, .int .i64 Dq, .string Dr], .string a1] w fun e w' => e = .returned (.bool r) ∧ Below w.heap.size w w' := by
 have xz := Tryz.underlying35;have HB := ah.mk (bR w.heap.size w);unfold eu.f at h;have H := h;clear h;have Y := ah.mk H;clear H;go_enter Tryz.func71, Tryz.ntmps71;go_upto_region 1 with (first | ((with_reducible refine aG (N := 2) rfl ?_); (try (refine iO (by rfl) ?_; dsimp only)); refine aN (N := 2) (cs := #[.int .i64 Dp, .int .i64 Dq, .string Dr]) (t := 35) ?_; intro I hg w4 hbox hb; have m := ah.mk hbox; have o := SZ (w := w) hg; have X := o; replace HB := BS (w := w) hb; clear hb hbox hg))
 repeat (go_quiet (first | ((with_reducible refine aG (N := 2) rfl ?_); (try (refine iO (by rfl) ?_; dsimp only)); refine aN (N := 2) (cs := #[.int .i64 Dp, .int .i64 Dq, .string Dr]) (t := 35) ?_; intro I hg w4 hbox hb; have m := ah.mk hbox; have o := SZ (w := w) hg; have X := o; replace HB := BS (w := w) hb; clear hb hbox hg)); go_upto_region 1 with (first | ((with_reducible refine aG (N := 2) rfl ?_); (try (refine iO (by rfl) ?_; dsimp only)); refine aN (N := 2) (cs := #[.int .i64 Dp, .int .i64 Dq, .string Dr]) (t := 35) ?_; intro I hg w4 hbox hb; have m := ah.mk hbox; have o := SZ (w := w) hg; have X := o; replace HB := BS (w := w) hb; clear hb hbox hg)))
 (try simp only [Act.put, List.setIfInBounds_toArray, List.set_cons_zero, List.set_cons_succ])
 go_cut [16] (fun xt wc => ∃ (kq : Nat) (J : Bool), xt = .bool J ∧ ah (eu.j0 kq a1 J Dp Dq Dr = some r) ∧ ah (kq ≤ k) ∧ ah (wc.heap[I]? = some (.cells #[.int .i64 Dp, .int .i64 Dq, .string Dr] 35 (0, 0))) ∧ ah (Below w.heap.size w wc))
 case first =>
  have H := Y.out;clear Y;replace H := be H; obtain ⟨xB, A5, H⟩ := H;obtain ⟨Z, xa, xb, xc, xd, xe⟩ := cz3 m.out;replace H := ifB H; rcases H with ⟨rfl, H⟩ | ⟨rfl, H⟩
  ·have H' := ah.mk H;clear H
   repeat (go_wp2_with (first | (go_at_call 122; (with_reducible refine (bC.calls k Dp Dq Dr _ _ A5.out).mono ?_); rintro e u ⟨rfl, hb⟩; replace m := KB m hb; replace HB := BS (w := w) hb; (try clear hb); obtain ⟨x, y, z, A, D, E⟩ := cz3 m.out)); go_quiet (first | (go_at_call 122; (with_reducible refine (bC.calls k Dp Dq Dr _ _ A5.out).mono ?_); rintro e u ⟨rfl, hb⟩; replace m := KB m hb; replace HB := BS (w := w) hb; (try clear hb); obtain ⟨x, y, z, A, D, E⟩ := cz3 m.out)))
   go_wp2_with (first | (go_at_call 122; (with_reducible refine (bC.calls k Dp Dq Dr _ _ A5.out).mono ?_); rintro e u ⟨rfl, hb⟩; replace m := KB m hb; replace HB := BS (w := w) hb; (try clear hb); obtain ⟨x, y, z, A, D, E⟩ := cz3 m.out));go_meet;case rel => exact ⟨_, _, EQ, H', ⟨by first | omega | exact nR _⟩, ⟨BK⟩, ⟨BL⟩⟩
  ·have H' := ah.mk H;clear H
   repeat (go_wp2_with (first | (go_at_call 122; (with_reducible refine (bC.calls k Dp Dq Dr _ _ A5.out).mono ?_); rintro e u ⟨rfl, hb⟩; replace m := KB m hb; replace HB := BS (w := w) hb; (try clear hb))); go_quiet (first | (go_at_call 122; (with_reducible refine (bC.calls k Dp Dq Dr _ _ A5.out).mono ?_); rintro e u ⟨rfl, hb⟩; replace m := KB m hb; replace HB := BS (w := w) hb; (try clear hb))))
   go_wp2_with (first | (go_at_call 122; (with_reducible refine (bC.calls k Dp Dq Dr _ _ A5.out).mono ?_); rintro e u ⟨rfl, hb⟩; replace m := KB m hb; replace HB := BS (w := w) hb; (try clear hb)));go_meet;case rel => exact ⟨_, _, EQ, H', ⟨by first | omega | exact nR _⟩, ⟨BK⟩, ⟨BL⟩⟩
 case rest =>
  clear Y;obtain ⟨kq, J, rfl, HA, O, m, HB⟩ := hcut
  cases kq with
  | zero => exact absurd HA.out (by simp [eu.j0])
  | succ xs =>
   have H := HA.out;clear HA;simp only [eu.j0] at H;replace H := ifB H; rcases H with ⟨rfl, H⟩ | ⟨rfl, H⟩
   ·obtain rfl := sI H;go_wp2
    repeat (go_quiet (fail); try go_wp2)
    go_ret;exact ⟨EWW, BL⟩
   ·have H' := ah.mk H;clear H;go_wp2
    repeat (go_quiet (fail); try go_wp2)
    go_loopg [19] xs (fun kq xu w' => ∃ (a : Int), xu = .int .i64 a ∧ ah (eu.l0 kq a1 (a1.size : Int) a Dp Dq Dr = some r) ∧ ah (kq ≤ xs) ∧ ah (w'.heap[I]? = some (.cells #[.int .i64 Dp, .int .i64 Dq, .string Dr] 35 (0, 0))) ∧ ah (Below w.heap.size w w'))
    case atStart => exact ⟨_, EQ, H', ⟨nR _⟩, ⟨BK⟩, ⟨BL⟩⟩
    case round =>
     clear H';obtain ⟨a, rfl, HA, P, m, HB⟩ := hrel
     cases gk with
     | zero => exact absurd HA.out (by simp [eu.l0])
     | succ k2 =>
      have H := HA.out;clear HA;simp only [eu.l0] at H;replace H := ifD H; rcases H with ⟨xf, H⟩ | ⟨xf, H⟩
      ·replace H := ifN H; obtain ⟨xv, H⟩ := H;replace H := ifN H; obtain ⟨xw, H⟩ := H;replace H := ifN H; obtain ⟨xx, H⟩ := H;obtain ⟨xg, xh, xi, xj, xk, xl⟩ := cz3 m.out;have xE : (0 ≤ (a : Int)) = True := OT;have xF : (a < (Dr.size : Int)) = True := OT;have hx16 := fF Dr a;have xG : (0 ≤ (a : Int)) = True := OT;have xH : (a < (a1.size : Int)) = True := OT;have hx18 := fF a1 a;by_cases G : (((bt Dr a) == 35) != ((bt a1 a) == 35)) = true
       ·rw [if_pos G] at H;have K : (((bt Dr a) == 35) != ((bt a1 a) == 35)) = true := G;(try (have xm : decide (((bt Dr a) == 35) = ((bt a1 a) == 35)) = false := by simpa using G));(try (have xn : (((bt Dr a) == 35) == ((bt a1 a) == 35)) = false := by simpa using G));(try (have xy : ¬ (((bt Dr a) == 35) = ((bt a1 a) == 35)) := by simpa using G));clear G;obtain rfl := sI H;go_wp2
        repeat (go_quiet (fail); try go_wp2)
        go_ret;exact ⟨EWW, BL⟩
       ·rw [if_neg G] at H;have K : (((bt Dr a) == 35) != ((bt a1 a) == 35)) = false := by simpa using G
        (try (have xm : decide (((bt Dr a) == 35) = ((bt a1 a) == 35)) = true := by simpa using G));(try (have xn : (((bt Dr a) == 35) == ((bt a1 a) == 35)) = true := by simpa using G));clear G;have xI : (0 ≤ (a : Int)) = True := OT;have xJ : (a < (a1.size : Int)) = True := OT;have hx21 := fF a1 a;by_cases L : (bt a1 a) = 35
        ·rw [if_pos L] at H;have M : ((bt a1 a) == 35) = true := beq_iff_eq.mpr L;have cwc19_ : ((bt Dr a) == 35) = true := (bne_eq_false_iff_eq.mp K).trans M;have xo : ((bt a1 a) != 35) = false := bne_eq_false_iff_eq.mpr L;clear L;have H' := ah.mk H;clear H;go_wp2
         repeat (go_quiet (fail); try go_wp2)
         go_roundg k2;case measure => have := O.out; have := P.out; omega
         case rel => exact ⟨_, EQ, H', ⟨by have := O.out; have := P.out; omega⟩, ⟨BK⟩, ⟨BL⟩⟩
        ·rw [if_neg L] at H;have M : ((bt a1 a) == 35) = false := beq_eq_false_iff_ne.mpr L;have cwc19_ : ((bt Dr a) == 35) = false := (bne_eq_false_iff_eq.mp K).trans M;have xo : ((bt a1 a) != 35) = true := bne_iff_ne.mpr L;have xK : (0 ≤ (a : Int)) = True := OT;have xL : (a < (a1.size : Int)) = True := OT;have hx24 := fF a1 a;replace H := ifE H; rcases H with ⟨xp, xq, H⟩ | ⟨xM, xp, xq, H⟩
         ·have H' := ah.mk H;clear H;go_wp2
          repeat (go_quiet (fail); try go_wp2)
          go_roundg k2;case measure => have := O.out; have := P.out; omega
          case rel => exact ⟨_, EQ, H', ⟨by have := O.out; have := P.out; omega⟩, ⟨BK⟩, ⟨BL⟩⟩
         ·replace H := be H; obtain ⟨xC, U, H⟩ := H;have xN : (0 ≤ (a : Int)) = True := OT;have xO : (a < (a1.size : Int)) = True := OT;have hx27 := fF a1 a;replace H := ifB H; rcases H with ⟨rfl, H⟩ | ⟨rfl, H⟩
          ·have H' := ah.mk H;clear H
           repeat (go_wp2_with (first | (go_at_call 123; (with_reducible refine (DL.calls (bt a1 a) _ _ U.out).mono ?_); rintro e w' ⟨rfl, ⟨nd, rfl⟩⟩; (try first | exact da | exact DD))); go_quiet (first | (go_at_call 123; (with_reducible refine (DL.calls (bt a1 a) _ _ U.out).mono ?_); rintro e w' ⟨rfl, ⟨nd, rfl⟩⟩; (try first | exact da | exact DD))))
           go_wp2_with (first | (go_at_call 123; (with_reducible refine (DL.calls (bt a1 a) _ _ U.out).mono ?_); rintro e w' ⟨rfl, ⟨nd, rfl⟩⟩; (try first | exact da | exact DD)));go_roundg k2;case measure => have := O.out; have := P.out; omega
           case rel => exact ⟨_, EQ, H', ⟨by have := O.out; have := P.out; omega⟩, ⟨BK⟩, ⟨BL⟩⟩
          ·obtain rfl := sI H
           repeat (go_wp2_with (first | (go_at_call 123; (with_reducible refine (DL.calls (bt a1 a) _ _ U.out).mono ?_); rintro e w' ⟨rfl, ⟨nd, rfl⟩⟩; (try first | exact da | exact DD))); go_quiet (first | (go_at_call 123; (with_reducible refine (DL.calls (bt a1 a) _ _ U.out).mono ?_); rintro e w' ⟨rfl, ⟨nd, rfl⟩⟩; (try first | exact da | exact DD))))
           go_wp2_with (first | (go_at_call 123; (with_reducible refine (DL.calls (bt a1 a) _ _ U.out).mono ?_); rintro e w' ⟨rfl, ⟨nd, rfl⟩⟩; (try first | exact da | exact DD)));go_ret;exact ⟨EWW, BL⟩
      ·obtain rfl := sI H;go_wp2
       repeat (go_quiet (fail); try go_wp2)
       go_ret;exact ⟨EWW, BL⟩
def dY.l0 : Nat → Oo → List Int → List Int → Int → Int → Option (Oo)
 | 0, _, _, _, _, _ => none
 | k + 1, a, b, c, d, e => if e < d then if 0 ≤ e then if e < (c.length : Int) then if 0 ≤ (rd c e) then if (rd c e) < (a.size : Int) then if b.length < 140737488355328 then dY.l0 k a (b ++ [bt a (rd c e)]) c d (wrap64 (e + 1)) else none else none else none else none else none else some (strOfNums b)
def dY.f (k : Nat) (a0 : Oo) (l1 : List Int) : Option (Oo) := dY.l0 k a0 ([] : List Int) l1 (l1.length : Int) 0
theorem dY.calls (k : Nat) (A : Oo) (A1 : Option Addr) (U : Nat) (l1 : List Int) (r : Oo) (w : World) (G : Kd.C (Kd.int .i64) w A1 l1.length l1) (I : l1.length ≤ U) (h : dY.f k A l1 = some r) :
  Calls Tryz.prog 88 #[.string A, .slice A1 l1.length U] w fun e w' => e = .returned (.string r) ∧ Below w.heap.size w w' := by
 have X := ah.mk G;have xh := ah.mk I;clear G I;have HB := ah.mk (bR w.heap.size w);unfold dY.f at h;have H := h;clear h;have H' := ah.mk H;clear H;go_enter Tryz.func88, Tryz.ntmps88;go_wp2
 go_loopg [5, 10] k (fun kq v5 Y w' => ∃ (u : List Int) (a : Int), Y = .int .i64 a ∧ ah (dY.l0 kq A u l1 (l1.length : Int) a = some r) ∧ ah (kq ≤ k) ∧ ah (Kd.R (Kd.int .u8) 5 w' w.heap.size (fun _ => True) v5 u) ∧ ah (Below w.heap.size w w'))
 case atStart => exact ⟨_, _, EQ, H', ⟨nR _⟩, ⟨by first | exact Kd.kI _ _ _ _ _ | exact Kd.nG _ _ _ _ _ | exact Kd.nK _ _ _ _ _ | exact Kd.nH _ _ _ _ _ | exact Kd.nJ _ _ _ _ _⟩, ⟨BL⟩⟩
 case round =>
  clear H';(try clear U);obtain ⟨u, a, rfl, HA, J, x, HB⟩ := hrel
  cases gk with
  | zero => exact absurd HA.out (by simp [dY.l0])
  | succ k1 =>
   have H := HA.out;clear HA;simp only [dY.l0] at H;replace H := ifD H; rcases H with ⟨K, H⟩ | ⟨K, H⟩
   ·replace H := ifN H; obtain ⟨xc, H⟩ := H;replace H := ifN H; obtain ⟨xd, H⟩ := H;replace H := ifN H; obtain ⟨xe, H⟩ := H;replace H := ifN H; obtain ⟨xf, H⟩ := H;replace H := ifP H; obtain ⟨c9, H⟩ := H;have L := ah.mk c9;clear c9;obtain ⟨M, m⟩ : ∃ y_ : List Int, y_ = (u ++ [bt A (rd l1 a)]) := ⟨_, rfl⟩;replace H : (dY.l0 k1 A M l1 (l1.length : Int) (wrap64 (a + 1))) = some r := cW m H
    have D := ah.mk m;clear m;have H' := ah.mk H;clear H;have y : 0 ≤ (a : Int) := OD;have z : a < (l1.length : Int) := OD;obtain ⟨Z, O, o⟩ := Kd.lg X.out a y z
    cases O
    (try replace o := (HB.out.cell (wB w _ o)).trans o);replace y := eq_true y;replace z := eq_true z;have p8 : (0 ≤ ((rd l1 a) : Int)) = True := OT;have q8 : ((rd l1 a) < (A.size : Int)) = True := OT;have hx8 := fF A (rd l1 a);go_wp2_with (first | ((with_reducible refine bV (b := .append) (xs := #[.tmp 14, .tmp 18]) rfl ?_); at_builtin; refine Kd.fO (Kd.int .u8) (w0 := w) w.heap.size rfl (.tmp 14) (.tmp 18) 114 5 (.int .u8 0) 1 rfl Tryz.underlying114 info5 rfl (by decide) (by omega) u5 u (bt A (rd l1 a)) [.int .u8 (bt A (rd l1 a))] (fun _ => True) (fun _ => False) rfl rfl ?aP (fun _ hk => hk.elim) ?aF ?aO ?aB ?aS ?aL ?_; (case aP => exact rfl); (case aB => exact BL); (case aF => exact (fun _ _ => trivial)); (case aO => exact (RR x)); (case aS => exact (aD BL)); (case aL => have := L.out; omega); intro xg xa ho hb hg hat; rw [← D.out] at ho; replace HB := ah.mk (hb); have E := ah.mk (ho); clear x; clear ho hb hg hat));go_roundg k1;case measure => have := J.out; omega
    case rel => exact ⟨_, _, EQ, H', ks J, ⟨(RR E)⟩, ⟨BL⟩⟩
   ·obtain rfl := sI H;have hcv11 := qz (P := Tryz.prog) Tryz.underlying114 Tryz.underlying5 Tryz.underlying9 (Kd.nS x.out);go_wp2;go_ret;exact ⟨EWW, BL⟩
def gK.l0 : Nat → Oo → List Oo → List (List Int) → Int → Int → Option (List Oo)
 | 0, _, _, _, _, _ => none
 | k + 1, a, b, c, d, e => if e < d then if 0 ≤ e then if e < (c.length : Int) then (dY.f k a (jr c e)).bind fun f => if b.length < 8796093022208 then gK.l0 k a (b ++ [f]) c d (wrap64 (e + 1)) else none else none else none else some b
def gK.f (k : Nat) (Dp Dq : Int) (Dr a1 : Oo) : Option (List Oo) := (eu.f k Dp Dq Dr a1).bind fun t640 => if t640 = true then (eT.f k Dp Dq Dr).bind fun t641 => gK.l0 k a1 ([] : List Oo) t641 (t641.length : Int) 0 else some ([] : List Oo)
theorem gK.calls (k : Nat) (Dp Dq : Int) (Dr a1 : Oo) (r : List Oo) (w : World) (h : gK.f k Dp Dq Dr a1 = some r) :
  Calls Tryz.prog 47 #[.agg #[.int .i64 Dp, .int .i64 Dq, .string Dr], .string a1] w fun e w' => ∃ v0_ : Value, e = .returned (v0_) ∧ Kd.R Kd.string 9 w' w.heap.size (fun _ => True) v0_ r ∧ Below w.heap.size w w' := by
 have xH := Tryz.underlying35;have HB := ah.mk (bR w.heap.size w);unfold gK.f at h;have H := h;clear h;replace H := be H; obtain ⟨xI, A3, H⟩ := H;replace H := ah.mk H;go_enter Tryz.func47, Tryz.ntmps47;go_wp2_with (first | ((with_reducible refine aG (N := 2) rfl ?_); refine aN (N := 2) (cs := #[.int .i64 Dp, .int .i64 Dq, .string Dr]) (t := 35) ?_; intro xc hg xw hbox hb; have a := ah.mk hbox; have xl := SZ (w := w) hg; have xx := xl; replace HB := BS (w := w) hb; clear hb hbox hg; obtain ⟨E, G, I, J, K, L⟩ := cz3 a.out) | ((with_reducible refine au (f := 71) rfl ?_); refine aK (some 10) Tryz.func71 #[.agg #[.int .i64 Dp, .int .i64 Dq, .string Dr], .string a1] ?_; (with_reducible refine (eu.calls k Dp Dq Dr a1 _ _ A3.out).mono ?_); rintro e xy ⟨rfl, hb⟩; refine ⟨_, rfl, ?_⟩; replace a := KB a hb; replace HB := BS (w := w) hb; (try clear hb); obtain ⟨M, O, P, U, X, Y⟩ := cz3 a.out; refine bI ?_));refine Hide.mk ?_;replace H := H.out;replace H := ifB H; rcases H with ⟨rfl, H⟩ | ⟨rfl, H⟩
 ·replace H := be H; obtain ⟨u, A5, H⟩ := H;have H' := ah.mk H;clear H;try go_wp2_with (first | ((with_reducible refine au (f := 72) rfl ?_); refine aK (some 13) Tryz.func72 #[.agg #[.int .i64 Dp, .int .i64 Dq, .string Dr]] ?_; (with_reducible refine (eT.calls k Dp Dq Dr u _ A5.out).mono ?_); rintro e xz ⟨xJ, rfl, xq, hb⟩; refine ⟨_, rfl, ?_⟩; replace a := KB a hb; have xd := ah.mk (Kd.ko xq (aD BL)); replace HB := BS (w := w) hb; (try clear hb); (try clear xq); obtain ⟨xg, xh, xi⟩ := Kd.jE xd.out; subst xi))
  go_loopg [5, 15] k (fun kq v5 xA w' => ∃ (D : List Oo) (m : Int), xA = .int .i64 m ∧ ah (gK.l0 kq a1 D u (u.length : Int) m = some r) ∧ ah (kq ≤ k) ∧ ah (Kd.R Kd.string 9 w' w.heap.size (fun _ => True) v5 D) ∧ ah (Kd.S (Kd.slice 3 (Kd.int .i64)) 25 w' w.heap.size (fun _ => True) (.slice xg u.length xh) u) ∧ ah (w'.heap[xc]? = some (.cells #[.int .i64 Dp, .int .i64 Dq, .string Dr] 35 (0, 0))) ∧ ah (Below w.heap.size w w'))
  case atStart => exact ⟨_, _, EQ, H', ⟨nR _⟩, ⟨by first | exact Kd.kI _ _ _ _ _ | exact Kd.nG _ _ _ _ _ | exact Kd.nK _ _ _ _ _ | exact Kd.nH _ _ _ _ _ | exact Kd.nJ _ _ _ _ _⟩, ⟨(SR xd)⟩, ⟨BK⟩, ⟨BL⟩⟩
  case round =>
   clear H';(try clear E G I);(try clear M O P);(try clear J K L);(try clear U X Y);obtain ⟨D, m, rfl, HA, xr, z, x, a, HB⟩ := hrel
   cases gk with
   | zero => exact absurd HA.out (by simp [gK.l0])
   | succ k1 =>
    have H := HA.out;clear HA;simp only [gK.l0] at H;replace H := ifD H; rcases H with ⟨xm, H⟩ | ⟨xm, H⟩
    ·replace H := ifN H; obtain ⟨xB, H⟩ := H;replace H := ifN H; obtain ⟨xC, H⟩ := H;replace H := be H; obtain ⟨Z, xD, H⟩ := H;replace H := ifP H; obtain ⟨xt, H⟩ := H;have xn := ah.mk xt;clear xt;obtain ⟨xu, A⟩ : ∃ y_ : List Oo, y_ = (D ++ [Z]) := ⟨_, rfl⟩;replace H : (gK.l0 k1 a1 xu u (u.length : Int) (wrap64 (m + 1))) = some r := cW A H
     have xo := ah.mk A;clear A;have H' := ah.mk H;clear H;have xa : 0 ≤ (m : Int) := OD;have xb : m < (u.length : Int) := OD;obtain ⟨xE, xj, xk, xv, xe, hl644_0, hi644_0⟩ := sF (Kd.gU x.out).2.2 m xa xb
     cases xv
     obtain ⟨ce644, hce644, hMe644, hcc644⟩ := Kd.sS x.out [] m xa (by first | exact xb | exact OD | (have e_ := (Kd.gU x.out).1; omega));obtain ⟨ve644_0, rfl, ge644_0⟩ := hMe644;have hv644_0 := hcc644 0 _ rfl;rw [Nat.add_zero, show ((Kd.slice 3 (Kd.int .i64))).sz = 1 from rfl, Nat.mul_one] at hv644_0;replace hv644_0 := sI (hv644_0.symm.trans xe);rw [hv644_0] at ge644_0;have HL644_0 := ah.mk (show Kd.R (Kd.int .i64) 3 _ _ _ _ (jr u m) from ge644_0);clear hv644_0 ge644_0;clear hcc644 hce644;have y := ah.mk hi644_0;have xf := ah.mk hl644_0;clear hi644_0 hl644_0;replace xa := eq_true xa;replace xb := eq_true xb;go_wp2_with (first | ((with_reducible refine au (f := 88) rfl ?_); refine aK (some 22) Tryz.func88 #[.string a1, .slice xj (jr u m).length xk] ?_; (with_reducible refine (dY.calls k1 a1 _ _ (jr u m) Z _ ?s1_ ?s2_ xD.out).mono ?_); (case s1_ => repeat (first | exact (by repeat (first | (with_reducible exact y.out) | (with_reducible refine Kd.fU ?_ _) | (with_reducible refine Kd.fV ?_ _) | (with_reducible refine Kd.iy ?_) | exact y.out)) | (with_reducible refine Kd.fU ?_ _) | (with_reducible refine Kd.fV ?_ _) | (with_reducible refine Kd.iy ?_))); (case s2_ => exact xf.out); rintro e xF ⟨rfl, hb⟩; refine ⟨_, rfl, ?_⟩; replace z := RB z hb; replace x := ah.mk (Kd.eG (SR x) hb); replace HL644_0 := ah.mk (Kd.iK (by (with_reducible repeat (first | apply Kd.bL | apply Kd.bn | apply Kd.bJ)); exact HL644_0.out) hb); replace y := ah.mk (Kd.dz (by repeat (first | (with_reducible exact y.out) | (with_reducible refine Kd.fU ?_ _) | (with_reducible refine Kd.fV ?_ _) | (with_reducible refine Kd.iy ?_) | exact y.out)) hb); replace a := KB a hb; replace HB := BS (w := w) hb; (try clear hb)) | ((with_reducible refine bV (b := .append) (xs := #[.tmp 19, .tmp 23]) rfl ?_); at_builtin; refine Kd.fO Kd.string (w0 := w) w.heap.size rfl (.tmp 19) (.tmp 23) 29 9 (.string ⟨#[]⟩) 16 rfl Tryz.underlying29 pQ rfl (by decide) (by omega) u5 D Z [.string Z] (fun _ => True) (fun _ => False) rfl rfl ?aP (fun _ hk => hk.elim) ?aF ?aO ?aB ?aS ?aL ?_; (case aP => exact rfl); (case aB => exact BL); (case aF => exact (fun _ _ => trivial)); (case aO => exact (RR z)); (case aS => exact (aD BL)); (case aL => have := xn.out; omega); intro xK xG ho hb hg hat; rw [← xo.out] at ho; replace x := ah.mk (Kd.AU (SR x) (Kd.fH (RR z)) (by decide) hg); replace HL644_0 := ah.mk (Kd.kZ (by (with_reducible repeat (first | apply Kd.bL | apply Kd.bn | apply Kd.bJ)); exact HL644_0.out) (Kd.fH (RR z)) (by decide) hg); replace a := ah.mk (cZ (g := xc) (o := .cells #[.int .i64 Dp, .int .i64 Dq, .string Dr] 35 (0, 0)) BK hg (Kd.jv z.out a.out (by decide))); replace HB := ah.mk (hb); have xp := ah.mk (ho); clear z; clear ho hb hg hat));go_roundg k1;case measure => have := xr.out; omega
     case rel => exact ⟨_, _, EQ, H', ks xr, ⟨(RR xp)⟩, ⟨by (with_reducible repeat (first | apply Kd.fZ | apply Kd.dJ | apply Kd.gY)); exact x.out⟩, ⟨BK⟩, ⟨BL⟩⟩
    ·obtain rfl := sI H;go_wp2;go_ret;exact ⟨_, EWW, (RR z), BL⟩
 ·obtain rfl := sI H;(try go_wp2);go_ret;exact ⟨_, EWW, by first | exact Kd.kI _ _ _ _ _ | exact Kd.nG _ _ _ _ _ | exact Kd.nK _ _ _ _ _ | exact Kd.nH _ _ _ _ _ | exact Kd.nJ _ _ _ _ _, BL⟩
theorem CW (d : Nat) (w : World) (x0 a : Oo) (x1 e : Int) :
  (Op.equalIn (d + 2) 73 (.agg #[.string x0, .int .i64 x1]) (.agg #[.string a, .int .i64 e])).run Tryz.prog w = .ok (x0.toList == a.toList && (x1 == e)) w := by
 refine Ol Tryz.underlying73 (by kernel_rfl) ?_;refine mZ (by rfl) (by go_simp; rfl) (by go_simp; rfl) (by go_simp) ?_;exact qw (by rfl) (by go_simp; rfl) (by go_simp; rfl) (by go_simp)
attribute [local go_sem high] CW
def bT.l0 : Nat → List Oo → Oo → Int → Int → Option (Int)
 | 0, _, _, _, _ => none
 | k + 1, a, b, c, d => if d < c then if 0 ≤ d then if d < (a.length : Int) then if b.toList = (fB ByteArray.empty a d).toList then some d else bT.l0 k a b c (wrap64 (d + 1)) else none else none else some (-1)
def bT.f (k : Nat) (l0 : List Oo) (a1 : Oo) : Option (Int) := bT.l0 k l0 a1 (l0.length : Int) 0
theorem bT.calls (k : Nat) (K : Option Addr) (L : Nat) (l0 : List Oo) (a1 : Oo) (r : Int) (w : World) (u : Kd.C Kd.string w K l0.length l0) (x : l0.length ≤ L) (h : bT.f k l0 a1 = some r) :
  Calls Tryz.prog 170 #[.slice K l0.length L, .string a1] w fun e w' => e = .returned (.int .i64 r) ∧ bU w w' := by
 have I := ah.mk u;have P := ah.mk x;clear u x;unfold bT.f at h;have H := h;clear h;have H' := ah.mk H;clear H;go_enter Tryz.func170, Tryz.ntmps170;go_wp2
 go_loopg [8] k (fun kq U w' => ∃ (a : Int), U = .int .i64 a ∧ ah (bT.l0 kq l0 a1 (l0.length : Int) a = some r) ∧ ah (kq ≤ k) ∧ bU w w')
 case atStart => exact ⟨_, EQ, H', ⟨nR _⟩, DR⟩
 case round =>
  clear H';obtain ⟨a, rfl, HA, y, ⟨m1, rfl⟩⟩ := hrel
  cases gk with
  | zero => exact absurd HA.out (by simp [bT.l0])
  | succ k1 =>
   have H := HA.out;clear HA;simp only [bT.l0] at H;replace H := ifD H; rcases H with ⟨z, H⟩ | ⟨z, H⟩
   ·replace H := ifN H; obtain ⟨M, H⟩ := H;replace H := ifN H; obtain ⟨O, H⟩ := H;have m : 0 ≤ (a : Int) := OD;have o : a < (l0.length : Int) := OD;obtain ⟨J, A, D⟩ := Kd.iN I.out a m o
    cases A
    replace m := eq_true m;replace o := eq_true o;replace H := ifE H; rcases H with ⟨E, G, H⟩ | ⟨c6, E, G, H⟩
    ·obtain rfl := sI H;go_wp2;go_ret;exact ⟨EQ, DR⟩
    ·have H' := ah.mk H;clear H;go_wp2;go_roundg k1;case measure => have := y.out; omega
     case rel => exact ⟨_, EQ, H', ks y, DR⟩
   ·obtain rfl := sI H;go_wp2;go_ret;exact ⟨EQ, DR⟩
def fT.f (k : Nat) (l0 : List Oo) (a1 : Oo) : Option (Bool) := (bT.f k l0 a1).bind fun t650 => some (decide (t650 ≥ 0))
theorem fT.calls (k : Nat) (u : Option Addr) (x : Nat) (l0 : List Oo) (a1 : Oo) (r : Bool) (w : World) (a : Kd.C Kd.string w u l0.length l0) (m : l0.length ≤ x) (h : fT.f k l0 a1 = some r) :
  Calls Tryz.prog 126 #[.slice u l0.length x, .string a1] w fun e w' => e = .returned (.bool r) ∧ bU w w' := by
 have y := ah.mk a;have z := ah.mk m;clear a m;unfold fT.f at h;have H := h;clear h;replace H := be H; obtain ⟨o, A3, H⟩ := H;obtain rfl := sI H;go_enter Tryz.func126, Tryz.ntmps126;go_wp2_with (first | ((with_reducible refine au (f := 170) rfl ?_); refine aK (some 7) Tryz.func170 #[.slice u l0.length x, .string a1] ?_; (with_reducible refine (bT.calls k _ _ l0 a1 o _ ?s1_ ?s2_ A3.out).mono ?_); (case s1_ => repeat (first | exact y.out | (with_reducible refine Kd.fU ?_ _) | (with_reducible refine Kd.fV ?_ _) | (with_reducible refine Kd.iy ?_))); (case s2_ => exact z.out); rintro e w' ⟨rfl, ⟨nd, rfl⟩⟩; refine ⟨_, rfl, ?_⟩));go_ret;exact ⟨EQ, DR⟩
def iJ.l0 : Nat → List Oo → List Oo → Int → Int → Option (List Oo)
 | 0, _, _, _, _ => none
 | k + 1, a, b, c, d => if d < c then if 0 ≤ d then if d < (b.length : Int) then (fT.f k a (fB ByteArray.empty b d)).bind fun e => if e = true then iJ.l0 k a b c (wrap64 (d + 1)) else if a.length < 8796093022208 then iJ.l0 k (a ++ [fB ByteArray.empty b d]) b c (wrap64 (d + 1)) else none else none else none else some a
def iJ.f (k : Nat) (l0 : List Oo) : Option (List Oo) := iJ.l0 k ([] : List Oo) l0 (l0.length : Int) 0
theorem iJ.calls (k : Nat) (A0 : Option Addr) (c0 : Nat) (l0 r : List Oo) (w : World) (K : Kd.C Kd.string w A0 l0.length l0) (L : l0.length ≤ c0) (h : iJ.f k l0 = some r) :
  Calls Tryz.prog 89 #[.slice A0 l0.length c0] w fun e w' => ∃ v0_ : Value, e = .returned (v0_) ∧ Kd.R Kd.string 9 w' w.heap.size (fun _ => True) v0_ r ∧ Below w.heap.size w w' := by
 have X := ah.mk K;have xg := ah.mk L;clear K L;have HB := ah.mk (bR w.heap.size w);unfold iJ.f at h;have H := h;clear h;have H' := ah.mk H;clear H;go_enter Tryz.func89, Tryz.ntmps89;go_wp2
 go_loopg [3, 8] k (fun kq v3 v8 w' => ∃ (m : List Oo) (a : Int), v8 = .int .i64 a ∧ ah (iJ.l0 kq m l0 (l0.length : Int) a = some r) ∧ ah (kq ≤ k) ∧ ah (Kd.R Kd.string 9 w' w.heap.size (fun _ => True) v3 m) ∧ ah (Below w.heap.size w w'))
 case atStart => exact ⟨_, _, EQ, H', ⟨nR _⟩, ⟨by first | exact Kd.kI _ _ _ _ _ | exact Kd.nG _ _ _ _ _ | exact Kd.nK _ _ _ _ _ | exact Kd.nH _ _ _ _ _ | exact Kd.nJ _ _ _ _ _⟩, ⟨BL⟩⟩
 case round =>
  clear H';obtain ⟨m, a, rfl, HA, E, o, HB⟩ := hrel
  cases gk with
  | zero => exact absurd HA.out (by simp [iJ.l0])
  | succ k1 =>
   have H := HA.out;clear HA;simp only [iJ.l0] at H;replace H := ifD H; rcases H with ⟨M, H⟩ | ⟨M, H⟩
   ·replace H := ifN H; obtain ⟨xc, H⟩ := H;replace H := ifN H; obtain ⟨xd, H⟩ := H;replace H := be H; obtain ⟨xe, A5, H⟩ := H;have A : 0 ≤ (a : Int) := OD;have D : a < (l0.length : Int) := OD;obtain ⟨Y, O, u⟩ := Kd.iN X.out a A D
    cases O
    (try replace u := (HB.out.cell (wB w _ u)).trans u);replace A := eq_true A;replace D := eq_true D;obtain ⟨y, z, G⟩ := Kd.bE o.out;subst G;replace H := ah.mk H;go_wp2_with (first | ((with_reducible refine au (f := 126) rfl ?_); refine aK (some 14) Tryz.func126 #[.slice y m.length z, .string (fB ByteArray.empty l0 a)] ?_; (with_reducible refine (fT.calls k1 _ _ m (fB ByteArray.empty l0 a) _ _ ?s1_ ?s2_ A5.out).mono ?_); (case s1_ => exact CR2 o); (case s2_ => exact (Kd.aQ o.out).2.1); rintro e w' ⟨rfl, ⟨nd, rfl⟩⟩; refine ⟨_, rfl, ?_⟩; refine bI ?_));refine Hide.mk ?_;replace H := H.out;replace H := ifB H; rcases H with ⟨rfl, H⟩ | ⟨rfl, H⟩
    ·have H' := ah.mk H;clear H;(try go_wp2);go_roundg k1;case measure => have := E.out; omega
     case rel => exact ⟨_, _, EQ, H', ks E, ⟨(RR o)⟩, ⟨BL⟩⟩
    ·replace H := ifP H; obtain ⟨c8, H⟩ := H;have P := ah.mk c8;clear c8;obtain ⟨U, x⟩ : ∃ y_ : List Oo, y_ = (m ++ [fB ByteArray.empty l0 a]) := ⟨_, rfl⟩;replace H : (iJ.l0 k1 U l0 (l0.length : Int) (wrap64 (a + 1))) = some r := cW x H
     have I := ah.mk x;clear x;have H' := ah.mk H;clear H;(try go_wp2_with (first | ((with_reducible refine bV (b := .append) (xs := #[.tmp 16, .tmp 18]) rfl ?_); at_builtin; refine Kd.fO Kd.string (w0 := w) w.heap.size rfl (.tmp 16) (.tmp 18) 29 9 (.string ⟨#[]⟩) 16 rfl Tryz.underlying29 pQ rfl (by decide) (by omega) (.slice y m.length z) m (fB ByteArray.empty l0 a) [.string (fB ByteArray.empty l0 a)] (fun _ => True) (fun _ => False) rfl rfl ?aP (fun _ hk => hk.elim) ?aF ?aO ?aB ?aS ?aL ?_; (case aP => exact rfl); (case aB => exact BL); (case aF => exact (fun _ _ => trivial)); (case aO => exact (RR o)); (case aS => exact (aD BL)); (case aL => have := P.out; omega); intro xf Z ho hb hg hat; rw [← I.out] at ho; replace HB := ah.mk (hb); have J := ah.mk (ho); clear o; clear ho hb hg hat)));go_roundg k1;case measure => have := E.out; omega
     case rel => exact ⟨_, _, EQ, H', ks E, ⟨(RR J)⟩, ⟨BL⟩⟩
   ·obtain rfl := sI H;go_wp2;go_ret;exact ⟨_, EWW, (RR o), BL⟩
def fK.l0 : Nat → (Nat → Oo → Option Bool) → List Oo → List Oo → Int → Int → Option (List Oo)
 | 0, _, _, _, _, _ => none
 | k + 1, a, b, c, d, e => if e < d then if 0 ≤ e then if e < (c.length : Int) then (a k (fB ByteArray.empty c e)).bind fun f => if f = true then if b.length < 8796093022208 then fK.l0 k a (b ++ [fB ByteArray.empty c e]) c d (wrap64 (e + 1)) else none else fK.l0 k a b c d (wrap64 (e + 1)) else none else none else some b
def fK.f (k : Nat) (l0 : List Oo) (a1 : (Nat → Oo → Option Bool)) : Option (List Oo) := fK.l0 k a1 ([] : List Oo) l0 (l0.length : Int) 0
theorem fK.calls (k : Nat) (Z : Option Addr) (c0 : Nat) (l0 : List Oo) (a1 : (Nat → Oo → Option Bool)) (r : List Oo) (w : World) (I : Kd.C Kd.string w Z l0.length l0) (J : l0.length ≤ c0) (h : fK.f k l0 a1 = some r) (g : FuncId) (lb : Array Value) (eg : ∀ args w, (callFunc g args).run Tryz.prog w = .ok (.enter g args) w) (hp : ∀ (j : Nat) (s : Oo) (b : Bool) (W : World), Below w.heap.size w W → a1 j s = some b → Calls Tryz.prog g (#[.string s] ++ lb) W fun e w' => e = .returned (.bool b) ∧ Below W.heap.size W w') :
  Calls Tryz.prog 90 #[.slice Z l0.length c0, .func (.func g) #[] lb] w fun e w' => ∃ v0_ : Value, e = .returned (v0_) ∧ Kd.R Kd.string 9 w' w.heap.size (fun _ => True) v0_ r ∧ Below w.heap.size w w' := by
 have P := ah.mk I;have xg := ah.mk J;clear I J;have HB := ah.mk (bR w.heap.size w);have HPP := ah.mk hp;clear hp;unfold fK.f at h;have H := h;clear h;have H' := ah.mk H;clear H;go_enter Tryz.func90, Tryz.ntmps90;go_wp2
 go_loopg [5, 10] k (fun kq v5 U w' => ∃ (x : List Oo) (a : Int), U = .int .i64 a ∧ ah (fK.l0 kq a1 x l0 (l0.length : Int) a = some r) ∧ ah (kq ≤ k) ∧ ah (Kd.R Kd.string 9 w' w.heap.size (fun _ => True) v5 x) ∧ ah (Below w.heap.size w w'))
 case atStart => exact ⟨_, _, EQ, H', ⟨nR _⟩, ⟨by first | exact Kd.kI _ _ _ _ _ | exact Kd.nG _ _ _ _ _ | exact Kd.nK _ _ _ _ _ | exact Kd.nH _ _ _ _ _ | exact Kd.nJ _ _ _ _ _⟩, ⟨BL⟩⟩
 case round =>
  clear H';obtain ⟨x, a, rfl, HA, A, m, HB⟩ := hrel
  cases gk with
  | zero => exact absurd HA.out (by simp [fK.l0])
  | succ k1 =>
   have H := HA.out;clear HA;simp only [fK.l0] at H;replace H := ifD H; rcases H with ⟨K, H⟩ | ⟨K, H⟩
   ·replace H := ifN H; obtain ⟨xb, H⟩ := H;replace H := ifN H; obtain ⟨xc, H⟩ := H;replace H := be H; obtain ⟨xd, A6, H⟩ := H;have y : 0 ≤ (a : Int) := OD;have z : a < (l0.length : Int) := OD;obtain ⟨X, L, o⟩ := Kd.iN P.out a y z
    cases L
    (try replace o := (HB.out.cell (wB w _ o)).trans o);replace y := eq_true y;replace z := eq_true z;replace H := ifB H; rcases H with ⟨rfl, H⟩ | ⟨rfl, H⟩
    ·replace H := ifP H; obtain ⟨c8, H⟩ := H;have M := ah.mk c8;clear c8;obtain ⟨O, u⟩ : ∃ y_ : List Oo, y_ = (x ++ [fB ByteArray.empty l0 a]) := ⟨_, rfl⟩;replace H : (fK.l0 k1 a1 O l0 (l0.length : Int) (wrap64 (a + 1))) = some r := cW u H
     have D := ah.mk u;clear u;have H' := ah.mk H;clear H;go_wp2_with (first | (refine (HPP.out k1 (fB ByteArray.empty l0 a) true _ BL A6.out).mono ?_; rintro e E ⟨rfl, hb⟩; replace m := RB m hb; replace HB := BS (w := w) hb; (try clear hb)) | ((with_reducible refine bV (b := .append) (xs := #[.tmp 17, .tmp 19]) rfl ?_); at_builtin; refine Kd.fO Kd.string (w0 := w) w.heap.size rfl (.tmp 17) (.tmp 19) 29 9 (.string ⟨#[]⟩) 16 rfl Tryz.underlying29 pQ rfl (by decide) (by omega) u5 x (fB ByteArray.empty l0 a) [.string (fB ByteArray.empty l0 a)] (fun _ => True) (fun _ => False) rfl rfl ?aP (fun _ hk => hk.elim) ?aF ?aO ?aB ?aS ?aL ?_; (case aP => exact rfl); (case aB => exact BL); (case aF => exact (fun _ _ => trivial)); (case aO => exact (RR m)); (case aS => exact (aD BL)); (case aL => have := M.out; omega); intro xf Y ho hb hg hat; rw [← D.out] at ho; replace HB := ah.mk (hb); have G := ah.mk (ho); clear m; clear ho hb hg hat));go_roundg k1;case measure => have := A.out; omega
     case rel => exact ⟨_, _, EQ, H', ks A, ⟨(RR G)⟩, ⟨BL⟩⟩
    ·have H' := ah.mk H;clear H;go_wp2_with (first | (refine (HPP.out k1 (fB ByteArray.empty l0 a) false _ BL A6.out).mono ?_; rintro e E ⟨rfl, hb⟩; replace m := RB m hb; replace HB := BS (w := w) hb; (try clear hb); (try clear hk)));go_roundg k1;case measure => have := A.out; omega
     case rel => exact ⟨_, _, EQ, H', ks A, ⟨(RR m)⟩, ⟨BL⟩⟩
   ·obtain rfl := sI H;go_wp2;go_ret;exact ⟨_, EWW, (RR m), BL⟩
def dA.l0 : Nat → Oo → Int → Int → Option (Bool)
 | 0, _, _, _ => none
 | k + 1, a, b, c => if c < b then if 0 ≤ c then if c < (a.size : Int) then if (bt a c) = 63 then dA.l0 k a b (wrap64 (c + 1)) else (DL.f (bt a c)).bind fun d => if d = true then dA.l0 k a b (wrap64 (c + 1)) else some false else none else none else some true
def dA.f (k : Nat) (a0 : Oo) : Option (Bool) := (cK.f (a0.size : Int) 1 8).bind fun t661 => if t661 = true then dA.l0 k a0 (a0.size : Int) 0 else some false
theorem dA.calls (k : Nat) (m : Oo) (r : Bool) (w : World) (h : dA.f k m = some r) :
  Calls Tryz.prog 144 #[.string m] w fun e w' => e = .returned (.bool r) ∧ bU w w' := by
 unfold dA.f at h;have H := h;clear h;replace H := be H; obtain ⟨D, A2, H⟩ := H;replace H := ah.mk H;go_enter Tryz.func144, Tryz.ntmps144;go_wp2_with (first | ((with_reducible refine au (f := 63) rfl ?_); refine aK (some 6) Tryz.func63 #[.int .i64 (m.size : Int), .int .i64 1, .int .i64 8] ?_; (with_reducible refine (cK.calls (m.size : Int) 1 8 _ _ A2.out).mono ?_); rintro e w' ⟨rfl, ⟨nd, rfl⟩⟩; refine ⟨_, rfl, ?_⟩; refine bI ?_));refine Hide.mk ?_;replace H := H.out;replace H := ifB H; rcases H with ⟨rfl, H⟩ | ⟨rfl, H⟩
 ·have H' := ah.mk H;clear H;try go_wp2
  go_loopg [10] k (fun kq z w' => ∃ (a : Int), z = .int .i64 a ∧ ah (dA.l0 kq m (m.size : Int) a = some r) ∧ ah (kq ≤ k) ∧ bU w w')
  case atStart => exact ⟨_, EQ, H', ⟨nR _⟩, DR⟩
  case round =>
   clear H';obtain ⟨a, rfl, HA, o, ⟨m1, rfl⟩⟩ := hrel
   cases gk with
   | zero => exact absurd HA.out (by simp [dA.l0])
   | succ k1 =>
    have H := HA.out;clear HA;simp only [dA.l0] at H;replace H := ifD H; rcases H with ⟨u, H⟩ | ⟨u, H⟩
    ·replace H := ifN H; obtain ⟨E, H⟩ := H;replace H := ifN H; obtain ⟨G, H⟩ := H;have J : (0 ≤ (a : Int)) = True := OT;have K : (a < (m.size : Int)) = True := OT;have hx7 := fF m a;replace H := ifE H; rcases H with ⟨x, y, H⟩ | ⟨c8, x, y, H⟩
     ·have H' := ah.mk H;clear H;go_wp2;go_roundg k1;case measure => have := o.out; omega
      case rel => exact ⟨_, EQ, H', ks o, DR⟩
     ·replace H := be H; obtain ⟨I, A, H⟩ := H;have L : (0 ≤ (a : Int)) = True := OT;have M : (a < (m.size : Int)) = True := OT;have hx9 := fF m a;replace H := ah.mk H;go_wp2_with (first | (go_at_call 123; (with_reducible refine (DL.calls (bt m a) _ _ A.out).mono ?_); rintro e w' ⟨rfl, ⟨nd, rfl⟩⟩; refine bI ?_));refine Hide.mk ?_;replace H := H.out;replace H := ifB H; rcases H with ⟨rfl, H⟩ | ⟨rfl, H⟩
      ·have H' := ah.mk H;clear H;(try go_wp2);go_roundg k1;case measure => have := o.out; omega
       case rel => exact ⟨_, EQ, H', ks o, DR⟩
      ·obtain rfl := sI H;(try go_wp2);go_ret;exact ⟨EQ, DR⟩
    ·obtain rfl := sI H;go_wp2;go_ret;exact ⟨EQ, DR⟩
 ·obtain rfl := sI H;(try go_wp2);go_ret;exact ⟨EQ, DR⟩
mutual
def aJ.j0 : Nat → Oo → Oo → Bool → Option (Bool)
 | 0, _, _, _ => none
 | k + 1, a, b, c => if c = true then some false else aJ.l0 k a b (a.size : Int) 0
def aJ.l0 : Nat → Oo → Oo → Int → Int → Option (Bool)
 | 0, _, _, _, _ => none
 | k + 1, a, b, c, d => if d < c then if 0 ≤ d then if d < (a.size : Int) then if (bt a d) = 63 then aJ.l0 k a b c (wrap64 (d + 1)) else if d < (b.size : Int) then if (bt a d) = (bt b d) then aJ.l0 k a b c (wrap64 (d + 1)) else some false else none else none else none else some true
end
def aJ.f (k : Nat) (a0 a1 : Oo) : Option (Bool) := (dA.f k a0).bind fun t663 => if t663 = true then (bH.f k a1).bind fun t664 => if t664 = true then aJ.j0 k a0 a1 ((a0.size : Int) != (a1.size : Int)) else aJ.j0 k a0 a1 true else aJ.j0 k a0 a1 true
theorem aJ.calls (k : Nat) (m a1 : Oo) (r : Bool) (w : World) (h : aJ.f k m a1 = some r) :
  Calls Tryz.prog 92 #[.string m, .string a1] w fun e w' => e = .returned (.bool r) ∧ bU w w' := by
 unfold aJ.f at h;have H := h;clear h;have z := ah.mk H;clear H;go_enter Tryz.func92, Tryz.ntmps92;go_upto_region 1 with (fail)
 repeat (go_quiet (fail); go_upto_region 1 with (fail))
 go_cut [20] (fun L wc => ∃ (kq : Nat) (o : Bool), L = .bool o ∧ ah (aJ.j0 kq m a1 o = some r) ∧ ah (kq ≤ k) ∧ bU w wc)
 case first =>
  have H := z.out;clear z;replace H := be H; obtain ⟨X, u, H⟩ := H;replace H := ifB H; rcases H with ⟨rfl, H⟩ | ⟨rfl, H⟩
  ·replace H := be H; obtain ⟨Y, I, H⟩ := H;replace H := ifB H; rcases H with ⟨rfl, H⟩ | ⟨rfl, H⟩
   ·have H' := ah.mk H;clear H
    repeat (go_wp2_with (first | (go_at_call 144; (with_reducible refine (dA.calls k m _ _ u.out).mono ?_); rintro e w' ⟨rfl, ⟨nd, rfl⟩⟩; (try first | exact da | exact DD)) | (go_at_call 102; (with_reducible refine (bH.calls k a1 _ _ I.out).mono ?_); rintro e w' ⟨rfl, ⟨nd, rfl⟩⟩; (try first | exact da | exact DD))); go_quiet (first | (go_at_call 144; (with_reducible refine (dA.calls k m _ _ u.out).mono ?_); rintro e w' ⟨rfl, ⟨nd, rfl⟩⟩; (try first | exact da | exact DD)) | (go_at_call 102; (with_reducible refine (bH.calls k a1 _ _ I.out).mono ?_); rintro e w' ⟨rfl, ⟨nd, rfl⟩⟩; (try first | exact da | exact DD))))
    go_wp2_with (first | (go_at_call 144; (with_reducible refine (dA.calls k m _ _ u.out).mono ?_); rintro e w' ⟨rfl, ⟨nd, rfl⟩⟩; (try first | exact da | exact DD)) | (go_at_call 102; (with_reducible refine (bH.calls k a1 _ _ I.out).mono ?_); rintro e w' ⟨rfl, ⟨nd, rfl⟩⟩; (try first | exact da | exact DD)));go_meet;case rel => exact ⟨_, _, EQ, H', ⟨by first | omega | exact nR _⟩, DR⟩
   ·have H' := ah.mk H;clear H
    repeat (go_wp2_with (first | (go_at_call 144; (with_reducible refine (dA.calls k m _ _ u.out).mono ?_); rintro e w' ⟨rfl, ⟨nd, rfl⟩⟩; (try first | exact da | exact DD)) | (go_at_call 102; (with_reducible refine (bH.calls k a1 _ _ I.out).mono ?_); rintro e w' ⟨rfl, ⟨nd, rfl⟩⟩; (try first | exact da | exact DD))); go_quiet (first | (go_at_call 144; (with_reducible refine (dA.calls k m _ _ u.out).mono ?_); rintro e w' ⟨rfl, ⟨nd, rfl⟩⟩; (try first | exact da | exact DD)) | (go_at_call 102; (with_reducible refine (bH.calls k a1 _ _ I.out).mono ?_); rintro e w' ⟨rfl, ⟨nd, rfl⟩⟩; (try first | exact da | exact DD))))
    go_wp2_with (first | (go_at_call 144; (with_reducible refine (dA.calls k m _ _ u.out).mono ?_); rintro e w' ⟨rfl, ⟨nd, rfl⟩⟩; (try first | exact da | exact DD)) | (go_at_call 102; (with_reducible refine (bH.calls k a1 _ _ I.out).mono ?_); rintro e w' ⟨rfl, ⟨nd, rfl⟩⟩; (try first | exact da | exact DD)));go_meet;case rel => exact ⟨_, _, EQ, H', ⟨by first | omega | exact nR _⟩, DR⟩
  ·have H' := ah.mk H;clear H
   repeat (go_wp2_with (first | (go_at_call 144; (with_reducible refine (dA.calls k m _ _ u.out).mono ?_); rintro e w' ⟨rfl, ⟨nd, rfl⟩⟩; (try first | exact da | exact DD))); go_quiet (first | (go_at_call 144; (with_reducible refine (dA.calls k m _ _ u.out).mono ?_); rintro e w' ⟨rfl, ⟨nd, rfl⟩⟩; (try first | exact da | exact DD))))
   go_wp2_with (first | (go_at_call 144; (with_reducible refine (dA.calls k m _ _ u.out).mono ?_); rintro e w' ⟨rfl, ⟨nd, rfl⟩⟩; (try first | exact da | exact DD)));go_meet;case rel => exact ⟨_, _, EQ, H', ⟨by first | omega | exact nR _⟩, DR⟩
 case rest =>
  clear z;obtain ⟨kq, o, rfl, HA, x, ⟨mc2, rfl⟩⟩ := hcut
  cases kq with
  | zero => exact absurd HA.out (by simp [aJ.j0])
  | succ J =>
   have H := HA.out;clear HA;simp only [aJ.j0] at H;replace H := ifB H; rcases H with ⟨rfl, H⟩ | ⟨rfl, H⟩
   ·obtain rfl := sI H;go_wp2
    repeat (go_quiet (fail); try go_wp2)
    go_ret;exact ⟨EQ, DR⟩
   ·have H' := ah.mk H;clear H;go_wp2
    repeat (go_quiet (fail); try go_wp2)
    go_loopg [23] J (fun kq M w' => ∃ (a : Int), M = .int .i64 a ∧ ah (aJ.l0 kq m a1 (m.size : Int) a = some r) ∧ ah (kq ≤ J) ∧ bU w w')
    case atStart => exact ⟨_, EQ, H', ⟨nR _⟩, DR⟩
    case round =>
     clear H';obtain ⟨a, rfl, HA, y, ⟨m2, rfl⟩⟩ := hrel
     cases gk with
     | zero => exact absurd HA.out (by simp [aJ.l0])
     | succ k2 =>
      have H := HA.out;clear HA;simp only [aJ.l0] at H;replace H := ifD H; rcases H with ⟨K, H⟩ | ⟨K, H⟩
      ·replace H := ifN H; obtain ⟨O, H⟩ := H;replace H := ifN H; obtain ⟨P, H⟩ := H;have Z : (0 ≤ (a : Int)) = True := OT;have xa : (a < (m.size : Int)) = True := OT;have hx12 := fF m a;replace H := ifE H; rcases H with ⟨A, D, H⟩ | ⟨xb, A, D, H⟩
       ·have H' := ah.mk H;clear H;go_wp2
        repeat (go_quiet (fail); try go_wp2)
        go_roundg k2;case measure => have := x.out; have := y.out; omega
        case rel => exact ⟨_, EQ, H', ⟨by have := x.out; have := y.out; omega⟩, DR⟩
       ·replace H := ifN H; obtain ⟨U, H⟩ := H;have xc : (0 ≤ (a : Int)) = True := OT;have xd : (a < (m.size : Int)) = True := OT;have hx14 := fF m a;have xe : (0 ≤ (a : Int)) = True := OT;have xf : (a < (a1.size : Int)) = True := OT;have hx16 := fF a1 a;replace H := ifE H; rcases H with ⟨E, G, H⟩ | ⟨xg, E, G, H⟩
        ·have H' := ah.mk H;clear H;go_wp2
         repeat (go_quiet (fail); try go_wp2)
         go_roundg k2;case measure => have := x.out; have := y.out; omega
         case rel => exact ⟨_, EQ, H', ⟨by have := x.out; have := y.out; omega⟩, DR⟩
        ·obtain rfl := sI H;go_wp2
         repeat (go_quiet (fail); try go_wp2)
         go_ret;exact ⟨EQ, DR⟩
      ·obtain rfl := sI H;go_wp2
       repeat (go_quiet (fail); try go_wp2)
       go_ret;exact ⟨EQ, DR⟩
def fJ.l0 : Nat → List S73 → Int → Int → Oo → Int → Option (Int)
 | 0, _, _, _, _, _ => none
 | k + 1, a, b, c, d, e => if c < b then if 0 ≤ c then if c < (a.length : Int) then if (d.toList == (((dN a c).f0).toList) && (e == ((dN a c).f1))) = true then some c else fJ.l0 k a b (wrap64 (c + 1)) d e else none else none else some (-1)
def fJ.f (k : Nat) (l0 : List S73) (a1_0 : Oo) (a1_1 : Int) : Option (Int) := fJ.l0 k l0 (l0.length : Int) 0 a1_0 a1_1
theorem fJ.calls (k : Nat) (A0 : Option Addr) (c0 : Nat) (l0 : List S73) (a1_0 : Oo) (a1_1 r : Int) (w : World) (hr0 : Kd.C k73 w A0 l0.length l0) (hc0 : l0.length ≤ c0) (h : fJ.f k l0 a1_0 a1_1 = some r) :
  Calls Tryz.prog 190 #[.slice A0 l0.length c0, .agg #[.string a1_0, .int .i64 a1_1]] w fun e w' => e = .returned (.int .i64 r) ∧ Below w.heap.size w w' := by
 have hu73 := Tryz.underlying73
 have HR0 := ah.mk hr0
 have HC0 := ah.mk hc0
 clear hr0 hc0
 have HB := ah.mk (bR w.heap.size w)
 unfold fJ.f at h
 have H := h
 clear h
 have H' := ah.mk H
 clear H
 go_enter Tryz.func190, Tryz.ntmps190
 repeat (go_wp2_with (first | ((with_reducible refine aG (N := 3) rfl ?_); refine aN (N := 3) (cs := #[.string a1_0, .int .i64 a1_1]) (t := 73) ?_; intro gb665 hg w3 hbox hb; have BK665 := ah.mk hbox; have GW665 := SZ (w := w) hg; have GE665 := GW665; replace HB := BS (w := w) hb; clear hb hbox hg)); go_quiet (first | ((with_reducible refine aG (N := 3) rfl ?_); refine aN (N := 3) (cs := #[.string a1_0, .int .i64 a1_1]) (t := 73) ?_; intro gb665 hg w3 hbox hb; have BK665 := ah.mk hbox; have GW665 := SZ (w := w) hg; have GE665 := GW665; replace HB := BS (w := w) hb; clear hb hbox hg)))
 go_wp2_with (first | ((with_reducible refine aG (N := 3) rfl ?_); refine aN (N := 3) (cs := #[.string a1_0, .int .i64 a1_1]) (t := 73) ?_; intro gb665 hg w3 hbox hb; have BK665 := ah.mk hbox; have GW665 := SZ (w := w) hg; have GE665 := GW665; replace HB := BS (w := w) hb; clear hb hbox hg))
 go_loopg [8] k (fun kq v8 w' => ∃ (x8_1 : Int), v8 = .int .i64 x8_1 ∧ ah (fJ.l0 kq l0 (l0.length : Int) x8_1 a1_0 a1_1 = some r) ∧ ah (kq ≤ k) ∧ ah (w'.heap[gb665]? = some (.cells #[.string a1_0, .int .i64 a1_1] 73 (0, 0))) ∧ ah (Below w.heap.size w w'))
 case atStart => exact ⟨(0), EQ, H', ⟨nR _⟩, ⟨BK⟩, ⟨BL⟩⟩
 case round =>
  clear H'
  obtain ⟨x8_1, rfl, HA, HK1, BK665, HB⟩ := hrel
  cases gk with
  | zero => exact absurd HA.out (by simp [fJ.l0])
  | succ k1 =>
   have H := HA.out
   clear HA
   simp only [fJ.l0] at H
   replace H := ifD H; rcases H with ⟨c4b0, H⟩ | ⟨c4b0, H⟩
   ·replace H := ifN H; obtain ⟨c5b0, H⟩ := H
    replace H := ifN H; obtain ⟨c6b0, H⟩ := H
    obtain ⟨hcz7000_0, hcz7000_1, hfz7000_0, hfz7000_1⟩ := cz2 BK665.out
    have p666 : 0 ≤ (x8_1 : Int) := OD
    have q666 : x8_1 < (l0.length : Int) := OD
    obtain ⟨ad666, e666, hx666_0, hx666_1⟩ := qo HR0.out x8_1 p666 q666
    cases e666
    try replace hx666_0 := (HB.out.cell (wB w _ hx666_0)).trans hx666_0
    try replace hx666_1 := (HB.out.cell (wB w _ hx666_1)).trans hx666_1
    replace p666 := eq_true p666
    replace q666 := eq_true q666
    by_cases c7 : (a1_0.toList == (((dN l0 x8_1).f0).toList) && (a1_1 == ((dN l0 x8_1).f1))) = true
    ·rw [if_pos c7] at H
     have c7b0 : (a1_0.toList == (((dN l0 x8_1).f0).toList) && (a1_1 == ((dN l0 x8_1).f1))) = true := c7
     (try (have c7b1 : decide (a1_0.toList = (((dN l0 x8_1).f0).toList) && (a1_1 == ((dN l0 x8_1).f1))) = true := by simpa using c7))
     (try (have c7b2 : (a1_0.toList == (((dN l0 x8_1).f0).toList) && (a1_1 == ((dN l0 x8_1).f1))) = true := by simpa using c7))
     clear c7
     obtain rfl := sI H
     go_wp2
     repeat (go_quiet (fail); try go_wp2)
     go_ret
     exact ⟨EWW, BL⟩
    ·rw [if_neg c7] at H
     have c7b0 : (a1_0.toList == (((dN l0 x8_1).f0).toList) && (a1_1 == ((dN l0 x8_1).f1))) = false := by simpa using c7
     (try (have c7b1 : decide (a1_0.toList = (((dN l0 x8_1).f0).toList) && (a1_1 == ((dN l0 x8_1).f1))) = false := by simpa using c7))
     (try (have c7b2 : (a1_0.toList == (((dN l0 x8_1).f0).toList) && (a1_1 == ((dN l0 x8_1).f1))) = false := by simpa using c7))
     (try (have c7b3 : ¬ (a1_0.toList = (((dN l0 x8_1).f0).toList) && (a1_1 == ((dN l0 x8_1).f1))) := by simpa using c7))
     clear c7
     have H' := ah.mk H
     clear H
     go_wp2
     repeat (go_quiet (fail); try go_wp2)
     go_roundg k1
     case measure => have := HK1.out; omega
     case rel => exact ⟨(wrap64 (x8_1 + 1)), EQ, H', ⟨by have := HK1.out; omega⟩, ⟨BK⟩, ⟨BL⟩⟩
   ·obtain rfl := sI H
    go_wp2
    repeat (go_quiet (fail); try go_wp2)
    go_ret
    exact ⟨EWW, BL⟩
def jJ.f (k : Nat) (l0 : List S73) (a1_0 : Oo) (a1_1 : Int) : Option (Bool) := (fJ.f k l0 a1_0 a1_1).bind fun t668 => some (decide (t668 ≥ 0))
theorem jJ.calls (k : Nat) (A0 : Option Addr) (c0 : Nat) (l0 : List S73) (a1_0 : Oo) (a1_1 : Int) (r : Bool) (w : World) (hr0 : Kd.C k73 w A0 l0.length l0) (hc0 : l0.length ≤ c0) (h : jJ.f k l0 a1_0 a1_1 = some r) :
  Calls Tryz.prog 145 #[.slice A0 l0.length c0, .agg #[.string a1_0, .int .i64 a1_1]] w fun e w' => e = .returned (.bool r) ∧ Below w.heap.size w w' := by
 have hu73 := Tryz.underlying73
 have HR0 := ah.mk hr0
 have HC0 := ah.mk hc0
 clear hr0 hc0
 have HB := ah.mk (bR w.heap.size w)
 unfold jJ.f at h
 have H := h
 clear h
 replace H := be H; obtain ⟨t668, A3, H⟩ := H
 obtain rfl := sI H
 go_enter Tryz.func145, Tryz.ntmps145
 go_wp2_with (first | ((with_reducible refine aG (N := 3) rfl ?_); refine aN (N := 3) (cs := #[.string a1_0, .int .i64 a1_1]) (t := 73) ?_; intro gb667 hg w4 hbox hb; have BK667 := ah.mk hbox; have GW667 := SZ (w := w) hg; have GE667 := GW667; replace HB := BS (w := w) hb; clear hb hbox hg; obtain ⟨hcz5_0, hcz5_1, hfz5_0, hfz5_1⟩ := cz2 BK667.out) | ((with_reducible refine au (f := 190) rfl ?_); refine aK (some 7) Tryz.func190 #[.slice A0 l0.length c0, .agg #[.string a1_0, .int .i64 a1_1]] ?_; (with_reducible refine (fJ.calls k _ _ l0 a1_0 a1_1 t668 _ ?s1_ ?s2_ A3.out).mono ?_); (case s1_ => exact CB HR0); (case s2_ => exact HC0.out); rintro e w6 ⟨rfl, hb⟩; refine ⟨_, rfl, ?_⟩; replace BK667 := KB BK667 hb; replace HB := BS (w := w) hb; (try clear hb)))
 go_ret
 exact ⟨EWW, BL⟩
def ig.f (k : Nat) (l0 : List S73) (a1 : Oo) (a2 : Int) : Option (Bool) := (jJ.f k l0 a1 a2).bind fun t669 => some t669
theorem ig.calls (k : Nat) (x : Option Addr) (y : Nat) (l0 : List S73) (a1 : Oo) (u : Int) (r : Bool) (w : World) (a : Kd.C k73 w x l0.length l0) (m : l0.length ≤ y) (h : ig.f k l0 a1 u = some r) :
  Calls Tryz.prog 93 #[.slice x l0.length y, .string a1, .int .i64 u] w fun e w' => e = .returned (.bool r) ∧ Below w.heap.size w w' := by
 have D := Tryz.underlying73;have z := ah.mk a;have A := ah.mk m;clear a m;have HB := ah.mk (bR w.heap.size w);unfold ig.f at h;have H := h;clear h;replace H := be H; obtain ⟨o, E, H⟩ := H;obtain rfl := sI H;go_enter Tryz.func93, Tryz.ntmps93;go_wp2_with (first | ((with_reducible refine au (f := 145) rfl ?_); refine aK (some 11) Tryz.func145 #[.slice x l0.length y, .agg #[.string a1, .int .i64 u]] ?_; (with_reducible refine (jJ.calls k _ _ l0 a1 u o _ ?s1_ ?s2_ E.out).mono ?_); (case s1_ => repeat (first | exact z.out | (with_reducible refine Kd.fU ?_ _) | (with_reducible refine Kd.fV ?_ _) | (with_reducible refine Kd.iy ?_))); (case s2_ => exact A.out); rintro e G ⟨rfl, hb⟩; refine ⟨_, rfl, ?_⟩; replace HB := BS (w := w) hb; (try clear hb)));go_ret;exact ⟨EWW, BL⟩
def jc.f (k : Nat) (a0 : Oo) : Option (Oo) := (bH.f k a0).bind fun t => if t = true then if a0.size ≤ 12 then some (strOfNums (Go.Proofs.YtikmdgmnhbodjaaGreat.HandSort.sorted a0)) else none else none
theorem jc.calls (k : Nat) (a r : Oo) (w : World) (h : jc.f k a = some r) :
  Calls Tryz.prog 210 #[.string a] w fun e w' => e = .returned (.string r) ∧ Below w.heap.size w w' := by
 obtain ⟨t, h1, h2⟩ := bM h
 cases t with
 | false => simp at h2
 | true =>
  rw [if_pos rfl] at h2;by_cases h3 : a.size ≤ 12
  ·rw [if_pos h3] at h2;obtain rfl := sI h2;exact Go.Proofs.YtikmdgmnhbodjaaGreat.HandSort.qC a w h3 ((bH.calls k a true w h1).mono fun e w' hq => ⟨hq.1, hq.2.out⟩)
  ·rw [if_neg h3] at h2
   cases h2
end Go.Proofs.YtikmdgmnhbodjaaGreat.PFnExactSolvePuzzle
