/- Walks of functions: what each computes. -/
import Derived.Test.YtdbefmkcondbgaaGreatDoorZHaOnSoG0
import Derived.Test.YtdbefmkcondbgaaGreatDoorZHaOnSoG6
import Derived.Test.YtdbefmkcondbgaaGreatDoorZHaOnSoG7
namespace Go.Proofs.YtdbefmkcondbgaaGreatDoor.PFnExactHasOneSolution
open Go.RowKit Go.Proofs.Yw.PrintWords Go.Proofs.Yw.PrintLast Go.Proofs.Yw.PrintMore Go.Proofs.YtdbefmkcondbgaaGreatDoor.Sq
attribute [local go_sem] kT kV mF mG jO jP kU kW
set_option maxHeartbeats 8000000
set_option maxRecDepth 100000
set_option linter.unusedVariables false
set_option linter.unusedSimpArgs false
mutual
def dY.l0 : Nat → List S98 → List S98 → Int → Int → Int → Int → aj → Option (Int)
 | 0, _, _, _, _, _, _, _ => none
 | k + 1, a, b, c, d, e, f, g => if d < c then if 0 ≤ d then if d < (b.length : Int) then if ((aU b d).f3) < 3 then some 4 else dY.l0 k a b c (wrap64 (d + 1)) e f g else none else none else dY.l1 k a (a.length : Int) 0 e f g
def dY.l1 : Nat → List S98 → Int → Int → Int → Int → aj → Option (Int)
 | 0, _, _, _, _, _, _ => none
 | k + 1, a, b, c, d, e, f => if c < b then if 0 ≤ c then if c < (a.length : Int) then (eD.f k d e f c).bind fun g => if (wrap64 (2 * g)) > ((aU a c).f3) then some 5 else dY.l1 k a b (wrap64 (c + 1)) d e f else none else none else (nW.f k d e f f).bind fun h => if h = true then some 5 else some 0
end
def dY.f (k : Nat) (Mc Md : Int) (Me : aj) : Option (Int) := (bE.f k Mc Md Me).bind fun t553 => if t553 = true then (eZ.f k Mc Md Me).bind fun t554 => if t554 = true then (jr.f k Mc Md Me).bind fun t555 => if t555 = true then (aX.f k Mc Md Me).bind fun t556 => dY.l0 k t556 t556 (t556.length : Int) 0 Mc Md Me else some 3 else some 2 else some 1
theorem dY.calls (k : Nat) (Mc Md : Int) (Me : aj) (r : Int) (w : World) (h : dY.f k Mc Md Me = some r) :
  Calls Tryz.prog 55 #[.agg #[.int .i64 Mc, .int .i64 Md, .string Me]] w fun e w' => e = .returned (.int .i64 r) ∧ Below w.heap.size w w' := by
 have yL := Tryz.underlying34;have yM := Tryz.underlying98;have HB := ah.mk (bR w.heap.size w);unfold dY.f at h;have H := h;clear h;replace H := be H; obtain ⟨yN, A2, H⟩ := H;replace H := ah.mk H;go_enter Tryz.func55, Tryz.ntmps55;go_wp2_with (first | ((with_reducible refine aI (N := 1) rfl ?_); refine aZ (N := 1) (cs := #[.int .i64 Mc, .int .i64 Md, .string Me]) (t := 34) ?_; intro G hg yr hbox hb; have o := ah.mk hbox; have xQ := SZ (w := w) hg; have ys := xQ; replace HB := BS (w := w) hb; clear hb hbox hg; obtain ⟨L, M, O, P, U, Y⟩ := cz3 o.out) | ((with_reducible refine aA (f := 43) rfl ?_); refine bg (some 10) Tryz.func43 #[.agg #[.int .i64 Mc, .int .i64 Md, .string Me]] ?_; (with_reducible refine (bE.calls k Mc Md Me _ _ A2.out).mono ?_); rintro e yt ⟨rfl, hb⟩; refine ⟨_, rfl, ?_⟩; replace o := KB o hb; replace HB := BS (w := w) hb; (try clear hb); obtain ⟨Z, xa, xb, xc, xd, xe⟩ := cz3 o.out; refine dx ?_));refine Hide.mk ?_;replace H := H.out;replace H := ifB H; rcases H with ⟨rfl, H⟩ | ⟨rfl, H⟩
 ·replace H := be H; obtain ⟨yO, A4, H⟩ := H;replace H := ah.mk H;go_wp2_with (first | ((with_reducible refine aA (f := 86) rfl ?_); refine bg (some 14) Tryz.func86 #[.agg #[.int .i64 Mc, .int .i64 Md, .string Me]] ?_; (with_reducible refine (eZ.calls k Mc Md Me _ _ A4.out).mono ?_); rintro e yu ⟨rfl, hb⟩; refine ⟨_, rfl, ?_⟩; replace o := KB o hb; replace HB := BS (w := w) hb; (try clear hb); obtain ⟨xf, xg, xh, xi, xj, xk⟩ := cz3 o.out; refine dx ?_));refine Hide.mk ?_;replace H := H.out;replace H := ifB H; rcases H with ⟨rfl, H⟩ | ⟨rfl, H⟩
  ·replace H := be H; obtain ⟨yP, A6, H⟩ := H;replace H := ah.mk H;go_wp2_with (first | ((with_reducible refine aA (f := 87) rfl ?_); refine bg (some 18) Tryz.func87 #[.agg #[.int .i64 Mc, .int .i64 Md, .string Me]] ?_; (with_reducible refine (jr.calls k Mc Md Me _ _ A6.out).mono ?_); rintro e yv ⟨rfl, hb⟩; refine ⟨_, rfl, ?_⟩; replace o := KB o hb; replace HB := BS (w := w) hb; (try clear hb); obtain ⟨xl, xm, xn, xo, xp, xq⟩ := cz3 o.out; refine dx ?_));refine Hide.mk ?_;replace H := H.out;replace H := ifB H; rcases H with ⟨rfl, H⟩ | ⟨rfl, H⟩
   ·replace H := be H; obtain ⟨m, A8, H⟩ := H;have H' := ah.mk H;clear H;try go_wp2_with (first | ((with_reducible refine aA (f := 56) rfl ?_); refine bg (some 21) Tryz.func56 #[.agg #[.int .i64 Mc, .int .i64 Md, .string Me]] ?_; (with_reducible refine (aX.calls k Mc Md Me m _ A8.out).mono ?_); rintro e yw ⟨yQ, rfl, yf, hb⟩; refine ⟨_, rfl, ?_⟩; replace o := KB o hb; have xt := ah.mk (Kd.cZ yf (aH BL)); replace HB := BS (w := w) hb; (try clear hb); (try clear yf); obtain ⟨xr, J, xO⟩ := Kd.dI xt.out; subst xO))
    go_loopg [24] k (fun kq yx w' => ∃ (y : Int), yx = .int .i64 y ∧ ah (dY.l0 kq m m (m.length : Int) y Mc Md Me = some r) ∧ ah (kq ≤ k) ∧ ah (Kd.R k98 98 w' w.heap.size (fun _ => True) (.slice xr m.length J) m) ∧ ah (Kd.R k98 98 w' w.heap.size (fun _ => True) (.slice xr m.length J) m) ∧ ah (w'.heap[G]? = some (.cells #[.int .i64 Mc, .int .i64 Md, .string Me] 34 (0, 0))) ∧ ah (Below w.heap.size w w'))
    case atStart => exact ⟨_, EQ, H', ⟨nR _⟩, ⟨(RR xt)⟩, ⟨(RR xt)⟩, ⟨BK⟩, ⟨BL⟩⟩
    case round =>
     clear H';(try clear L M O);(try clear Z xa xb);(try clear xf xg xh);(try clear xl xm xn);(try clear P U Y);(try clear xc xd xe);(try clear xi xj xk);(try clear xo xp xq);obtain ⟨y, rfl, HA, xP, xE, xs, o, HB⟩ := hrel
     cases gk with
     | zero => exact absurd HA.out (by simp [dY.l0])
     | succ k1 =>
      have H := HA.out;clear HA;simp only [dY.l0] at H;replace H := ifD H; rcases H with ⟨xH, H⟩ | ⟨xH, H⟩
      ·replace H := ifN H; obtain ⟨yy, H⟩ := H;replace H := ifN H; obtain ⟨yz, H⟩ := H;have xI : 0 ≤ (y : Int) := OD;have xJ : y < (m.length : Int) := OD;obtain ⟨yA, yg, yh, yi, yj, yk⟩ := qh (Kd.bY xs.out).2.2 y xI xJ
       cases yg
       replace xI := eq_true xI;replace xJ := eq_true xJ;replace H := ah.mk H;go_wp2_with (first | ((with_reducible refine aI (N := 5) rfl ?_); refine aZ (N := 5) (cs := #[.int .i64 0, .bool false, .int .i64 0, .int .i64 0]) (t := 98) ?_; intro A hg I hbox hb; replace xE := ah.mk (Kd.jE (Kd.uf (RR xE) A (Nat.le_of_eq hg.symm)) hb); replace xs := ah.mk (Kd.jE (Kd.uf (RR xs) A (Nat.le_of_eq hg.symm)) hb); have xR := ah.mk (hbox); have xS := SZ (w := w) hg; have yB := xS; replace HB := BS (w := w) hb; have D := NL o hg; have xu := NG o hg; replace o := KB o hb; clear hb hbox hg; have xK := xu.out; have xL := D.out; obtain ⟨xv, xw, xx, xy, xz, xA, xB, xC⟩ := cz4 xR.out; refine dx ?_));refine Hide.mk ?_;replace H := H.out;replace H := ifD H; rcases H with ⟨xT, H⟩ | ⟨xT, H⟩
       ·obtain rfl := sI H;(try go_wp2);go_ret;exact ⟨EWW, BL⟩
       ·have H' := ah.mk H;clear H;(try go_wp2);go_roundg k1;case measure => have := xP.out; omega
        case rel => exact ⟨_, EQ, H', ks xP, ⟨by (with_reducible repeat (first | apply Kd.dW | apply Kd.dX | apply Kd.dM)); exact Kd.dN (Rf (Rf (Rf (Rf (Kd.dN xE.out (fun k_ hk => (⟨hk, hk.2⟩ : _ ∧ k_ ≠ A))))))) (fun _ hk => trivial)⟩, ⟨by (with_reducible repeat (first | apply Kd.dW | apply Kd.dX | apply Kd.dM)); exact Kd.dN (Rf (Rf (Rf (Rf (Kd.dN xs.out (fun k_ hk => (⟨hk, hk.2⟩ : _ ∧ k_ ≠ A))))))) (fun _ hk => trivial)⟩, ⟨by (with_reducible repeat (first | refine bf ?_ _ | refine aT ?_ | refine aV ?_ _ | apply iF (hp := D.out))); exact o.out⟩, ⟨BL⟩⟩
      ·have H' := ah.mk H;clear H;go_wp2
       go_loopg [34] k1 (fun kq yC w' => ∃ (a : Int), yC = .int .i64 a ∧ ah (dY.l1 kq m (m.length : Int) a Mc Md Me = some r) ∧ ah (kq ≤ k1) ∧ ah (Kd.R k98 98 w' w.heap.size (fun _ => True) (.slice xr m.length J) m) ∧ ah (w'.heap[G]? = some (.cells #[.int .i64 Mc, .int .i64 Md, .string Me] 34 (0, 0))) ∧ ah (Below w.heap.size w w'))
       case atStart => exact ⟨_, EQ, H', ⟨nR _⟩, ⟨(RR xE)⟩, ⟨BK⟩, ⟨BL⟩⟩
       case round =>
        clear H';(try clear xH);(try clear L M O);(try clear Z xa xb);(try clear xf xg xh);(try clear xl xm xn);(try clear P U Y);(try clear xc xd xe);(try clear xi xj xk);(try clear xo xp xq);obtain ⟨a, rfl, HA, yl, z, o, HB⟩ := hrel
        cases gk with
        | zero => exact absurd HA.out (by simp [dY.l1])
        | succ k2 =>
         have H := HA.out;clear HA;simp only [dY.l1] at H;replace H := ifD H; rcases H with ⟨xU, H⟩ | ⟨xU, H⟩
         ·replace H := ifN H; obtain ⟨yD, H⟩ := H;replace H := ifN H; obtain ⟨yE, H⟩ := H;replace H := be H; obtain ⟨xF, yF, H⟩ := H;have xM : 0 ≤ (a : Int) := OD;have xN : a < (m.length : Int) := OD;obtain ⟨xV, ym, yn, yo, yp, yq⟩ := qh (Kd.bY z.out).2.2 a xM xN
          cases ym
          replace xM := eq_true xM;replace xN := eq_true xN;replace H := ah.mk H;(try go_wp2_with (first | ((with_reducible refine aI (N := 7) rfl ?_); refine aZ (N := 7) (cs := #[.int .i64 0, .bool false, .int .i64 0, .int .i64 0]) (t := 98) ?_; intro u hg I hbox hb; replace z := ah.mk (Kd.jE (Kd.uf (RR z) u (Nat.le_of_eq hg.symm)) hb); have x := ah.mk (hbox); have xW := SZ (w := w) hg; have yG := xW; replace HB := BS (w := w) hb; have E := NL o hg; have xD := NG o hg; replace o := KB o hb; clear hb hbox hg; have xK := xD.out; have xL := E.out; obtain ⟨xv, xw, xx, xy, xz, xA, xB, xC⟩ := cz4 x.out)));have n0_ : ah (Kd.R k98 98 ((((I.setCell ⟨u, 0, none⟩ (.int .i64 ((aU m a).f0))).setCell ⟨u, 1, none⟩ (.bool ((aU m a).f1))).setCell ⟨u, 2, none⟩ (.int .i64 ((aU m a).f2))).setCell ⟨u, 3, none⟩ (.int .i64 ((aU m a).f3))) w.heap.size (fun k_ => k_ ≠ u) (.slice (some xV) m.length J) m) := ⟨by (with_reducible repeat (first | apply Kd.dW | apply Kd.dX | apply Kd.dM)); exact Kd.dN (Rf (Rf (Rf (Rf (Kd.dN z.out (fun k_ hk => (⟨hk, hk.2⟩ : _ ∧ k_ ≠ u))))))) (fun _ hk => hk.1.2)⟩;have n1_ : ah (((((I.setCell ⟨u, 0, none⟩ (.int .i64 ((aU m a).f0))).setCell ⟨u, 1, none⟩ (.bool ((aU m a).f1))).setCell ⟨u, 2, none⟩ (.int .i64 ((aU m a).f2))).setCell ⟨u, 3, none⟩ (.int .i64 ((aU m a).f3))).heap[G]? = some (.cells #[.int .i64 Mc, .int .i64 Md, .string Me] 34 (0, 0))) := ⟨by (with_reducible repeat (first | refine bf ?_ _ | refine aT ?_ | refine aV ?_ _ | apply iF (hp := E.out))); exact o.out⟩;have n2_ : ah (((((I.setCell ⟨u, 0, none⟩ (.int .i64 ((aU m a).f0))).setCell ⟨u, 1, none⟩ (.bool ((aU m a).f1))).setCell ⟨u, 2, none⟩ (.int .i64 ((aU m a).f2))).setCell ⟨u, 3, none⟩ (.int .i64 ((aU m a).f3))).heap[u]? = some (.cells #[.int .i64 ((aU m a).f0), .bool ((aU m a).f1), .int .i64 ((aU m a).f2), .int .i64 ((aU m a).f3)] 98 (0, 0))) := ⟨by (with_reducible repeat (first | refine bf ?_ _ | refine aT ?_ | refine aV ?_ _ | apply fM)); exact x.out; all_goals rfl⟩;have n3_ : ah (Below w.heap.size w ((((I.setCell ⟨u, 0, none⟩ (.int .i64 ((aU m a).f0))).setCell ⟨u, 1, none⟩ (.bool ((aU m a).f1))).setCell ⟨u, 2, none⟩ (.int .i64 ((aU m a).f2))).setCell ⟨u, 3, none⟩ (.int .i64 ((aU m a).f3)))) := ⟨BL⟩;(try clear z);(try clear o);(try clear x);(try clear HB);generalize ((((I.setCell ⟨u, 0, none⟩ (.int .i64 ((aU m a).f0))).setCell ⟨u, 1, none⟩ (.bool ((aU m a).f1))).setCell ⟨u, 2, none⟩ (.int .i64 ((aU m a).f2))).setCell ⟨u, 3, none⟩ (.int .i64 ((aU m a).f3))) = xX at n0_ n1_ n2_ n3_ ⊢;have z := n0_;have o := n1_;have x := n2_;have HB := n3_;clear n0_ n1_ n2_ n3_;replace z := ah.mk (Kd.dM z.out);replace o := ah.mk (aT o.out);replace x := ah.mk (aT x.out);replace HB := ah.mk (cK HB.out);refine jA (n := 7) (S := fun w' => w'.cell? ⟨G, 0, none⟩ = some (.int .i64 Mc) ∧ w'.cell? ⟨G, 1, none⟩ = some (.int .i64 Md) ∧ w'.cell? ⟨G, 2, none⟩ = some (.string Me) ∧ w'.cell? ⟨u, 0, none⟩ = some (.int .i64 ((aU m a).f0)) ∧ w'.cell? ⟨u, 1, none⟩ = some (.bool ((aU m a).f1)) ∧ w'.cell? ⟨u, 2, none⟩ = some (.int .i64 ((aU m a).f2)) ∧ w'.cell? ⟨u, 3, none⟩ = some (.int .i64 ((aU m a).f3))) (ds := []) #[F,F,F,F,F,F,F] (by kernel_rfl) rfl rfl ⟨(ak o.out 0).trans rfl, (ak o.out 1).trans rfl, (ak o.out 2).trans rfl, (ak x.out 0).trans rfl, (ak x.out 1).trans rfl, (ak x.out 2).trans rfl, (ak x.out 3).trans rfl⟩ (fun hHeld => ?_);generalize xX.drew = yH at z o x HB hHeld ⊢;refine puS (i := 1) (N := some 40) #[F,T,F,F,F,F,F] (by kernel_rfl) ?_;refine puS (i := 4) (N := some 43) #[F,T,F,F,T,F,F] (by kernel_rfl) ?_;refine taS (i := 0) (N := some 39) #[T,T,F,F,T,F,F] (by kernel_rfl) hHeld ?_;refine taS (i := 5) (N := some 44) #[T,T,F,F,T,T,F] (by kernel_rfl) hHeld ?_;refine ko (i := 2) (N := some 41) #[T,T,T,F,T,T,F] rfl rfl (by kernel_rfl) (by decide) (fun K hK => ?_);refine iX Tryz.func88 #[.agg #[.int .i64 Mc, .int .i64 Md, .string Me], .int .i64 a] ?_;(with_reducible refine (eD.calls k2 Mc Md Me a xF _ yF.out).mono ?_);rintro e yI ⟨rfl, hb⟩;refine ⟨_, rfl, ?_⟩;replace z := RB z hb;replace o := KB o hb;replace x := KB x hb;replace HB := BS (w := w) hb;(try clear hb);refine hK.out _ _ ⟨(ak o.out 0).trans rfl, (ak o.out 1).trans rfl, (ak o.out 2).trans rfl, (ak x.out 0).trans rfl, (ak x.out 1).trans rfl, (ak x.out 2).trans rfl, (ak x.out 3).trans rfl⟩ (fun hHeld => ?_);clear hK K;refine nrm (some 41) ?_;replace H := H.out;by_cases xG : (wrap64 (2 * xF)) > ((aU m a).f3)
          ·rw [if_pos xG] at H;have xY : decide (((aU m a).f3) < (wrap64 (2 * xF))) = true := dT xG;clear xG;obtain rfl := sI H;refine puS (i := 3) (N := some 42) #[T,T,T,T,T,T,F] (by kernel_rfl) ?_;refine puS (i := 6) (N := some 45) #[T,T,T,T,T,T,T] (by kernel_rfl) ?_;refine iO (by kernel_rfl) ?_;(try go_wp2);go_ret;exact ⟨EWW, BL⟩
          ·rw [if_neg xG] at H;have xY : decide (((aU m a).f3) < (wrap64 (2 * xF))) = false := dF xG;clear xG;have H' := ah.mk H;clear H;refine puS (i := 3) (N := some 42) #[T,T,T,T,T,T,F] (by kernel_rfl) ?_;refine puS (i := 6) (N := some 45) #[T,T,T,T,T,T,T] (by kernel_rfl) ?_;refine iO (by kernel_rfl) ?_;(try go_wp2);go_roundg k2;case measure => have := xP.out; have := yl.out; omega
           case rel => exact ⟨_, EQ, H', ⟨by have := xP.out; have := yl.out; omega⟩, ⟨by (with_reducible repeat (first | apply Kd.dW | apply Kd.dX | apply Kd.dM)); exact Kd.dN z.out (fun _ hk => trivial)⟩, ⟨BK⟩, ⟨BL⟩⟩
         ·replace H := be H; obtain ⟨yR, yJ, H⟩ := H;obtain ⟨xZ, ya, yb, yc, yd, ye⟩ := cz3 o.out;replace H := ah.mk H;go_wp2_with (first | ((with_reducible refine aA (f := 89) rfl ?_); refine bg (some 50) Tryz.func89 #[.agg #[.int .i64 Mc, .int .i64 Md, .string Me], .string Me] ?_; (with_reducible refine (nW.calls k2 Mc Md Me Me _ _ yJ.out).mono ?_); rintro e yK ⟨rfl, hb⟩; refine ⟨_, rfl, ?_⟩; replace z := RB z hb; replace o := KB o hb; replace HB := BS (w := w) hb; (try clear hb); refine dx ?_));refine Hide.mk ?_;replace H := H.out;replace H := ifB H; rcases H with ⟨rfl, H⟩ | ⟨rfl, H⟩
          ·obtain rfl := sI H;(try go_wp2);go_ret;exact ⟨EWW, BL⟩
          ·obtain rfl := sI H;(try go_wp2);go_ret;exact ⟨EWW, BL⟩
   ·obtain rfl := sI H;(try go_wp2);go_ret;exact ⟨EWW, BL⟩
  ·obtain rfl := sI H;(try go_wp2);go_ret;exact ⟨EWW, BL⟩
 ·obtain rfl := sI H;(try go_wp2);go_ret;exact ⟨EWW, BL⟩
def bQ.l0 : Nat → aj → Int → Int → Option (Bool)
 | 0, _, _, _ => none
 | k + 1, a, b, c => if c < b then if 0 ≤ c then if c < (a.size : Int) then (fC.f (bt a c)).bind fun d => if d = true then bQ.l0 k a b (wrap64 (c + 1)) else some false else none else none else some true
def bQ.f (k : Nat) (a0 : aj) : Option (Bool) := (dJ.f (a0.size : Int) 1 8).bind fun t565 => if t565 = true then bQ.l0 k a0 (a0.size : Int) 0 else some false
theorem bQ.calls (k : Nat) (m : aj) (r : Bool) (w : World) (h : bQ.f k m = some r) :
  Calls Tryz.prog 101 #[.string m] w fun e w' => e = .returned (.bool r) ∧ dQ w w' := by
 unfold bQ.f at h;have H := h;clear h;replace H := be H; obtain ⟨y, A2, H⟩ := H;replace H := ah.mk H;go_enter Tryz.func101, Tryz.ntmps101;go_wp2_with (first | ((with_reducible refine aA (f := 57) rfl ?_); refine bg (some 6) Tryz.func57 #[.int .i64 (m.size : Int), .int .i64 1, .int .i64 8] ?_; (with_reducible refine (dJ.calls (m.size : Int) 1 8 _ _ A2.out).mono ?_); rintro e w' ⟨rfl, ⟨nd, rfl⟩⟩; refine ⟨_, rfl, ?_⟩; refine dx ?_));refine Hide.mk ?_;replace H := H.out;replace H := ifB H; rcases H with ⟨rfl, H⟩ | ⟨rfl, H⟩
 ·have H' := ah.mk H;clear H;try go_wp2
  go_loopg [10] k (fun kq x w' => ∃ (a : Int), x = .int .i64 a ∧ ah (bQ.l0 kq m (m.size : Int) a = some r) ∧ ah (kq ≤ k) ∧ dQ w w')
  case atStart => exact ⟨_, EQ, H', ⟨nR _⟩, DR⟩
  case round =>
   clear H';obtain ⟨a, rfl, HA, o, ⟨m1, rfl⟩⟩ := hrel
   cases gk with
   | zero => exact absurd HA.out (by simp [bQ.l0])
   | succ k1 =>
    have H := HA.out;clear HA;simp only [bQ.l0] at H;replace H := ifD H; rcases H with ⟨u, H⟩ | ⟨u, H⟩
    ·replace H := ifN H; obtain ⟨z, H⟩ := H;replace H := ifN H; obtain ⟨A, H⟩ := H;replace H := be H; obtain ⟨D, E, H⟩ := H;have G : (0 ≤ (a : Int)) = True := OT;have I : (a < (m.size : Int)) = True := OT;have hx7 := gN m a;replace H := ah.mk H;go_wp2_with (first | ((with_reducible refine aA (f := 61) rfl ?_); refine bg (some 16) Tryz.func61 #[.int .u8 (bt m a)] ?_; (with_reducible refine (fC.calls (bt m a) _ _ E.out).mono ?_); rintro e w' ⟨rfl, ⟨nd, rfl⟩⟩; refine ⟨_, rfl, ?_⟩; refine dx ?_));refine Hide.mk ?_;replace H := H.out;replace H := ifB H; rcases H with ⟨rfl, H⟩ | ⟨rfl, H⟩
     ·have H' := ah.mk H;clear H;(try go_wp2);go_roundg k1;case measure => have := o.out; omega
      case rel => exact ⟨_, EQ, H', ks o, DR⟩
     ·obtain rfl := sI H;(try go_wp2);go_ret;exact ⟨EQ, DR⟩
    ·obtain rfl := sI H;go_wp2;go_ret;exact ⟨EQ, DR⟩
 ·obtain rfl := sI H;(try go_wp2);go_ret;exact ⟨EQ, DR⟩
def jU.f (a0 : Int) : Option (Bool) := if a0 = 3 then some true else some (decide (a0 ≥ 6))
theorem jU.calls (o : Int) (r : Bool) (w : World) (h : jU.f o = some r) :
  Calls Tryz.prog 123 #[.int .i64 o] w fun e w' => e = .returned (.bool r) ∧ dQ w w' := by
 unfold jU.f at h;have H := h;clear h;replace H := ah.mk H;go_enter Tryz.func123, Tryz.ntmps123;replace H := H.out;replace H := ifE H; rcases H with ⟨a, m, H⟩ | ⟨c2, a, m, H⟩
 ·obtain rfl := sI H;(try go_wp2);go_ret;exact ⟨EQ, DR⟩
 ·obtain rfl := sI H;(try go_wp2);go_ret;exact ⟨EQ, DR⟩
def jC.f (a0 : Int) : Option (Bool) := if a0 = 4 then some true else some (a0 == 5)
theorem jC.calls (o : Int) (r : Bool) (w : World) (h : jC.f o = some r) :
  Calls Tryz.prog 124 #[.int .i64 o] w fun e w' => e = .returned (.bool r) ∧ dQ w w' := by
 unfold jC.f at h;have H := h;clear h;replace H := ah.mk H;go_enter Tryz.func124, Tryz.ntmps124;replace H := H.out;replace H := ifE H; rcases H with ⟨a, m, H⟩ | ⟨c2, a, m, H⟩
 ·obtain rfl := sI H;(try go_wp2);go_ret;exact ⟨EQ, DR⟩
 ·obtain rfl := sI H;(try go_wp2);go_ret;exact ⟨EQ, DR⟩
mutual
def dn.l0 : Nat → List dU → List dU → Int → Int → Option (Bool)
 | 0, _, _, _, _ => none
 | k + 1, a, b, c, d => if d < c then if 0 ≤ d then if d < (b.length : Int) then (dJ.f ((au b d).f0) 1 9).bind fun e => if e = true then if ((au b d).f0) = 1 then (bQ.f k ((au b d).f1)).bind fun f => if f = true then if ((au b d).f2) = 0 then if ((au b d).f3) = 0 then dn.l0 k a b c (wrap64 (d + 1)) else some false else some false else some false else if ((au b d).f1).toList = ([] : List UInt8) then (nK.f ((au b d).f2) d).bind fun g => if g = true then (jU.f ((au b d).f0)).bind fun h => if h = true then if 0 ≤ ((au b d).f2) then if ((au b d).f2) < (a.length : Int) then dn.j1 k a d b c d (((au a ((au b d).f2)).f0) != 1) ((au b d).f0) ((au b d).f1) ((au b d).f2) ((au b d).f3) else none else none else dn.j1 k a d b c d false ((au b d).f0) ((au b d).f1) ((au b d).f2) ((au b d).f3) else dn.j1 k a d b c d true ((au b d).f0) ((au b d).f1) ((au b d).f2) ((au b d).f3) else dn.j1 k a d b c d true ((au b d).f0) ((au b d).f1) ((au b d).f2) ((au b d).f3) else some false else none else none else some true
def dn.j1 : Nat → List dU → Int → List dU → Int → Int → Bool → Int → aj → Int → Int → Option (Bool)
 | 0, _, _, _, _, _, _, _, _, _, _ => none
 | k + 1, a, b, c, d, e, f, g, h, i, j => if f = true then some false else (jC.f g).bind fun l => if l = true then (nK.f j b).bind fun m => if m = true then (jC.f g).bind fun n => if n = true then dn.l0 k a c d (wrap64 (e + 1)) else if j = 0 then dn.l0 k a c d (wrap64 (e + 1)) else some false else some false else (jC.f g).bind fun o => if o = true then dn.l0 k a c d (wrap64 (e + 1)) else if j = 0 then dn.l0 k a c d (wrap64 (e + 1)) else some false
end
def dn.f (k : Nat) (l0 : List dU) : Option (Bool) := (dJ.f (l0.length : Int) 1 9).bind fun t567 => if t567 = true then dn.l0 k l0 l0 (l0.length : Int) 0 else some false
theorem dn.calls (k : Nat) (A0 : Option Addr) (c0 : Nat) (l0 : List dU) (r : Bool) (w : World) (xR : Kd.C jV w A0 l0.length l0) (xS : l0.length ≤ c0) (h : dn.f k l0 = some r) :
  Calls Tryz.prog 92 #[.slice A0 l0.length c0] w fun e w' => e = .returned (.bool r) ∧ Below w.heap.size w w' := by
 have xY := Tryz.underlying116;have xT := ah.mk xR;have yx := ah.mk xS;clear xR xS;have HB := ah.mk (bR w.heap.size w);unfold dn.f at h;have H := h;clear h;replace H := be H; obtain ⟨yo, A2, H⟩ := H;replace H := ah.mk H;go_enter Tryz.func92, Tryz.ntmps92;go_wp2_with (first | ((with_reducible refine aA (f := 57) rfl ?_); refine bg (some 7) Tryz.func57 #[.int .i64 (l0.length : Int), .int .i64 1, .int .i64 9] ?_; (with_reducible refine (dJ.calls (l0.length : Int) 1 9 _ _ A2.out).mono ?_); rintro e w' ⟨rfl, ⟨nd, rfl⟩⟩; refine ⟨_, rfl, ?_⟩; refine dx ?_));refine Hide.mk ?_;replace H := H.out;replace H := ifB H; rcases H with ⟨rfl, H⟩ | ⟨rfl, H⟩
 ·have H' := ah.mk H;clear H;try go_wp2
  go_loopg [11] k (fun kq xZ w' => ∃ (a : Int), xZ = .int .i64 a ∧ ah (dn.l0 kq l0 l0 (l0.length : Int) a = some r) ∧ ah (kq ≤ k) ∧ ah (Below w.heap.size w w'))
  case atStart => exact ⟨_, EQ, H', ⟨nR _⟩, ⟨BL⟩⟩
  case round =>
   clear H';obtain ⟨a, rfl, HA, A, HB⟩ := hrel
   cases gk with
   | zero => exact absurd HA.out (by simp [dn.l0])
   | succ k1 =>
    have H := HA.out;clear HA;simp only [dn.l0] at H;replace H := ifD H; rcases H with ⟨xo, H⟩ | ⟨xo, H⟩
    ·replace H := ifN H; obtain ⟨xU, H⟩ := H;replace H := ifN H; obtain ⟨xV, H⟩ := H;replace H := be H; obtain ⟨yp, A7, H⟩ := H;have xe : 0 ≤ (a : Int) := OD;have xf : a < (l0.length : Int) := OD;obtain ⟨K, xW, D, E, G, I⟩ := kM xT.out a xe xf
     cases xW
     (try replace D := (HB.out.cell (wB w _ D)).trans D);(try replace E := (HB.out.cell (wB w _ E)).trans E);(try replace G := (HB.out.cell (wB w _ G)).trans G);(try replace I := (HB.out.cell (wB w _ I)).trans I);replace xe := eq_true xe;replace xf := eq_true xf;replace H := ah.mk H;go_wp2_with (first | ((with_reducible refine aI (N := 4) rfl ?_); refine aZ (N := 4) (cs := #[.int .i64 0, .string (⟨#[]⟩ : aj), .int .i64 0, .int .i64 0]) (t := 116) ?_; intro o hg ya hbox hb; have z := ah.mk hbox; have L := SZ (w := w) hg; have yb := L; replace HB := BS (w := w) hb; clear hb hbox hg; obtain ⟨P, U, Y, Z, xa, xb, xc, xd⟩ := cz4 z.out) | ((with_reducible refine aA (f := 57) rfl ?_); refine bg (some 18) Tryz.func57 #[.int .i64 ((au l0 a).f0), .int .i64 1, .int .i64 9] ?_; (with_reducible refine (dJ.calls ((au l0 a).f0) 1 9 _ _ A7.out).mono ?_); rintro e w' ⟨rfl, ⟨nd, rfl⟩⟩; refine ⟨_, rfl, ?_⟩; refine dx ?_));refine Hide.mk ?_;replace H := H.out;replace H := ifB H; rcases H with ⟨rfl, H⟩ | ⟨rfl, H⟩
     ·replace H := ifE H; rcases H with ⟨xp, xq, H⟩ | ⟨c9, xp, xq, H⟩
      ·replace H := be H; obtain ⟨yq, yc, H⟩ := H;replace H := ah.mk H;go_wp2_with (first | ((with_reducible refine aA (f := 101) rfl ?_); refine bg (some 25) Tryz.func101 #[.string ((au l0 a).f1)] ?_; (with_reducible refine (bQ.calls k1 ((au l0 a).f1) _ _ yc.out).mono ?_); rintro e w' ⟨rfl, ⟨nd, rfl⟩⟩; refine ⟨_, rfl, ?_⟩; refine dx ?_));refine Hide.mk ?_;replace H := H.out;replace H := ifB H; rcases H with ⟨rfl, H⟩ | ⟨rfl, H⟩
       ·replace H := ifE H; rcases H with ⟨xr, xs, H⟩ | ⟨yz, xr, xs, H⟩
        ·replace H := ifE H; rcases H with ⟨xt, xu, H⟩ | ⟨yA, xt, xu, H⟩
         ·have H' := ah.mk H;clear H;(try go_wp2);go_roundg k1;case measure => have := A.out; omega
          case rel => exact ⟨_, EQ, H', ks A, ⟨BL⟩⟩
         ·obtain rfl := sI H;(try go_wp2);go_ret;exact ⟨EWW, BL⟩
        ·obtain rfl := sI H;(try go_wp2);go_ret;exact ⟨EWW, BL⟩
       ·obtain rfl := sI H;(try go_wp2);go_ret;exact ⟨EWW, BL⟩
      ·have xh := ah.mk H;clear H;go_upto_region 11 with (fail);(try simp only [Act.put, List.setIfInBounds_toArray, List.set_cons_zero, List.set_cons_succ])
       go_cut [60] (fun yd wc => ∃ (kq : Nat) (O : Bool), yd = .bool O ∧ ah (dn.j1 kq l0 a l0 (l0.length : Int) a O ((au l0 a).f0) ((au l0 a).f1) ((au l0 a).f2) ((au l0 a).f3) = some r) ∧ ah (kq ≤ k1) ∧ ah (wc.heap[o]? = some (.cells #[.int .i64 ((au l0 a).f0), .string ((au l0 a).f1), .int .i64 ((au l0 a).f2), .int .i64 ((au l0 a).f3)] 116 (0, 0))) ∧ ah (Below w.heap.size w wc))
       case first =>
        have H := xh.out;clear xh;obtain ⟨xv, xw, xx, xy, xz, xA, xB, xC⟩ := cz4 z.out;replace H := ifE H; rcases H with ⟨M, xD, H⟩ | ⟨yB, M, xD, H⟩
        ·(first | rw [M] | (simp only [iJ, jm]; rw [M]) | skip);replace H := be H; obtain ⟨yr, ye, H⟩ := H;replace H := ah.mk H;go_wp2_with (first | (go_at_call 121; (with_reducible refine (nK.calls ((au l0 a).f2) a _ _ ye.out).mono ?_); rintro e w' ⟨rfl, ⟨nd, rfl⟩⟩; refine dx ?_));refine Hide.mk ?_;replace H := H.out;replace H := ifB H; rcases H with ⟨rfl, H⟩ | ⟨rfl, H⟩
         ·replace H := be H; obtain ⟨ys, yf, H⟩ := H;replace H := ah.mk H;go_wp2_with (first | (go_at_call 123; (with_reducible refine (jU.calls ((au l0 a).f0) _ _ yf.out).mono ?_); rintro e w' ⟨rfl, ⟨nd, rfl⟩⟩; refine dx ?_));refine Hide.mk ?_;replace H := H.out;replace H := ifB H; rcases H with ⟨rfl, H⟩ | ⟨rfl, H⟩
          ·replace H := ifN H; obtain ⟨yg, H⟩ := H;replace H := ifN H; obtain ⟨yh, H⟩ := H;have H' := ah.mk H;clear H;have xi : 0 ≤ (((au l0 a).f2) : Int) := OD;have xj : ((au l0 a).f2) < (l0.length : Int) := OD;obtain ⟨xE, xX, m, u, x, y⟩ := kM xT.out ((au l0 a).f2) xi xj;obtain rfl : K = xE := (by injection xX);have xk : K.block ≠ o := Nat.ne_of_lt (Nat.lt_of_lt_of_le (by have := wB _ _ m; first | rwa [add_block] at this | exact this) L.out);have xl : K.block ≠ o := Nat.ne_of_lt (Nat.lt_of_lt_of_le (by have := wB _ _ m; first | rwa [add_block] at this | exact this) L.out);have xm : K.block ≠ o := Nat.ne_of_lt (Nat.lt_of_lt_of_le (by have := wB _ _ m; first | rwa [add_block] at this | exact this) L.out);have xn : K.block ≠ o := Nat.ne_of_lt (Nat.lt_of_lt_of_le (by have := wB _ _ m; first | rwa [add_block] at this | exact this) L.out);replace m := (HB.out.cell (wB w _ m)).trans m;replace u := (HB.out.cell (wB w _ u)).trans u;replace x := (HB.out.cell (wB w _ x)).trans x;replace y := (HB.out.cell (wB w _ y)).trans y;replace m := (cell_far (p := ⟨o, 0, none⟩) AB (.int .i64 ((au l0 a).f0))).trans m;replace u := (cell_far (p := ⟨o, 0, none⟩) AB (.int .i64 ((au l0 a).f0))).trans u;replace x := (cell_far (p := ⟨o, 0, none⟩) AB (.int .i64 ((au l0 a).f0))).trans x;replace y := (cell_far (p := ⟨o, 0, none⟩) AB (.int .i64 ((au l0 a).f0))).trans y;replace m := (cell_far (p := ⟨o, 1, none⟩) AB (.string ((au l0 a).f1))).trans m;replace u := (cell_far (p := ⟨o, 1, none⟩) AB (.string ((au l0 a).f1))).trans u;replace x := (cell_far (p := ⟨o, 1, none⟩) AB (.string ((au l0 a).f1))).trans x;replace y := (cell_far (p := ⟨o, 1, none⟩) AB (.string ((au l0 a).f1))).trans y;replace m := (cell_far (p := ⟨o, 2, none⟩) AB (.int .i64 ((au l0 a).f2))).trans m;replace u := (cell_far (p := ⟨o, 2, none⟩) AB (.int .i64 ((au l0 a).f2))).trans u;replace x := (cell_far (p := ⟨o, 2, none⟩) AB (.int .i64 ((au l0 a).f2))).trans x;replace y := (cell_far (p := ⟨o, 2, none⟩) AB (.int .i64 ((au l0 a).f2))).trans y;replace m := (cell_far (p := ⟨o, 3, none⟩) AB (.int .i64 ((au l0 a).f3))).trans m;replace u := (cell_far (p := ⟨o, 3, none⟩) AB (.int .i64 ((au l0 a).f3))).trans u;replace x := (cell_far (p := ⟨o, 3, none⟩) AB (.int .i64 ((au l0 a).f3))).trans x;replace y := (cell_far (p := ⟨o, 3, none⟩) AB (.int .i64 ((au l0 a).f3))).trans y;clear xk xl xm xn;replace xi := eq_true xi;replace xj := eq_true xj;go_wp2;go_meet;case rel => exact ⟨_, _, EQ, H', ⟨by have := A.out; first | omega | exact nR _⟩, ⟨by (with_reducible repeat (first | refine bf ?_ _ | refine aT ?_ | refine aV ?_ _ | apply fM)); exact z.out; all_goals rfl⟩, ⟨BL⟩⟩
          ·have H' := ah.mk H;clear H;(try go_wp2);go_meet;case rel => exact ⟨_, _, EQ, H', ⟨by have := A.out; first | omega | exact nR _⟩, ⟨by (with_reducible repeat (first | refine bf ?_ _ | refine aT ?_ | refine aV ?_ _ | apply fM)); exact z.out; all_goals rfl⟩, ⟨BL⟩⟩
         ·have H' := ah.mk H;clear H;(try go_wp2);go_meet;case rel => exact ⟨_, _, EQ, H', ⟨by have := A.out; first | omega | exact nR _⟩, ⟨by (with_reducible repeat (first | refine bf ?_ _ | refine aT ?_ | refine aV ?_ _ | apply fM)); exact z.out; all_goals rfl⟩, ⟨BL⟩⟩
        ·(first | rw [M] | (simp only [iJ, jm]; rw [M]) | skip);have H' := ah.mk H;clear H;go_wp2;go_meet;case rel => exact ⟨_, _, EQ, H', ⟨by have := A.out; first | omega | exact nR _⟩, ⟨by (with_reducible repeat (first | refine bf ?_ _ | refine aT ?_ | refine aV ?_ _ | apply fM)); exact z.out; all_goals rfl⟩, ⟨BL⟩⟩
       case rest =>
        clear xh;(try clear xo);(try clear xU);(try clear xV);(try clear c9);(try clear xp);(try clear xq);(try clear P U Y Z xa xb xc xd);(try clear D);(try clear E);(try clear G);(try clear I);(try clear xe);(try clear xf);obtain ⟨kq, O, rfl, HA, J, z, HB⟩ := hcut
        cases kq with
        | zero => exact absurd HA.out (by simp [dn.j1])
        | succ xg =>
         have H := HA.out;clear HA;simp only [dn.j1] at H;replace H := ifB H; rcases H with ⟨rfl, H⟩ | ⟨rfl, H⟩
         ·obtain rfl := sI H;go_wp2;go_ret;exact ⟨EWW, BL⟩
         ·replace H := be H; obtain ⟨yt, yi, H⟩ := H;obtain ⟨xF, xG, xH, xI, xJ, xK, xL, xM⟩ := cz4 z.out;replace H := ah.mk H;go_wp2_with (first | ((with_reducible refine aA (f := 124) rfl ?_); refine bg (some 63) Tryz.func124 #[.int .i64 ((au l0 a).f0)] ?_; (with_reducible refine (jC.calls ((au l0 a).f0) _ _ yi.out).mono ?_); rintro e w' ⟨rfl, ⟨nd, rfl⟩⟩; refine ⟨_, rfl, ?_⟩; refine dx ?_));refine Hide.mk ?_;replace H := H.out;replace H := ifB H; rcases H with ⟨rfl, H⟩ | ⟨rfl, H⟩
          ·replace H := be H; obtain ⟨yu, yj, H⟩ := H;replace H := ah.mk H;go_wp2_with (first | (go_at_call 121; (with_reducible refine (nK.calls ((au l0 a).f3) a _ _ yj.out).mono ?_); rintro e w' ⟨rfl, ⟨nd, rfl⟩⟩; refine dx ?_));refine Hide.mk ?_;replace H := H.out;replace H := ifB H; rcases H with ⟨rfl, H⟩ | ⟨rfl, H⟩
           ·replace H := be H; obtain ⟨yv, yk, H⟩ := H;replace H := ah.mk H;go_wp2_with (first | (go_at_call 124; (with_reducible refine (jC.calls ((au l0 a).f0) _ _ yk.out).mono ?_); rintro e w' ⟨rfl, ⟨nd, rfl⟩⟩; refine dx ?_));refine Hide.mk ?_;replace H := H.out;replace H := ifB H; rcases H with ⟨rfl, H⟩ | ⟨rfl, H⟩
            ·have H' := ah.mk H;clear H;(try go_wp2);go_roundg xg;case measure => have := A.out; have := J.out; omega
             case rel => exact ⟨_, EQ, H', kt A J, ⟨BL⟩⟩
            ·replace H := ifE H; rcases H with ⟨xN, xO, H⟩ | ⟨yC, xN, xO, H⟩
             ·have H' := ah.mk H;clear H;(try go_wp2);go_roundg xg;case measure => have := A.out; have := J.out; omega
              case rel => exact ⟨_, EQ, H', kt A J, ⟨BL⟩⟩
             ·obtain rfl := sI H;(try go_wp2);go_ret;exact ⟨EWW, BL⟩
           ·obtain rfl := sI H;(try go_wp2);go_ret;exact ⟨EWW, BL⟩
          ·replace H := be H; obtain ⟨yw, yl, H⟩ := H;replace H := ah.mk H;go_wp2_with (first | (go_at_call 124; (with_reducible refine (jC.calls ((au l0 a).f0) _ _ yl.out).mono ?_); rintro e w' ⟨rfl, ⟨nd, rfl⟩⟩; refine dx ?_));refine Hide.mk ?_;replace H := H.out;replace H := ifB H; rcases H with ⟨rfl, H⟩ | ⟨rfl, H⟩
           ·have H' := ah.mk H;clear H;(try go_wp2);go_roundg xg;case measure => have := A.out; have := J.out; omega
            case rel => exact ⟨_, EQ, H', kt A J, ⟨BL⟩⟩
           ·replace H := ifE H; rcases H with ⟨xP, xQ, H⟩ | ⟨yD, xP, xQ, H⟩
            ·have H' := ah.mk H;clear H;(try go_wp2);go_roundg xg;case measure => have := A.out; have := J.out; omega
             case rel => exact ⟨_, EQ, H', kt A J, ⟨BL⟩⟩
            ·obtain rfl := sI H;(try go_wp2);go_ret;exact ⟨EWW, BL⟩
     ·obtain rfl := sI H;(try go_wp2);go_ret;exact ⟨EWW, BL⟩
    ·obtain rfl := sI H;go_wp2;go_ret;exact ⟨EWW, BL⟩
 ·obtain rfl := sI H;(try go_wp2);go_ret;exact ⟨EWW, BL⟩
def lK.f (k : Nat) (Mc : Int) (l0_1 : List dU) : Option (Bool) := (dJ.f Mc 1 99).bind fun t580 => if t580 = true then (dn.f k l0_1).bind fun t581 => some t581 else some false
theorem lK.calls (k : Nat) (Mc : Int) (o : Option Addr) (u : Nat) (a : List dU) (r : Bool) (w : World) (x : Kd.C jV w o a.length a) (y : a.length ≤ u) (h : lK.f k Mc a = some r) :
  Calls Tryz.prog 60 #[.agg #[.int .i64 Mc, .slice o a.length u]] w fun e w' => e = .returned (.bool r) ∧ Below w.heap.size w w' := by
 have U := Tryz.underlying75;have z := ah.mk x;have A := ah.mk y;clear x y;have HB := ah.mk (bR w.heap.size w);unfold lK.f at h;have H := h;clear h;replace H := be H; obtain ⟨Y, A2, H⟩ := H;replace H := ah.mk H;go_enter Tryz.func60, Tryz.ntmps60;go_wp2_with (first | ((with_reducible refine aI (N := 1) rfl ?_); refine aZ (N := 1) (cs := #[.int .i64 Mc, .slice o a.length u]) (t := 75) ?_; intro L hg M hbox hb; have m := ah.mk hbox; have D := SZ (w := w) hg; have O := D; replace HB := BS (w := w) hb; clear hb hbox hg; obtain ⟨E, G, I, J⟩ := cz2 m.out) | ((with_reducible refine aA (f := 57) rfl ?_); refine bg (some 5) Tryz.func57 #[.int .i64 Mc, .int .i64 1, .int .i64 99] ?_; (with_reducible refine (dJ.calls Mc 1 99 _ _ A2.out).mono ?_); rintro e w' ⟨rfl, ⟨nd, rfl⟩⟩; refine ⟨_, rfl, ?_⟩; refine dx ?_));refine Hide.mk ?_;replace H := H.out;replace H := ifB H; rcases H with ⟨rfl, H⟩ | ⟨rfl, H⟩
 ·replace H := be H; obtain ⟨K, Z, H⟩ := H;obtain rfl := sI H;(try go_wp2_with (first | (go_at_call 92; (with_reducible refine (dn.calls k _ _ a K _ ?s1_ ?s2_ Z.out).mono ?_); (case s1_ => repeat (first | exact (Kd.eP z.out BL) | (with_reducible refine Kd.ig ?_ _) | (with_reducible refine Kd.iq ?_ _) | (with_reducible refine Kd.jh ?_))); (case s2_ => exact A.out); rintro e P ⟨rfl, hb⟩; replace m := KB m hb; replace HB := BS (w := w) hb; (try clear hb))));go_ret;exact ⟨EWW, BL⟩
 ·obtain rfl := sI H;(try go_wp2);go_ret;exact ⟨EWW, BL⟩
def jH.f (k : Nat) (Mc : Int) (l0_1 : List dU) : Option (Bool) := (lK.f k Mc l0_1).bind fun t583 => some (!t583)
theorem jH.calls (k : Nat) (Mc : Int) (o : Option Addr) (u : Nat) (a : List dU) (r : Bool) (w : World) (x : Kd.C jV w o a.length a) (y : a.length ≤ u) (h : jH.f k Mc a = some r) :
  Calls Tryz.prog 59 #[.agg #[.int .i64 Mc, .slice o a.length u]] w fun e w' => e = .returned (.bool r) ∧ Below w.heap.size w w' := by
 have O := Tryz.underlying75;have z := ah.mk x;have A := ah.mk y;clear x y;have HB := ah.mk (bR w.heap.size w);unfold jH.f at h;have H := h;clear h;replace H := be H; obtain ⟨E, A2, H⟩ := H;obtain rfl := sI H;go_enter Tryz.func59, Tryz.ntmps59;go_wp2_with (first | ((with_reducible refine aI (N := 1) rfl ?_); refine aZ (N := 1) (cs := #[.int .i64 Mc, .slice o a.length u]) (t := 75) ?_; intro L hg P hbox hb; have m := ah.mk hbox; have D := SZ (w := w) hg; have M := D; replace HB := BS (w := w) hb; clear hb hbox hg; obtain ⟨G, I, J, K⟩ := cz2 m.out) | ((with_reducible refine aA (f := 60) rfl ?_); refine bg (some 4) Tryz.func60 #[.agg #[.int .i64 Mc, .slice o a.length u]] ?_; (with_reducible refine (lK.calls k Mc _ _ a E _ ?s1_ ?s2_ A2.out).mono ?_); (case s1_ => exact CB z); (case s2_ => exact A.out); rintro e U ⟨rfl, hb⟩; refine ⟨_, rfl, ?_⟩; replace m := KB m hb; replace HB := BS (w := w) hb; (try clear hb)));go_ret;exact ⟨EWW, BL⟩
def gU.l0 : Nat → List S75 → Int → Int → Option (Int)
 | 0, _, _, _ => none
 | k + 1, a, b, c => if c < b then if 0 ≤ c then if c < (a.length : Int) then (jH.f k ((fV a c).f0) ((fV a c).f1)).bind fun d => if d = true then some c else gU.l0 k a b (wrap64 (c + 1)) else none else none else some (-1)
def gU.f (k : Nat) (l0 : List S75) (a1 : aj) : Option (Int) := gU.l0 k l0 (l0.length : Int) 0
theorem gU.calls (k : Nat) (P : Option Addr) (U : Nat) (l0 : List S75) (a1 : aj) (r : Int) (w : World) (A : Kd.C k75 w P l0.length l0) (D : l0.length ≤ U) (h : gU.f k l0 a1 = some r) :
  Calls Tryz.prog 91 #[.slice P l0.length U, .func (.func 59) #[] #[]] w fun e w' => e = .returned (.int .i64 r) ∧ Below w.heap.size w w' := by
 have Y := Tryz.underlying75;have L := ah.mk A;have xd := ah.mk D;clear A D;have HB := ah.mk (bR w.heap.size w);unfold gU.f at h;have H := h;clear h;have H' := ah.mk H;clear H;go_enter Tryz.func91, Tryz.ntmps91;go_wp2
 go_loopg [8] k (fun kq v8 w' => ∃ (a : Int), v8 = .int .i64 a ∧ ah (gU.l0 kq l0 (l0.length : Int) a = some r) ∧ ah (kq ≤ k) ∧ ah (Below w.heap.size w w'))
 case atStart => exact ⟨_, EQ, H', ⟨nR _⟩, ⟨BL⟩⟩
 case round =>
  clear H';obtain ⟨a, rfl, HA, E, HB⟩ := hrel
  cases gk with
  | zero => exact absurd HA.out (by simp [gU.l0])
  | succ k1 =>
   have H := HA.out;clear HA;simp only [gU.l0] at H;replace H := ifD H; rcases H with ⟨G, H⟩ | ⟨G, H⟩
   ·replace H := ifN H; obtain ⟨Z, H⟩ := H;replace H := ifN H; obtain ⟨xa, H⟩ := H;replace H := be H; obtain ⟨xb, A6, H⟩ := H;have u : 0 ≤ (a : Int) := OD;have x : a < (l0.length : Int) := OD;obtain ⟨M, J, K, I, m, o, hl584_1, hi584_1⟩ := uZ L.out a u x
    cases I
    (try replace m := (HB.out.cell (wB w _ m)).trans m);(try replace o := (HB.out.cell (wB w _ o)).trans o);have y := ah.mk hi584_1;have z := ah.mk hl584_1;clear hi584_1 hl584_1;replace u := eq_true u;replace x := eq_true x;replace H := ah.mk H;go_wp2_with (first | ((with_reducible refine (jH.calls k1 ((fV l0 a).f0) _ _ ((fV l0 a).f1) _ _ ?s1_ ?s2_ A6.out).mono ?_); (case s1_ => exact CB y); (case s2_ => exact z.out); rintro e O ⟨rfl, hb⟩; replace HB := BS (w := w) hb; (try clear hb); refine dx ?_));refine Hide.mk ?_;replace H := H.out;replace H := ifB H; rcases H with ⟨rfl, H⟩ | ⟨rfl, H⟩
    ·obtain rfl := sI H;(try go_wp2);go_ret;exact ⟨EWW, BL⟩
    ·have H' := ah.mk H;clear H;(try go_wp2);go_roundg k1;case measure => have := E.out; omega
     case rel => exact ⟨_, EQ, H', ks E, ⟨BL⟩⟩
   ·obtain rfl := sI H;go_wp2;go_ret;exact ⟨EWW, BL⟩
def lq.f (k : Nat) (l0 : List S75) (a1 : aj) : Option (Bool) := (gU.f k l0 a1).bind fun t586 => some (decide (t586 ≥ 0))
theorem lq.calls (k : Nat) (u : Option Addr) (x : Nat) (l0 : List S75) (A : aj) (r : Bool) (w : World) (a : Kd.C k75 w u l0.length l0) (m : l0.length ≤ x) (h : lq.f k l0 A = some r) :
  Calls Tryz.prog 58 #[.slice u l0.length x, .func (.func 59) #[] #[]] w fun e w' => e = .returned (.bool r) ∧ Below w.heap.size w w' := by
 have y := ah.mk a;have z := ah.mk m;clear a m;have HB := ah.mk (bR w.heap.size w);unfold lq.f at h;have H := h;clear h;replace H := be H; obtain ⟨o, D, H⟩ := H;obtain rfl := sI H;go_enter Tryz.func58, Tryz.ntmps58;go_wp2_with (first | ((with_reducible refine aA (f := 91) rfl ?_); refine bg (some 7) Tryz.func91 #[.slice u l0.length x, .func (.func 59) #[] #[]] ?_; (with_reducible refine (gU.calls k _ _ l0 A o _ ?s1_ ?s2_ D.out).mono ?_); (case s1_ => repeat (first | exact y.out | (with_reducible refine Kd.ig ?_ _) | (with_reducible refine Kd.iq ?_ _) | (with_reducible refine Kd.jh ?_))); (case s2_ => exact z.out); rintro e E ⟨rfl, hb⟩; refine ⟨_, rfl, ?_⟩; replace HB := BS (w := w) hb; (try clear hb)));go_ret;exact ⟨EWW, BL⟩
def jB.f (k : Nat) (Mc Md : Int) (Me : aj) (Mf : List S75) (Mg : List Int) (Mh : Int) : Option (Bool) := (dY.f k Mc Md Me).bind fun t588 => if t588 = 0 then (aX.f k Mc Md Me).bind fun t589 => if (Mf.length : Int) = (t589.length : Int) then if (Mg.length : Int) = (t589.length : Int) then (dJ.f Mh 1 9999).bind fun t592 => if t592 = true then (lq.f k Mf (⟨#[70, 73, 88]⟩ : aj)).bind fun t593 => some (!t593) else some false else some false else some false else some false
theorem jB.calls (k : Nat) (Mc Md : Int) (Me : aj) (A0_3 : Option Addr) (c0_3 : Nat) (Mf : List S75) (A0_4 : Option Addr) (c0_4 : Nat) (Mg : List Int) (Mh : Int) (r : Bool) (w : World) (hr0_3 : Kd.C k75 w A0_3 Mf.length Mf) (hc0_3 : Mf.length ≤ c0_3) (hr0_4 : Kd.C (Kd.int .i64) w A0_4 Mg.length Mg) (hc0_4 : Mg.length ≤ c0_4) (h : jB.f k Mc Md Me Mf Mg Mh = some r) :
  Calls Tryz.prog 38 #[.agg #[.int .i64 Mc, .int .i64 Md, .string Me, .slice A0_3 Mf.length c0_3, .slice A0_4 Mg.length c0_4, .int .i64 Mh]] w fun e w' => e = .returned (.bool r) ∧ Below w.heap.size w w' := by
 have xR := Tryz.underlying37;have xS := Tryz.underlying34;have x := ah.mk hr0_3;have y := ah.mk hc0_3;clear hr0_3 hc0_3;have xJ := ah.mk hr0_4;have xK := ah.mk hc0_4;clear hr0_4 hc0_4;have HB := ah.mk (bR w.heap.size w);unfold jB.f at h;have H := h;clear h;replace H := be H; obtain ⟨xw, A2, H⟩ := H;replace H := ah.mk H;go_enter Tryz.func38, Tryz.ntmps38;go_wp2_with (first | ((with_reducible refine aI (N := 1) rfl ?_); (try (refine jq (by rfl) ?_; dsimp only)); refine aZ (N := 1) (cs := #[.int .i64 Mc, .int .i64 Md, .string Me, .slice A0_3 Mf.length c0_3, .slice A0_4 Mg.length c0_4, .int .i64 Mh]) (t := 37) ?_; intro xL hg xM hbox hb; have m := ah.mk hbox; have z := SZ (w := w) hg; have xN := z; replace HB := BS (w := w) hb; clear hb hbox hg; obtain ⟨A, D, E, G, I, J, K, L, M, O, P, U⟩ := cz6 m.out) | ((with_reducible refine aA (f := 55) rfl ?_); refine bg (some 6) Tryz.func55 #[.agg #[.int .i64 Mc, .int .i64 Md, .string Me]] ?_; (with_reducible refine (dY.calls k Mc Md Me xw _ A2.out).mono ?_); rintro e xO ⟨rfl, hb⟩; refine ⟨_, rfl, ?_⟩; replace m := KB m hb; replace HB := BS (w := w) hb; (try clear hb); obtain ⟨Y, Z, xa, xb, xc, xd, xe, xf, xg, xh, xi, xj⟩ := cz6 m.out; refine dx ?_));refine Hide.mk ?_;replace H := H.out;replace H := ifE H; rcases H with ⟨xx, xy, H⟩ | ⟨c3, xx, xy, H⟩
 ·replace H := be H; obtain ⟨a, A4, H⟩ := H;replace H := ah.mk H;go_wp2_with (first | ((with_reducible refine aA (f := 56) rfl ?_); refine bg (some 10) Tryz.func56 #[.agg #[.int .i64 Mc, .int .i64 Md, .string Me]] ?_; (with_reducible refine (aX.calls k Mc Md Me a _ A4.out).mono ?_); rintro e xP ⟨xT, rfl, xz, hb⟩; refine ⟨_, rfl, ?_⟩; replace m := KB m hb; have o := ah.mk (Kd.cZ xz (aH BL)); replace HB := BS (w := w) hb; (try clear hb); (try clear xz); obtain ⟨xH, xI, u⟩ := Kd.dI o.out; subst u; obtain ⟨xk, xl, xm, xn, xo, xp, xq, xr, xs, xt, xu, xv⟩ := cz6 m.out; refine dx ?_));refine Hide.mk ?_;replace H := H.out;by_cases c5 : (Mf.length : Int) = (a.length : Int)
  ·rw [if_pos c5] at H;have xA : ((Mf.length : Int) == (a.length : Int)) = true := beq_iff_eq.mpr c5;have xB : ((Mf.length : Int) != (a.length : Int)) = false := bne_eq_false_iff_eq.mpr c5;have xC : (Mf.length == a.length) = true := by first | simpa using c5 | (simp at c5 ⊢; omega)
   clear c5;by_cases c6 : (Mg.length : Int) = (a.length : Int)
   ·rw [if_pos c6] at H;have xD : ((Mg.length : Int) == (a.length : Int)) = true := beq_iff_eq.mpr c6;have xE : ((Mg.length : Int) != (a.length : Int)) = false := bne_eq_false_iff_eq.mpr c6;have xF : (Mg.length == a.length) = true := by first | simpa using c6 | (simp at c6 ⊢; omega)
    clear c6;replace H := be H; obtain ⟨xU, A7, H⟩ := H;replace H := ah.mk H;go_wp2_with (first | (go_at_call 57; (with_reducible refine (dJ.calls Mh 1 9999 _ _ A7.out).mono ?_); rintro e w' ⟨rfl, ⟨nd, rfl⟩⟩; refine dx ?_));refine Hide.mk ?_;replace H := H.out;replace H := ifB H; rcases H with ⟨rfl, H⟩ | ⟨rfl, H⟩
    ·replace H := be H; obtain ⟨xG, A9, H⟩ := H;obtain rfl := sI H;(try go_wp2_with (first | (go_at_call 58; (with_reducible refine (lq.calls k _ _ Mf (⟨#[70, 73, 88]⟩ : aj) xG _ ?s1_ ?s2_ A9.out).mono ?_); (case s1_ => repeat (first | exact (Kd.eP x.out BL) | (with_reducible refine Kd.ig ?_ _) | (with_reducible refine Kd.iq ?_ _) | (with_reducible refine Kd.jh ?_))); (case s2_ => exact y.out); rintro e xQ ⟨rfl, hb⟩; replace o := RB o hb; replace m := KB m hb; replace HB := BS (w := w) hb; (try clear hb))));go_ret;exact ⟨EWW, BL⟩
    ·obtain rfl := sI H;(try go_wp2);go_ret;exact ⟨EWW, BL⟩
   ·rw [if_neg c6] at H;have xD : ((Mg.length : Int) == (a.length : Int)) = false := beq_eq_false_iff_ne.mpr c6;have xE : ((Mg.length : Int) != (a.length : Int)) = true := bne_iff_ne.mpr c6;have xF : (Mg.length == a.length) = false := by first | simpa using c6 | (simp at c6 ⊢; omega)
    obtain rfl := sI H;(try go_wp2);go_ret;exact ⟨EWW, BL⟩
  ·rw [if_neg c5] at H;have xA : ((Mf.length : Int) == (a.length : Int)) = false := beq_eq_false_iff_ne.mpr c5;have xB : ((Mf.length : Int) != (a.length : Int)) = true := bne_iff_ne.mpr c5;have xC : (Mf.length == a.length) = false := by first | simpa using c5 | (simp at c5 ⊢; omega)
   obtain rfl := sI H;(try go_wp2);go_ret;exact ⟨EWW, BL⟩
 ·obtain rfl := sI H;(try go_wp2);go_ret;exact ⟨EWW, BL⟩
mutual
def dG.j0 : Nat → aj → Bool → Int → Int → aj → Option (Bool)
 | 0, _, _, _, _, _ => none
 | k + 1, a, b, c, d, e => if b = true then some false else dG.l0 k a (a.size : Int) 0 c d e
def dG.l0 : Nat → aj → Int → Int → Int → Int → aj → Option (Bool)
 | 0, _, _, _, _, _, _ => none
 | k + 1, a, b, c, d, e, f => if c < b then if 0 ≤ c then if c < (f.size : Int) then if c < (a.size : Int) then if (((bt f c) == 35) != ((bt a c) == 35)) = true then some false else if (bt a c) = 35 then dG.l0 k a b (wrap64 (c + 1)) d e f else if (bt a c) = 63 then dG.l0 k a b (wrap64 (c + 1)) d e f else (fC.f (bt a c)).bind fun g => if g = true then dG.l0 k a b (wrap64 (c + 1)) d e f else some false else none else none else none else some true
end
def dG.f (k : Nat) (Mc Md : Int) (Me a1 : aj) : Option (Bool) := (bE.f k Mc Md Me).bind fun t595 => if t595 = true then dG.j0 k a1 ((a1.size : Int) != (Me.size : Int)) Mc Md Me else dG.j0 k a1 true Mc Md Me
theorem dG.calls (k : Nat) (Mc Md : Int) (Me o : aj) (r : Bool) (w : World) (h : dG.f k Mc Md Me o = some r) :
  Calls Tryz.prog 39 #[.agg #[.int .i64 Mc, .int .i64 Md, .string Me], .string o] w fun e w' => e = .returned (.bool r) ∧ Below w.heap.size w w' := by
 have xB := Tryz.underlying34;have HB := ah.mk (bR w.heap.size w);unfold dG.f at h;have H := h;clear h;have xa := ah.mk H;clear H;go_enter Tryz.func39, Tryz.ntmps39;go_upto_region 1 with (first | ((with_reducible refine aI (N := 2) rfl ?_); (try (refine jq (by rfl) ?_; dsimp only)); refine aZ (N := 2) (cs := #[.int .i64 Mc, .int .i64 Md, .string Me]) (t := 34) ?_; intro J hg w4 hbox hb; have m := ah.mk hbox; have u := SZ (w := w) hg; have Z := u; replace HB := BS (w := w) hb; clear hb hbox hg))
 repeat (go_quiet (first | ((with_reducible refine aI (N := 2) rfl ?_); (try (refine jq (by rfl) ?_; dsimp only)); refine aZ (N := 2) (cs := #[.int .i64 Mc, .int .i64 Md, .string Me]) (t := 34) ?_; intro J hg w4 hbox hb; have m := ah.mk hbox; have u := SZ (w := w) hg; have Z := u; replace HB := BS (w := w) hb; clear hb hbox hg)); go_upto_region 1 with (first | ((with_reducible refine aI (N := 2) rfl ?_); (try (refine jq (by rfl) ?_; dsimp only)); refine aZ (N := 2) (cs := #[.int .i64 Mc, .int .i64 Md, .string Me]) (t := 34) ?_; intro J hg w4 hbox hb; have m := ah.mk hbox; have u := SZ (w := w) hg; have Z := u; replace HB := BS (w := w) hb; clear hb hbox hg)))
 (try simp only [Act.put, List.setIfInBounds_toArray, List.set_cons_zero, List.set_cons_succ])
 go_cut [16] (fun xv wc => ∃ (kq : Nat) (K : Bool), xv = .bool K ∧ ah (dG.j0 kq o K Mc Md Me = some r) ∧ ah (kq ≤ k) ∧ ah (wc.heap[J]? = some (.cells #[.int .i64 Mc, .int .i64 Md, .string Me] 34 (0, 0))) ∧ ah (Below w.heap.size w wc))
 case first =>
  have H := xa.out;clear xa;replace H := be H; obtain ⟨xD, A5, H⟩ := H;obtain ⟨xb, xc, xd, xe, xf, xg⟩ := cz3 m.out;replace H := ifB H; rcases H with ⟨rfl, H⟩ | ⟨rfl, H⟩
  ·have H' := ah.mk H;clear H
   repeat (go_wp2_with (first | (go_at_call 43; (with_reducible refine (bE.calls k Mc Md Me _ _ A5.out).mono ?_); rintro e x ⟨rfl, hb⟩; replace m := KB m hb; replace HB := BS (w := w) hb; (try clear hb); obtain ⟨y, z, A, D, E, G⟩ := cz3 m.out)); go_quiet (first | (go_at_call 43; (with_reducible refine (bE.calls k Mc Md Me _ _ A5.out).mono ?_); rintro e x ⟨rfl, hb⟩; replace m := KB m hb; replace HB := BS (w := w) hb; (try clear hb); obtain ⟨y, z, A, D, E, G⟩ := cz3 m.out)))
   go_wp2_with (first | (go_at_call 43; (with_reducible refine (bE.calls k Mc Md Me _ _ A5.out).mono ?_); rintro e x ⟨rfl, hb⟩; replace m := KB m hb; replace HB := BS (w := w) hb; (try clear hb); obtain ⟨y, z, A, D, E, G⟩ := cz3 m.out));go_meet;case rel => exact ⟨_, _, EQ, H', ⟨by first | omega | exact nR _⟩, ⟨BK⟩, ⟨BL⟩⟩
  ·have H' := ah.mk H;clear H
   repeat (go_wp2_with (first | (go_at_call 43; (with_reducible refine (bE.calls k Mc Md Me _ _ A5.out).mono ?_); rintro e x ⟨rfl, hb⟩; replace m := KB m hb; replace HB := BS (w := w) hb; (try clear hb))); go_quiet (first | (go_at_call 43; (with_reducible refine (bE.calls k Mc Md Me _ _ A5.out).mono ?_); rintro e x ⟨rfl, hb⟩; replace m := KB m hb; replace HB := BS (w := w) hb; (try clear hb))))
   go_wp2_with (first | (go_at_call 43; (with_reducible refine (bE.calls k Mc Md Me _ _ A5.out).mono ?_); rintro e x ⟨rfl, hb⟩; replace m := KB m hb; replace HB := BS (w := w) hb; (try clear hb)));go_meet;case rel => exact ⟨_, _, EQ, H', ⟨by first | omega | exact nR _⟩, ⟨BK⟩, ⟨BL⟩⟩
 case rest =>
  clear xa;obtain ⟨kq, K, rfl, HA, P, m, HB⟩ := hcut
  cases kq with
  | zero => exact absurd HA.out (by simp [dG.j0])
  | succ xu =>
   have H := HA.out;clear HA;simp only [dG.j0] at H;replace H := ifB H; rcases H with ⟨rfl, H⟩ | ⟨rfl, H⟩
   ·obtain rfl := sI H;go_wp2
    repeat (go_quiet (fail); try go_wp2)
    go_ret;exact ⟨EWW, BL⟩
   ·have H' := ah.mk H;clear H;go_wp2
    repeat (go_quiet (fail); try go_wp2)
    go_loopg [19] xu (fun kq xw w' => ∃ (a : Int), xw = .int .i64 a ∧ ah (dG.l0 kq o (o.size : Int) a Mc Md Me = some r) ∧ ah (kq ≤ xu) ∧ ah (w'.heap[J]? = some (.cells #[.int .i64 Mc, .int .i64 Md, .string Me] 34 (0, 0))) ∧ ah (Below w.heap.size w w'))
    case atStart => exact ⟨_, EQ, H', ⟨nR _⟩, ⟨BK⟩, ⟨BL⟩⟩
    case round =>
     clear H';obtain ⟨a, rfl, HA, U, m, HB⟩ := hrel
     cases gk with
     | zero => exact absurd HA.out (by simp [dG.l0])
     | succ k2 =>
      have H := HA.out;clear HA;simp only [dG.l0] at H;replace H := ifD H; rcases H with ⟨xh, H⟩ | ⟨xh, H⟩
      ·replace H := ifN H; obtain ⟨xx, H⟩ := H;replace H := ifN H; obtain ⟨xy, H⟩ := H;replace H := ifN H; obtain ⟨xz, H⟩ := H;obtain ⟨xi, xj, xk, xl, xm, xn⟩ := cz3 m.out;have xG : (0 ≤ (a : Int)) = True := OT;have xH : (a < (Me.size : Int)) = True := OT;have hx16 := gN Me a;have xI : (0 ≤ (a : Int)) = True := OT;have xJ : (a < (o.size : Int)) = True := OT;have hx18 := gN o a;by_cases I : (((bt Me a) == 35) != ((bt o a) == 35)) = true
       ·rw [if_pos I] at H;have L : (((bt Me a) == 35) != ((bt o a) == 35)) = true := I;(try (have xo : decide (((bt Me a) == 35) = ((bt o a) == 35)) = false := by simpa using I));(try (have xp : (((bt Me a) == 35) == ((bt o a) == 35)) = false := by simpa using I));(try (have xA : ¬ (((bt Me a) == 35) = ((bt o a) == 35)) := by simpa using I));clear I;obtain rfl := sI H;go_wp2
        repeat (go_quiet (fail); try go_wp2)
        go_ret;exact ⟨EWW, BL⟩
       ·rw [if_neg I] at H;have L : (((bt Me a) == 35) != ((bt o a) == 35)) = false := by simpa using I
        (try (have xo : decide (((bt Me a) == 35) = ((bt o a) == 35)) = true := by simpa using I));(try (have xp : (((bt Me a) == 35) == ((bt o a) == 35)) = true := by simpa using I));clear I;have xK : (0 ≤ (a : Int)) = True := OT;have xL : (a < (o.size : Int)) = True := OT;have hx21 := gN o a;by_cases M : (bt o a) = 35
        ·rw [if_pos M] at H;have O : ((bt o a) == 35) = true := beq_iff_eq.mpr M;have cwc19_ : ((bt Me a) == 35) = true := (bne_eq_false_iff_eq.mp L).trans O;have xq : ((bt o a) != 35) = false := bne_eq_false_iff_eq.mpr M;clear M;have H' := ah.mk H;clear H;go_wp2
         repeat (go_quiet (fail); try go_wp2)
         go_roundg k2;case measure => have := P.out; have := U.out; omega
         case rel => exact ⟨_, EQ, H', ⟨by have := P.out; have := U.out; omega⟩, ⟨BK⟩, ⟨BL⟩⟩
        ·rw [if_neg M] at H;have O : ((bt o a) == 35) = false := beq_eq_false_iff_ne.mpr M;have cwc19_ : ((bt Me a) == 35) = false := (bne_eq_false_iff_eq.mp L).trans O;have xq : ((bt o a) != 35) = true := bne_iff_ne.mpr M;have xM : (0 ≤ (a : Int)) = True := OT;have xN : (a < (o.size : Int)) = True := OT;have hx24 := gN o a;replace H := ifE H; rcases H with ⟨xr, xs, H⟩ | ⟨xO, xr, xs, H⟩
         ·have H' := ah.mk H;clear H;go_wp2
          repeat (go_quiet (fail); try go_wp2)
          go_roundg k2;case measure => have := P.out; have := U.out; omega
          case rel => exact ⟨_, EQ, H', ⟨by have := P.out; have := U.out; omega⟩, ⟨BK⟩, ⟨BL⟩⟩
         ·replace H := be H; obtain ⟨xE, Y, H⟩ := H;have xP : (0 ≤ (a : Int)) = True := OT;have xQ : (a < (o.size : Int)) = True := OT;have hx27 := gN o a;replace H := ifB H; rcases H with ⟨rfl, H⟩ | ⟨rfl, H⟩
          ·have H' := ah.mk H;clear H
           repeat (go_wp2_with (first | (go_at_call 61; (with_reducible refine (fC.calls (bt o a) _ _ Y.out).mono ?_); rintro e w' ⟨rfl, ⟨nd, rfl⟩⟩; (try first | exact da | exact DD))); go_quiet (first | (go_at_call 61; (with_reducible refine (fC.calls (bt o a) _ _ Y.out).mono ?_); rintro e w' ⟨rfl, ⟨nd, rfl⟩⟩; (try first | exact da | exact DD))))
           go_wp2_with (first | (go_at_call 61; (with_reducible refine (fC.calls (bt o a) _ _ Y.out).mono ?_); rintro e w' ⟨rfl, ⟨nd, rfl⟩⟩; (try first | exact da | exact DD)));go_roundg k2;case measure => have := P.out; have := U.out; omega
           case rel => exact ⟨_, EQ, H', ⟨by have := P.out; have := U.out; omega⟩, ⟨BK⟩, ⟨BL⟩⟩
          ·obtain rfl := sI H
           repeat (go_wp2_with (first | (go_at_call 61; (with_reducible refine (fC.calls (bt o a) _ _ Y.out).mono ?_); rintro e w' ⟨rfl, ⟨nd, rfl⟩⟩; (try first | exact da | exact DD))); go_quiet (first | (go_at_call 61; (with_reducible refine (fC.calls (bt o a) _ _ Y.out).mono ?_); rintro e w' ⟨rfl, ⟨nd, rfl⟩⟩; (try first | exact da | exact DD))))
           go_wp2_with (first | (go_at_call 61; (with_reducible refine (fC.calls (bt o a) _ _ Y.out).mono ?_); rintro e w' ⟨rfl, ⟨nd, rfl⟩⟩; (try first | exact da | exact DD)));go_ret;exact ⟨EWW, BL⟩
      ·obtain rfl := sI H;go_wp2
       repeat (go_quiet (fail); try go_wp2)
       go_ret;exact ⟨EWW, BL⟩
def eG.l0 : Nat → aj → List Int → List Int → Int → Int → Option (aj)
 | 0, _, _, _, _, _ => none
 | k + 1, a, b, c, d, e => if e < d then if 0 ≤ e then if e < (c.length : Int) then if 0 ≤ (rd c e) then if (rd c e) < (a.size : Int) then if b.length < 140737488355328 then eG.l0 k a (b ++ [bt a (rd c e)]) c d (wrap64 (e + 1)) else none else none else none else none else none else some (strOfNums b)
def eG.f (k : Nat) (a0 : aj) (l1 : List Int) : Option (aj) := eG.l0 k a0 ([] : List Int) l1 (l1.length : Int) 0
theorem eG.calls (k : Nat) (A : aj) (A1 : Option Addr) (c1 : Nat) (l1 : List Int) (r : aj) (w : World) (hr1 : Kd.C (Kd.int .i64) w A1 l1.length l1) (hc1 : l1.length ≤ c1) (h : eG.f k A l1 = some r) :
  Calls Tryz.prog 66 #[.string A, .slice A1 l1.length c1] w fun e w' => e = .returned (.string r) ∧ Below w.heap.size w w' := by
 have M := ah.mk hr1;have xe := ah.mk hc1;clear hr1 hc1;have HB := ah.mk (bR w.heap.size w);unfold eG.f at h;have H := h;clear h;have H' := ah.mk H;clear H;go_enter Tryz.func66, Tryz.ntmps66;go_wp2
 go_loopg [5, 10] k (fun kq v5 O w' => ∃ (u : List Int) (a : Int), O = .int .i64 a ∧ ah (eG.l0 kq A u l1 (l1.length : Int) a = some r) ∧ ah (kq ≤ k) ∧ ah (Kd.R (Kd.int .u8) 5 w' w.heap.size (fun _ => True) v5 u) ∧ ah (Below w.heap.size w w'))
 case atStart => exact ⟨_, _, EQ, H', ⟨nR _⟩, ⟨by first | exact Kd.mK _ _ _ _ _ | exact Kd.qO _ _ _ _ _ | exact Kd.qR _ _ _ _ _ | exact Kd.qP _ _ _ _ _ | exact Kd.qQ _ _ _ _ _⟩, ⟨BL⟩⟩
 case round =>
  clear H';(try clear c1);obtain ⟨u, a, rfl, HA, G, x, HB⟩ := hrel
  cases gk with
  | zero => exact absurd HA.out (by simp [eG.l0])
  | succ k1 =>
   have H := HA.out;clear HA;simp only [eG.l0] at H;replace H := ifD H; rcases H with ⟨I, H⟩ | ⟨I, H⟩
   ·replace H := ifN H; obtain ⟨Z, H⟩ := H;replace H := ifN H; obtain ⟨xa, H⟩ := H;replace H := ifN H; obtain ⟨xb, H⟩ := H;replace H := ifN H; obtain ⟨xc, H⟩ := H;replace H := ifP H; obtain ⟨c9, H⟩ := H;have J := ah.mk c9;clear c9;obtain ⟨K, m⟩ : ∃ y_ : List Int, y_ = (u ++ [bt A (rd l1 a)]) := ⟨_, rfl⟩;replace H : (eG.l0 k1 A K l1 (l1.length : Int) (wrap64 (a + 1))) = some r := cW m H
    have D := ah.mk m;clear m;have H' := ah.mk H;clear H;have y : 0 ≤ (a : Int) := OD;have z : a < (l1.length : Int) := OD;obtain ⟨U, L, o⟩ := Kd.nI M.out a y z
    cases L
    (try replace o := (HB.out.cell (wB w _ o)).trans o);replace y := eq_true y;replace z := eq_true z;have p8 : (0 ≤ ((rd l1 a) : Int)) = True := OT;have q8 : ((rd l1 a) < (A.size : Int)) = True := OT;have hx8 := gN A (rd l1 a);go_wp2_with (first | ((with_reducible refine dR (b := .append) (xs := #[.tmp 14, .tmp 18]) rfl ?_); at_builtin; refine Kd.gY (Kd.int .u8) (w0 := w) w.heap.size rfl (.tmp 14) (.tmp 18) 123 5 (.int .u8 0) 1 rfl Tryz.underlying123 info5 rfl (by decide) (by omega) u5 u (bt A (rd l1 a)) [.int .u8 (bt A (rd l1 a))] (fun _ => True) (fun _ => False) rfl rfl ?aP (fun _ hk => hk.elim) ?aF ?aO ?aB ?aS ?aL ?_; (case aP => exact rfl); (case aB => exact BL); (case aF => exact (fun _ _ => trivial)); (case aO => exact (RR x)); (case aS => exact (aH BL)); (case aL => have := J.out; omega); intro xd Y ho hb hg hat; rw [← D.out] at ho; replace HB := ah.mk (hb); have E := ah.mk (ho); clear x; clear ho hb hg hat));go_roundg k1;case measure => have := G.out; omega
    case rel => exact ⟨_, _, EQ, H', ks G, ⟨(RR E)⟩, ⟨BL⟩⟩
   ·obtain rfl := sI H;have hcv11 := Fy (P := Tryz.prog) Tryz.underlying123 Tryz.underlying5 Tryz.underlying9 (Kd.uK x.out);go_wp2;go_ret;exact ⟨EWW, BL⟩
def fP.l0 : Nat → aj → List aj → List (List Int) → Int → Int → Option (List aj)
 | 0, _, _, _, _, _ => none
 | k + 1, a, b, c, d, e => if e < d then if 0 ≤ e then if e < (c.length : Int) then (eG.f k a (jL c e)).bind fun f => if b.length < 8796093022208 then fP.l0 k a (b ++ [f]) c d (wrap64 (e + 1)) else none else none else none else some b
def fP.f (k : Nat) (Mc Md : Int) (Me a1 : aj) : Option (List aj) := (dG.f k Mc Md Me a1).bind fun t602 => if t602 = true then (fA.f k Mc Md Me).bind fun t603 => fP.l0 k a1 ([] : List aj) t603 (t603.length : Int) 0 else some ([] : List aj)
theorem fP.calls (k : Nat) (Mc Md : Int) (Me a1 : aj) (r : List aj) (w : World) (h : fP.f k Mc Md Me a1 = some r) :
  Calls Tryz.prog 63 #[.agg #[.int .i64 Mc, .int .i64 Md, .string Me], .string a1] w fun e w' => ∃ v0_ : Value, e = .returned (v0_) ∧ Kd.R Kd.string 9 w' w.heap.size (fun _ => True) v0_ r ∧ Below w.heap.size w w' := by
 have xJ := Tryz.underlying34;have HB := ah.mk (bR w.heap.size w);unfold fP.f at h;have H := h;clear h;replace H := be H; obtain ⟨xK, A3, H⟩ := H;replace H := ah.mk H;go_enter Tryz.func63, Tryz.ntmps63;go_wp2_with (first | ((with_reducible refine aI (N := 2) rfl ?_); refine aZ (N := 2) (cs := #[.int .i64 Mc, .int .i64 Md, .string Me]) (t := 34) ?_; intro xd hg xy hbox hb; have a := ah.mk hbox; have xn := SZ (w := w) hg; have xz := xn; replace HB := BS (w := w) hb; clear hb hbox hg; obtain ⟨E, G, I, J, K, L⟩ := cz3 a.out) | ((with_reducible refine aA (f := 39) rfl ?_); refine bg (some 10) Tryz.func39 #[.agg #[.int .i64 Mc, .int .i64 Md, .string Me], .string a1] ?_; (with_reducible refine (dG.calls k Mc Md Me a1 _ _ A3.out).mono ?_); rintro e xA ⟨rfl, hb⟩; refine ⟨_, rfl, ?_⟩; replace a := KB a hb; replace HB := BS (w := w) hb; (try clear hb); obtain ⟨M, O, P, U, Y, Z⟩ := cz3 a.out; refine dx ?_));refine Hide.mk ?_;replace H := H.out;replace H := ifB H; rcases H with ⟨rfl, H⟩ | ⟨rfl, H⟩
 ·replace H := be H; obtain ⟨u, A5, H⟩ := H;have H' := ah.mk H;clear H;try go_wp2_with (first | ((with_reducible refine aA (f := 40) rfl ?_); refine bg (some 13) Tryz.func40 #[.agg #[.int .i64 Mc, .int .i64 Md, .string Me]] ?_; (with_reducible refine (fA.calls k Mc Md Me u _ A5.out).mono ?_); rintro e xB ⟨xL, rfl, xt, hb⟩; refine ⟨_, rfl, ?_⟩; replace a := KB a hb; have xe := ah.mk (Kd.mh xt (aH BL)); replace HB := BS (w := w) hb; (try clear hb); (try clear xt); obtain ⟨xh, xi, xj⟩ := Kd.mQ xe.out; subst xj))
  go_loopg [5, 15] k (fun kq v5 xC w' => ∃ (D : List aj) (m : Int), xC = .int .i64 m ∧ ah (fP.l0 kq a1 D u (u.length : Int) m = some r) ∧ ah (kq ≤ k) ∧ ah (Kd.R Kd.string 9 w' w.heap.size (fun _ => True) v5 D) ∧ ah (Kd.S (Kd.slice 3 (Kd.int .i64)) 25 w' w.heap.size (fun _ => True) (.slice xh u.length xi) u) ∧ ah (w'.heap[xd]? = some (.cells #[.int .i64 Mc, .int .i64 Md, .string Me] 34 (0, 0))) ∧ ah (Below w.heap.size w w'))
  case atStart => exact ⟨_, _, EQ, H', ⟨nR _⟩, ⟨by first | exact Kd.mK _ _ _ _ _ | exact Kd.qO _ _ _ _ _ | exact Kd.qR _ _ _ _ _ | exact Kd.qP _ _ _ _ _ | exact Kd.qQ _ _ _ _ _⟩, ⟨(SR xe)⟩, ⟨BK⟩, ⟨BL⟩⟩
  case round =>
   clear H';(try clear E G I);(try clear M O P);(try clear J K L);(try clear U Y Z);obtain ⟨D, m, rfl, HA, xu, z, x, a, HB⟩ := hrel
   cases gk with
   | zero => exact absurd HA.out (by simp [fP.l0])
   | succ k1 =>
    have H := HA.out;clear HA;simp only [fP.l0] at H;replace H := ifD H; rcases H with ⟨xo, H⟩ | ⟨xo, H⟩
    ·replace H := ifN H; obtain ⟨xD, H⟩ := H;replace H := ifN H; obtain ⟨xE, H⟩ := H;replace H := be H; obtain ⟨xa, xF, H⟩ := H;replace H := ifP H; obtain ⟨xv, H⟩ := H;have xp := ah.mk xv;clear xv;obtain ⟨xw, A⟩ : ∃ y_ : List aj, y_ = (D ++ [xa]) := ⟨_, rfl⟩;replace H : (fP.l0 k1 a1 xw u (u.length : Int) (wrap64 (m + 1))) = some r := cW A H
     have xq := ah.mk A;clear A;have H' := ah.mk H;clear H;have xb : 0 ≤ (m : Int) := OD;have xc : m < (u.length : Int) := OD;obtain ⟨xG, xk, xl, xx, xf, hl606_0, hi606_0⟩ := Fe (Kd.iY x.out).2.2 m xb xc
     cases xx
     obtain ⟨ce606, hce606, hMe606, hcc606⟩ := Kd.FY x.out [] m xb (by first | exact xc | exact OD | (have e_ := (Kd.iY x.out).1; omega));obtain ⟨ve606_0, rfl, ge606_0⟩ := hMe606;have hv606_0 := hcc606 0 _ rfl;rw [Nat.add_zero, show ((Kd.slice 3 (Kd.int .i64))).sz = 1 from rfl, Nat.mul_one] at hv606_0;replace hv606_0 := sI (hv606_0.symm.trans xf);rw [hv606_0] at ge606_0;have HL606_0 := ah.mk (show Kd.R (Kd.int .i64) 3 _ _ _ _ (jL u m) from ge606_0);clear hv606_0 ge606_0;clear hcc606 hce606;have y := ah.mk hi606_0;have xg := ah.mk hl606_0;clear hi606_0 hl606_0;replace xb := eq_true xb;replace xc := eq_true xc;go_wp2_with (first | ((with_reducible refine aA (f := 66) rfl ?_); refine bg (some 22) Tryz.func66 #[.string a1, .slice xk (jL u m).length xl] ?_; (with_reducible refine (eG.calls k1 a1 _ _ (jL u m) xa _ ?s1_ ?s2_ xF.out).mono ?_); (case s1_ => repeat (first | exact (by repeat (first | (with_reducible exact y.out) | (with_reducible refine Kd.ig ?_ _) | (with_reducible refine Kd.iq ?_ _) | (with_reducible refine Kd.jh ?_) | exact y.out)) | (with_reducible refine Kd.ig ?_ _) | (with_reducible refine Kd.iq ?_ _) | (with_reducible refine Kd.jh ?_))); (case s2_ => exact xg.out); rintro e xH ⟨rfl, hb⟩; refine ⟨_, rfl, ?_⟩; replace z := RB z hb; replace x := ah.mk (Kd.gT (SR x) hb); replace HL606_0 := ah.mk (Kd.jE (by (with_reducible repeat (first | apply Kd.dW | apply Kd.dX | apply Kd.dM)); exact HL606_0.out) hb); replace y := ah.mk (Kd.eP (by repeat (first | (with_reducible exact y.out) | (with_reducible refine Kd.ig ?_ _) | (with_reducible refine Kd.iq ?_ _) | (with_reducible refine Kd.jh ?_) | exact y.out)) hb); replace a := KB a hb; replace HB := BS (w := w) hb; (try clear hb)) | ((with_reducible refine dR (b := .append) (xs := #[.tmp 19, .tmp 23]) rfl ?_); at_builtin; refine Kd.gY Kd.string (w0 := w) w.heap.size rfl (.tmp 19) (.tmp 23) 29 9 (.string ⟨#[]⟩) 16 rfl Tryz.underlying29 wL rfl (by decide) (by omega) u5 D xa [.string xa] (fun _ => True) (fun _ => False) rfl rfl ?aP (fun _ hk => hk.elim) ?aF ?aO ?aB ?aS ?aL ?_; (case aP => exact rfl); (case aB => exact BL); (case aF => exact (fun _ _ => trivial)); (case aO => exact (RR z)); (case aS => exact (aH BL)); (case aL => have := xp.out; omega); intro xM xI ho hb hg hat; rw [← xq.out] at ho; replace x := ah.mk (Kd.JD (SR x) (Kd.nZ (RR z)) (by decide) hg); replace HL606_0 := ah.mk (Kd.nH (by (with_reducible repeat (first | apply Kd.dW | apply Kd.dX | apply Kd.dM)); exact HL606_0.out) (Kd.nZ (RR z)) (by decide) hg); replace a := ah.mk (dZ (g := xd) (o := .cells #[.int .i64 Mc, .int .i64 Md, .string Me] 34 (0, 0)) BK hg (Kd.lI z.out a.out (by decide))); replace HB := ah.mk (hb); have xr := ah.mk (ho); clear z; clear ho hb hg hat));go_roundg k1;case measure => have := xu.out; omega
     case rel => exact ⟨_, _, EQ, H', ks xu, ⟨(RR xr)⟩, ⟨by (with_reducible repeat (first | apply Kd.iH | apply Kd.iR | apply Kd.jl)); exact x.out⟩, ⟨BK⟩, ⟨BL⟩⟩
    ·obtain rfl := sI H;go_wp2;go_ret;exact ⟨_, EWW, (RR z), BL⟩
 ·obtain rfl := sI H;(try go_wp2);go_ret;exact ⟨_, EWW, by first | exact Kd.mK _ _ _ _ _ | exact Kd.qO _ _ _ _ _ | exact Kd.qR _ _ _ _ _ | exact Kd.qP _ _ _ _ _ | exact Kd.qQ _ _ _ _ _, BL⟩
def dh.l0 : Nat → aj → Int → Int → Option (Bool)
 | 0, _, _, _ => none
 | k + 1, a, b, c => if c < b then if 0 ≤ c then if c < (a.size : Int) then if (bt a c) = 63 then dh.l0 k a b (wrap64 (c + 1)) else (fC.f (bt a c)).bind fun d => if d = true then dh.l0 k a b (wrap64 (c + 1)) else some false else none else none else some true
def dh.f (k : Nat) (a0 : aj) : Option (Bool) := (dJ.f (a0.size : Int) 1 8).bind fun t611 => if t611 = true then dh.l0 k a0 (a0.size : Int) 0 else some false
theorem dh.calls (k : Nat) (m : aj) (r : Bool) (w : World) (h : dh.f k m = some r) :
  Calls Tryz.prog 100 #[.string m] w fun e w' => e = .returned (.bool r) ∧ dQ w w' := by
 unfold dh.f at h;have H := h;clear h;replace H := be H; obtain ⟨D, A2, H⟩ := H;replace H := ah.mk H;go_enter Tryz.func100, Tryz.ntmps100;go_wp2_with (first | ((with_reducible refine aA (f := 57) rfl ?_); refine bg (some 6) Tryz.func57 #[.int .i64 (m.size : Int), .int .i64 1, .int .i64 8] ?_; (with_reducible refine (dJ.calls (m.size : Int) 1 8 _ _ A2.out).mono ?_); rintro e w' ⟨rfl, ⟨nd, rfl⟩⟩; refine ⟨_, rfl, ?_⟩; refine dx ?_));refine Hide.mk ?_;replace H := H.out;replace H := ifB H; rcases H with ⟨rfl, H⟩ | ⟨rfl, H⟩
 ·have H' := ah.mk H;clear H;try go_wp2
  go_loopg [10] k (fun kq z w' => ∃ (a : Int), z = .int .i64 a ∧ ah (dh.l0 kq m (m.size : Int) a = some r) ∧ ah (kq ≤ k) ∧ dQ w w')
  case atStart => exact ⟨_, EQ, H', ⟨nR _⟩, DR⟩
  case round =>
   clear H';obtain ⟨a, rfl, HA, o, ⟨m1, rfl⟩⟩ := hrel
   cases gk with
   | zero => exact absurd HA.out (by simp [dh.l0])
   | succ k1 =>
    have H := HA.out;clear HA;simp only [dh.l0] at H;replace H := ifD H; rcases H with ⟨u, H⟩ | ⟨u, H⟩
    ·replace H := ifN H; obtain ⟨E, H⟩ := H;replace H := ifN H; obtain ⟨G, H⟩ := H;have J : (0 ≤ (a : Int)) = True := OT;have K : (a < (m.size : Int)) = True := OT;have hx7 := gN m a;replace H := ifE H; rcases H with ⟨x, y, H⟩ | ⟨c8, x, y, H⟩
     ·have H' := ah.mk H;clear H;go_wp2;go_roundg k1;case measure => have := o.out; omega
      case rel => exact ⟨_, EQ, H', ks o, DR⟩
     ·replace H := be H; obtain ⟨I, A, H⟩ := H;have L : (0 ≤ (a : Int)) = True := OT;have M : (a < (m.size : Int)) = True := OT;have hx9 := gN m a;replace H := ah.mk H;go_wp2_with (first | (go_at_call 61; (with_reducible refine (fC.calls (bt m a) _ _ A.out).mono ?_); rintro e w' ⟨rfl, ⟨nd, rfl⟩⟩; refine dx ?_));refine Hide.mk ?_;replace H := H.out;replace H := ifB H; rcases H with ⟨rfl, H⟩ | ⟨rfl, H⟩
      ·have H' := ah.mk H;clear H;(try go_wp2);go_roundg k1;case measure => have := o.out; omega
       case rel => exact ⟨_, EQ, H', ks o, DR⟩
      ·obtain rfl := sI H;(try go_wp2);go_ret;exact ⟨EQ, DR⟩
    ·obtain rfl := sI H;go_wp2;go_ret;exact ⟨EQ, DR⟩
 ·obtain rfl := sI H;(try go_wp2);go_ret;exact ⟨EQ, DR⟩
theorem LC (d : Nat) (w : World) (x0 a : aj) (x1 e : Int) :
  (Op.equalIn (d + 2) 57 (.agg #[.string x0, .int .i64 x1]) (.agg #[.string a, .int .i64 e])).run Tryz.prog w = .ok (x0.toList == a.toList && (x1 == e)) w := by
 refine Fp Tryz.underlying57 (by kernel_rfl) ?_;refine qp (by rfl) (by go_simp; rfl) (by go_simp; rfl) (by go_simp) ?_;exact AP (by rfl) (by go_simp; rfl) (by go_simp; rfl) (by go_simp)
end Go.Proofs.YtdbefmkcondbgaaGreatDoor.PFnExactHasOneSolution
