/- Walks of functions: what each computes. -/
import Derived.Test.YtdbefmkcondbgaaGreatDoorZHaOnSoG0
import Derived.Test.YtdbefmkcondbgaaGreatDoorZHaOnSoG1
import Derived.Test.YtdbefmkcondbgaaGreatDoorZHaOnSoG2
namespace Go.Proofs.YtdbefmkcondbgaaGreatDoor.PFnExactHasOneSolution
open Go.RowKit Go.Proofs.Yw.PrintWords Go.Proofs.Yw.PrintLast Go.Proofs.Yw.PrintMore Go.Proofs.YtdbefmkcondbgaaGreatDoor.Sq
attribute [local go_sem] kT kV mF mG jO jP kU kW
set_option maxHeartbeats 8000000
set_option maxRecDepth 100000
set_option linter.unusedVariables false
set_option linter.unusedSimpArgs false
mutual
def bC.j0 : Nat → aj → Int → List S98 → Bool → Int → Int → aj → Option (aj)
 | 0, _, _, _, _, _, _, _ => none
 | k + 1, a, b, c, d, e, f, g => if d = true then some (⟨#[]⟩ : aj) else if 0 ≤ b then if b < (c.length : Int) then (bP.f k e f g ((aU c b).f0) ((aU c b).f1) ((aU c b).f2) ((aU c b).f3)).bind fun h => bC.l0 k a (⟨#[]⟩ : aj) h 0 else none else none
def bC.l0 : Nat → aj → aj → List Int → Int → Option (aj)
 | 0, _, _, _, _ => none
 | k + 1, a, b, c, d => if d < (c.length : Int) then (if 0 ≤ d then (if 0 ≤ (rd c d) then (if (rd c d) ≤ (wrap64 ((rd c d) + 1)) then (if (wrap64 ((rd c d) + 1)) ≤ (a.size : Int) then (if b.size + (a.extract ((rd c d) : Int).toNat ((wrap64 ((rd c d) + 1)) : Int).toNat).size ≤ 9223372036854775807 then (bC.l0 k a (b ++ (a.extract ((rd c d) : Int).toNat ((wrap64 ((rd c d) + 1)) : Int).toNat)) c (wrap64 (d + 1))) else none) else none) else none) else none) else none) else some b
end
def bC.f (k : Nat) (Mc Md : Int) (Me a1 : aj) (a2 : Int) : Option (aj) := (aN.f k Mc Md Me).bind fun t297 => (bU.f k Mc Md Me a1).bind fun t300 => if t300 = true then (bF.f a2 0 (wrap64 ((t297.length : Int) - 1))).bind fun t301 => bC.j0 k a1 a2 t297 (!t301) Mc Md Me else bC.j0 k a1 a2 t297 true Mc Md Me
def bC.T9 : Bool × List (List Nat × List Nat) := (true, [([], []), ([], []), ([], []), ([], []), ([2, 3], [2, 3]), ([4], [4]), ([], []), ([], []), ([6, 7], [6, 7]), ([8], [8]), ([9], [9]), ([1, 5, 10], [1, 5, 10]), ([0, 11], [0, 11]), ([12, 0, 1, 2, 3, 4, 5, 6, 7, 8, 9, 10, 11, 12], [0, 12])])
def bC.B9 : List Nat := [0, 0, 0, 0, 12, 28, 0, 0, 192, 448, 960, 2046, 4095, 8191]
theorem bC.LZ : kX .any (opsOf Tryz.f53 9) = bC.T9 := by kernel_rfl
theorem bC.LB : jg bC.T9.2 bC.B9 = true := by kernel_rfl
theorem bC.calls (k : Nat) (Mc Md : Int) (Me a1 : aj) (y : Int) (r : aj) (w : World) (h : bC.f k Mc Md Me a1 y = some r) :
  Calls Tryz.prog 53 #[.agg #[.int .i64 Mc, .int .i64 Md, .string Me], .string a1, .int .i64 y] w fun e w' => e = .returned (.string r) ∧ Below w.heap.size w w' := by
 have yt := Tryz.underlying34;have yu := Tryz.underlying98;have HB := ah.mk (bR w.heap.size w);unfold bC.f at h;have H := h;clear h;replace H := be H; obtain ⟨u, A4, H⟩ := H;have xr := ah.mk H;clear H;go_enter Tryz.func53, Tryz.ntmps53;go_upto_region 2 with (first | ((with_reducible refine aI (N := 3) rfl ?_); (try (refine jq (by rfl) ?_; dsimp only)); refine aZ (N := 3) (cs := #[.int .i64 Mc, .int .i64 Md, .string Me]) (t := 34) ?_; intro z hg w6 hbox hb; have m := ah.mk hbox; have xs := SZ (w := w) hg; have yb := xs; replace HB := BS (w := w) hb; clear hb hbox hg; obtain ⟨Z, xa, xb, xc, xd, xe⟩ := cz3 m.out) | ((with_reducible refine aA (f := 48) rfl ?_); refine bg (some 12) Tryz.func48 #[.agg #[.int .i64 Mc, .int .i64 Md, .string Me]] ?_; (with_reducible refine (aN.calls k Mc Md Me u _ A4.out).mono ?_); rintro e w8 ⟨xH, rfl, xj, hb⟩; refine ⟨_, rfl, ?_⟩; replace m := KB m hb; have A := ah.mk (Kd.cZ xj (aH BL)); replace HB := BS (w := w) hb; (try clear hb); (try clear xj)));(try simp only [Act.put, List.setIfInBounds_toArray, List.set_cons_zero, List.set_cons_succ])
 go_cut [24] (fun yc wc => ∃ (kq : Nat) (U : Bool), yc = .bool U ∧ ah (bC.j0 kq a1 y u U Mc Md Me = some r) ∧ ah (kq ≤ k) ∧ ah (Kd.R k98 98 wc w.heap.size (fun _ => True) xH u) ∧ ah (wc.heap[z]? = some (.cells #[.int .i64 Mc, .int .i64 Md, .string Me] 34 (0, 0))) ∧ ah (Below w.heap.size w wc))
 case first =>
  have H := xr.out;clear xr;replace H := be H; obtain ⟨yv, A9, H⟩ := H;obtain ⟨xt, xu, xv, xw, xx, xy⟩ := cz3 m.out;replace H := ah.mk H;go_wp2_with (first | ((with_reducible refine aA (f := 33) rfl ?_); refine bg (some 15) Tryz.func33 #[.agg #[.int .i64 Mc, .int .i64 Md, .string Me], .string a1] ?_; (with_reducible refine (bU.calls k Mc Md Me a1 _ _ A9.out).mono ?_); rintro e yd ⟨rfl, hb⟩; refine ⟨_, rfl, ?_⟩; replace A := RB A hb; replace m := KB m hb; replace HB := BS (w := w) hb; (try clear hb); refine dx ?_));refine Hide.mk ?_;replace H := H.out;replace H := ifB H; rcases H with ⟨rfl, H⟩ | ⟨rfl, H⟩
  ·replace H := be H; obtain ⟨xI, ye, H⟩ := H;have H' := ah.mk H;clear H;obtain ⟨xV, xW, xp⟩ := Kd.dI A.out;subst xp;go_wp2_with (first | (go_at_call 50; (with_reducible refine (bF.calls y 0 (wrap64 ((u.length : Int) - 1)) xI _ ye.out).mono ?_); rintro e w' ⟨rfl, ⟨nd, rfl⟩⟩));go_meet;case rel => exact ⟨_, _, EQ, H', ⟨by first | omega | exact nR _⟩, ⟨(RR A)⟩, ⟨BK⟩, ⟨BL⟩⟩
  ·have H' := ah.mk H;clear H;(try go_wp2);go_meet;case rel => exact ⟨_, _, EQ, H', ⟨by first | omega | exact nR _⟩, ⟨(RR A)⟩, ⟨BK⟩, ⟨BL⟩⟩
 case rest =>
  clear xr;(try clear Z xa xb xc xd xe);obtain ⟨kq, U, rfl, HA, xJ, D, m, HB⟩ := hcut
  cases kq with
  | zero => exact absurd HA.out (by simp [bC.j0])
  | succ xz =>
   have H := HA.out;clear HA;simp only [bC.j0] at H;replace H := ifB H; rcases H with ⟨rfl, H⟩ | ⟨rfl, H⟩
   ·obtain rfl := sI H;go_wp2;go_ret;exact ⟨EWW, BL⟩
   ·replace H := ifN H; obtain ⟨xA, H⟩ := H;replace H := ifN H; obtain ⟨xB, H⟩ := H;replace H := be H; obtain ⟨o, yf, H⟩ := H;have H' := ah.mk H;clear H;(try go_wp2);replace D := ah.mk (Kd.dM D.out);replace m := ah.mk (aT m.out);replace HB := ah.mk (cK HB.out);obtain ⟨xX, xY, xf⟩ := Kd.dI D.out;(first | subst xf | (injection xf with f1_ f2_ f3_; have f4_ := f1_.symm; have f5_ := f3_.symm; clear f1_ f2_ f3_; subst f4_; subst f5_));have xg : 0 ≤ (y : Int) := OD;have xh : y < (u.length : Int) := OD;obtain ⟨x, xK, E, G, I, J⟩ := qh (Kd.bY D.out).2.2 y xg xh
    cases xK
    replace xg := eq_true xg;replace xh := eq_true xh;refine jA (n := 7) (S := fun w' => w'.cell? ⟨z, 0, none⟩ = some (.int .i64 Mc) ∧ w'.cell? ⟨z, 1, none⟩ = some (.int .i64 Md) ∧ w'.cell? ⟨z, 2, none⟩ = some (.string Me) ∧ w'.cell? (x.add ((y).toNat * 4)) = some (.int .i64 ((aU u y).f0)) ∧ w'.cell? ⟨(x.add ((y).toNat * 4)).block, (x.add ((y).toNat * 4)).off + 1, none⟩ = some (.bool ((aU u y).f1)) ∧ w'.cell? ⟨(x.add ((y).toNat * 4)).block, (x.add ((y).toNat * 4)).off + 2, none⟩ = some (.int .i64 ((aU u y).f2)) ∧ w'.cell? ⟨(x.add ((y).toNat * 4)).block, (x.add ((y).toNat * 4)).off + 3, none⟩ = some (.int .i64 ((aU u y).f3))) (ds := []) #[F,F,F,F,F,F,F] (by kernel_rfl) rfl rfl ⟨(ak m.out 0).trans rfl, (ak m.out 1).trans rfl, (ak m.out 2).trans rfl, E, G, I, J⟩ (fun hHeld => ?_);generalize wc.drew = yg at D m HB E G I J hHeld ⊢;refine puS (i := 1) (N := some 26) #[F,T,F,F,F,F,F] (by kernel_rfl) ?_;refine puS (i := 2) (N := some 27) #[F,T,T,F,F,F,F] (by kernel_rfl) ?_;refine puS (i := 3) (N := some 28) #[F,T,T,T,F,F,F] (by kernel_rfl) ?_;refine taS (i := 0) (N := some 25) #[T,T,T,T,F,F,F] (by kernel_rfl) hHeld ?_;refine taS (i := 4) (N := some 29) #[T,T,T,T,T,F,F] (by kernel_rfl) hHeld ?_;refine ko (i := 5) (N := some 30) #[T,T,T,T,T,T,F] rfl rfl (by kernel_rfl) (by decide) (fun K hK => ?_);refine iX Tryz.func81 #[.agg #[.int .i64 Mc, .int .i64 Md, .string Me], .agg #[.int .i64 ((aU u y).f0), .bool ((aU u y).f1), .int .i64 ((aU u y).f2), .int .i64 ((aU u y).f3)]] ?_;(with_reducible refine (bP.calls xz Mc Md Me ((aU u y).f0) ((aU u y).f1) ((aU u y).f2) ((aU u y).f3) o _ yf.out).mono ?_);rintro e yh ⟨xL, rfl, xj, hb⟩;have xM := (hb.cell (wB _ _ (hHeld.2.2.2.1))).trans (hHeld.2.2.2.1);have xN := (hb.cell (wB _ _ (hHeld.2.2.2.2.1))).trans (hHeld.2.2.2.2.1);have xO := (hb.cell (wB _ _ (hHeld.2.2.2.2.2.1))).trans (hHeld.2.2.2.2.2.1);have xP := (hb.cell (wB _ _ (hHeld.2.2.2.2.2.2))).trans (hHeld.2.2.2.2.2.2);refine ⟨_, rfl, ?_⟩;replace D := RB D hb;have xC := ah.mk (Kd.cZ xj (aH BL));replace m := KB m hb;replace HB := BS (w := w) hb;(try clear hb);(try clear xj);refine hK.out _ _ ⟨(ak m.out 0).trans rfl, (ak m.out 1).trans rfl, (ak m.out 2).trans rfl, xM, xN, xO, xP⟩ (fun hHeld => ?_);clear hK K;refine nrm (some 30) ?_;refine puS (i := 6) (N := some 9) #[T,T,T,T,T,T,T] (by kernel_rfl) ?_;refine iO (by kernel_rfl) ?_;try go_wp2
    go_loopg [8, 10] xz (fun kq v8 yi w' => ∃ (L : aj) (a : Int), v8 = .string L ∧ yi = .int .i64 a ∧ ah (bC.l0 kq a1 L o a = some r) ∧ ah (kq ≤ xz) ∧ ah (Kd.R (Kd.int .i64) 3 w' w.heap.size (fun _ => True) xL o) ∧ ah (w'.heap[z]? = some (.cells #[.int .i64 Mc, .int .i64 Md, .string Me] 34 (0, 0))) ∧ ah (Below w.heap.size w w'))
    case atStart => exact ⟨_, _, EQ, EQ, H', ⟨nR _⟩, ⟨(RR xC)⟩, ⟨BK⟩, ⟨BL⟩⟩
    case round =>
     clear H';(try clear xA);(try clear xB);(try clear Z xa xb xc xd xe);(try clear E);(try clear G);(try clear I);(try clear J);(try clear xg);(try clear xh);obtain ⟨L, a, rfl, rfl, HA, xQ, M, m, HB⟩ := hrel
     cases gk with
     | zero => exact absurd HA.out (by simp [bC.l0])
     | succ k2 =>
      have H := HA.out;clear HA;simp only [bC.l0] at H;obtain ⟨xZ, ya, xq⟩ := Kd.dI M.out;subst xq;replace H := ifD H; rcases H with ⟨xD, H⟩ | ⟨xD, H⟩
      ·replace H := ifN H; obtain ⟨yj, H⟩ := H;replace H := ifP H; obtain ⟨xE, H⟩ := H;have yk := eq_true xE;have yl : decide (0 ≤ (rd o a)) = true := dT xE;clear xE;replace H := ifP H; obtain ⟨xR, H⟩ := H;have ym := eq_true xR;have yn : decide ((rd o a) ≤ (wrap64 ((rd o a) + 1))) = true := dT xR;replace H := ifP H; obtain ⟨xS, H⟩ := H;have yo := eq_true xS;have yp : decide ((wrap64 ((rd o a) + 1)) ≤ (a1.size : Int)) = true := dT xS;by_cases xk : L.size + (a1.extract ((rd o a) : Int).toNat ((wrap64 ((rd o a) + 1)) : Int).toNat).size ≤ 9223372036854775807
       ·rw [if_pos xk] at H;have yq := eq_true xk;have yr : decide (L.size + (a1.extract ((rd o a) : Int).toNat ((wrap64 ((rd o a) + 1)) : Int).toNat).size ≤ 9223372036854775807) = true := dT xk;try have xF : (9223372036854775807 < L.size + (a1.extract ((rd o a) : Int).toNat ((wrap64 ((rd o a) + 1)) : Int).toNat).size) = False := eq_false (Nat.not_lt.2 xk)
        have c29b3c : (9223372036854775807 < L.size + (((wrap64 ((rd o a) + 1))).toNat - ((rd o a)).toNat)) = False := by
         have hy_ : (wrap64 ((rd o a) + 1)) ≤ (a1.size : Int) := OD;have hs_ : (a1.extract ((rd o a) : Int).toNat ((wrap64 ((rd o a) + 1)) : Int).toNat).size = ((wrap64 ((rd o a) + 1))).toNat - ((rd o a)).toNat := by rw [ByteArray.size_extract]; omega
         rw [← hs_]; exact xF
        have H' := ah.mk H;clear H;(try go_wp2);replace M := ah.mk (Kd.dM M.out);replace m := ah.mk (aT m.out);replace HB := ah.mk (cK HB.out);have xl : 0 ≤ (a : Int) := OD;have xm : a < (o.length : Int) := OD;obtain ⟨Y, xT, O⟩ := Kd.nI (Kd.bY M.out).2.2 a xl xm
        cases xT
        replace xl := eq_true xl;replace xm := eq_true xm;have xn : 0 ≤ (a : Int) := OD;have xo : a < (o.length : Int) := OD;obtain ⟨xG, xU, P⟩ := Kd.nI (Kd.bY M.out).2.2 a xn xo;obtain rfl : Y = xG := (by injection xU);replace xn := eq_true xn;replace xo := eq_true xo;refine jA (n := 14) (S := fun w' => w'.cell? (Y.add (a).toNat) = some (.int .i64 (rd o a)) ∧ w'.cell? (Y.add (a).toNat) = some (.int .i64 (rd o a))) (ds := []) #[F,F,F,F,F,F,F,F,F,F,F,F,F,F] (by kernel_rfl) rfl rfl ⟨O, P⟩ (fun hHeld => ?_); refine iG bC.LZ bC.LB (fun HT_ HW_ => ?_);generalize wr.drew = ys at M m HB O P hHeld ⊢;refine pS 0 (some 37) #[T,F,F,F,F,F,F,F,F,F,F,F,F,F] ?_;refine pS 1 (some 38) #[T,T,F,F,F,F,F,F,F,F,F,F,F,F] ?_;refine pS 2 (some 39) #[T,T,T,F,F,F,F,F,F,F,F,F,F,F] ?_;refine pS 3 (some 40) #[T,T,T,T,F,F,F,F,F,F,F,F,F,F] ?_;refine pS 4 (some 41) #[T,T,T,T,T,F,F,F,F,F,F,F,F,F] ?_;refine pS 6 (some 43) #[T,T,T,T,T,F,T,F,F,F,F,F,F,F] ?_;refine pS 7 (some 44) #[T,T,T,T,T,F,T,T,F,F,F,F,F,F] ?_;refine pS 8 (some 45) #[T,T,T,T,T,F,T,T,T,F,F,F,F,F] ?_;refine tS 5 (some 42) #[T,T,T,T,T,T,T,T,T,F,F,F,F,F] ?_;refine tS 9 (some 46) #[T,T,T,T,T,T,T,T,T,T,F,F,F,F] ?_;refine pS 10 (some 47) #[T,T,T,T,T,T,T,T,T,T,T,F,F,F] ?_;refine pS 11 (some 48) #[T,T,T,T,T,T,T,T,T,T,T,T,F,F] ?_;refine pS 12 (some 49) #[T,T,T,T,T,T,T,T,T,T,T,T,T,F] ?_;refine pS 13 (some 8) #[T,T,T,T,T,T,T,T,T,T,T,T,T,T] ?_;refine iO (gG HT_.out (by kernel_rfl)) ?_;(try go_wp2);go_roundg k2;case measure => have := xJ.out; have := xQ.out; omega
        case rel => exact ⟨_, _, EQ, EQ, H', ⟨by have := xJ.out; have := xQ.out; omega⟩, ⟨(RR M)⟩, ⟨BK⟩, ⟨BL⟩⟩
       ·rw [if_neg xk] at H;exact absurd H (by simp)
      ·obtain rfl := sI H;go_wp2;go_ret;exact ⟨EWW, BL⟩
def dw.l0 : Nat → aj → Int → Option (Bool)
 | 0, _, _ => none
 | k + 1, a, b => if b < (a.size : Int) then if 0 ≤ b then if (bt a b) = 63 then dw.l0 k a (wrap64 (b + 1)) else if (bt a b) < 97 then some false else if (bt a b) > 122 then some false else dw.l0 k a (wrap64 (b + 1)) else none else some true
def dw.f (k : Nat) (a0 : aj) : Option (Bool) := (bF.f (a0.size : Int) 1 8).bind fun t308 => if t308 = true then dw.l0 k a0 0 else some false
theorem dw.calls (k : Nat) (m : aj) (r : Bool) (w : World) (h : dw.f k m = some r) :
  Calls Tryz.prog 116 #[.string m] w fun e w' => e = .returned (.bool r) ∧ dQ w w' := by
 unfold dw.f at h;have H := h;clear h;replace H := be H; obtain ⟨E, A2, H⟩ := H;replace H := ah.mk H;go_enter Tryz.func116, Tryz.ntmps116;go_wp2_with (first | ((with_reducible refine aA (f := 50) rfl ?_); refine bg (some 6) Tryz.func50 #[.int .i64 (m.size : Int), .int .i64 1, .int .i64 8] ?_; (with_reducible refine (bF.calls (m.size : Int) 1 8 _ _ A2.out).mono ?_); rintro e w' ⟨rfl, ⟨nd, rfl⟩⟩; refine ⟨_, rfl, ?_⟩; refine dx ?_));refine Hide.mk ?_;replace H := H.out;replace H := ifB H; rcases H with ⟨rfl, H⟩ | ⟨rfl, H⟩
 ·have H' := ah.mk H;clear H;try go_wp2
  go_loopg [3] k (fun kq I w' => ∃ (a : Int), I = .int .i64 a ∧ ah (dw.l0 kq m a = some r) ∧ ah (kq ≤ k) ∧ dQ w w')
  case atStart => exact ⟨_, EQ, H', ⟨nR _⟩, DR⟩
  case round =>
   clear H';obtain ⟨a, rfl, HA, u, ⟨m1, rfl⟩⟩ := hrel
   cases gk with
   | zero => exact absurd HA.out (by simp [dw.l0])
   | succ k1 =>
    have H := HA.out;clear HA;simp only [dw.l0] at H;replace H := ifD H; rcases H with ⟨y, H⟩ | ⟨y, H⟩
    ·replace H := ifN H; obtain ⟨G, H⟩ := H;have L : (0 ≤ (a : Int)) = True := OT;have M : (a < (m.size : Int)) = True := OT;have hx6 := gN m a;replace H := ifE H; rcases H with ⟨z, A, H⟩ | ⟨c7, z, A, H⟩
     ·have H' := ah.mk H;clear H;go_wp2;go_roundg k1;case measure => have := u.out; omega
      case rel => exact ⟨_, EQ, H', ks u, DR⟩
     ·have O : (0 ≤ (a : Int)) = True := OT;have P : (a < (m.size : Int)) = True := OT;have hx8 := gN m a;replace H := ifD H; rcases H with ⟨D, H⟩ | ⟨D, H⟩
      ·obtain rfl := sI H;go_wp2;go_ret;exact ⟨EQ, DR⟩
      ·have J : (0 ≤ (a : Int)) = True := OT;have K : (a < (m.size : Int)) = True := OT;have hx10 := gN m a;by_cases o : (bt m a) > 122
       ·rw [if_pos o] at H;have x : decide (122 < (bt m a)) = true := dT o;clear o;obtain rfl := sI H;go_wp2;go_ret;exact ⟨EQ, DR⟩
       ·rw [if_neg o] at H;have x : decide (122 < (bt m a)) = false := dF o;clear o;have H' := ah.mk H;clear H;go_wp2;go_roundg k1;case measure => have := u.out; omega
        case rel => exact ⟨_, EQ, H', ks u, DR⟩
    ·obtain rfl := sI H;go_wp2;go_ret;exact ⟨EQ, DR⟩
 ·obtain rfl := sI H;(try go_wp2);go_ret;exact ⟨EQ, DR⟩
mutual
def bI.j0 : Nat → aj → aj → Bool → Option (Bool)
 | 0, _, _, _ => none
 | k + 1, a, b, c => if c = true then some false else bI.l0 k a b 0
def bI.l0 : Nat → aj → aj → Int → Option (Bool)
 | 0, _, _, _ => none
 | k + 1, a, b, c => if c < (a.size : Int) then if 0 ≤ c then if (bt a c) = 63 then bI.l0 k a b (wrap64 (c + 1)) else if c < (b.size : Int) then if (bt a c) = (bt b c) then bI.l0 k a b (wrap64 (c + 1)) else some false else none else none else some true
end
def bI.f (k : Nat) (a0 a1 : aj) : Option (Bool) := (dw.f k a0).bind fun t309 => if t309 = true then (bG.f k a1).bind fun t310 => if t310 = true then bI.j0 k a0 a1 ((a0.size : Int) != (a1.size : Int)) else bI.j0 k a0 a1 true else bI.j0 k a0 a1 true
theorem bI.calls (k : Nat) (m u : aj) (r : Bool) (w : World) (h : bI.f k m u = some r) :
  Calls Tryz.prog 80 #[.string m, .string u] w fun e w' => e = .returned (.bool r) ∧ dQ w w' := by
 unfold bI.f at h;have H := h;clear h;have A := ah.mk H;clear H;go_enter Tryz.func80, Tryz.ntmps80;go_upto_region 1 with (fail)
 repeat (go_quiet (fail); go_upto_region 1 with (fail))
 go_cut [20] (fun M wc => ∃ (kq : Nat) (o : Bool), M = .bool o ∧ ah (bI.j0 kq m u o = some r) ∧ ah (kq ≤ k) ∧ dQ w wc)
 case first =>
  have H := A.out;clear A;replace H := be H; obtain ⟨U, x, H⟩ := H;replace H := ifB H; rcases H with ⟨rfl, H⟩ | ⟨rfl, H⟩
  ·replace H := be H; obtain ⟨Y, J, H⟩ := H;replace H := ifB H; rcases H with ⟨rfl, H⟩ | ⟨rfl, H⟩
   ·have H' := ah.mk H;clear H
    repeat (go_wp2_with (first | (go_at_call 116; (with_reducible refine (dw.calls k m _ _ x.out).mono ?_); rintro e w' ⟨rfl, ⟨nd, rfl⟩⟩; (try first | exact da | exact DD)) | (go_at_call 117; (with_reducible refine (bG.calls k u _ _ J.out).mono ?_); rintro e w' ⟨rfl, ⟨nd, rfl⟩⟩; (try first | exact da | exact DD))); go_quiet (first | (go_at_call 116; (with_reducible refine (dw.calls k m _ _ x.out).mono ?_); rintro e w' ⟨rfl, ⟨nd, rfl⟩⟩; (try first | exact da | exact DD)) | (go_at_call 117; (with_reducible refine (bG.calls k u _ _ J.out).mono ?_); rintro e w' ⟨rfl, ⟨nd, rfl⟩⟩; (try first | exact da | exact DD))))
    go_wp2_with (first | (go_at_call 116; (with_reducible refine (dw.calls k m _ _ x.out).mono ?_); rintro e w' ⟨rfl, ⟨nd, rfl⟩⟩; (try first | exact da | exact DD)) | (go_at_call 117; (with_reducible refine (bG.calls k u _ _ J.out).mono ?_); rintro e w' ⟨rfl, ⟨nd, rfl⟩⟩; (try first | exact da | exact DD)));go_meet;case rel => exact ⟨_, _, EQ, H', ⟨by first | omega | exact nR _⟩, DR⟩
   ·have H' := ah.mk H;clear H
    repeat (go_wp2_with (first | (go_at_call 116; (with_reducible refine (dw.calls k m _ _ x.out).mono ?_); rintro e w' ⟨rfl, ⟨nd, rfl⟩⟩; (try first | exact da | exact DD)) | (go_at_call 117; (with_reducible refine (bG.calls k u _ _ J.out).mono ?_); rintro e w' ⟨rfl, ⟨nd, rfl⟩⟩; (try first | exact da | exact DD))); go_quiet (first | (go_at_call 116; (with_reducible refine (dw.calls k m _ _ x.out).mono ?_); rintro e w' ⟨rfl, ⟨nd, rfl⟩⟩; (try first | exact da | exact DD)) | (go_at_call 117; (with_reducible refine (bG.calls k u _ _ J.out).mono ?_); rintro e w' ⟨rfl, ⟨nd, rfl⟩⟩; (try first | exact da | exact DD))))
    go_wp2_with (first | (go_at_call 116; (with_reducible refine (dw.calls k m _ _ x.out).mono ?_); rintro e w' ⟨rfl, ⟨nd, rfl⟩⟩; (try first | exact da | exact DD)) | (go_at_call 117; (with_reducible refine (bG.calls k u _ _ J.out).mono ?_); rintro e w' ⟨rfl, ⟨nd, rfl⟩⟩; (try first | exact da | exact DD)));go_meet;case rel => exact ⟨_, _, EQ, H', ⟨by first | omega | exact nR _⟩, DR⟩
  ·have H' := ah.mk H;clear H
   repeat (go_wp2_with (first | (go_at_call 116; (with_reducible refine (dw.calls k m _ _ x.out).mono ?_); rintro e w' ⟨rfl, ⟨nd, rfl⟩⟩; (try first | exact da | exact DD))); go_quiet (first | (go_at_call 116; (with_reducible refine (dw.calls k m _ _ x.out).mono ?_); rintro e w' ⟨rfl, ⟨nd, rfl⟩⟩; (try first | exact da | exact DD))))
   go_wp2_with (first | (go_at_call 116; (with_reducible refine (dw.calls k m _ _ x.out).mono ?_); rintro e w' ⟨rfl, ⟨nd, rfl⟩⟩; (try first | exact da | exact DD)));go_meet;case rel => exact ⟨_, _, EQ, H', ⟨by first | omega | exact nR _⟩, DR⟩
 case rest =>
  clear A;obtain ⟨kq, o, rfl, HA, y, ⟨mc2, rfl⟩⟩ := hcut
  cases kq with
  | zero => exact absurd HA.out (by simp [bI.j0])
  | succ K =>
   have H := HA.out;clear HA;simp only [bI.j0] at H;replace H := ifB H; rcases H with ⟨rfl, H⟩ | ⟨rfl, H⟩
   ·obtain rfl := sI H;go_wp2
    repeat (go_quiet (fail); try go_wp2)
    go_ret;exact ⟨EQ, DR⟩
   ·have H' := ah.mk H;clear H;go_wp2
    repeat (go_quiet (fail); try go_wp2)
    go_loopg [5] K (fun kq Z w' => ∃ (a : Int), Z = .int .i64 a ∧ ah (bI.l0 kq m u a = some r) ∧ ah (kq ≤ K) ∧ dQ w w')
    case atStart => exact ⟨_, EQ, H', ⟨nR _⟩, DR⟩
    case round =>
     clear H';obtain ⟨a, rfl, HA, z, ⟨m2, rfl⟩⟩ := hrel
     cases gk with
     | zero => exact absurd HA.out (by simp [bI.l0])
     | succ k2 =>
      have H := HA.out;clear HA;simp only [bI.l0] at H;replace H := ifD H; rcases H with ⟨L, H⟩ | ⟨L, H⟩
      ·replace H := ifN H; obtain ⟨O, H⟩ := H;have xa : (0 ≤ (a : Int)) = True := OT;have xb : (a < (m.size : Int)) = True := OT;have hx11 := gN m a;replace H := ifE H; rcases H with ⟨D, E, H⟩ | ⟨xc, D, E, H⟩
       ·have H' := ah.mk H;clear H;go_wp2
        repeat (go_quiet (fail); try go_wp2)
        go_roundg k2;case measure => have := y.out; have := z.out; omega
        case rel => exact ⟨_, EQ, H', ⟨by have := y.out; have := z.out; omega⟩, DR⟩
       ·replace H := ifN H; obtain ⟨P, H⟩ := H;have xd : (0 ≤ (a : Int)) = True := OT;have xe : (a < (m.size : Int)) = True := OT;have hx13 := gN m a;have xf : (0 ≤ (a : Int)) = True := OT;have xg : (a < (u.size : Int)) = True := OT;have hx15 := gN u a;replace H := ifE H; rcases H with ⟨G, I, H⟩ | ⟨xh, G, I, H⟩
        ·have H' := ah.mk H;clear H;go_wp2
         repeat (go_quiet (fail); try go_wp2)
         go_roundg k2;case measure => have := y.out; have := z.out; omega
         case rel => exact ⟨_, EQ, H', ⟨by have := y.out; have := z.out; omega⟩, DR⟩
        ·obtain rfl := sI H;go_wp2
         repeat (go_quiet (fail); try go_wp2)
         go_ret;exact ⟨EQ, DR⟩
      ·obtain rfl := sI H;go_wp2
       repeat (go_quiet (fail); try go_wp2)
       go_ret;exact ⟨EQ, DR⟩
def bV.l0 : Nat → aj → aj → List Int → Int → Option (aj × Bool)
 | 0, _, _, _, _ => none
 | k + 1, a, b, c, d => if d < (c.length : Int) then (if 0 ≤ d then (if 0 ≤ (rd c d) then (if (rd c d) ≤ (a.size : Int) then (if d ≤ (wrap64 (d + 1)) then (if (wrap64 (d + 1)) ≤ (b.size : Int) then (if (a.extract 0 ((rd c d) : Int).toNat).size + (b.extract (d : Int).toNat ((wrap64 (d + 1)) : Int).toNat).size ≤ 9223372036854775807 then (if 0 ≤ (wrap64 ((rd c d) + 1)) then (if (wrap64 ((rd c d) + 1)) ≤ (a.size : Int) then (if ((a.extract 0 ((rd c d) : Int).toNat) ++ (b.extract (d : Int).toNat ((wrap64 (d + 1)) : Int).toNat)).size + (a.extract ((wrap64 ((rd c d) + 1)) : Int).toNat a.size).size ≤ 9223372036854775807 then (bV.l0 k (((a.extract 0 ((rd c d) : Int).toNat) ++ (b.extract (d : Int).toNat ((wrap64 (d + 1)) : Int).toNat)) ++ (a.extract ((wrap64 ((rd c d) + 1)) : Int).toNat a.size)) b c (wrap64 (d + 1))) else none) else none) else none) else none) else none) else none) else none) else none) else none) else some (a, true)
def bV.f (k : Nat) (Mc Md : Int) (Me a1 : aj) (a2 : Int) (a3 : aj) : Option (aj × Bool) := (bC.f k Mc Md Me a1 a2).bind fun t312 => (bI.f k t312 a3).bind fun t313 => if t313 = true then (aN.f k Mc Md Me).bind fun t314 => if 0 ≤ a2 then if a2 < (t314.length : Int) then (bP.f k Mc Md Me ((aU t314 a2).f0) ((aU t314 a2).f1) ((aU t314 a2).f2) ((aU t314 a2).f3)).bind fun t318 => bV.l0 k a1 a3 t318 0 else none else none else some (a1, false)
def bV.T3 : Bool × List (List Nat × List Nat) := (true, [([], []), ([], []), ([1], [1]), ([], []), ([2, 3], [2, 3]), ([4], [4]), ([0, 5, 2], [0, 5]), ([6, 6, 0, 1, 2, 3, 4, 5, 6], [6])])
def bV.B3 : List Nat := [0, 0, 2, 0, 14, 30, 63, 127]
theorem bV.KZ : kX .any (opsOf Tryz.f51 3) = bV.T3 := by kernel_rfl
theorem bV.Im : jg bV.T3.2 bV.B3 = true := by kernel_rfl
def bV.T7 : Bool × List (List Nat × List Nat) := (true, [([], []), ([], []), ([], []), ([1, 2], [1, 2]), ([3], [3]), ([0, 4], [0, 4]), ([], []), ([], []), ([], []), ([8], [8]), ([6, 7, 9], [6, 7, 9]), ([5, 10], [5, 10]), ([], []), ([], []), ([], []), ([13, 14], [13, 14]), ([15], [15]), ([16], [16]), ([12, 17], [12, 17]), ([11, 18], [11, 18]), ([19, 0, 1, 2, 3, 4, 5, 6, 7, 8, 9, 10, 11, 12, 13, 14, 15, 16, 17, 18, 19], [0, 12, 19])])
def bV.B7 : List Nat := [0, 0, 0, 6, 14, 31, 0, 0, 0, 256, 960, 2047, 0, 0, 0, 24576, 57344, 122880, 258048, 524287, 1048575]
theorem bV.Lb : kX .any (opsOf Tryz.f51 7) = bV.T7 := by kernel_rfl
theorem bV.Ip : jg bV.T7.2 bV.B7 = true := by kernel_rfl
theorem bV.calls (k : Nat) (Mc Md : Int) (Me a1 : aj) (a2 : Int) (a3 r1 : aj) (r2 : Bool) (w : World) (h : bV.f k Mc Md Me a1 a2 a3 = some (r1, r2)) :
  Calls Tryz.prog 51 #[.agg #[.int .i64 Mc, .int .i64 Md, .string Me], .string a1, .int .i64 a2, .string a3] w fun e w' => e = .returned (.tuple #[.string r1, .bool r2]) ∧ Below w.heap.size w w' := by
 have hu34 := Tryz.underlying34
 have hu98 := Tryz.underlying98
 have HB := ah.mk (bR w.heap.size w)
 unfold bV.f at h
 have H := h
 clear h
 replace H := be H; obtain ⟨t312, A5, H⟩ := H
 replace H := be H; obtain ⟨t313, A6, H⟩ := H
 replace H := ah.mk H
 go_enter Tryz.func51, Tryz.ntmps51
 go_wp2_with (first | ((with_reducible refine aI (N := 4) rfl ?_); refine aZ (N := 4) (cs := #[.int .i64 Mc, .int .i64 Md, .string Me]) (t := 34) ?_; intro gb311 hg w9000 hbox hb; have BK311 := ah.mk hbox; have GW311 := SZ (w := w) hg; have GE311 := GW311; replace HB := BS (w := w) hb; clear hb hbox hg; obtain ⟨hcz9001_0, hcz9001_1, hcz9001_2, hfz9001_0, hfz9001_1, hfz9001_2⟩ := cz3 BK311.out) | ((with_reducible refine aA (f := 53) rfl ?_); refine bg (some 15) Tryz.func53 #[.agg #[.int .i64 Mc, .int .i64 Md, .string Me], .string a1, .int .i64 a2] ?_; (with_reducible refine (bC.calls k Mc Md Me a1 a2 t312 _ A5.out).mono ?_); rintro e w9002 ⟨rfl, hb⟩; refine ⟨_, rfl, ?_⟩; replace BK311 := KB BK311 hb; replace HB := BS (w := w) hb; (try clear hb)) | ((with_reducible refine aA (f := 80) rfl ?_); refine bg (some 17) Tryz.func80 #[.string t312, .string a3] ?_; (with_reducible refine (bI.calls k t312 a3 _ _ A6.out).mono ?_); rintro e w' ⟨rfl, ⟨nd, rfl⟩⟩; refine ⟨_, rfl, ?_⟩; refine dx ?_))
 refine Hide.mk ?_
 replace H := H.out
 replace H := ifB H; rcases H with ⟨rfl, H⟩ | ⟨rfl, H⟩
 ·replace H := be H; obtain ⟨t314, A8, H⟩ := H
  replace H := ifN H; obtain ⟨c9b0, H⟩ := H
  replace H := ifN H; obtain ⟨c10b0, H⟩ := H
  replace H := be H; obtain ⟨t318, A11, H⟩ := H
  have H' := ah.mk H
  clear H
  try go_wp2
  (try (rw [qI w9002]; generalize hq_ : World.drewN w9002 _ = w9002; have n0_ : ah (w9002.heap[gb311]? = some (.cells #[.int .i64 Mc, .int .i64 Md, .string Me] 34 (0, 0))) := ⟨by rw [← hq_]; exact BK⟩; have n1_ : ah (Below w.heap.size w w9002) := ⟨by rw [← hq_]; exact BL⟩; clear BK311 HB hq_; have BK311 := n0_; have HB := n1_; clear n0_ n1_))
  replace BK311 := ah.mk (aT BK311.out)
  replace HB := ah.mk (cK HB.out)
  refine jA (n := 8) (S := fun w' => w'.cell? ⟨gb311, 0, none⟩ = some (.int .i64 Mc) ∧ w'.cell? ⟨gb311, 1, none⟩ = some (.int .i64 Md) ∧ w'.cell? ⟨gb311, 2, none⟩ = some (.string Me)) (ds := []) #[F,F,F,F,F,F,F,F] (by kernel_rfl) rfl rfl ⟨(ak BK311.out 0).trans rfl, (ak BK311.out 1).trans rfl, (ak BK311.out 2).trans rfl⟩ (fun hHeld => ?_); refine iG bV.KZ bV.Im (fun HT_ HW_ => ?_)
  generalize w9002.drew = w9003 at BK311 HB hHeld ⊢
  refine puS (i := 3) (N := some 23) #[F,F,F,T,F,F,F,F] (jK HT_.out (by kernel_rfl)) ?_
  refine taS (i := 0) (N := some 20) #[T,F,F,T,F,F,F,F] (rR HT_.out HW_.out (by kernel_rfl)) hHeld ?_
  refine taS (i := 1) (N := some 21) #[T,T,F,T,F,F,F,F] (rR HT_.out HW_.out (by kernel_rfl)) hHeld ?_
  refine ko (i := 2) (N := some 22) #[T,T,T,T,F,F,F,F] rfl rfl (iM HT_.out (by kernel_rfl)) (by decide) (fun K hK => ?_)
  refine iX Tryz.func48 #[.agg #[.int .i64 Mc, .int .i64 Md, .string Me]] ?_
  with_reducible refine (aN.calls k Mc Md Me t314 _ A8.out).mono ?_
  rintro e w9004 ⟨v315, rfl, ho0, hb⟩
  refine ⟨_, rfl, ?_⟩
  have n0_ := ah.mk (Kd.cZ ho0 (aH BL))
  have n1_ := KB BK311 hb
  have n2_ := BS (w := w) hb
  clear BK311
  clear HB
  have HO316 := n0_
  have BK311 := n1_
  have HB := n2_
  clear n0_ n1_ n2_
  (try clear hb)
  (try clear ho0)
  obtain ⟨Ao9005, co9005, eo9005⟩ := Kd.dI HO316.out
  (first | subst eo9005 | (injection eo9005 with f1_ f2_ f3_; have f4_ := f1_.symm; have f5_ := f3_.symm; clear f1_ f2_ f3_; subst f4_; subst f5_))
  have p317 : 0 ≤ (a2 : Int) := OD
  have q317 : a2 < (t314.length : Int) := OD
  obtain ⟨ad317, e317, hx317_0, hx317_1, hx317_2, hx317_3⟩ := qh (Kd.bY HO316.out).2.2 a2 p317 q317
  cases e317
  replace p317 := eq_true p317
  replace q317 := eq_true q317
  refine hK.out _ _ ⟨(ak BK311.out 0).trans rfl, (ak BK311.out 1).trans rfl, (ak BK311.out 2).trans rfl⟩ (fun hHeld => ?_)
  clear hK K
  refine nrm (some 22) ?_
  refine puS (i := 4) (N := some 24) #[T,T,T,T,T,F,F,F] (jK HT_.out (by kernel_rfl)) ?_
  refine ko (i := 5) (N := some 25) #[T,T,T,T,T,T,F,F] rfl rfl (iM HT_.out (by kernel_rfl)) (by decide) (fun K hK => ?_)
  refine Ju (v := ?_) (w1 := w9004) (by rfl) (by rfl) ?_ ?_
  rotate_left
  ·go_simp
   with_reducible rfl
  refine hK.out _ _ ⟨(ak BK311.out 0).trans rfl, (ak BK311.out 1).trans rfl, (ak BK311.out 2).trans rfl⟩ (fun hHeld => ?_)
  clear hK K
  refine nrm (some 25) ?_
  refine ko (i := 6) (N := some 26) #[T,T,T,T,T,T,T,F] rfl rfl (iM HT_.out (by kernel_rfl)) (by decide) (fun K hK => ?_)
  refine iX Tryz.func81 #[.agg #[.int .i64 Mc, .int .i64 Md, .string Me], .agg #[.int .i64 ((aU t314 a2).f0), .bool ((aU t314 a2).f1), .int .i64 ((aU t314 a2).f2), .int .i64 ((aU t314 a2).f3)]] ?_
  with_reducible refine (bP.calls k Mc Md Me ((aU t314 a2).f0) ((aU t314 a2).f1) ((aU t314 a2).f2) ((aU t314 a2).f3) t318 _ A11.out).mono ?_
  rintro e w9006 ⟨v319, rfl, ho0, hb⟩
  refine ⟨_, rfl, ?_⟩
  have n0_ := RB HO316 hb
  have n1_ := ah.mk (Kd.cZ ho0 (aH BL))
  have n2_ := KB BK311 hb
  have n3_ := BS (w := w) hb
  clear HO316
  clear BK311
  clear HB
  have HO316 := n0_
  have HO320 := n1_
  have BK311 := n2_
  have HB := n3_
  clear n0_ n1_ n2_ n3_
  (try clear hb)
  (try clear ho0)
  refine hK.out _ _ ⟨(ak BK311.out 0).trans rfl, (ak BK311.out 1).trans rfl, (ak BK311.out 2).trans rfl⟩ (fun hHeld => ?_)
  clear hK K
  refine nrm (some 26) ?_
  refine puS (i := 7) (N := some 10) #[T,T,T,T,T,T,T,T] (jK HT_.out (by kernel_rfl)) ?_
  refine iO (gG HT_.out (by kernel_rfl)) ?_
  try go_wp2
  go_loopg [1, 11] k (fun kq v1 v11 w' => ∃ (x1_1 : aj) (x11_1 : Int), v1 = .string x1_1 ∧ v11 = .int .i64 x11_1 ∧ ah (bV.l0 kq x1_1 a3 t318 x11_1 = some (r1, r2)) ∧ ah (kq ≤ k) ∧ ah (Kd.R (Kd.int .i64) 3 w' w.heap.size (fun _ => True) v319 t318) ∧ ah (w'.heap[gb311]? = some (.cells #[.int .i64 Mc, .int .i64 Md, .string Me] 34 (0, 0))) ∧ ah (Below w.heap.size w w'))
  case atStart => exact ⟨(a1), (0), EQ, EQ, H', ⟨nR _⟩, ⟨(RR HO320)⟩, ⟨BK⟩, ⟨BL⟩⟩
  case round =>
   clear H'
   try clear c7
   try clear c9
   try clear c9b0
   try clear c10
   try clear c10b0
   try clear hcz9001_0
   try clear hcz9001_1
   try clear hcz9001_2
   try clear hfz9001_0
   try clear hfz9001_1
   try clear hfz9001_2
   try clear hx317_0
   try clear hx317_1
   try clear hx317_2
   try clear hx317_3
   try clear p317
   try clear q317
   obtain ⟨x1_1, x11_1, rfl, rfl, HA, HK1, HO_10, BK311, HB⟩ := hrel
   cases gk with
   | zero => exact absurd HA.out (by simp [bV.l0])
   | succ k1 =>
    have H := HA.out
    clear HA
    simp only [bV.l0] at H
    obtain ⟨Ao9007, co9007, eo9007⟩ := Kd.dI HO_10.out
    subst eo9007
    replace H := ifD H; rcases H with ⟨c19b0, H⟩ | ⟨c19b0, H⟩
    ·replace H := ifN H; obtain ⟨c20b0, H⟩ := H
     replace H := ifP H; obtain ⟨c21, H⟩ := H
     have c21b0 := eq_true c21
     have c21b1 : decide (0 ≤ (rd t318 x11_1)) = true := dT c21
     clear c21
     replace H := ifP H; obtain ⟨c22, H⟩ := H
     have c22b0 := eq_true c22
     have c22b1 : decide ((rd t318 x11_1) ≤ (x1_1.size : Int)) = true := dT c22
     clear c22
     have c23b0 := eq_true (OD : 0 ≤ x11_1)
     replace H := ifP H; obtain ⟨c24, H⟩ := H
     have c24b0 := eq_true c24
     have c24b1 : decide (x11_1 ≤ (wrap64 (x11_1 + 1))) = true := dT c24
     replace H := ifP H; obtain ⟨c25, H⟩ := H
     have c25b0 := eq_true c25
     have c25b1 : decide ((wrap64 (x11_1 + 1)) ≤ (a3.size : Int)) = true := dT c25
     by_cases c26 : (x1_1.extract 0 ((rd t318 x11_1) : Int).toNat).size + (a3.extract (x11_1 : Int).toNat ((wrap64 (x11_1 + 1)) : Int).toNat).size ≤ 9223372036854775807
     ·rw [if_pos c26] at H
      have c26b0 := eq_true c26
      have c26b1 : decide ((x1_1.extract 0 ((rd t318 x11_1) : Int).toNat).size + (a3.extract (x11_1 : Int).toNat ((wrap64 (x11_1 + 1)) : Int).toNat).size ≤ 9223372036854775807) = true := dT c26
      try have c26b2 : (9223372036854775807 < (x1_1.extract 0 ((rd t318 x11_1) : Int).toNat).size + (a3.extract (x11_1 : Int).toNat ((wrap64 (x11_1 + 1)) : Int).toNat).size) = False := eq_false (Nat.not_lt.2 c26)
      have c26b3 : (9223372036854775807 < ((rd t318 x11_1)).toNat + (((wrap64 (x11_1 + 1))).toNat - (x11_1).toNat)) = False := eq_false (by
       have h1_ : (rd t318 x11_1) ≤ (x1_1.size : Int) := OD
       have h2_ : (wrap64 (x11_1 + 1)) ≤ (a3.size : Int) := OD
       have h_ := c26
       simp only [ByteArray.size_extract] at h_
       omega)
      obtain ⟨ji27, hji27⟩ : ∃ j_ : Int, (wrap64 ((rd t318 x11_1) + 1)) = j_ := ⟨_, rfl⟩
      replace H : (if 0 ≤ (ji27) then (if (ji27) ≤ (x1_1.size : Int) then (if ((x1_1.extract 0 ((rd t318 x11_1) : Int).toNat) ++ (a3.extract (x11_1 : Int).toNat ((wrap64 (x11_1 + 1)) : Int).toNat)).size + (x1_1.extract ((ji27) : Int).toNat x1_1.size).size ≤ 9223372036854775807 then (bV.l0 k1 (((x1_1.extract 0 ((rd t318 x11_1) : Int).toNat) ++ (a3.extract (x11_1 : Int).toNat ((wrap64 (x11_1 + 1)) : Int).toNat)) ++ (x1_1.extract ((ji27) : Int).toNat x1_1.size)) a3 t318 (wrap64 (x11_1 + 1))) else (none)) else (none)) else (none)) = some (r1, r2) := by first | (rw [hji27] at H; exact H) | (simp only [hji27] at H ⊢; exact H)
      have hji27w : (IntKind.i64.wrap ((rd t318 x11_1) + 1)) = ji27 := (iJ _).trans hji27
      replace H := ifP H; obtain ⟨c28, H⟩ := H
      have c28b0 := eq_true c28
      have c28b1 : decide (0 ≤ (ji27)) = true := dT c28
      clear c28
      replace H := ifP H; obtain ⟨c29, H⟩ := H
      have c29b0 := eq_true c29
      have c29b1 : decide ((ji27) ≤ (x1_1.size : Int)) = true := dT c29
      clear c29
      by_cases c30 : ((x1_1.extract 0 ((rd t318 x11_1) : Int).toNat) ++ (a3.extract (x11_1 : Int).toNat ((wrap64 (x11_1 + 1)) : Int).toNat)).size + (x1_1.extract ((ji27) : Int).toNat x1_1.size).size ≤ 9223372036854775807
      ·rw [if_pos c30] at H
       have c30b0 := eq_true c30
       have c30b1 : decide (((x1_1.extract 0 ((rd t318 x11_1) : Int).toNat) ++ (a3.extract (x11_1 : Int).toNat ((wrap64 (x11_1 + 1)) : Int).toNat)).size + (x1_1.extract ((ji27) : Int).toNat x1_1.size).size ≤ 9223372036854775807) = true := dT c30
       try have c30b2 : (9223372036854775807 < ((x1_1.extract 0 ((rd t318 x11_1) : Int).toNat) ++ (a3.extract (x11_1 : Int).toNat ((wrap64 (x11_1 + 1)) : Int).toNat)).size + (x1_1.extract ((ji27) : Int).toNat x1_1.size).size) = False := eq_false (Nat.not_lt.2 c30)
       have c30b3 : (9223372036854775807 < ((rd t318 x11_1)).toNat + (((wrap64 (x11_1 + 1))).toNat - (x11_1).toNat) + (x1_1.size - (ji27).toNat)) = False := eq_false (by
        have h1_ : (rd t318 x11_1) ≤ (x1_1.size : Int) := OD
        have h2_ : (wrap64 (x11_1 + 1)) ≤ (a3.size : Int) := OD
        have h_ := c30
        simp only [ByteArray.size_append, ByteArray.size_extract] at h_
        omega)
       have H' := ah.mk H
       clear H
       try go_wp2
       replace HO_10 := ah.mk (Kd.dM HO_10.out)
       replace BK311 := ah.mk (aT BK311.out)
       replace HB := ah.mk (cK HB.out)
       have p321 : 0 ≤ (x11_1 : Int) := OD
       have q321 : x11_1 < (t318.length : Int) := OD
       obtain ⟨ad321, e321, hx321_0⟩ := Kd.nI (Kd.bY HO_10.out).2.2 x11_1 p321 q321
       cases e321
       replace p321 := eq_true p321
       replace q321 := eq_true q321
       have p322 : 0 ≤ (x11_1 : Int) := OD
       have q322 : x11_1 < (t318.length : Int) := OD
       obtain ⟨ad322, e322, hx322_0⟩ := Kd.nI (Kd.bY HO_10.out).2.2 x11_1 p322 q322
       obtain rfl : ad321 = ad322 := (by injection e322)
       replace p322 := eq_true p322
       replace q322 := eq_true q322
       refine jA (n := 21) (S := fun w' => w'.cell? (ad321.add (x11_1).toNat) = some (.int .i64 (rd t318 x11_1)) ∧ w'.cell? (ad321.add (x11_1).toNat) = some (.int .i64 (rd t318 x11_1))) (ds := []) #[F,F,F,F,F,F,F,F,F,F,F,F,F,F,F,F,F,F,F,F,F] (by kernel_rfl) rfl rfl ⟨hx321_0, hx322_0⟩ (fun hHeld => ?_); refine iG bV.Lb bV.Ip (fun HT_ HW_ => ?_)
       generalize wr.drew = w9008 at HO_10 BK311 HB hx321_0 hx322_0 hHeld ⊢
       refine puS (i := 0) (N := some 33) #[T,F,F,F,F,F,F,F,F,F,F,F,F,F,F,F,F,F,F,F,F] (jK HT_.out (by kernel_rfl)) ?_
       refine puS (i := 1) (N := some 34) #[T,T,F,F,F,F,F,F,F,F,F,F,F,F,F,F,F,F,F,F,F] (jK HT_.out (by kernel_rfl)) ?_
       refine puS (i := 2) (N := some 35) #[T,T,T,F,F,F,F,F,F,F,F,F,F,F,F,F,F,F,F,F,F] (jK HT_.out (by kernel_rfl)) ?_
       refine puS (i := 3) (N := some 36) #[T,T,T,T,F,F,F,F,F,F,F,F,F,F,F,F,F,F,F,F,F] (jK HT_.out (by kernel_rfl)) ?_
       refine puS (i := 6) (N := some 39) #[T,T,T,T,F,F,T,F,F,F,F,F,F,F,F,F,F,F,F,F,F] (jK HT_.out (by kernel_rfl)) ?_
       refine puS (i := 7) (N := some 40) #[T,T,T,T,F,F,T,T,F,F,F,F,F,F,F,F,F,F,F,F,F] (jK HT_.out (by kernel_rfl)) ?_
       refine puS (i := 8) (N := some 41) #[T,T,T,T,F,F,T,T,T,F,F,F,F,F,F,F,F,F,F,F,F] (jK HT_.out (by kernel_rfl)) ?_
       refine puS (i := 9) (N := some 42) #[T,T,T,T,F,F,T,T,T,T,F,F,F,F,F,F,F,F,F,F,F] (jK HT_.out (by kernel_rfl)) ?_
       refine puS (i := 10) (N := some 43) #[T,T,T,T,F,F,T,T,T,T,T,F,F,F,F,F,F,F,F,F,F] (jK HT_.out (by kernel_rfl)) ?_
       refine puS (i := 12) (N := some 45) #[T,T,T,T,F,F,T,T,T,T,T,F,T,F,F,F,F,F,F,F,F] (jK HT_.out (by kernel_rfl)) ?_
       refine puS (i := 13) (N := some 46) #[T,T,T,T,F,F,T,T,T,T,T,F,T,T,F,F,F,F,F,F,F] (jK HT_.out (by kernel_rfl)) ?_
       refine puS (i := 14) (N := some 47) #[T,T,T,T,F,F,T,T,T,T,T,F,T,T,T,F,F,F,F,F,F] (jK HT_.out (by kernel_rfl)) ?_
       refine puS (i := 15) (N := some 48) #[T,T,T,T,F,F,T,T,T,T,T,F,T,T,T,T,F,F,F,F,F] (jK HT_.out (by kernel_rfl)) ?_
       refine taS (i := 4) (N := some 37) #[T,T,T,T,T,F,T,T,T,T,T,F,T,T,T,T,F,F,F,F,F] (rR HT_.out HW_.out (by kernel_rfl)) hHeld ?_
       refine puS (i := 5) (N := some 38) #[T,T,T,T,T,T,T,T,T,T,T,F,T,T,T,T,F,F,F,F,F] (jK HT_.out (by kernel_rfl)) ?_
       refine puS (i := 11) (N := some 44) #[T,T,T,T,T,T,T,T,T,T,T,T,T,T,T,T,F,F,F,F,F] (jK HT_.out (by kernel_rfl)) ?_
       refine taS (i := 16) (N := some 49) #[T,T,T,T,T,T,T,T,T,T,T,T,T,T,T,T,T,F,F,F,F] (rR HT_.out HW_.out (by kernel_rfl)) hHeld ?_
       refine puS (i := 17) (N := some 50) #[T,T,T,T,T,T,T,T,T,T,T,T,T,T,T,T,T,T,F,F,F] (jK HT_.out (by kernel_rfl)) ?_
       refine puS (i := 18) (N := some 51) #[T,T,T,T,T,T,T,T,T,T,T,T,T,T,T,T,T,T,T,F,F] (jK HT_.out (by kernel_rfl)) ?_
       refine puS (i := 19) (N := some 52) #[T,T,T,T,T,T,T,T,T,T,T,T,T,T,T,T,T,T,T,T,F] (jK HT_.out (by kernel_rfl)) ?_
       refine puS (i := 20) (N := some 1) #[T,T,T,T,T,T,T,T,T,T,T,T,T,T,T,T,T,T,T,T,T] (jK HT_.out (by kernel_rfl)) ?_
       refine iO (gG HT_.out (by kernel_rfl)) ?_
       try go_wp2
       go_roundg k1
       case measure => have := HK1.out; omega
       case rel => exact ⟨(((x1_1.extract 0 ((rd t318 x11_1) : Int).toNat) ++ (a3.extract (x11_1 : Int).toNat ((wrap64 (x11_1 + 1)) : Int).toNat)) ++ (x1_1.extract ((ji27) : Int).toNat x1_1.size)), (wrap64 (x11_1 + 1)), (by first | rfl | (simp; done) | (simp only [← hji27] <;> (first | rfl | simp)) | (simp [*]; done)), EQ, H', ⟨by have := HK1.out; omega⟩, ⟨(RR HO_10)⟩, ⟨BK⟩, ⟨BL⟩⟩
      ·rw [if_neg c30] at H
       exact absurd H (by simp)
     ·rw [if_neg c26] at H
      exact absurd H (by simp)
    ·simp only [Option.some.injEq, Prod.mk.injEq] at H
     obtain ⟨rfl, rfl⟩ := H
     go_wp2
     go_ret2
     exact ⟨EWW, BL⟩
 ·simp only [Option.some.injEq, Prod.mk.injEq] at H
  obtain ⟨rfl, rfl⟩ := H
  try go_wp2
  go_ret2
  exact ⟨EWW, BL⟩
mutual
def bq.l0 : Nat → List (List aj) → aj → Int → List aj → Int → Int → Int → aj → Option (List aj)
 | 0, _, _, _, _, _, _, _, _ => none
 | k + 1, a, b, c, d, e, f, g, h => if 0 ≤ c then (if c < (a.length : Int) then (if e < ((nO a c).length : Int) then bq.j1 k a b c d e (decide ((d.length : Int) < 30)) f g h else bq.j1 k a b c d e false f g h) else none) else none
def bq.j1 : Nat → List (List aj) → aj → Int → List aj → Int → Bool → Int → Int → aj → Option (List aj)
 | 0, _, _, _, _, _, _, _, _, _ => none
 | k + 1, a, b, c, d, e, f, g, h, i => if f = true then (if 0 ≤ c then (if c < (a.length : Int) then (if 0 ≤ e then (if e < ((nO a c).length : Int) then (bV.f k g h i b c (gq ByteArray.empty (nO a c) e)).bind fun j => if j.2 = true then (bq.f k g h i a j.1 (wrap64 (c + 1)) d).bind fun l => bq.l0 k a b c l (wrap64 (e + 1)) g h i else bq.l0 k a b c d (wrap64 (e + 1)) g h i else none) else none) else none) else none) else some d
def bq.f : Nat → Int → Int → aj → List (List aj) → aj → Int → List aj → Option (List aj)
 | 0, _, _, _, _, _, _, _ => none
 | k + 1, a, b, c, d, e, f, g => if f = (d.length : Int) then if g.length < 8796093022208 then some (g ++ [e]) else none else bq.l0 k d e f g 0 a b c
end
def bq.T6 : Bool × List (List Nat × List Nat) := (true, [([], []), ([], []), ([], []), ([], []), ([], []), ([3, 4], [3, 4]), ([5], [5]), ([], []), ([6, 7], [6, 7]), ([8], [8]), ([0, 1, 2, 9], [0, 1, 2, 9]), ([10], [10]), ([11], [11]), ([11], [11]), ([12, 10, 0, 1, 2, 3, 4, 5, 6, 7, 8, 9, 10, 11, 12], [12]), ([13, 14, 0, 1, 2, 3, 4, 5, 6, 7, 8, 9, 10, 11, 12, 13, 14], [13])])
def bq.B6 : List Nat := [0, 0, 0, 0, 0, 24, 56, 0, 248, 504, 1023, 2047, 4095, 4095, 8191, 32767]
theorem bq.DX : kX .any (opsOf Tryz.f34 6) = bq.T6 := by kernel_rfl
theorem bq.uh : jg bq.T6.2 bq.B6 = true := by kernel_rfl
theorem bq.calls (k : Nat) : ∀ (Mc Md : Int) (Me : aj) (A1 : Option Addr) (c1 : Nat) (l1 : List (List aj)) (a2 : aj) (D : Int) (P4_ : Nat → Prop) (u9000_ : Value) (l4 r : List aj) (w0 w : World) (hB : Below w0.heap.size w0 w) (hr1 : ∀ W_, Kept w W_ (fun k_ => P4_ k_) → Kd.C (Kd.slice 9 Kd.string) W_ A1 l1.length l1) (hc1 : l1.length ≤ c1) (xK : Kd.R Kd.string 9 w w0.heap.size P4_ u9000_ l4) (h : bq.f k Mc Md Me l1 a2 D l4 = some r),
  Calls Tryz.prog 34 #[.agg #[.int .i64 Mc, .int .i64 Md, .string Me], .slice A1 l1.length c1, .string a2, .int .i64 D, u9000_] w fun e w' => ∃ v0_ : Value, e = .returned (v0_) ∧ Kd.R Kd.string 9 w' w0.heap.size (fun k_ => (P4_ k_ ∨ w.heap.size ≤ k_)) v0_ r ∧ Below w0.heap.size w0 w' ∧ Kept w w' (fun k_ => P4_ k_) := by
 induction k using Nat.strongRecOn with
 | _ k ih =>
 intro Mc Md Me A1 c1 l1 a2 D P4_ u9000_ l4 r w0 w hB hr1 hc1 xK h
 cases k with
 | zero => exact absurd h (by simp [bq.f])
 | succ k =>
 simp only [bq.f] at h;have yo := Tryz.underlying34;have xt := ah.mk hr1;have xY := ah.mk hc1;clear hr1 hc1;have Y := ah.mk (show Kd.R Kd.string 9 w w0.heap.size (fun k_ => (P4_ k_ ∨ w.heap.size ≤ k_)) u9000_ l4 from Kd.dN xK (fun k_ hk => (.inl hk)));have HK := ah.mk (Kept.refl w (fun k_ => P4_ k_));have HW0 := ah.mk hB.size;have HB := ah.mk hB;clear hB;have H : (if D = (l1.length : Int) then (if l4.length < 8796093022208 then (some (l4 ++ [a2])) else (none)) else (bq.l0 k l1 a2 D l4 0 Mc Md Me)) = some r := h;clear h;replace H := ah.mk H;go_enter Tryz.func34, Tryz.ntmps34;go_wp2_with (first | ((with_reducible refine aI (N := 5) rfl ?_); (try (refine jq (by rfl) ?_; dsimp only)); refine aZ (N := 5) (cs := #[.int .i64 Mc, .int .i64 Md, .string Me]) (t := 34) ?_; intro z hg xZ hbox hb; replace Y := RB Y hb; have a := ah.mk (hbox); have u := ah.mk ((by rw [hg]; exact (by first | exact HK.out.1 | exact (show Kept w _ (fun k_ => P4_ k_) from by repeat (first | (with_reducible first | exact HK.out | apply Kept.alloc | apply Kept.drewN | apply Kept.drew) | exact HK.out)).1) : w.heap.size ≤ z)); replace HK := ah.mk (Kept.below (S := (fun k_ => P4_ k_)) (by repeat (first | (with_reducible first | exact HK.out | apply Kept.alloc | apply Kept.drewN | apply Kept.drew) | exact HK.out)) hb); have ya := ah.mk ((by rw [hg]; exact (aH BL) : w0.heap.size ≤ z)); replace HB := BS (w := w0) hb; clear hb hbox hg; refine dx ?_));refine Hide.mk ?_;replace H := H.out;replace H := ifE H; rcases H with ⟨xc, xd, H⟩ | ⟨c6, xc, xd, H⟩
 ·replace H := ifP H; obtain ⟨c7, H⟩ := H;have xL := ah.mk c7;clear c7;obtain ⟨xM, E⟩ : ∃ y_ : List aj, y_ = (l4 ++ [a2]) := ⟨_, rfl⟩;replace H : (some xM) = some r := cW E H
  have xz := ah.mk E;clear E;obtain rfl := sI H;(try go_wp2_with (first | ((with_reducible refine dR (b := .append) (xs := #[.tmp 18, .tmp 20]) rfl ?_); (try (refine jq (by rfl) ?_; dsimp only)); at_builtin; refine Kd.gY Kd.string (w0 := w0) w0.heap.size rfl (.tmp 18) (.tmp 20) 29 9 (.string ⟨#[]⟩) 16 rfl Tryz.underlying29 wL rfl (by decide) (by omega) u9000_ l4 a2 [.string a2] (fun k_ => (P4_ k_ ∨ w.heap.size ≤ k_)) (fun _ => False) rfl rfl ?aP (fun _ hk => hk.elim) ?aF ?aO ?aB ?aS ?aL ?_; (case aP => exact rfl); (case aB => exact BL); (case aF => exact (fun k_ hk => (.inr (Nat.le_trans (by first | exact HK.out.1 | exact (show Kept w _ (fun k_ => P4_ k_) from by repeat (first | (with_reducible first | exact HK.out | apply Kept.alloc | apply Kept.drewN | apply Kept.drew | refine Kept.setCell ?_ (.inr u.out) _) | exact HK.out)).1) hk)))); (case aO => exact (RR Y)); (case aS => exact (aH BL)); (case aL => have := xL.out; omega); intro yp yb ho hb hg hat; rw [← xz.out] at ho; replace HK := ah.mk (Kept.uH (S := (fun k_ => P4_ k_)) hg (by repeat (first | (with_reducible first | exact HK.out | apply Kept.alloc | apply Kept.drewN | apply Kept.drew | refine Kept.setCell ?_ (.inr u.out) _) | exact HK.out)) (fun k_ e_ => (Y.out.1 k_ e_))); replace a := ah.mk (dZ (g := z) (o := .cells #[.int .i64 Mc, .int .i64 Md, .string Me] 34 (0, 0)) BK hg (Kd.lI Y.out a.out (by decide))); replace HB := ah.mk (hb); have xA := ah.mk (ho); clear Y; clear ho hb hg hat)));go_ret;exact ⟨_, EWW, (RR xA), BL, by repeat (first | (with_reducible first | exact HK.out | apply Kept.alloc | apply Kept.drewN | apply Kept.drew | refine Kept.setCell ?_ (.inr u.out) _) | exact HK.out)⟩
 ·have H' := ah.mk H;clear H;try go_wp2
  go_loopg [4, 11] k (fun kq v4 yc w' => ∃ (A : List aj) (x : Int), yc = .int .i64 x ∧ ah (bq.l0 kq l1 a2 D A x Mc Md Me = some r) ∧ ah (kq ≤ k) ∧ ah (Kd.R Kd.string 9 w' w0.heap.size (fun k_ => (P4_ k_ ∨ w.heap.size ≤ k_)) v4 A) ∧ ah (w'.heap[z]? = some (.cells #[.int .i64 Mc, .int .i64 Md, .string Me] 34 (0, 0))) ∧ ah (Kept w w' (fun k_ => P4_ k_)) ∧ ah (Below w0.heap.size w0 w'))
  case atStart => exact ⟨_, _, EQ, H', ⟨nR _⟩, ⟨(RR Y)⟩, ⟨BK⟩, ⟨by repeat (first | (with_reducible first | exact HK.out | apply Kept.alloc | apply Kept.drewN | apply Kept.drew | refine Kept.setCell ?_ (.inr u.out) _) | exact HK.out)⟩, ⟨BL⟩⟩
  case round =>
   clear H';(try clear c1);(try clear c6);(try clear xc);(try clear xd);obtain ⟨A, x, rfl, HA, Z, m, a, HK, HB⟩ := hrel
   cases gk with
   | zero => exact absurd HA.out (by simp [bq.l0])
   | succ k1 =>
    have H := HA.out;clear HA;simp only [bq.l0] at H;have xe := ah.mk H;clear H;go_upto_region 4 with (fail)
    go_cut [33] (fun yd wc => ∃ (kq : Nat) (L : Bool), yd = .bool L ∧ ah (bq.j1 kq l1 a2 D A x L Mc Md Me = some r) ∧ ah (kq ≤ k1) ∧ ah (Kd.R Kd.string 9 wc w0.heap.size (fun k_ => (P4_ k_ ∨ w.heap.size ≤ k_)) u4 A) ∧ ah (wc.heap[z]? = some (.cells #[.int .i64 Mc, .int .i64 Md, .string Me] 34 (0, 0))) ∧ ah (Kept w wc (fun k_ => P4_ k_)) ∧ ah (Below w0.heap.size w0 wc))
    case first =>
     have H := xe.out;clear xe;replace H := ifN H; obtain ⟨xf, H⟩ := H;(first | rw [xf] | (simp only [iJ, jm]; rw [xf]) | skip);replace H := ifN H; obtain ⟨ye, H⟩ := H;replace H := ifD H; rcases H with ⟨xB, H⟩ | ⟨xB, H⟩
     ·have H' := ah.mk H;clear H;have G : 0 ≤ (D : Int) := OD;have I : D < (l1.length : Int) := OD;obtain ⟨xC, xu, xv, xg, xh, hl327_0, hi327_0⟩ := Fb (Kd.tH xt.out HK.out) D G I
      cases xg
      have xi := ah.mk hi327_0;have xj := ah.mk hl327_0;clear hi327_0 hl327_0;replace G := eq_true G;replace I := eq_true I;obtain ⟨xV, xW, xw⟩ := Kd.dI m.out;subst xw;go_wp2;go_meet;case rel => exact ⟨_, _, EQ, H', ⟨by have := Z.out; first | omega | exact nR _⟩, ⟨(RR m)⟩, ⟨BK⟩, ⟨by repeat (first | (with_reducible first | exact HK.out | apply Kept.alloc | apply Kept.drewN | apply Kept.drew | refine Kept.setCell ?_ (.inr u.out) _) | exact HK.out)⟩, ⟨BL⟩⟩
     ·have H' := ah.mk H;clear H;have G : 0 ≤ (D : Int) := OD;have I : D < (l1.length : Int) := OD;obtain ⟨xC, xu, xv, xg, xh, hl327_0, hi327_0⟩ := Fb (Kd.tH xt.out HK.out) D G I
      cases xg
      have xi := ah.mk hi327_0;have xj := ah.mk hl327_0;clear hi327_0 hl327_0;replace G := eq_true G;replace I := eq_true I;go_wp2;go_meet;case rel => exact ⟨_, _, EQ, H', ⟨by have := Z.out; first | omega | exact nR _⟩, ⟨(RR m)⟩, ⟨BK⟩, ⟨by repeat (first | (with_reducible first | exact HK.out | apply Kept.alloc | apply Kept.drewN | apply Kept.drew | refine Kept.setCell ?_ (.inr u.out) _) | exact HK.out)⟩, ⟨BL⟩⟩
    case rest =>
     clear xe;(try clear c1);(try clear c6);(try clear xc);(try clear xd);obtain ⟨kq, L, rfl, HA, P, m, a, HK, HB⟩ := hcut
     cases kq with
     | zero => exact absurd HA.out (by simp [bq.j1])
     | succ xa =>
      have H := HA.out;clear HA;simp only [bq.j1] at H;replace H := ifB H; rcases H with ⟨rfl, H⟩ | ⟨rfl, H⟩
      ·replace H := ifN H; obtain ⟨yf, H⟩ := H;replace H := ifN H; obtain ⟨yg, H⟩ := H;replace H := ifN H; obtain ⟨yh, H⟩ := H;replace H := ifN H; obtain ⟨yi, H⟩ := H;replace H := be H; obtain ⟨⟨xk, yq⟩, yj, H⟩ := H;dsimp only at H;replace H := ah.mk H;(try go_wp2);replace m := ah.mk (Kd.dM m.out);replace a := ah.mk (aT a.out);replace HK := ah.mk (Kept.drew HK.out);replace HB := ah.mk (cK HB.out);have xl : 0 ≤ (D : Int) := OD;have xm : D < (l1.length : Int) := OD;obtain ⟨xn, xX, xx, xN, J, hl328_0, hi328_0⟩ := Fb (Kd.tH xt.out HK.out) D xl xm;have xO := J
       cases xN
       have y := ah.mk hi328_0;have xP := ah.mk hl328_0;clear hi328_0 hl328_0;replace xl := eq_true xl;replace xm := eq_true xm;have xo : 0 ≤ (x : Int) := OD;have xp : x < ((nO l1 D).length : Int) := OD;obtain ⟨xq, xQ, U⟩ := Kd.jF (by repeat (first | (with_reducible exact y.out) | (with_reducible refine Kd.ig ?_ _) | (with_reducible refine Kd.iq ?_ _) | (with_reducible refine Kd.jh ?_) | exact y.out)) x xo xp
       cases xQ
       replace xo := eq_true xo;replace xp := eq_true xp;refine jA (n := 16) (S := fun w' => w'.cell? ⟨z, 0, none⟩ = some (.int .i64 Mc) ∧ w'.cell? ⟨z, 1, none⟩ = some (.int .i64 Md) ∧ w'.cell? ⟨z, 2, none⟩ = some (.string Me) ∧ w'.cell? (xn.add (D).toNat) = some (.slice (some xq) (nO l1 D).length xx) ∧ w'.cell? (xq.add (x).toNat) = some (.string (gq ByteArray.empty (nO l1 D) x))) (ds := []) #[F,F,F,F,F,F,F,F,F,F,F,F,F,F,F,F] (by kernel_rfl) rfl rfl ⟨(ak a.out 0).trans rfl, (ak a.out 1).trans rfl, (ak a.out 2).trans rfl, J, U⟩ (fun hHeld => ?_); refine iG bq.DX bq.uh (fun HT_ HW_ => ?_);generalize wc.drew = yk at m a HK HB y J U hHeld ⊢;refine pS 1 (some 38) #[F,T,F,F,F,F,F,F,F,F,F,F,F,F,F,F] ?_;refine pS 2 (some 39) #[F,T,T,F,F,F,F,F,F,F,F,F,F,F,F,F] ?_;refine pS 3 (some 40) #[F,T,T,T,F,F,F,F,F,F,F,F,F,F,F,F] ?_;refine pS 4 (some 41) #[F,T,T,T,T,F,F,F,F,F,F,F,F,F,F,F] ?_;refine pS 5 (some 42) #[F,T,T,T,T,T,F,F,F,F,F,F,F,F,F,F] ?_;refine pS 7 (some 44) #[F,T,T,T,T,T,F,T,F,F,F,F,F,F,F,F] ?_;refine tS 0 (some 37) #[T,T,T,T,T,T,F,T,F,F,F,F,F,F,F,F] ?_;refine tS 6 (some 43) #[T,T,T,T,T,T,T,T,F,F,F,F,F,F,F,F] ?_;refine pS 8 (some 45) #[T,T,T,T,T,T,T,T,T,F,F,F,F,F,F,F] ?_;refine tS 9 (some 46) #[T,T,T,T,T,T,T,T,T,T,F,F,F,F,F,F] ?_;refine ko (i := 10) (N := some 47) #[T,T,T,T,T,T,T,T,T,T,T,F,F,F,F,F] rfl rfl (iM HT_.out (by kernel_rfl)) (by decide) (fun K hK => ?_);refine iX Tryz.func51 #[.agg #[.int .i64 Mc, .int .i64 Md, .string Me], .string a2, .int .i64 D, .string (gq ByteArray.empty (nO l1 D) x)] ?_;(with_reducible refine (bV.calls xa Mc Md Me a2 D (gq ByteArray.empty (nO l1 D) x) xk _ _ yj.out).mono ?_);rintro e yl ⟨rfl, hb⟩;have xR := (hb.cell (wB _ _ (hHeld.2.2.2.1))).trans (hHeld.2.2.2.1);have xS := (hb.cell (wB _ _ (hHeld.2.2.2.2))).trans (hHeld.2.2.2.2);refine ⟨_, rfl, ?_⟩;replace m := RB m hb;replace y := ah.mk (Kd.eP (by repeat (first | (with_reducible exact y.out) | (with_reducible refine Kd.ig ?_ _) | (with_reducible refine Kd.iq ?_ _) | (with_reducible refine Kd.jh ?_) | exact y.out)) hb);replace HK := ah.mk (Kept.below (S := (fun k_ => P4_ k_)) (by repeat (first | (with_reducible first | exact HK.out | apply Kept.alloc | apply Kept.drewN | apply Kept.drew | refine Kept.setCell ?_ (.inr u.out) _) | exact HK.out)) hb);replace a := KB a hb;replace HB := BS (w := w0) hb;(try clear hb);refine hK.out _ _ ⟨(ak a.out 0).trans rfl, (ak a.out 1).trans rfl, (ak a.out 2).trans rfl, xR, xS⟩ (fun hHeld => ?_);clear hK K;refine nrm (some 47) ?_;replace H := H.out;replace H := ifB H; rcases H with ⟨rfl, H⟩ | ⟨rfl, H⟩
       ·replace H := be H; obtain ⟨xT, ym, H⟩ := H;have H' := ah.mk H;clear H;refine pS 11 (some 36) #[T,T,T,T,T,T,T,T,T,T,T,T,F,F,F,F] ?_;refine pS 12 (some 48) #[T,T,T,T,T,T,T,T,T,T,T,T,T,F,F,F] ?_;refine pS 13 (some 49) #[T,T,T,T,T,T,T,T,T,T,T,T,T,T,F,F] ?_;refine pS 14 (some 12) #[T,T,T,T,T,T,T,T,T,T,T,T,T,T,T,F] ?_;refine pS 15 (some 13) #[T,T,T,T,T,T,T,T,T,T,T,T,T,T,T,T] ?_;refine iO (gG HT_.out (by kernel_rfl)) ?_;obtain ⟨xD, xE, xF, xG, xH, xI⟩ := cz3 a.out;obtain ⟨M, O, xy⟩ := Kd.dI m.out;subst xy;(try go_wp2_with (first | ((with_reducible refine aA (f := 34) rfl ?_); refine bg (some 57) Tryz.func34 #[.agg #[.int .i64 Mc, .int .i64 Md, .string Me], .slice (some xn) l1.length c1, .string xk, .int .i64 (wrap64 (D + 1)), .slice M A.length O] ?_; (with_reducible refine (ih xa (by have := Z.out; have := P.out; omega) Mc Md Me _ _ l1 xk (wrap64 (D + 1)) (fun k_ => some k_ = (.slice M A.length O : Value).ownBlock) (.slice M A.length O) A xT w0 _ ?s1_ ?s2_ ?s3_ ?s4_ ym.out).mono ?_); (case s1_ => exact BL); (case s2_ => exact Kd.rz xt.out (by repeat (first | (with_reducible first | exact HK.out | apply Kept.alloc | apply Kept.drewN | apply Kept.drew | refine Kept.setCell ?_ (.inr u.out) _) | exact HK.out)) (fun k_ hs_ => (fun e_ => (m.out.1 k_ e_.symm)) hs_)); (case s3_ => exact xY.out); (case s4_ => exact Kd.pO rfl m.out); rintro e yn ⟨yr, rfl, xU, hb, hkp⟩; refine ⟨_, rfl, ?_⟩; have xJ := ah.mk (Kd.dN (ok' := fun k_ => (P4_ k_ ∨ w.heap.size ≤ k_)) xU (fun k_ hk_ => Or.elim hk_ (fun hs_ => (m.out.1 k_ (hs_).symm)) (fun hn_ => (.inr (Nat.le_trans (by first | exact HK.out.1 | exact (show Kept w _ (fun k_ => P4_ k_) from by repeat (first | (with_reducible first | exact HK.out | apply Kept.alloc | apply Kept.drewN | apply Kept.drew | refine Kept.setCell ?_ (.inr u.out) _) | exact HK.out)).1) hn_))))); replace HK := ah.mk (Kept.then_ (S := (fun k_ => P4_ k_)) (by repeat (first | (with_reducible first | exact HK.out | apply Kept.alloc | apply Kept.drewN | apply Kept.drew | refine Kept.setCell ?_ (.inr u.out) _) | exact HK.out)) hkp (fun k_ hs_ => (fun e_ => (m.out.1 k_ e_.symm)) hs_)); replace a := ah.mk (Az BK hkp (fun hs_ => (fun e_ => (Kd.lI m.out a.out (by decide)) e_) hs_)); replace HB := ah.mk (hb); clear m; (try clear hb); (try clear hkp); (try clear xU))));go_roundg xa;case measure => have := Z.out; have := P.out; omega
        case rel => exact ⟨_, _, EQ, H', kt Z P, ⟨(RR xJ)⟩, ⟨BK⟩, ⟨by repeat (first | (with_reducible first | exact HK.out | apply Kept.alloc | apply Kept.drewN | apply Kept.drew | refine Kept.setCell ?_ (.inr u.out) _) | exact HK.out)⟩, ⟨BL⟩⟩
       ·have H' := ah.mk H;clear H;refine pS 11 (some 36) #[T,T,T,T,T,T,T,T,T,T,T,T,F,F,F,F] ?_;refine pS 12 (some 48) #[T,T,T,T,T,T,T,T,T,T,T,T,T,F,F,F] ?_;refine pS 13 (some 49) #[T,T,T,T,T,T,T,T,T,T,T,T,T,T,F,F] ?_;refine pS 14 (some 12) #[T,T,T,T,T,T,T,T,T,T,T,T,T,T,T,F] ?_;refine pS 15 (some 13) #[T,T,T,T,T,T,T,T,T,T,T,T,T,T,T,T] ?_;refine iO (gG HT_.out (by kernel_rfl)) ?_;(try go_wp2);go_roundg xa;case measure => have := Z.out; have := P.out; omega
        case rel => exact ⟨_, _, EQ, H', kt Z P, ⟨(RR m)⟩, ⟨BK⟩, ⟨by repeat (first | (with_reducible first | exact HK.out | apply Kept.alloc | apply Kept.drewN | apply Kept.drew | refine Kept.setCell ?_ (.inr u.out) _) | exact HK.out)⟩, ⟨BL⟩⟩
      ·obtain rfl := sI H;go_wp2;go_ret;exact ⟨_, EWW, (RR m), BL, by repeat (first | (with_reducible first | exact HK.out | apply Kept.alloc | apply Kept.drewN | apply Kept.drew | refine Kept.setCell ?_ (.inr u.out) _) | exact HK.out)⟩
def fQ.l0 : Nat → List S57 → aj → Int → Int → Option (Bool)
 | 0, _, _, _, _ => none
 | k + 1, a, b, c, d => if d < (a.length : Int) then if 0 ≤ d then if ((gP a d).f0).toList = b.toList then if ((gP a d).f1) = c then some true else fQ.l0 k a b c (wrap64 (d + 1)) else fQ.l0 k a b c (wrap64 (d + 1)) else none else some false
def fQ.f (k : Nat) (l0 : List S57) (a1 : aj) (a2 : Int) : Option (Bool) := fQ.l0 k l0 a1 a2 0
theorem fQ.calls (k : Nat) (A0 : Option Addr) (c0 : Nat) (l0 : List S57) (a1 : aj) (a2 : Int) (r : Bool) (w : World) (D : Kd.C k57 w A0 l0.length l0) (E : l0.length ≤ c0) (h : fQ.f k l0 a1 a2 = some r) :
  Calls Tryz.prog 82 #[.slice A0 l0.length c0, .string a1, .int .i64 a2] w fun e w' => e = .returned (.bool r) ∧ dQ w w' := by
 have G := ah.mk D;have xg := ah.mk E;clear D E;have H : (fQ.l0 k l0 a1 a2 0) = some r := h;clear h;have H' := ah.mk H;clear H;go_enter Tryz.func82, Tryz.ntmps82;go_wp2
 go_loopg [7] k (fun kq v7 w' => ∃ (a : Int), v7 = .int .i64 a ∧ ah (fQ.l0 kq l0 a1 a2 a = some r) ∧ ah (kq ≤ k) ∧ dQ w w')
 case atStart => exact ⟨_, EQ, H', ⟨nR _⟩, DR⟩
 case round =>
  clear H';obtain ⟨a, rfl, HA, y, ⟨m1, rfl⟩⟩ := hrel
  cases gk with
  | zero => exact absurd HA.out (by simp [fQ.l0])
  | succ k1 =>
   have H := HA.out;clear HA;simp only [fQ.l0] at H;replace H := ifD H; rcases H with ⟨I, H⟩ | ⟨I, H⟩
   ·replace H := ifN H; obtain ⟨xf, H⟩ := H;have m : 0 ≤ (a : Int) := OD;have o : a < (l0.length : Int) := OD;obtain ⟨z, J, K, L⟩ := Aw G.out a m o
    cases J
    replace m := eq_true m;replace o := eq_true o;replace H := ifE H; rcases H with ⟨M, O, H⟩ | ⟨c6, M, O, H⟩
    ·have u : 0 ≤ (a : Int) := OD;have x : a < (l0.length : Int) := OD;obtain ⟨A, P, U, Y⟩ := Aw G.out a u x;obtain rfl : z = A := (by injection P);replace u := eq_true u;replace x := eq_true x;replace H := ifE H; rcases H with ⟨Z, xa, H⟩ | ⟨c7, Z, xa, H⟩
     ·obtain rfl := sI H;go_wp2;go_ret;exact ⟨EQ, DR⟩
     ·have H' := ah.mk H;clear H;go_wp2;go_roundg k1;case measure => have := y.out; omega
      case rel => exact ⟨_, EQ, H', ks y, DR⟩
    ·have H' := ah.mk H;clear H;go_wp2;go_roundg k1;case measure => have := y.out; omega
     case rel => exact ⟨_, EQ, H', ks y, DR⟩
   ·obtain rfl := sI H;go_wp2;go_ret;exact ⟨EQ, DR⟩
mutual
def aY.l0 : Nat → aj → aj → Int → Option (aj)
 | 0, _, _, _ => none
 | k + 1, a, b, c => if c ≤ 122 then (bG.f k a).bind fun d => aY.j1 k a b c d else aY.j1 k a b c false
def aY.j1 : Nat → aj → aj → Int → Bool → Option (aj)
 | 0, _, _, _, _ => none
 | k + 1, a, b, c, d => if d = true then aY.l1 k a b c 0 else some b
def aY.l1 : Nat → aj → aj → Int → Int → Option (aj)
 | 0, _, _, _, _ => none
 | k + 1, a, b, c, d => if d < (a.size : Int) then (if 0 ≤ d then (if (wrap32 (bt a d)) = c then (if d ≤ (wrap64 (d + 1)) then (if (wrap64 (d + 1)) ≤ (a.size : Int) then (if b.size + (a.extract (d : Int).toNat ((wrap64 (d + 1)) : Int).toNat).size ≤ 9223372036854775807 then (aY.l1 k a (b ++ (a.extract (d : Int).toNat ((wrap64 (d + 1)) : Int).toNat)) c (wrap64 (d + 1))) else none) else none) else none) else aY.l1 k a b c (wrap64 (d + 1))) else none) else aY.l0 k a b (wrap32 (c + 1))
end
def aY.f (k : Nat) (a0 : aj) : Option (aj) := aY.l0 k a0 (⟨#[]⟩ : aj) 97
theorem aY.calls (k : Nat) (E r : aj) (w : World) (h : aY.f k E = some r) :
  Calls Tryz.prog 160 #[.string E] w fun e w' => e = .returned (.string r) ∧ dQ w w' := by
 unfold aY.f at h;have H := h;clear h;have H' := ah.mk H;clear H;go_enter Tryz.func160, Tryz.ntmps160;go_wp2
 go_loopg [3, 4] k (fun kq Y v4 w' => ∃ (z : aj) (m : Int), Y = .string z ∧ v4 = .int .i32 m ∧ ah (aY.l0 kq E z m = some r) ∧ ah (kq ≤ k) ∧ dQ w w')
 case atStart => exact ⟨_, _, EQ, EQ, H', ⟨nR _⟩, DR⟩
 case round =>
  clear H';obtain ⟨z, m, rfl, rfl, HA, o, ⟨m1, rfl⟩⟩ := hrel
  cases gk with
  | zero => exact absurd HA.out (by simp [aY.l0])
  | succ k1 =>
   have H := HA.out;clear HA;simp only [aY.l0] at H;have G := ah.mk H;clear H;go_upto_region 3 with (fail)
   go_cut [11] (fun Z wc => ∃ (kq : Nat) (y : Bool), Z = .bool y ∧ ah (aY.j1 kq E z m y = some r) ∧ ah (kq ≤ k1) ∧ dQ w wc)
   case first =>
    have H := G.out;clear G;replace H := ifD H; rcases H with ⟨u, H⟩ | ⟨u, H⟩
    ·(first | rw [u] | (simp only [iJ, jm]; rw [u]) | skip);replace H := be H; obtain ⟨J, A4, H⟩ := H;have H' := ah.mk H;clear H;go_wp2_with (first | (go_at_call 117; (with_reducible refine (bG.calls k1 E J _ A4.out).mono ?_); rintro e w' ⟨rfl, ⟨nd, rfl⟩⟩));go_meet;case rel => exact ⟨_, _, EQ, H', ⟨by have := o.out; first | omega | exact nR _⟩, DR⟩
    ·(first | rw [u] | (simp only [iJ, jm]; rw [u]) | skip);have H' := ah.mk H;clear H;go_wp2;go_meet;case rel => exact ⟨_, _, EQ, H', ⟨by have := o.out; first | omega | exact nR _⟩, DR⟩
   case rest =>
    clear G;obtain ⟨kq, y, rfl, HA, A, ⟨mc1, rfl⟩⟩ := hcut
    cases kq with
    | zero => exact absurd HA.out (by simp [aY.j1])
    | succ K =>
     have H := HA.out;clear HA;simp only [aY.j1] at H;replace H := ifB H; rcases H with ⟨rfl, H⟩ | ⟨rfl, H⟩
     ·have H' := ah.mk H;clear H;go_wp2
      go_loopg [3, 5] K (fun kq Y v5 w' => ∃ (x : aj) (a : Int), Y = .string x ∧ v5 = .int .i64 a ∧ ah (aY.l1 kq E x m a = some r) ∧ ah (kq ≤ K) ∧ dQ w w')
      case atStart => exact ⟨_, _, EQ, EQ, H', ⟨nR _⟩, DR⟩
      case round =>
       clear H';obtain ⟨x, a, rfl, rfl, HA, D, ⟨m3, rfl⟩⟩ := hrel
       cases gk with
       | zero => exact absurd HA.out (by simp [aY.l1])
       | succ k3 =>
        have H := HA.out;clear HA;simp only [aY.l1] at H;replace H := ifD H; rcases H with ⟨L, H⟩ | ⟨L, H⟩
        ·replace H := ifN H; obtain ⟨xi, H⟩ := H;have p8 : (0 ≤ (a : Int)) = True := OT;have q8 : (a < (E.size : Int)) = True := OT;have hx8 := gN E a;replace H := ifE H; rcases H with ⟨M, O, H⟩ | ⟨c9, M, O, H⟩
         ·have xa := eq_true (OD : 0 ≤ a);replace H := ifP H; obtain ⟨P, H⟩ := H;have xb := eq_true P;have xc : decide (a ≤ (wrap64 (a + 1))) = true := dT P;replace H := ifP H; obtain ⟨U, H⟩ := H;have xd := eq_true U;have xe : decide ((wrap64 (a + 1)) ≤ (E.size : Int)) = true := dT U;replace H := ifP H; obtain ⟨I, H⟩ := H;have xf := eq_true I;have xg : decide (x.size + (E.extract (a : Int).toNat ((wrap64 (a + 1)) : Int).toNat).size ≤ 9223372036854775807) = true := dT I;(try have xh : (9223372036854775807 < x.size + (E.extract (a : Int).toNat ((wrap64 (a + 1)) : Int).toNat).size) = False := eq_false (Nat.not_lt.2 I));have H' := ah.mk H;clear H;go_wp2;go_roundg k3;case measure => have := o.out; have := A.out; have := D.out; omega
          case rel => exact ⟨_, _, EQ, EQ, H', ⟨by have := o.out; have := A.out; have := D.out; omega⟩, DR⟩
         ·have H' := ah.mk H;clear H;go_wp2;go_roundg k3;case measure => have := o.out; have := A.out; have := D.out; omega
          case rel => exact ⟨_, _, EQ, EQ, H', ⟨by have := o.out; have := A.out; have := D.out; omega⟩, DR⟩
        ·have H' := ah.mk H;clear H;go_wp2;go_roundg k3;case measure => have := o.out; have := A.out; have := D.out; omega
         case rel => exact ⟨_, _, EQ, EQ, H', ⟨by have := o.out; have := A.out; have := D.out; omega⟩, DR⟩
     ·obtain rfl := sI H;go_wp2;go_ret;exact ⟨EQ, DR⟩
def iU.f (k : Nat) (a0 a1 : aj) : Option (Bool) := (bG.f k a0).bind fun t338 => if t338 = true then (bG.f k a1).bind fun t339 => if t339 = true then if a0.toList = a1.toList then some false else (aY.f k a0).bind fun t340 => (aY.f k a1).bind fun t341 => some (t340.toList == t341.toList) else some false else some false
theorem iU.calls (k : Nat) (a y : aj) (r : Bool) (w : World) (h : iU.f k a y = some r) :
  Calls Tryz.prog 138 #[.string a, .string y] w fun e w' => e = .returned (.bool r) ∧ dQ w w' := by
 unfold iU.f at h;have H := h;clear h;replace H := be H; obtain ⟨z, D, H⟩ := H;replace H := ah.mk H;go_enter Tryz.func138, Tryz.ntmps138;go_wp2_with (first | ((with_reducible refine aA (f := 117) rfl ?_); refine bg (some 6) Tryz.func117 #[.string a] ?_; (with_reducible refine (bG.calls k a _ _ D.out).mono ?_); rintro e w' ⟨rfl, ⟨nd, rfl⟩⟩; refine ⟨_, rfl, ?_⟩; refine dx ?_));refine Hide.mk ?_;replace H := H.out;replace H := ifB H; rcases H with ⟨rfl, H⟩ | ⟨rfl, H⟩
 ·replace H := be H; obtain ⟨A, E, H⟩ := H;replace H := ah.mk H;go_wp2_with (first | (go_at_call 117; (with_reducible refine (bG.calls k y _ _ E.out).mono ?_); rintro e w' ⟨rfl, ⟨nd, rfl⟩⟩; refine dx ?_));refine Hide.mk ?_;replace H := H.out;replace H := ifB H; rcases H with ⟨rfl, H⟩ | ⟨rfl, H⟩
  ·replace H := ifE H; rcases H with ⟨m, o, H⟩ | ⟨c7, m, o, H⟩
   ·obtain rfl := sI H;(try go_wp2);go_ret;exact ⟨EQ, DR⟩
   ·replace H := be H; obtain ⟨u, G, H⟩ := H;replace H := be H; obtain ⟨x, I, H⟩ := H;obtain rfl := sI H;(try go_wp2_with (first | (go_at_call 160; (with_reducible refine (aY.calls k a u _ G.out).mono ?_); rintro e w' ⟨rfl, ⟨nd, rfl⟩⟩) | (go_at_call 160; (with_reducible refine (aY.calls k y x _ I.out).mono ?_); rintro e w' ⟨rfl, ⟨nd, rfl⟩⟩)));go_ret;exact ⟨EQ, DR⟩
  ·obtain rfl := sI H;(try go_wp2);go_ret;exact ⟨EQ, DR⟩
 ·obtain rfl := sI H;(try go_wp2);go_ret;exact ⟨EQ, DR⟩
def dz.l0 (M : Nat → List dU → Int → aj → Option Bool) : Nat → List dU → aj → Int → Int → aj → Int → Int → Option (Bool)
 | 0, _, _, _, _, _, _, _ => none
 | k + 1, a, b, c, d, e, f, g => if c < (b.size : Int) then if 0 ≤ c then if c ≤ (b.size : Int) then (M k a f (b.extract 0 (c : Int).toNat)).bind fun h => if h = true then (M k a g (b.extract (c : Int).toNat b.size)).bind fun i => if i = true then some true else dz.l0 M k a b (wrap64 (c + 1)) d e f g else dz.l0 M k a b (wrap64 (c + 1)) d e f g else none else none else some false
def dz.f (M : Nat → List dU → Int → aj → Option Bool) (k : Nat) (l0 : List dU) (a1_0 : Int) (a1_1 : aj) (a1_2 a1_3 : Int) (a2 : aj) : Option (Bool) := dz.l0 M k l0 a2 1 a1_0 a1_1 a1_2 a1_3
def dz.T4 : Bool × List (List Nat × List Nat) := (true, [([], []), ([], []), ([1], [1]), ([], []), ([], []), ([3, 4], [3, 4]), ([0, 2, 5], [0, 2, 5]), ([6, 6], [6]), ([7], [7]), ([7], [7]), ([9, 7], [7, 9]), ([7], [7]), ([7], [7]), ([11, 12, 7], [7, 11, 12]), ([8, 10, 13, 7, 7], [7, 8, 10, 13]), ([7, 14], [7, 14])])
def dz.B4 : List Nat := [0, 0, 2, 0, 0, 24, 63, 127, 255, 255, 767, 255, 255, 6399, 16383, 32767]
theorem dz.LX : kX .any (opsOf Tryz.f139 4) = dz.T4 := by kernel_rfl
theorem dz.Lx : jg dz.T4.2 dz.B4 = true := by kernel_rfl
theorem dz.calls (M : Nat → List dU → Int → aj → Option Bool) (hM : ∀ (j : Nat) (A : Option Addr) (c : Nat) (l : List dU) (i : Int) (s : aj) (b : Bool) (W : World), Kd.C jV W A l.length l → l.length ≤ c → M j l i s = some b → Calls Tryz.prog 118 #[.slice A l.length c, .int .i64 i, .string s] W fun e w' => e = .returned (.bool b) ∧ Below W.heap.size W w') (k : Nat) (A0 : Option Addr) (c0 : Nat) (l0 : List dU) (y : Int) (z : aj) (o u : Int) (D : aj) (r : Bool) (w : World) (P : Kd.C jV w A0 l0.length l0) (U : l0.length ≤ c0) (h : dz.f M k l0 y z o u D = some r) :
  Calls Tryz.prog 139 #[.slice A0 l0.length c0, .agg #[.int .i64 y, .string z, .int .i64 o, .int .i64 u], .string D] w fun e w' => e = .returned (.bool r) ∧ Below w.heap.size w w' := by
 have xc := Tryz.underlying116;have E := ah.mk P;have G := ah.mk U;clear P U;have HB := ah.mk (bR w.heap.size w);have HMM := ah.mk hM;clear hM;unfold dz.f at h;have H := h;clear h;have H' := ah.mk H;clear H;go_enter Tryz.func139, Tryz.ntmps139;go_wp2_with (first | ((with_reducible refine aI (N := 4) rfl ?_); refine aZ (N := 4) (cs := #[.int .i64 y, .string z, .int .i64 o, .int .i64 u]) (t := 116) ?_; intro x hg w4 hbox hb; have a := ah.mk hbox; have J := SZ (w := w) hg; have xd := J; replace HB := BS (w := w) hb; clear hb hbox hg))
 go_loopg [7] k (fun kq v7 w' => ∃ (m : Int), v7 = .int .i64 m ∧ ah (dz.l0 M kq l0 D m y z o u = some r) ∧ ah (kq ≤ k) ∧ ah (w'.heap[x]? = some (.cells #[.int .i64 y, .string z, .int .i64 o, .int .i64 u] 116 (0, 0))) ∧ ah (Below w.heap.size w w'))
 case atStart => exact ⟨_, EQ, H', ⟨nR _⟩, ⟨BK⟩, ⟨BL⟩⟩
 case round =>
  clear H';obtain ⟨m, rfl, HA, I, a, HB⟩ := hrel
  cases gk with
  | zero => exact absurd HA.out (by simp [dz.l0])
  | succ k1 =>
   have H := HA.out;clear HA;simp only [dz.l0] at H;replace H := ifD H; rcases H with ⟨Y, H⟩ | ⟨Y, H⟩
   ·replace H := ifP H; obtain ⟨c6, H⟩ := H;have xh := eq_true c6;have xi : decide (0 ≤ m) = true := dT c6;clear c6;replace H := ifP H; obtain ⟨c7, H⟩ := H;have xj := eq_true c7;have xk : decide (m ≤ (D.size : Int)) = true := dT c7;clear c7;replace H := be H; obtain ⟨xl, A8, H⟩ := H;replace H := ah.mk H;(try go_wp2);replace a := ah.mk (aT a.out);replace HB := ah.mk (cK HB.out);refine jA (n := 16) (S := fun w' => w'.cell? ⟨x, 0, none⟩ = some (.int .i64 y) ∧ w'.cell? ⟨x, 1, none⟩ = some (.string z) ∧ w'.cell? ⟨x, 2, none⟩ = some (.int .i64 o) ∧ w'.cell? ⟨x, 3, none⟩ = some (.int .i64 u)) (ds := []) #[F,F,F,F,F,F,F,F,F,F,F,F,F,F,F,F] (by kernel_rfl) rfl rfl ⟨(ak a.out 0).trans rfl, (ak a.out 1).trans rfl, (ak a.out 2).trans rfl, (ak a.out 3).trans rfl⟩ (fun hHeld => ?_); refine iG dz.LX dz.Lx (fun HT_ HW_ => ?_);generalize wr.drew = xe at a HB hHeld ⊢;refine pS 0 (some 14) #[T,F,F,F,F,F,F,F,F,F,F,F,F,F,F,F] ?_;refine pS 1 (some 15) #[T,T,F,F,F,F,F,F,F,F,F,F,F,F,F,F] ?_;refine pS 3 (some 17) #[T,T,F,T,F,F,F,F,F,F,F,F,F,F,F,F] ?_;refine pS 4 (some 18) #[T,T,F,T,T,F,F,F,F,F,F,F,F,F,F,F] ?_;refine pS 5 (some 19) #[T,T,F,T,T,T,F,F,F,F,F,F,F,F,F,F] ?_;refine tS 2 (some 16) #[T,T,T,T,T,T,F,F,F,F,F,F,F,F,F,F] ?_;refine ko (i := 6) (N := some 20) #[T,T,T,T,T,T,T,F,F,F,F,F,F,F,F,F] rfl rfl (iM HT_.out (by kernel_rfl)) (by decide) (fun K hK => ?_);refine iX Tryz.func118 #[.slice A0 l0.length c0, .int .i64 o, .string (D.extract 0 (m : Int).toNat)] ?_;replace H := H.out;replace H := ifB H; rcases H with ⟨rfl, H⟩ | ⟨rfl, H⟩
    ·have xf := eq_true (OD : 0 ≤ m);have xg := eq_true (OD : m ≤ (D.size : Int));replace H := be H; obtain ⟨xn, Z, H⟩ := H;replace H := ah.mk H;(with_reducible refine (HMM.out k1 _ _ l0 o (D.extract 0 (m : Int).toNat) true _ ?s1_ ?s2_ A8.out).mono ?_);(case s1_ => exact CB E);(case s2_ => exact G.out);rintro e L ⟨rfl, hb⟩;refine ⟨_, rfl, ?_⟩;replace a := KB a hb;replace HB := BS (w := w) hb;(try clear hb);refine hK.out _ _ ⟨(ak a.out 0).trans rfl, (ak a.out 1).trans rfl, (ak a.out 2).trans rfl, (ak a.out 3).trans rfl⟩ (fun hHeld => ?_);clear hK K;refine nrm (some 20) ?_;refine pS 7 (some 21) #[T,T,T,T,T,T,T,T,F,F,F,F,F,F,F,F] ?_;refine pS 8 (some 22) #[T,T,T,T,T,T,T,T,T,F,F,F,F,F,F,F] ?_;refine pS 9 (some 23) #[T,T,T,T,T,T,T,T,T,T,F,F,F,F,F,F] ?_;refine pS 11 (some 25) #[T,T,T,T,T,T,T,T,T,T,F,T,F,F,F,F] ?_;refine pS 12 (some 26) #[T,T,T,T,T,T,T,T,T,T,F,T,T,F,F,F] ?_;refine pS 13 (some 27) #[T,T,T,T,T,T,T,T,T,T,F,T,T,T,F,F] ?_;refine tS 10 (some 24) #[T,T,T,T,T,T,T,T,T,T,T,T,T,T,F,F] ?_;refine ko (i := 14) (N := some 28) #[T,T,T,T,T,T,T,T,T,T,T,T,T,T,T,F] rfl rfl (iM HT_.out (by kernel_rfl)) (by decide) (fun K hK => ?_);refine iX Tryz.func118 #[.slice A0 l0.length c0, .int .i64 u, .string (D.extract (m : Int).toNat D.size)] ?_;replace H := H.out;replace H := ifB H; rcases H with ⟨rfl, H⟩ | ⟨rfl, H⟩
     ·obtain rfl := sI H;(with_reducible refine (HMM.out k1 _ _ l0 u (D.extract (m : Int).toNat D.size) true _ ?s1_ ?s2_ Z.out).mono ?_);(case s1_ => exact CB E);(case s2_ => exact G.out);rintro e O ⟨rfl, hb⟩;refine ⟨_, rfl, ?_⟩;replace a := KB a hb;replace HB := BS (w := w) hb;(try clear hb);refine hK.out _ _ ⟨(ak a.out 0).trans rfl, (ak a.out 1).trans rfl, (ak a.out 2).trans rfl, (ak a.out 3).trans rfl⟩ (fun hHeld => ?_);clear hK K;refine nrm (some 28) ?_;refine pS 15 (some 29) #[T,T,T,T,T,T,T,T,T,T,T,T,T,T,T,T] ?_;refine iO (gG HT_.out (by kernel_rfl)) ?_;(try go_wp2);go_ret;exact ⟨EWW, BL⟩
     ·have H' := ah.mk H;clear H;(with_reducible refine (HMM.out k1 _ _ l0 u (D.extract (m : Int).toNat D.size) false _ ?s1_ ?s2_ Z.out).mono ?_);(case s1_ => exact CB E);(case s2_ => exact G.out);rintro e O ⟨rfl, hb⟩;refine ⟨_, rfl, ?_⟩;replace a := KB a hb;replace HB := BS (w := w) hb;(try clear hb);refine hK.out _ _ ⟨(ak a.out 0).trans rfl, (ak a.out 1).trans rfl, (ak a.out 2).trans rfl, (ak a.out 3).trans rfl⟩ (fun hHeld => ?_);clear hK K;refine nrm (some 28) ?_;refine pS 15 (some 29) #[T,T,T,T,T,T,T,T,T,T,T,T,T,T,T,T] ?_;refine iO (gG HT_.out (by kernel_rfl)) ?_;(try go_wp2);go_roundg k1;case measure => have := I.out; omega
      case rel => exact ⟨_, EQ, H', ks I, ⟨BK⟩, ⟨BL⟩⟩
    ·have H' := ah.mk H;clear H;(with_reducible refine (HMM.out k1 _ _ l0 o (D.extract 0 (m : Int).toNat) false _ ?s1_ ?s2_ A8.out).mono ?_);(case s1_ => exact CB E);(case s2_ => exact G.out);rintro e L ⟨rfl, hb⟩;refine ⟨_, rfl, ?_⟩;replace a := KB a hb;replace HB := BS (w := w) hb;(try clear hb);refine hK.out _ _ ⟨(ak a.out 0).trans rfl, (ak a.out 1).trans rfl, (ak a.out 2).trans rfl, (ak a.out 3).trans rfl⟩ (fun hHeld => ?_);clear hK K;refine nrm (some 20) ?_;refine pS 7 (some 21) #[T,T,T,T,T,T,T,T,F,F,F,F,F,F,F,F] ?_;refine pU 8 (some 22) #[T,T,T,T,T,T,T,T,T,F,F,F,F,F,F,F] ?_;refine pU 9 (some 23) #[T,T,T,T,T,T,T,T,T,T,F,F,F,F,F,F] ?_;refine pU 10 (some 24) #[T,T,T,T,T,T,T,T,T,T,T,F,F,F,F,F] ?_;refine pU 11 (some 25) #[T,T,T,T,T,T,T,T,T,T,T,T,F,F,F,F] ?_;refine pU 12 (some 26) #[T,T,T,T,T,T,T,T,T,T,T,T,T,F,F,F] ?_;refine pU 13 (some 27) #[T,T,T,T,T,T,T,T,T,T,T,T,T,T,F,F] ?_;refine pU 14 (some 28) #[T,T,T,T,T,T,T,T,T,T,T,T,T,T,T,F] ?_;refine pS 15 (some 29) #[T,T,T,T,T,T,T,T,T,T,T,T,T,T,T,T] ?_;refine iO (gG HT_.out (by kernel_rfl)) ?_;(try go_wp2);go_roundg k1;case measure => have := I.out; omega
     case rel => exact ⟨_, EQ, H', ks I, ⟨BK⟩, ⟨BL⟩⟩
   ·obtain rfl := sI H;go_wp2;go_ret;exact ⟨EWW, BL⟩
end Go.Proofs.YtdbefmkcondbgaaGreatDoor.PFnExactHasOneSolution
