/- Walks of functions: what each computes. -/
import Derived.Test.YthkfjbodohaglaaGreatDoorZGradeOfG0
import Derived.Test.YthkfjbodohaglaaGreatDoorZGradeOfG1
import Derived.Test.YthkfjbodohaglaaGreatDoorZGradeOfG2
import Derived.Test.YthkfjbodohaglaaGreatDoorZGradeOfW
import Derived.Test.YthkfjbodohaglaaGreatDoorZGradeOfShelf
import Derived.Test.YthkfjbodohaglaaGreatDoorZGradeOfHandSort
import Derived.Test.YthkfjbodohaglaaGreatDoorZGradeOfHandForm
import Derived.Test.YthkfjbodohaglaaGreatDoorZGradeOfHandAlone
import Derived.Test.YthkfjbodohaglaaGreatDoorZGradeOfHandReach
import Derived.Test.YthkfjbodohaglaaGreatDoorZGradeOfHandPut
import Derived.Test.YthkfjbodohaglaaGreatDoorZGradeOfHandRepl
namespace Go.Proofs.YthkfjbodohaglaaGreatDoor.PFnExactGradeOf
open Go.RowKit Go.Proofs.YthkfjbodohaglaaGreatDoorW.PrintWords Go.Proofs.YthkfjbodohaglaaGreatDoorW.PrintLast Go.Proofs.YthkfjbodohaglaaGreatDoorW.PrintMore Go.Proofs.YthkfjbodohaglaaGreatDoor.Sq
attribute [local go_sem] jZ ko lT lU jw jy kg kr
set_option maxHeartbeats 8000000
set_option maxRecDepth 100000
set_option linter.unusedVariables false
set_option linter.unusedSimpArgs false
def fJ.l0 : Nat → ByteArray → Int → Option (Bool)
 | 0, _, _ => none
 | k + 1, a, b => if b < (a.size : Int) then (if 0 ≤ b then (if (bt a b) = 63 then (some true) else (fJ.l0 k a (wrap64 (b + 1)))) else (none)) else (some false)
def fJ.f (k : Nat) (a0 : ByteArray) : Option (Bool) := fJ.l0 k a0 0
theorem fJ.calls (k : Nat) (m : ByteArray) (r : Bool) (w : World) (h : fJ.f k m = some r) :
  Calls Tryz.prog 84 #[.string m] w fun e w' => e = .returned (.bool r) ∧ cB w w' := by
 have H : (fJ.l0 k m 0) = some r := h;clear h;have H' := ah.mk H;clear H;go_enter Tryz.func84, Tryz.ntmps84;go_wp2
 go_loopg [3] k (fun kq A w' => ∃ (a : Int), A = .int .i64 a ∧ ah (fJ.l0 kq m a = some r) ∧ ah (kq ≤ k) ∧ cB w w')
 case atStart => exact ⟨_, EQ, H', ⟨Nat.le_refl _⟩, DR⟩
 case round =>
  clear H';obtain ⟨a, rfl, HA, o, ⟨m1, rfl⟩⟩ := hrel
  cases gk with
  | zero => exact absurd HA.out (by simp [fJ.l0])
  | succ k1 =>
   have H := HA.out;clear HA;simp only [fJ.l0] at H;replace H := ifD H; rcases H with ⟨u, H⟩ | ⟨u, H⟩
   ·replace H := ifN H; obtain ⟨z, H⟩ := H;have D : (0 ≤ (a : Int)) = True := OT;have E : (a < (m.size : Int)) = True := OT;have hx4 := fT m a;replace H := ifE H; rcases H with ⟨x, y, H⟩ | ⟨c5, x, y, H⟩
    ·obtain rfl := Option.some.inj H;go_wp2;go_ret;exact ⟨EQ, DR⟩
    ·have H' := ah.mk H;clear H;go_wp2;go_roundg k1;case measure => have := o.out; omega
     case rel => exact ⟨_, EQ, H', ks o, DR⟩
   ·obtain rfl := Option.some.inj H;go_wp2;go_ret;exact ⟨EQ, DR⟩
def lJ.f (k : Nat) (Lh Li : Int) (Lj a1 : ByteArray) : Option (Bool) := (bM.f k Lh Li Lj a1).bind fun t299 => (if t299 = true then ((fJ.f k a1).bind fun t300 => (some (!t300))) else (some false))
theorem lJ.calls (k : Nat) (Lh Li : Int) (Lj D : ByteArray) (r : Bool) (w : World) (h : lJ.f k Lh Li Lj D = some r) :
  Calls Tryz.prog 48 #[.agg #[.int .i64 Lh, .int .i64 Li, .string Lj], .string D] w fun e w' => e = .returned (.bool r) ∧ Below w.heap.size w w' := by
 have L := Tryz.underlying34;have HB := ah.mk (Below.refl w.heap.size w);unfold lJ.f at h;have H := h;clear h;replace H := be H; obtain ⟨M, O, H⟩ := H;replace H := ah.mk H;go_enter Tryz.func48, Tryz.ntmps48;go_wp2_with (first | ((with_reducible refine aJ (N := 2) rfl ?_); refine aY (N := 2) (cs := #[.int .i64 Lh, .int .i64 Li, .string Lj]) (t := 34) ?_; intro G hg I hbox hb; have a := ah.mk hbox; have m := SZ (w := w) hg; have J := m; replace HB := BS (w := w) hb; clear hb hbox hg; obtain ⟨o, u, x, y, z, A⟩ := cz3 a.out) | ((with_reducible refine ay (f := 65) rfl ?_); refine aW (some 7) Tryz.func65 #[.agg #[.int .i64 Lh, .int .i64 Li, .string Lj], .string D] ?_; (with_reducible refine (bM.calls k Lh Li Lj D _ _ O.out).mono ?_); rintro e K ⟨rfl, hb⟩; refine ⟨_, rfl, ?_⟩; replace a := KB a hb; replace HB := BS (w := w) hb; (try clear hb); refine bP ?_));refine Hide.mk ?_;replace H := H.out;replace H := ifB H; rcases H with ⟨rfl, H⟩ | ⟨rfl, H⟩
 ·replace H := be H; obtain ⟨E, P, H⟩ := H;obtain rfl := Option.some.inj H;(try go_wp2_with (first | (go_at_call 84; (with_reducible refine (fJ.calls k D E _ P.out).mono ?_); rintro e w' ⟨rfl, ⟨nd, rfl⟩⟩)));go_ret;exact ⟨EWW, BL⟩
 ·obtain rfl := Option.some.inj H;(try go_wp2);go_ret;exact ⟨EWW, BL⟩
mutual
def bn.j0 : Nat → ByteArray → Int → List (S92) → Bool → Int → Int → ByteArray → Option (ByteArray)
 | 0, _, _, _, _, _, _, _ => none
 | k + 1, a, b, c, d, e, f, g => if d = true then (some (⟨#[]⟩ : ByteArray)) else (if 0 ≤ b then (if b < (c.length : Int) then ((bJ.f k e f g ((aQ c b).f0) ((aQ c b).f1) ((aQ c b).f2) ((aQ c b).f3)).bind fun h => (bn.l0 k a (⟨#[]⟩ : ByteArray) h 0)) else (none)) else (none))
def bn.l0 : Nat → ByteArray → ByteArray → List Int → Int → Option (ByteArray)
 | 0, _, _, _, _ => none
 | k + 1, a, b, c, d => if d < (c.length : Int) then (if 0 ≤ d then (if 0 ≤ (rd c d) then (if (rd c d) ≤ (wrap64 ((rd c d) + 1)) then (if (wrap64 ((rd c d) + 1)) ≤ (a.size : Int) then (if b.size + (a.extract ((rd c d) : Int).toNat ((wrap64 ((rd c d) + 1)) : Int).toNat).size ≤ 9223372036854775807 then (bn.l0 k a (b ++ (a.extract ((rd c d) : Int).toNat ((wrap64 ((rd c d) + 1)) : Int).toNat)) c (wrap64 (d + 1))) else (none)) else (none)) else (none)) else (none)) else (none)) else (some b)
end
def bn.f (k : Nat) (Lh Li : Int) (Lj a1 : ByteArray) (a2 : Int) : Option (ByteArray) := (aN.f k Lh Li Lj).bind fun t302 => ((bM.f k Lh Li Lj a1).bind fun t305 => (if t305 = true then ((bB.f a2 0 (wrap64 ((t302.length : Int) - 1))).bind fun t306 => (bn.j0 k a1 a2 t302 (!t306) Lh Li Lj)) else (bn.j0 k a1 a2 t302 true Lh Li Lj)))
def bn.T9 : Bool × List (List Nat × List Nat) := (true, [([], []), ([], []), ([], []), ([], []), ([2, 3], [2, 3]), ([4], [4]), ([], []), ([], []), ([6, 7], [6, 7]), ([8], [8]), ([9], [9]), ([1, 5, 10], [1, 5, 10]), ([0, 11], [0, 11]), ([12, 0, 1, 2, 3, 4, 5, 6, 7, 8, 9, 10, 11, 12], [0, 12])])
def bn.B9 : List Nat := [0, 0, 0, 0, 12, 28, 0, 0, 192, 448, 960, 2046, 4095, 8191]
theorem bn.Lg : kS .any (opsOf Tryz.f40 9) = bn.T9 := by kernel_rfl
theorem bn.KQ : iZ bn.T9.2 bn.B9 = true := by kernel_rfl
theorem bn.calls (k : Nat) (Lh Li : Int) (Lj a1 : ByteArray) (y : Int) (r : ByteArray) (w : World) (h : bn.f k Lh Li Lj a1 y = some r) :
  Calls Tryz.prog 40 #[.agg #[.int .i64 Lh, .int .i64 Li, .string Lj], .string a1, .int .i64 y] w fun e w' => e = .returned (.string r) ∧ Below w.heap.size w w' := by
 have yt := Tryz.underlying34;have yu := Tryz.underlying92;have HB := ah.mk (Below.refl w.heap.size w);unfold bn.f at h;have H := h;clear h;replace H := be H; obtain ⟨u, A4, H⟩ := H;have xr := ah.mk H;clear H;go_enter Tryz.func40, Tryz.ntmps40;go_upto_region 2 with (first | ((with_reducible refine aJ (N := 3) rfl ?_); (try (refine je (by rfl) ?_; dsimp only)); refine aY (N := 3) (cs := #[.int .i64 Lh, .int .i64 Li, .string Lj]) (t := 34) ?_; intro z hg w6 hbox hb; have m := ah.mk hbox; have xs := SZ (w := w) hg; have yb := xs; replace HB := BS (w := w) hb; clear hb hbox hg; obtain ⟨Z, xa, xb, xc, xd, xe⟩ := cz3 m.out) | ((with_reducible refine ay (f := 54) rfl ?_); refine aW (some 12) Tryz.func54 #[.agg #[.int .i64 Lh, .int .i64 Li, .string Lj]] ?_; (with_reducible refine (aN.calls k Lh Li Lj u _ A4.out).mono ?_); rintro e w8 ⟨xH, rfl, xj, hb⟩; refine ⟨_, rfl, ?_⟩; replace m := KB m hb; have A := ah.mk (Kd.cK xj (aM BL)); replace HB := BS (w := w) hb; (try clear hb); (try clear xj)));(try simp only [Act.put, List.setIfInBounds_toArray, List.set_cons_zero, List.set_cons_succ])
 go_cut [24] (fun yc wc => ∃ (kq : Nat) (U : Bool), yc = .bool U ∧ ah (bn.j0 kq a1 y u U Lh Li Lj = some r) ∧ ah (kq ≤ k) ∧ ah (Kd.R k92 92 wc w.heap.size (fun _ => True) xH u) ∧ ah (wc.heap[z]? = some (.cells #[.int .i64 Lh, .int .i64 Li, .string Lj] 34 (0, 0))) ∧ ah (Below w.heap.size w wc))
 case first =>
  have H := xr.out;clear xr;replace H := be H; obtain ⟨yv, A9, H⟩ := H;obtain ⟨xt, xu, xv, xw, xx, xy⟩ := cz3 m.out;replace H := ah.mk H;go_wp2_with (first | ((with_reducible refine ay (f := 65) rfl ?_); refine aW (some 15) Tryz.func65 #[.agg #[.int .i64 Lh, .int .i64 Li, .string Lj], .string a1] ?_; (with_reducible refine (bM.calls k Lh Li Lj a1 _ _ A9.out).mono ?_); rintro e yd ⟨rfl, hb⟩; refine ⟨_, rfl, ?_⟩; replace A := RB A hb; replace m := KB m hb; replace HB := BS (w := w) hb; (try clear hb); refine bP ?_));refine Hide.mk ?_;replace H := H.out;replace H := ifB H; rcases H with ⟨rfl, H⟩ | ⟨rfl, H⟩
  ·replace H := be H; obtain ⟨xI, ye, H⟩ := H;have H' := ah.mk H;clear H;obtain ⟨xV, xW, xp⟩ := Kd.dO A.out;subst xp;go_wp2_with (first | (go_at_call 56; (with_reducible refine (bB.calls y 0 (wrap64 ((u.length : Int) - 1)) xI _ ye.out).mono ?_); rintro e w' ⟨rfl, ⟨nd, rfl⟩⟩));go_meet;case rel => exact ⟨_, _, EQ, H', ⟨by first | omega | exact Nat.le_refl _⟩, ⟨(RR A)⟩, ⟨BK⟩, ⟨BL⟩⟩
  ·have H' := ah.mk H;clear H;(try go_wp2);go_meet;case rel => exact ⟨_, _, EQ, H', ⟨by first | omega | exact Nat.le_refl _⟩, ⟨(RR A)⟩, ⟨BK⟩, ⟨BL⟩⟩
 case rest =>
  clear xr;(try clear Z xa xb xc xd xe);obtain ⟨kq, U, rfl, HA, xJ, D, m, HB⟩ := hcut
  cases kq with
  | zero => exact absurd HA.out (by simp [bn.j0])
  | succ xz =>
   have H := HA.out;clear HA;simp only [bn.j0] at H;replace H := ifB H; rcases H with ⟨rfl, H⟩ | ⟨rfl, H⟩
   ·obtain rfl := Option.some.inj H;go_wp2;go_ret;exact ⟨EWW, BL⟩
   ·replace H := ifN H; obtain ⟨xA, H⟩ := H;replace H := ifN H; obtain ⟨xB, H⟩ := H;replace H := be H; obtain ⟨o, yf, H⟩ := H;have H' := ah.mk H;clear H;(try go_wp2);replace D := ah.mk (Kd.eH D.out);replace m := ah.mk (aH m.out);replace HB := ah.mk (dL HB.out);obtain ⟨xX, xY, xf⟩ := Kd.dO D.out;(first | subst xf | (injection xf with f1_ f2_ f3_; have f4_ := f1_.symm; have f5_ := f3_.symm; clear f1_ f2_ f3_; subst f4_; subst f5_));have xg : 0 ≤ (y : Int) := OD;have xh : y < (u.length : Int) := OD;obtain ⟨x, xK, E, G, I, J⟩ := pW (Kd.bO D.out).2.2 y xg xh
    cases xK
    replace xg := eq_true xg;replace xh := eq_true xh;refine jl (n := 7) (S := fun w' => w'.cell? ⟨z, 0, none⟩ = some (.int .i64 Lh) ∧ w'.cell? ⟨z, 1, none⟩ = some (.int .i64 Li) ∧ w'.cell? ⟨z, 2, none⟩ = some (.string Lj) ∧ w'.cell? (x.add ((y).toNat * 4)) = some (.int .i64 ((aQ u y).f0)) ∧ w'.cell? ⟨(x.add ((y).toNat * 4)).block, (x.add ((y).toNat * 4)).off + 1, none⟩ = some (.bool ((aQ u y).f1)) ∧ w'.cell? ⟨(x.add ((y).toNat * 4)).block, (x.add ((y).toNat * 4)).off + 2, none⟩ = some (.int .i64 ((aQ u y).f2)) ∧ w'.cell? ⟨(x.add ((y).toNat * 4)).block, (x.add ((y).toNat * 4)).off + 3, none⟩ = some (.int .i64 ((aQ u y).f3))) (ds := []) #[F,F,F,F,F,F,F] (by kernel_rfl) rfl rfl ⟨(ak m.out 0).trans rfl, (ak m.out 1).trans rfl, (ak m.out 2).trans rfl, E, G, I, J⟩ (fun hHeld => ?_);generalize wc.drew = yg at D m HB E G I J hHeld ⊢;refine puS (i := 1) (N := some 26) #[F,T,F,F,F,F,F] (by kernel_rfl) ?_;refine puS (i := 2) (N := some 27) #[F,T,T,F,F,F,F] (by kernel_rfl) ?_;refine puS (i := 3) (N := some 28) #[F,T,T,T,F,F,F] (by kernel_rfl) ?_;refine taS (i := 0) (N := some 25) #[T,T,T,T,F,F,F] (by kernel_rfl) hHeld ?_;refine taS (i := 4) (N := some 29) #[T,T,T,T,T,F,F] (by kernel_rfl) hHeld ?_;refine lG (i := 5) (N := some 30) #[T,T,T,T,T,T,F] rfl rfl (by kernel_rfl) (by decide) (fun K hK => ?_);refine jd Tryz.func66 #[.agg #[.int .i64 Lh, .int .i64 Li, .string Lj], .agg #[.int .i64 ((aQ u y).f0), .bool ((aQ u y).f1), .int .i64 ((aQ u y).f2), .int .i64 ((aQ u y).f3)]] ?_;(with_reducible refine (bJ.calls xz Lh Li Lj ((aQ u y).f0) ((aQ u y).f1) ((aQ u y).f2) ((aQ u y).f3) o _ yf.out).mono ?_);rintro e yh ⟨xL, rfl, xj, hb⟩;have xM := (hb.cell (World.block_lt_of_cell? _ _ (hHeld.2.2.2.1))).trans (hHeld.2.2.2.1);have xN := (hb.cell (World.block_lt_of_cell? _ _ (hHeld.2.2.2.2.1))).trans (hHeld.2.2.2.2.1);have xO := (hb.cell (World.block_lt_of_cell? _ _ (hHeld.2.2.2.2.2.1))).trans (hHeld.2.2.2.2.2.1);have xP := (hb.cell (World.block_lt_of_cell? _ _ (hHeld.2.2.2.2.2.2))).trans (hHeld.2.2.2.2.2.2);refine ⟨_, rfl, ?_⟩;replace D := RB D hb;have xC := ah.mk (Kd.cK xj (aM BL));replace m := KB m hb;replace HB := BS (w := w) hb;(try clear hb);(try clear xj);refine hK.out _ _ ⟨(ak m.out 0).trans rfl, (ak m.out 1).trans rfl, (ak m.out 2).trans rfl, xM, xN, xO, xP⟩ (fun hHeld => ?_);clear hK K;refine nrm (some 30) ?_;refine puS (i := 6) (N := some 9) #[T,T,T,T,T,T,T] (by kernel_rfl) ?_;refine iG (by kernel_rfl) ?_;try go_wp2
    go_loopg [8, 10] xz (fun kq v8 yi w' => ∃ (L : ByteArray) (a : Int), v8 = .string L ∧ yi = .int .i64 a ∧ ah (bn.l0 kq a1 L o a = some r) ∧ ah (kq ≤ xz) ∧ ah (Kd.R (Kd.int .i64) 3 w' w.heap.size (fun _ => True) xL o) ∧ ah (w'.heap[z]? = some (.cells #[.int .i64 Lh, .int .i64 Li, .string Lj] 34 (0, 0))) ∧ ah (Below w.heap.size w w'))
    case atStart => exact ⟨_, _, EQ, EQ, H', ⟨Nat.le_refl _⟩, ⟨(RR xC)⟩, ⟨BK⟩, ⟨BL⟩⟩
    case round =>
     clear H';(try clear yz);(try clear yA);(try clear xA);(try clear yB);(try clear xB);(try clear Z xa xb xc xd xe);(try clear E);(try clear G);(try clear I);(try clear J);(try clear xg);(try clear xh);obtain ⟨L, a, rfl, rfl, HA, xQ, M, m, HB⟩ := hrel
     cases gk with
     | zero => exact absurd HA.out (by simp [bn.l0])
     | succ k2 =>
      have H := HA.out;clear HA;simp only [bn.l0] at H;obtain ⟨xZ, ya, xq⟩ := Kd.dO M.out;subst xq;replace H := ifD H; rcases H with ⟨xD, H⟩ | ⟨xD, H⟩
      ·replace H := ifN H; obtain ⟨yj, H⟩ := H;replace H := ifP H; obtain ⟨xE, H⟩ := H;have yk := eq_true xE;have yl : decide (0 ≤ (rd o a)) = true := decide_eq_true xE;clear xE;replace H := ifP H; obtain ⟨xR, H⟩ := H;have ym := eq_true xR;have yn : decide ((rd o a) ≤ (wrap64 ((rd o a) + 1))) = true := decide_eq_true xR;replace H := ifP H; obtain ⟨xS, H⟩ := H;have yo := eq_true xS;have yp : decide ((wrap64 ((rd o a) + 1)) ≤ (a1.size : Int)) = true := decide_eq_true xS;by_cases xk : L.size + (a1.extract ((rd o a) : Int).toNat ((wrap64 ((rd o a) + 1)) : Int).toNat).size ≤ 9223372036854775807
       ·rw [if_pos xk] at H;have yq := eq_true xk;have yr : decide (L.size + (a1.extract ((rd o a) : Int).toNat ((wrap64 ((rd o a) + 1)) : Int).toNat).size ≤ 9223372036854775807) = true := decide_eq_true xk;try have xF : (9223372036854775807 < L.size + (a1.extract ((rd o a) : Int).toNat ((wrap64 ((rd o a) + 1)) : Int).toNat).size) = False := eq_false (Nat.not_lt.2 xk)
        have c29b3c : (9223372036854775807 < L.size + (((wrap64 ((rd o a) + 1))).toNat - ((rd o a)).toNat)) = False := by
         have hy_ : (wrap64 ((rd o a) + 1)) ≤ (a1.size : Int) := OD;have hs_ : (a1.extract ((rd o a) : Int).toNat ((wrap64 ((rd o a) + 1)) : Int).toNat).size = ((wrap64 ((rd o a) + 1))).toNat - ((rd o a)).toNat := by rw [ByteArray.size_extract]; omega
         rw [← hs_]; exact xF
        have H' := ah.mk H;clear H;(try go_wp2);replace M := ah.mk (Kd.eH M.out);replace m := ah.mk (aH m.out);replace HB := ah.mk (dL HB.out);have xl : 0 ≤ (a : Int) := OD;have xm : a < (o.length : Int) := OD;obtain ⟨Y, xT, O⟩ := Kd.mY (Kd.bO M.out).2.2 a xl xm
        cases xT
        replace xl := eq_true xl;replace xm := eq_true xm;have xn : 0 ≤ (a : Int) := OD;have xo : a < (o.length : Int) := OD;obtain ⟨xG, xU, P⟩ := Kd.mY (Kd.bO M.out).2.2 a xn xo;obtain rfl : Y = xG := (by injection xU);replace xn := eq_true xn;replace xo := eq_true xo;refine jl (n := 14) (S := fun w' => w'.cell? (Y.add (a).toNat) = some (.int .i64 (rd o a)) ∧ w'.cell? (Y.add (a).toNat) = some (.int .i64 (rd o a))) (ds := []) #[F,F,F,F,F,F,F,F,F,F,F,F,F,F] (by kernel_rfl) rfl rfl ⟨O, P⟩ (fun hHeld => ?_); refine iM bn.Lg bn.KQ (fun HT_ HW_ => ?_);generalize wr.drew = ys at M m HB O P hHeld ⊢;refine pS 0 (some 37) #[T,F,F,F,F,F,F,F,F,F,F,F,F,F] ?_;refine pS 1 (some 38) #[T,T,F,F,F,F,F,F,F,F,F,F,F,F] ?_;refine pS 2 (some 39) #[T,T,T,F,F,F,F,F,F,F,F,F,F,F] ?_;refine pS 3 (some 40) #[T,T,T,T,F,F,F,F,F,F,F,F,F,F] ?_;refine pS 4 (some 41) #[T,T,T,T,T,F,F,F,F,F,F,F,F,F] ?_;refine pS 6 (some 43) #[T,T,T,T,T,F,T,F,F,F,F,F,F,F] ?_;refine pS 7 (some 44) #[T,T,T,T,T,F,T,T,F,F,F,F,F,F] ?_;refine pS 8 (some 45) #[T,T,T,T,T,F,T,T,T,F,F,F,F,F] ?_;refine tS 5 (some 42) #[T,T,T,T,T,T,T,T,T,F,F,F,F,F] ?_;refine tS 9 (some 46) #[T,T,T,T,T,T,T,T,T,T,F,F,F,F] ?_;refine pS 10 (some 47) #[T,T,T,T,T,T,T,T,T,T,T,F,F,F] ?_;refine pS 11 (some 48) #[T,T,T,T,T,T,T,T,T,T,T,T,F,F] ?_;refine pS 12 (some 49) #[T,T,T,T,T,T,T,T,T,T,T,T,T,F] ?_;refine pS 13 (some 8) #[T,T,T,T,T,T,T,T,T,T,T,T,T,T] ?_;refine iG (gI HT_.out (by kernel_rfl)) ?_;(try go_wp2);go_roundg k2;case measure => have := xJ.out; have := xQ.out; omega
        case rel => exact ⟨_, _, EQ, EQ, H', ⟨by have := xJ.out; have := xQ.out; omega⟩, ⟨(RR M)⟩, ⟨BK⟩, ⟨BL⟩⟩
       ·rw [if_neg xk] at H;exact absurd H (by simp)
      ·obtain rfl := Option.some.inj H;go_wp2;go_ret;exact ⟨EWW, BL⟩
def fD.l0 : Nat → List (S62) → ByteArray → Int → Int → Option (Bool)
 | 0, _, _, _, _ => none
 | k + 1, a, b, c, d => if d < (a.length : Int) then (if 0 ≤ d then (if ((gu a d).f0).toList = b.toList then (if ((gu a d).f1) = c then (some true) else (fD.l0 k a b c (wrap64 (d + 1)))) else (fD.l0 k a b c (wrap64 (d + 1)))) else (none)) else (some false)
def fD.f (k : Nat) (l0 : List (S62)) (a1 : ByteArray) (a2 : Int) : Option (Bool) := fD.l0 k l0 a1 a2 0
theorem fD.calls (k : Nat) (A0 : Option Addr) (c0 : Nat) (l0 : List (S62)) (a1 : ByteArray) (a2 : Int) (r : Bool) (w : World) (D : Kd.C k62 w A0 l0.length l0) (E : l0.length ≤ c0) (h : fD.f k l0 a1 a2 = some r) :
  Calls Tryz.prog 68 #[.slice A0 l0.length c0, .string a1, .int .i64 a2] w fun e w' => e = .returned (.bool r) ∧ cB w w' := by
 have G := ah.mk D;have xg := ah.mk E;clear D E;have H : (fD.l0 k l0 a1 a2 0) = some r := h;clear h;have H' := ah.mk H;clear H;go_enter Tryz.func68, Tryz.ntmps68;go_wp2
 go_loopg [7] k (fun kq v7 w' => ∃ (a : Int), v7 = .int .i64 a ∧ ah (fD.l0 kq l0 a1 a2 a = some r) ∧ ah (kq ≤ k) ∧ cB w w')
 case atStart => exact ⟨_, EQ, H', ⟨Nat.le_refl _⟩, DR⟩
 case round =>
  clear H';obtain ⟨a, rfl, HA, y, ⟨m1, rfl⟩⟩ := hrel
  cases gk with
  | zero => exact absurd HA.out (by simp [fD.l0])
  | succ k1 =>
   have H := HA.out;clear HA;simp only [fD.l0] at H;replace H := ifD H; rcases H with ⟨I, H⟩ | ⟨I, H⟩
   ·replace H := ifN H; obtain ⟨xf, H⟩ := H;have m : 0 ≤ (a : Int) := OD;have o : a < (l0.length : Int) := OD;obtain ⟨z, J, K, L⟩ := Ac G.out a m o
    cases J
    replace m := eq_true m;replace o := eq_true o;replace H := ifE H; rcases H with ⟨M, O, H⟩ | ⟨c6, M, O, H⟩
    ·have u : 0 ≤ (a : Int) := OD;have x : a < (l0.length : Int) := OD;obtain ⟨A, P, U, Y⟩ := Ac G.out a u x;obtain rfl : z = A := (by injection P);replace u := eq_true u;replace x := eq_true x;replace H := ifE H; rcases H with ⟨Z, xa, H⟩ | ⟨c7, Z, xa, H⟩
     ·obtain rfl := Option.some.inj H;go_wp2;go_ret;exact ⟨EQ, DR⟩
     ·have H' := ah.mk H;clear H;go_wp2;go_roundg k1;case measure => have := y.out; omega
      case rel => exact ⟨_, EQ, H', ks y, DR⟩
    ·have H' := ah.mk H;clear H;go_wp2;go_roundg k1;case measure => have := y.out; omega
     case rel => exact ⟨_, EQ, H', ks y, DR⟩
   ·obtain rfl := Option.some.inj H;go_wp2;go_ret;exact ⟨EQ, DR⟩
mutual
def bf.l0 : Nat → ByteArray → ByteArray → Int → Option (ByteArray)
 | 0, _, _, _ => none
 | k + 1, a, b, c => if c ≤ 122 then ((bC.f k a).bind fun d => (bf.j1 k a b c d)) else (bf.j1 k a b c false)
def bf.j1 : Nat → ByteArray → ByteArray → Int → Bool → Option (ByteArray)
 | 0, _, _, _, _ => none
 | k + 1, a, b, c, d => if d = true then (bf.l1 k a b c 0) else (some b)
def bf.l1 : Nat → ByteArray → ByteArray → Int → Int → Option (ByteArray)
 | 0, _, _, _, _ => none
 | k + 1, a, b, c, d => if d < (a.size : Int) then (if 0 ≤ d then (if (wrap32 (bt a d)) = c then (if d ≤ (wrap64 (d + 1)) then (if (wrap64 (d + 1)) ≤ (a.size : Int) then (if b.size + (a.extract (d : Int).toNat ((wrap64 (d + 1)) : Int).toNat).size ≤ 9223372036854775807 then (bf.l1 k a (b ++ (a.extract (d : Int).toNat ((wrap64 (d + 1)) : Int).toNat)) c (wrap64 (d + 1))) else (none)) else (none)) else (none)) else (bf.l1 k a b c (wrap64 (d + 1)))) else (none)) else (bf.l0 k a b (wrap32 (c + 1)))
end
def bf.f (k : Nat) (a0 : ByteArray) : Option (ByteArray) := bf.l0 k a0 (⟨#[]⟩ : ByteArray) 97
theorem bf.calls (k : Nat) (E r : ByteArray) (w : World) (h : bf.f k E = some r) :
  Calls Tryz.prog 159 #[.string E] w fun e w' => e = .returned (.string r) ∧ cB w w' := by
 unfold bf.f at h;have H := h;clear h;have H' := ah.mk H;clear H;go_enter Tryz.func159, Tryz.ntmps159;go_wp2
 go_loopg [3, 4] k (fun kq Y v4 w' => ∃ (z : ByteArray) (m : Int), Y = .string z ∧ v4 = .int .i32 m ∧ ah (bf.l0 kq E z m = some r) ∧ ah (kq ≤ k) ∧ cB w w')
 case atStart => exact ⟨_, _, EQ, EQ, H', ⟨Nat.le_refl _⟩, DR⟩
 case round =>
  clear H';obtain ⟨z, m, rfl, rfl, HA, o, ⟨m1, rfl⟩⟩ := hrel
  cases gk with
  | zero => exact absurd HA.out (by simp [bf.l0])
  | succ k1 =>
   have H := HA.out;clear HA;simp only [bf.l0] at H;have G := ah.mk H;clear H;go_upto_region 3 with (fail)
   go_cut [11] (fun Z wc => ∃ (kq : Nat) (y : Bool), Z = .bool y ∧ ah (bf.j1 kq E z m y = some r) ∧ ah (kq ≤ k1) ∧ cB w wc)
   case first =>
    have H := G.out;clear G;replace H := ifD H; rcases H with ⟨u, H⟩ | ⟨u, H⟩
    ·(first | rw [u] | (simp only [gZ, iT]; rw [u]) | skip);replace H := be H; obtain ⟨J, A4, H⟩ := H;have H' := ah.mk H;clear H;go_wp2_with (first | (go_at_call 104; (with_reducible refine (bC.calls k1 E J _ A4.out).mono ?_); rintro e w' ⟨rfl, ⟨nd, rfl⟩⟩));go_meet;case rel => exact ⟨_, _, EQ, H', ⟨by have := o.out; first | omega | exact Nat.le_refl _⟩, DR⟩
    ·(first | rw [u] | (simp only [gZ, iT]; rw [u]) | skip);have H' := ah.mk H;clear H;go_wp2;go_meet;case rel => exact ⟨_, _, EQ, H', ⟨by have := o.out; first | omega | exact Nat.le_refl _⟩, DR⟩
   case rest =>
    clear G;obtain ⟨kq, y, rfl, HA, A, ⟨mc1, rfl⟩⟩ := hcut
    cases kq with
    | zero => exact absurd HA.out (by simp [bf.j1])
    | succ K =>
     have H := HA.out;clear HA;simp only [bf.j1] at H;replace H := ifB H; rcases H with ⟨rfl, H⟩ | ⟨rfl, H⟩
     ·have H' := ah.mk H;clear H;go_wp2
      go_loopg [3, 5] K (fun kq Y v5 w' => ∃ (x : ByteArray) (a : Int), Y = .string x ∧ v5 = .int .i64 a ∧ ah (bf.l1 kq E x m a = some r) ∧ ah (kq ≤ K) ∧ cB w w')
      case atStart => exact ⟨_, _, EQ, EQ, H', ⟨Nat.le_refl _⟩, DR⟩
      case round =>
       clear H';(try clear c5);obtain ⟨x, a, rfl, rfl, HA, D, ⟨m3, rfl⟩⟩ := hrel
       cases gk with
       | zero => exact absurd HA.out (by simp [bf.l1])
       | succ k3 =>
        have H := HA.out;clear HA;simp only [bf.l1] at H;replace H := ifD H; rcases H with ⟨L, H⟩ | ⟨L, H⟩
        ·replace H := ifN H; obtain ⟨xi, H⟩ := H;have p8 : (0 ≤ (a : Int)) = True := OT;have q8 : (a < (E.size : Int)) = True := OT;have hx8 := fT E a;replace H := ifE H; rcases H with ⟨M, O, H⟩ | ⟨c9, M, O, H⟩
         ·have xa := eq_true (OD : 0 ≤ a);replace H := ifP H; obtain ⟨P, H⟩ := H;have xb := eq_true P;have xc : decide (a ≤ (wrap64 (a + 1))) = true := decide_eq_true P;replace H := ifP H; obtain ⟨U, H⟩ := H;have xd := eq_true U;have xe : decide ((wrap64 (a + 1)) ≤ (E.size : Int)) = true := decide_eq_true U;replace H := ifP H; obtain ⟨I, H⟩ := H;have xf := eq_true I;have xg : decide (x.size + (E.extract (a : Int).toNat ((wrap64 (a + 1)) : Int).toNat).size ≤ 9223372036854775807) = true := decide_eq_true I;(try have xh : (9223372036854775807 < x.size + (E.extract (a : Int).toNat ((wrap64 (a + 1)) : Int).toNat).size) = False := eq_false (Nat.not_lt.2 I));have H' := ah.mk H;clear H;go_wp2;go_roundg k3;case measure => have := o.out; have := A.out; have := D.out; omega
          case rel => exact ⟨_, _, EQ, EQ, H', ⟨by have := o.out; have := A.out; have := D.out; omega⟩, DR⟩
         ·have H' := ah.mk H;clear H;go_wp2;go_roundg k3;case measure => have := o.out; have := A.out; have := D.out; omega
          case rel => exact ⟨_, _, EQ, EQ, H', ⟨by have := o.out; have := A.out; have := D.out; omega⟩, DR⟩
        ·have H' := ah.mk H;clear H;go_wp2;go_roundg k3;case measure => have := o.out; have := A.out; have := D.out; omega
         case rel => exact ⟨_, _, EQ, EQ, H', ⟨by have := o.out; have := A.out; have := D.out; omega⟩, DR⟩
     ·obtain rfl := Option.some.inj H;go_wp2;go_ret;exact ⟨EQ, DR⟩
def iC.f (k : Nat) (a0 a1 : ByteArray) : Option (Bool) := (bC.f k a0).bind fun t316 => (if t316 = true then ((bC.f k a1).bind fun t317 => (if t317 = true then (if a0.toList = a1.toList then (some false) else ((bf.f k a0).bind fun t318 => ((bf.f k a1).bind fun t319 => (some (t318.toList == t319.toList))))) else (some false))) else (some false))
theorem iC.calls (k : Nat) (a y : ByteArray) (r : Bool) (w : World) (h : iC.f k a y = some r) :
  Calls Tryz.prog 133 #[.string a, .string y] w fun e w' => e = .returned (.bool r) ∧ cB w w' := by
 unfold iC.f at h;have H := h;clear h;replace H := be H; obtain ⟨z, D, H⟩ := H;replace H := ah.mk H;go_enter Tryz.func133, Tryz.ntmps133;go_wp2_with (first | ((with_reducible refine ay (f := 104) rfl ?_); refine aW (some 6) Tryz.func104 #[.string a] ?_; (with_reducible refine (bC.calls k a _ _ D.out).mono ?_); rintro e w' ⟨rfl, ⟨nd, rfl⟩⟩; refine ⟨_, rfl, ?_⟩; refine bP ?_));refine Hide.mk ?_;replace H := H.out;replace H := ifB H; rcases H with ⟨rfl, H⟩ | ⟨rfl, H⟩
 ·replace H := be H; obtain ⟨A, E, H⟩ := H;replace H := ah.mk H;go_wp2_with (first | (go_at_call 104; (with_reducible refine (bC.calls k y _ _ E.out).mono ?_); rintro e w' ⟨rfl, ⟨nd, rfl⟩⟩; refine bP ?_));refine Hide.mk ?_;replace H := H.out;replace H := ifB H; rcases H with ⟨rfl, H⟩ | ⟨rfl, H⟩
  ·replace H := ifE H; rcases H with ⟨m, o, H⟩ | ⟨c7, m, o, H⟩
   ·obtain rfl := Option.some.inj H;(try go_wp2);go_ret;exact ⟨EQ, DR⟩
   ·replace H := be H; obtain ⟨u, G, H⟩ := H;replace H := be H; obtain ⟨x, I, H⟩ := H;obtain rfl := Option.some.inj H;(try go_wp2_with (first | (go_at_call 159; (with_reducible refine (bf.calls k a u _ G.out).mono ?_); rintro e w' ⟨rfl, ⟨nd, rfl⟩⟩) | (go_at_call 159; (with_reducible refine (bf.calls k y x _ I.out).mono ?_); rintro e w' ⟨rfl, ⟨nd, rfl⟩⟩)));go_ret;exact ⟨EQ, DR⟩
  ·obtain rfl := Option.some.inj H;(try go_wp2);go_ret;exact ⟨EQ, DR⟩
 ·obtain rfl := Option.some.inj H;(try go_wp2);go_ret;exact ⟨EQ, DR⟩
def bX.l0 (M : Nat → List (dG) → Int → ByteArray → Option Bool) : Nat → List (dG) → ByteArray → Int → Int → ByteArray → Int → Int → Option (Bool)
 | 0, _, _, _, _, _, _, _ => none
 | k + 1, a, b, c, d, e, f, g => if c < (b.size : Int) then (if 0 ≤ c then (if c ≤ (b.size : Int) then ((M k a f (b.extract 0 (c : Int).toNat)).bind fun h => (if h = true then ((M k a g (b.extract (c : Int).toNat b.size)).bind fun i => (if i = true then (some true) else (bX.l0 M k a b (wrap64 (c + 1)) d e f g))) else (bX.l0 M k a b (wrap64 (c + 1)) d e f g))) else (none)) else (none)) else (some false)
def bX.f (M : Nat → List (dG) → Int → ByteArray → Option Bool) (k : Nat) (l0 : List (dG)) (a1_0 : Int) (a1_1 : ByteArray) (a1_2 a1_3 : Int) (a2 : ByteArray) : Option (Bool) := bX.l0 M k l0 a2 1 a1_0 a1_1 a1_2 a1_3
def bX.T4 : Bool × List (List Nat × List Nat) := (true, [([], []), ([], []), ([1], [1]), ([], []), ([], []), ([3, 4], [3, 4]), ([0, 2, 5], [0, 2, 5]), ([6, 6], [6]), ([7], [7]), ([7], [7]), ([9, 7], [7, 9]), ([7], [7]), ([7], [7]), ([11, 12, 7], [7, 11, 12]), ([8, 10, 13, 7, 7], [7, 8, 10, 13]), ([7, 14], [7, 14])])
def bX.B4 : List Nat := [0, 0, 2, 0, 0, 24, 63, 127, 255, 255, 767, 255, 255, 6399, 16383, 32767]
theorem bX.Le : kS .any (opsOf Tryz.f134 4) = bX.T4 := by kernel_rfl
theorem bX.KO : iZ bX.T4.2 bX.B4 = true := by kernel_rfl
theorem bX.calls (M : Nat → List (dG) → Int → ByteArray → Option Bool) (hM : ∀ (j : Nat) (A : Option Addr) (c : Nat) (l : List (dG)) (i : Int) (s : ByteArray) (b : Bool) (W : World), Kd.C jE W A l.length l → l.length ≤ c → M j l i s = some b → Calls Tryz.prog 105 #[.slice A l.length c, .int .i64 i, .string s] W fun e w' => e = .returned (.bool b) ∧ Below W.heap.size W w') (k : Nat) (A0 : Option Addr) (c0 : Nat) (l0 : List (dG)) (y : Int) (z : ByteArray) (o u : Int) (D : ByteArray) (r : Bool) (w : World) (P : Kd.C jE w A0 l0.length l0) (U : l0.length ≤ c0) (h : bX.f M k l0 y z o u D = some r) :
  Calls Tryz.prog 134 #[.slice A0 l0.length c0, .agg #[.int .i64 y, .string z, .int .i64 o, .int .i64 u], .string D] w fun e w' => e = .returned (.bool r) ∧ Below w.heap.size w w' := by
 have xc := Tryz.underlying121;have E := ah.mk P;have G := ah.mk U;clear P U;have HB := ah.mk (Below.refl w.heap.size w);have HMM := ah.mk hM;clear hM;unfold bX.f at h;have H := h;clear h;have H' := ah.mk H;clear H;go_enter Tryz.func134, Tryz.ntmps134;go_wp2_with (first | ((with_reducible refine aJ (N := 4) rfl ?_); refine aY (N := 4) (cs := #[.int .i64 y, .string z, .int .i64 o, .int .i64 u]) (t := 121) ?_; intro x hg w4 hbox hb; have a := ah.mk hbox; have J := SZ (w := w) hg; have xd := J; replace HB := BS (w := w) hb; clear hb hbox hg))
 go_loopg [7] k (fun kq v7 w' => ∃ (m : Int), v7 = .int .i64 m ∧ ah (bX.l0 M kq l0 D m y z o u = some r) ∧ ah (kq ≤ k) ∧ ah (w'.heap[x]? = some (.cells #[.int .i64 y, .string z, .int .i64 o, .int .i64 u] 121 (0, 0))) ∧ ah (Below w.heap.size w w'))
 case atStart => exact ⟨_, EQ, H', ⟨Nat.le_refl _⟩, ⟨BK⟩, ⟨BL⟩⟩
 case round =>
  clear H';obtain ⟨m, rfl, HA, I, a, HB⟩ := hrel
  cases gk with
  | zero => exact absurd HA.out (by simp [bX.l0])
  | succ k1 =>
   have H := HA.out;clear HA;simp only [bX.l0] at H;replace H := ifD H; rcases H with ⟨Y, H⟩ | ⟨Y, H⟩
   ·replace H := ifP H; obtain ⟨c6, H⟩ := H;have xh := eq_true c6;have xi : decide (0 ≤ m) = true := decide_eq_true c6;clear c6;replace H := ifP H; obtain ⟨c7, H⟩ := H;have xj := eq_true c7;have xk : decide (m ≤ (D.size : Int)) = true := decide_eq_true c7;clear c7;replace H := be H; obtain ⟨xl, A8, H⟩ := H;replace H := ah.mk H;(try go_wp2);replace a := ah.mk (aH a.out);replace HB := ah.mk (dL HB.out);refine jl (n := 16) (S := fun w' => w'.cell? ⟨x, 0, none⟩ = some (.int .i64 y) ∧ w'.cell? ⟨x, 1, none⟩ = some (.string z) ∧ w'.cell? ⟨x, 2, none⟩ = some (.int .i64 o) ∧ w'.cell? ⟨x, 3, none⟩ = some (.int .i64 u)) (ds := []) #[F,F,F,F,F,F,F,F,F,F,F,F,F,F,F,F] (by kernel_rfl) rfl rfl ⟨(ak a.out 0).trans rfl, (ak a.out 1).trans rfl, (ak a.out 2).trans rfl, (ak a.out 3).trans rfl⟩ (fun hHeld => ?_); refine iM bX.Le bX.KO (fun HT_ HW_ => ?_);generalize wr.drew = xe at a HB hHeld ⊢;refine pS 0 (some 14) #[T,F,F,F,F,F,F,F,F,F,F,F,F,F,F,F] ?_;refine pS 1 (some 15) #[T,T,F,F,F,F,F,F,F,F,F,F,F,F,F,F] ?_;refine pS 3 (some 17) #[T,T,F,T,F,F,F,F,F,F,F,F,F,F,F,F] ?_;refine pS 4 (some 18) #[T,T,F,T,T,F,F,F,F,F,F,F,F,F,F,F] ?_;refine pS 5 (some 19) #[T,T,F,T,T,T,F,F,F,F,F,F,F,F,F,F] ?_;refine tS 2 (some 16) #[T,T,T,T,T,T,F,F,F,F,F,F,F,F,F,F] ?_;refine lG (i := 6) (N := some 20) #[T,T,T,T,T,T,T,F,F,F,F,F,F,F,F,F] rfl rfl (jh HT_.out (by kernel_rfl)) (by decide) (fun K hK => ?_);refine jd Tryz.func105 #[.slice A0 l0.length c0, .int .i64 o, .string (D.extract 0 (m : Int).toNat)] ?_;replace H := H.out;replace H := ifB H; rcases H with ⟨rfl, H⟩ | ⟨rfl, H⟩
    ·have xf := eq_true (OD : 0 ≤ m);have xg := eq_true (OD : m ≤ (D.size : Int));replace H := be H; obtain ⟨xn, Z, H⟩ := H;replace H := ah.mk H;(with_reducible refine (HMM.out k1 _ _ l0 o (D.extract 0 (m : Int).toNat) true _ ?side1 ?side2 A8.out).mono ?_);(case side1 => exact CB E);(case side2 => exact G.out);rintro e L ⟨rfl, hb⟩;refine ⟨_, rfl, ?_⟩;replace a := KB a hb;replace HB := BS (w := w) hb;(try clear hb);refine hK.out _ _ ⟨(ak a.out 0).trans rfl, (ak a.out 1).trans rfl, (ak a.out 2).trans rfl, (ak a.out 3).trans rfl⟩ (fun hHeld => ?_);clear hK K;refine nrm (some 20) ?_;refine pS 7 (some 21) #[T,T,T,T,T,T,T,T,F,F,F,F,F,F,F,F] ?_;refine pS 8 (some 22) #[T,T,T,T,T,T,T,T,T,F,F,F,F,F,F,F] ?_;refine pS 9 (some 23) #[T,T,T,T,T,T,T,T,T,T,F,F,F,F,F,F] ?_;refine pS 11 (some 25) #[T,T,T,T,T,T,T,T,T,T,F,T,F,F,F,F] ?_;refine pS 12 (some 26) #[T,T,T,T,T,T,T,T,T,T,F,T,T,F,F,F] ?_;refine pS 13 (some 27) #[T,T,T,T,T,T,T,T,T,T,F,T,T,T,F,F] ?_;refine tS 10 (some 24) #[T,T,T,T,T,T,T,T,T,T,T,T,T,T,F,F] ?_;refine lG (i := 14) (N := some 28) #[T,T,T,T,T,T,T,T,T,T,T,T,T,T,T,F] rfl rfl (jh HT_.out (by kernel_rfl)) (by decide) (fun K hK => ?_);refine jd Tryz.func105 #[.slice A0 l0.length c0, .int .i64 u, .string (D.extract (m : Int).toNat D.size)] ?_;replace H := H.out;replace H := ifB H; rcases H with ⟨rfl, H⟩ | ⟨rfl, H⟩
     ·obtain rfl := Option.some.inj H;(with_reducible refine (HMM.out k1 _ _ l0 u (D.extract (m : Int).toNat D.size) true _ ?side1 ?side2 Z.out).mono ?_);(case side1 => exact CB E);(case side2 => exact G.out);rintro e O ⟨rfl, hb⟩;refine ⟨_, rfl, ?_⟩;replace a := KB a hb;replace HB := BS (w := w) hb;(try clear hb);refine hK.out _ _ ⟨(ak a.out 0).trans rfl, (ak a.out 1).trans rfl, (ak a.out 2).trans rfl, (ak a.out 3).trans rfl⟩ (fun hHeld => ?_);clear hK K;refine nrm (some 28) ?_;refine pS 15 (some 29) #[T,T,T,T,T,T,T,T,T,T,T,T,T,T,T,T] ?_;refine iG (gI HT_.out (by kernel_rfl)) ?_;(try go_wp2);go_ret;exact ⟨EWW, BL⟩
     ·have H' := ah.mk H;clear H;(with_reducible refine (HMM.out k1 _ _ l0 u (D.extract (m : Int).toNat D.size) false _ ?side1 ?side2 Z.out).mono ?_);(case side1 => exact CB E);(case side2 => exact G.out);rintro e O ⟨rfl, hb⟩;refine ⟨_, rfl, ?_⟩;replace a := KB a hb;replace HB := BS (w := w) hb;(try clear hb);refine hK.out _ _ ⟨(ak a.out 0).trans rfl, (ak a.out 1).trans rfl, (ak a.out 2).trans rfl, (ak a.out 3).trans rfl⟩ (fun hHeld => ?_);clear hK K;refine nrm (some 28) ?_;refine pS 15 (some 29) #[T,T,T,T,T,T,T,T,T,T,T,T,T,T,T,T] ?_;refine iG (gI HT_.out (by kernel_rfl)) ?_;(try go_wp2);go_roundg k1;case measure => have := I.out; omega
      case rel => exact ⟨_, EQ, H', ks I, ⟨BK⟩, ⟨BL⟩⟩
    ·have H' := ah.mk H;clear H;(with_reducible refine (HMM.out k1 _ _ l0 o (D.extract 0 (m : Int).toNat) false _ ?side1 ?side2 A8.out).mono ?_);(case side1 => exact CB E);(case side2 => exact G.out);rintro e L ⟨rfl, hb⟩;refine ⟨_, rfl, ?_⟩;replace a := KB a hb;replace HB := BS (w := w) hb;(try clear hb);refine hK.out _ _ ⟨(ak a.out 0).trans rfl, (ak a.out 1).trans rfl, (ak a.out 2).trans rfl, (ak a.out 3).trans rfl⟩ (fun hHeld => ?_);clear hK K;refine nrm (some 20) ?_;refine pS 7 (some 21) #[T,T,T,T,T,T,T,T,F,F,F,F,F,F,F,F] ?_;refine pU 8 (some 22) #[T,T,T,T,T,T,T,T,T,F,F,F,F,F,F,F] ?_;refine pU 9 (some 23) #[T,T,T,T,T,T,T,T,T,T,F,F,F,F,F,F] ?_;refine pU 10 (some 24) #[T,T,T,T,T,T,T,T,T,T,T,F,F,F,F,F] ?_;refine pU 11 (some 25) #[T,T,T,T,T,T,T,T,T,T,T,T,F,F,F,F] ?_;refine pU 12 (some 26) #[T,T,T,T,T,T,T,T,T,T,T,T,T,F,F,F] ?_;refine pU 13 (some 27) #[T,T,T,T,T,T,T,T,T,T,T,T,T,T,F,F] ?_;refine pU 14 (some 28) #[T,T,T,T,T,T,T,T,T,T,T,T,T,T,T,F] ?_;refine pS 15 (some 29) #[T,T,T,T,T,T,T,T,T,T,T,T,T,T,T,T] ?_;refine iG (gI HT_.out (by kernel_rfl)) ?_;(try go_wp2);go_roundg k1;case measure => have := I.out; omega
     case rel => exact ⟨_, EQ, H', ks I, ⟨BK⟩, ⟨BL⟩⟩
   ·obtain rfl := Option.some.inj H;go_wp2;go_ret;exact ⟨EWW, BL⟩
mutual
def bL.l0 (M : Nat → List (dG) → Int → ByteArray → Option Bool) : Nat → List (dG) → ByteArray → Int → Int → ByteArray → Int → Int → Option (Bool)
 | 0, _, _, _, _, _, _, _ => none
 | k + 1, a, b, c, d, e, f, g => if c < (b.size : Int) then (bL.l1 M k a b c (wrap64 (c + 1)) d e f g) else (some false)
def bL.l1 (M : Nat → List (dG) → Int → ByteArray → Option Bool) : Nat → List (dG) → ByteArray → Int → Int → Int → ByteArray → Int → Int → Option (Bool)
 | 0, _, _, _, _, _, _, _, _ => none
 | k + 1, a, b, c, d, e, f, g, h => if d < (b.size : Int) then (if 0 ≤ c then (if c ≤ d then (if d ≤ (b.size : Int) then ((M k a h (b.extract (c : Int).toNat (d : Int).toNat)).bind fun i => (if i = true then (if c ≤ (b.size : Int) then (if 0 ≤ d then (if (b.extract 0 (c : Int).toNat).size + (b.extract (d : Int).toNat b.size).size ≤ 9223372036854775807 then ((M k a g ((b.extract 0 (c : Int).toNat) ++ (b.extract (d : Int).toNat b.size))).bind fun j => (if j = true then (some true) else (bL.l1 M k a b c (wrap64 (d + 1)) e f g h))) else (none)) else (none)) else (none)) else (bL.l1 M k a b c (wrap64 (d + 1)) e f g h))) else (none)) else (none)) else (none)) else (bL.l0 M k a b (wrap64 (c + 1)) e f g h)
end
def bL.f (M : Nat → List (dG) → Int → ByteArray → Option Bool) (k : Nat) (l0 : List (dG)) (a1_0 : Int) (a1_1 : ByteArray) (a1_2 a1_3 : Int) (a2 : ByteArray) : Option (Bool) := bL.l0 M k l0 a2 1 a1_0 a1_1 a1_2 a1_3
def bL.T7 : Bool × List (List Nat × List Nat) := (true, [([], []), ([], []), ([1], [1]), ([], []), ([], []), ([], []), ([3, 4, 5], [3, 4, 5]), ([0, 2, 6], [0, 2, 6]), ([7, 7], [7]), ([8], [8]), ([8], [8]), ([10, 8], [8, 10]), ([8], [8]), ([8], [8]), ([12, 13, 8], [8, 12, 13]), ([8], [8]), ([8], [8]), ([15, 16, 8], [8, 15, 16]), ([14, 17, 8], [8, 14, 17]), ([9, 11, 18, 8, 8], [8, 9, 11, 18]), ([8, 19], [8, 19])])
def bL.B7 : List Nat := [0, 0, 2, 0, 0, 0, 56, 127, 255, 511, 511, 1535, 511, 511, 12799, 511, 511, 98815, 258559, 524287, 1048575]
theorem bL.Kq : kS .any (opsOf Tryz.f135 7) = bL.T7 := by kernel_rfl
theorem bL.GQ : iZ bL.T7.2 bL.B7 = true := by kernel_rfl
theorem bL.calls (M : Nat → List (dG) → Int → ByteArray → Option Bool) (hM : ∀ (j : Nat) (A : Option Addr) (c : Nat) (l : List (dG)) (i : Int) (s : ByteArray) (b : Bool) (W : World), Kd.C jE W A l.length l → l.length ≤ c → M j l i s = some b → Calls Tryz.prog 105 #[.slice A l.length c, .int .i64 i, .string s] W fun e w' => e = .returned (.bool b) ∧ Below W.heap.size W w') (k : Nat) (A0 : Option Addr) (c0 : Nat) (l0 : List (dG)) (D : Int) (E : ByteArray) (u x : Int) (y : ByteArray) (r : Bool) (w : World) (xd : Kd.C jE w A0 l0.length l0) (xe : l0.length ≤ c0) (h : bL.f M k l0 D E u x y = some r) :
  Calls Tryz.prog 135 #[.slice A0 l0.length c0, .agg #[.int .i64 D, .string E, .int .i64 u, .int .i64 x], .string y] w fun e w' => e = .returned (.bool r) ∧ Below w.heap.size w w' := by
 have xk := Tryz.underlying121;have L := ah.mk xd;have O := ah.mk xe;clear xd xe;have HB := ah.mk (Below.refl w.heap.size w);have HMM := ah.mk hM;clear hM;unfold bL.f at h;have H := h;clear h;have H' := ah.mk H;clear H;go_enter Tryz.func135, Tryz.ntmps135;go_wp2_with (first | ((with_reducible refine aJ (N := 4) rfl ?_); refine aY (N := 4) (cs := #[.int .i64 D, .string E, .int .i64 u, .int .i64 x]) (t := 121) ?_; intro z hg w4 hbox hb; have a := ah.mk hbox; have U := SZ (w := w) hg; have xl := U; replace HB := BS (w := w) hb; clear hb hbox hg))
 go_loopg [7] k (fun kq v7 w' => ∃ (m : Int), v7 = .int .i64 m ∧ ah (bL.l0 M kq l0 y m D E u x = some r) ∧ ah (kq ≤ k) ∧ ah (w'.heap[z]? = some (.cells #[.int .i64 D, .string E, .int .i64 u, .int .i64 x] 121 (0, 0))) ∧ ah (Below w.heap.size w w'))
 case atStart => exact ⟨_, EQ, H', ⟨Nat.le_refl _⟩, ⟨BK⟩, ⟨BL⟩⟩
 case round =>
  clear H';obtain ⟨m, rfl, HA, G, a, HB⟩ := hrel
  cases gk with
  | zero => exact absurd HA.out (by simp [bL.l0])
  | succ k1 =>
   have H := HA.out;clear HA;simp only [bL.l0] at H;replace H := ifD H; rcases H with ⟨P, H⟩ | ⟨P, H⟩
   ·have H' := ah.mk H;clear H;go_wp2
    go_loopg [8] k1 (fun kq v8 w' => ∃ (o : Int), v8 = .int .i64 o ∧ ah (bL.l1 M kq l0 y m o D E u x = some r) ∧ ah (kq ≤ k1) ∧ ah (w'.heap[z]? = some (.cells #[.int .i64 D, .string E, .int .i64 u, .int .i64 x] 121 (0, 0))) ∧ ah (Below w.heap.size w w'))
    case atStart => exact ⟨_, EQ, H', ⟨Nat.le_refl _⟩, ⟨BK⟩, ⟨BL⟩⟩
    case round =>
     clear H';(try clear c5);(try clear P);obtain ⟨o, rfl, HA, I, a, HB⟩ := hrel
     cases gk with
     | zero => exact absurd HA.out (by simp [bL.l1])
     | succ k2 =>
      have H := HA.out;clear HA;simp only [bL.l1] at H;replace H := ifD H; rcases H with ⟨xf, H⟩ | ⟨xf, H⟩
      ·replace H := ifP H; obtain ⟨c7, H⟩ := H;have xv := eq_true c7;have xw : decide (0 ≤ m) = true := decide_eq_true c7;clear c7;replace H := ifP H; obtain ⟨c8, H⟩ := H;have xx := eq_true c8;have xy : decide (m ≤ o) = true := decide_eq_true c8;clear c8;replace H := ifP H; obtain ⟨c9, H⟩ := H;have xz := eq_true c9;have xA : decide (o ≤ (y.size : Int)) = true := decide_eq_true c9;clear c9;replace H := be H; obtain ⟨xB, xg, H⟩ := H;replace H := ah.mk H;(try go_wp2);replace a := ah.mk (aH a.out);replace HB := ah.mk (dL HB.out);refine jl (n := 21) (S := fun w' => w'.cell? ⟨z, 0, none⟩ = some (.int .i64 D) ∧ w'.cell? ⟨z, 1, none⟩ = some (.string E) ∧ w'.cell? ⟨z, 2, none⟩ = some (.int .i64 u) ∧ w'.cell? ⟨z, 3, none⟩ = some (.int .i64 x)) (ds := []) #[F,F,F,F,F,F,F,F,F,F,F,F,F,F,F,F,F,F,F,F,F] (by kernel_rfl) rfl rfl ⟨(ak a.out 0).trans rfl, (ak a.out 1).trans rfl, (ak a.out 2).trans rfl, (ak a.out 3).trans rfl⟩ (fun hHeld => ?_); refine iM bL.Kq bL.GQ (fun HT_ HW_ => ?_);generalize wr.drew = xm at a HB hHeld ⊢;refine pS 0 (some 23) #[T,F,F,F,F,F,F,F,F,F,F,F,F,F,F,F,F,F,F,F,F] ?_;refine pS 1 (some 24) #[T,T,F,F,F,F,F,F,F,F,F,F,F,F,F,F,F,F,F,F,F] ?_;refine pS 3 (some 26) #[T,T,F,T,F,F,F,F,F,F,F,F,F,F,F,F,F,F,F,F,F] ?_;refine pS 4 (some 27) #[T,T,F,T,T,F,F,F,F,F,F,F,F,F,F,F,F,F,F,F,F] ?_;refine pS 5 (some 28) #[T,T,F,T,T,T,F,F,F,F,F,F,F,F,F,F,F,F,F,F,F] ?_;refine pS 6 (some 29) #[T,T,F,T,T,T,T,F,F,F,F,F,F,F,F,F,F,F,F,F,F] ?_;refine tS 2 (some 25) #[T,T,T,T,T,T,T,F,F,F,F,F,F,F,F,F,F,F,F,F,F] ?_;refine lG (i := 7) (N := some 30) #[T,T,T,T,T,T,T,T,F,F,F,F,F,F,F,F,F,F,F,F,F] rfl rfl (jh HT_.out (by kernel_rfl)) (by decide) (fun K hK => ?_);refine jd Tryz.func105 #[.slice A0 l0.length c0, .int .i64 x, .string (y.extract (m : Int).toNat (o : Int).toNat)] ?_;replace H := H.out;replace H := ifB H; rcases H with ⟨rfl, H⟩ | ⟨rfl, H⟩
       ·have xn := eq_true (OD : 0 ≤ m);replace H := ifP H; obtain ⟨Y, H⟩ := H;have xo := eq_true Y;have xp : decide (m ≤ (y.size : Int)) = true := decide_eq_true Y;clear Y;replace H := ifP H; obtain ⟨Z, H⟩ := H;have xq := eq_true Z;have xr : decide (0 ≤ o) = true := decide_eq_true Z;clear Z;have xs := eq_true (OD : o ≤ (y.size : Int));by_cases J : (y.extract 0 (m : Int).toNat).size + (y.extract (o : Int).toNat y.size).size ≤ 9223372036854775807
        ·rw [if_pos J] at H;have xt := eq_true J;have xa : decide ((y.extract 0 (m : Int).toNat).size + (y.extract (o : Int).toNat y.size).size ≤ 9223372036854775807) = true := decide_eq_true J;try have xu : (9223372036854775807 < (y.extract 0 (m : Int).toNat).size + (y.extract (o : Int).toNat y.size).size) = False := eq_false (Nat.not_lt.2 J)
         have c16b3d : (9223372036854775807 < m.toNat + (y.size - o.toNat)) = False := by
          have hx_ : m ≤ (y.size : Int) := OD;have h_ := of_decide_eq_true xa;simp only [ByteArray.size_extract] at h_;exact eq_false (by omega)
         replace H := be H; obtain ⟨xC, xh, H⟩ := H;replace H := ah.mk H;(with_reducible refine (HMM.out k2 _ _ l0 x (y.extract (m : Int).toNat (o : Int).toNat) true _ ?side1 ?side2 xg.out).mono ?_);(case side1 => exact CB L);(case side2 => exact O.out);rintro e xb ⟨rfl, hb⟩;refine ⟨_, rfl, ?_⟩;replace a := KB a hb;replace HB := BS (w := w) hb;(try clear hb);refine hK.out _ _ ⟨(ak a.out 0).trans rfl, (ak a.out 1).trans rfl, (ak a.out 2).trans rfl, (ak a.out 3).trans rfl⟩ (fun hHeld => ?_);clear hK K;refine nrm (some 30) ?_;refine pS 8 (some 31) #[T,T,T,T,T,T,T,T,T,F,F,F,F,F,F,F,F,F,F,F,F] ?_;refine pS 9 (some 32) #[T,T,T,T,T,T,T,T,T,T,F,F,F,F,F,F,F,F,F,F,F] ?_;refine pS 10 (some 33) #[T,T,T,T,T,T,T,T,T,T,T,F,F,F,F,F,F,F,F,F,F] ?_;refine pS 12 (some 35) #[T,T,T,T,T,T,T,T,T,T,T,F,T,F,F,F,F,F,F,F,F] ?_;refine pS 13 (some 36) #[T,T,T,T,T,T,T,T,T,T,T,F,T,T,F,F,F,F,F,F,F] ?_;refine pS 14 (some 37) #[T,T,T,T,T,T,T,T,T,T,T,F,T,T,T,F,F,F,F,F,F] ?_;refine pS 15 (some 38) #[T,T,T,T,T,T,T,T,T,T,T,F,T,T,T,T,F,F,F,F,F] ?_;refine pS 16 (some 39) #[T,T,T,T,T,T,T,T,T,T,T,F,T,T,T,T,T,F,F,F,F] ?_;refine pS 17 (some 40) #[T,T,T,T,T,T,T,T,T,T,T,F,T,T,T,T,T,T,F,F,F] ?_;refine pS 18 (some 41) #[T,T,T,T,T,T,T,T,T,T,T,F,T,T,T,T,T,T,T,F,F] ?_;refine tS 11 (some 34) #[T,T,T,T,T,T,T,T,T,T,T,T,T,T,T,T,T,T,T,F,F] ?_;refine lG (i := 19) (N := some 42) #[T,T,T,T,T,T,T,T,T,T,T,T,T,T,T,T,T,T,T,T,F] rfl rfl (jh HT_.out (by kernel_rfl)) (by decide) (fun K hK => ?_);refine jd Tryz.func105 #[.slice A0 l0.length c0, .int .i64 u, .string ((y.extract 0 (m : Int).toNat) ++ (y.extract (o : Int).toNat y.size))] ?_;replace H := H.out;replace H := ifB H; rcases H with ⟨rfl, H⟩ | ⟨rfl, H⟩
         ·obtain rfl := Option.some.inj H;(with_reducible refine (HMM.out k2 _ _ l0 u ((y.extract 0 (m : Int).toNat) ++ (y.extract (o : Int).toNat y.size)) true _ ?side1 ?side2 xh.out).mono ?_);(case side1 => exact CB L);(case side2 => exact O.out);rintro e xc ⟨rfl, hb⟩;refine ⟨_, rfl, ?_⟩;replace a := KB a hb;replace HB := BS (w := w) hb;(try clear hb);refine hK.out _ _ ⟨(ak a.out 0).trans rfl, (ak a.out 1).trans rfl, (ak a.out 2).trans rfl, (ak a.out 3).trans rfl⟩ (fun hHeld => ?_);clear hK K;refine nrm (some 42) ?_;refine pS 20 (some 43) #[T,T,T,T,T,T,T,T,T,T,T,T,T,T,T,T,T,T,T,T,T] ?_;refine iG (gI HT_.out (by kernel_rfl)) ?_;(try go_wp2);go_ret;exact ⟨EWW, BL⟩
         ·have H' := ah.mk H;clear H;(with_reducible refine (HMM.out k2 _ _ l0 u ((y.extract 0 (m : Int).toNat) ++ (y.extract (o : Int).toNat y.size)) false _ ?side1 ?side2 xh.out).mono ?_);(case side1 => exact CB L);(case side2 => exact O.out);rintro e xc ⟨rfl, hb⟩;refine ⟨_, rfl, ?_⟩;replace a := KB a hb;replace HB := BS (w := w) hb;(try clear hb);refine hK.out _ _ ⟨(ak a.out 0).trans rfl, (ak a.out 1).trans rfl, (ak a.out 2).trans rfl, (ak a.out 3).trans rfl⟩ (fun hHeld => ?_);clear hK K;refine nrm (some 42) ?_;refine pS 20 (some 43) #[T,T,T,T,T,T,T,T,T,T,T,T,T,T,T,T,T,T,T,T,T] ?_;refine iG (gI HT_.out (by kernel_rfl)) ?_;(try go_wp2);go_roundg k2;case measure => have := G.out; have := I.out; omega
          case rel => exact ⟨_, EQ, H', ⟨by have := G.out; have := I.out; omega⟩, ⟨BK⟩, ⟨BL⟩⟩
        ·rw [if_neg J] at H;exact absurd H (by simp)
       ·have H' := ah.mk H;clear H;(with_reducible refine (HMM.out k2 _ _ l0 x (y.extract (m : Int).toNat (o : Int).toNat) false _ ?side1 ?side2 xg.out).mono ?_);(case side1 => exact CB L);(case side2 => exact O.out);rintro e xb ⟨rfl, hb⟩;refine ⟨_, rfl, ?_⟩;replace a := KB a hb;replace HB := BS (w := w) hb;(try clear hb);refine hK.out _ _ ⟨(ak a.out 0).trans rfl, (ak a.out 1).trans rfl, (ak a.out 2).trans rfl, (ak a.out 3).trans rfl⟩ (fun hHeld => ?_);clear hK K;refine nrm (some 30) ?_;refine pS 8 (some 31) #[T,T,T,T,T,T,T,T,T,F,F,F,F,F,F,F,F,F,F,F,F] ?_;refine pU 9 (some 32) #[T,T,T,T,T,T,T,T,T,T,F,F,F,F,F,F,F,F,F,F,F] ?_;refine pU 10 (some 33) #[T,T,T,T,T,T,T,T,T,T,T,F,F,F,F,F,F,F,F,F,F] ?_;refine pU 11 (some 34) #[T,T,T,T,T,T,T,T,T,T,T,T,F,F,F,F,F,F,F,F,F] ?_;refine pU 12 (some 35) #[T,T,T,T,T,T,T,T,T,T,T,T,T,F,F,F,F,F,F,F,F] ?_;refine pU 13 (some 36) #[T,T,T,T,T,T,T,T,T,T,T,T,T,T,F,F,F,F,F,F,F] ?_;refine pU 14 (some 37) #[T,T,T,T,T,T,T,T,T,T,T,T,T,T,T,F,F,F,F,F,F] ?_;refine pU 15 (some 38) #[T,T,T,T,T,T,T,T,T,T,T,T,T,T,T,T,F,F,F,F,F] ?_;refine pU 16 (some 39) #[T,T,T,T,T,T,T,T,T,T,T,T,T,T,T,T,T,F,F,F,F] ?_;refine pU 17 (some 40) #[T,T,T,T,T,T,T,T,T,T,T,T,T,T,T,T,T,T,F,F,F] ?_;refine pU 18 (some 41) #[T,T,T,T,T,T,T,T,T,T,T,T,T,T,T,T,T,T,T,F,F] ?_;refine pU 19 (some 42) #[T,T,T,T,T,T,T,T,T,T,T,T,T,T,T,T,T,T,T,T,F] ?_;refine pS 20 (some 43) #[T,T,T,T,T,T,T,T,T,T,T,T,T,T,T,T,T,T,T,T,T] ?_;refine iG (gI HT_.out (by kernel_rfl)) ?_;(try go_wp2);go_roundg k2;case measure => have := G.out; have := I.out; omega
        case rel => exact ⟨_, EQ, H', ⟨by have := G.out; have := I.out; omega⟩, ⟨BK⟩, ⟨BL⟩⟩
      ·have H' := ah.mk H;clear H;go_wp2;go_roundg k2;case measure => have := G.out; have := I.out; omega
       case rel => exact ⟨_, EQ, H', ⟨by have := G.out; have := I.out; omega⟩, ⟨BK⟩, ⟨BL⟩⟩
   ·obtain rfl := Option.some.inj H;go_wp2;go_ret;exact ⟨EWW, BL⟩
def kC.f (k : Nat) (a0 : ByteArray) : Option (ByteArray) := (bC.f k a0).bind fun t326 => (if t326 = true then (if 0 ≤ 1 then (if 1 ≤ (a0.size : Int) then (some (a0.extract 0 1)) else (none)) else (none)) else (some (⟨#[]⟩ : ByteArray)))
theorem kC.calls (k : Nat) (a r : ByteArray) (w : World) (h : kC.f k a = some r) :
  Calls Tryz.prog 136 #[.string a] w fun e w' => e = .returned (.string r) ∧ cB w w' := by
 unfold kC.f at h;have H := h;clear h;replace H := be H; obtain ⟨m, A2, H⟩ := H;replace H := ah.mk H;go_enter Tryz.func136, Tryz.ntmps136;go_wp2_with (first | ((with_reducible refine ay (f := 104) rfl ?_); refine aW (some 4) Tryz.func104 #[.string a] ?_; (with_reducible refine (bC.calls k a _ _ A2.out).mono ?_); rintro e w' ⟨rfl, ⟨nd, rfl⟩⟩; refine ⟨_, rfl, ?_⟩; refine bP ?_));refine Hide.mk ?_;replace H := H.out;replace H := ifB H; rcases H with ⟨rfl, H⟩ | ⟨rfl, H⟩
 ·replace H := ifP H; obtain ⟨c4, H⟩ := H;have o := eq_true c4;have u : decide (0 ≤ 1) = true := decide_eq_true c4;clear c4;replace H := ifP H; obtain ⟨c5, H⟩ := H;have x := eq_true c5;have y : decide (1 ≤ (a.size : Int)) = true := decide_eq_true c5;clear c5;obtain rfl := Option.some.inj H;(try go_wp2);go_ret;exact ⟨EQ, DR⟩
 ·obtain rfl := Option.some.inj H;(try go_wp2);go_ret;exact ⟨EQ, DR⟩
def iK.f (k : Nat) (a0 : ByteArray) : Option (ByteArray) := (bC.f k a0).bind fun t327 => (if t327 = true then (if 1 ≤ (a0.size : Int) then (some (a0.extract 1 a0.size)) else (none)) else (some (⟨#[]⟩ : ByteArray)))
theorem iK.calls (k : Nat) (a r : ByteArray) (w : World) (h : iK.f k a = some r) :
  Calls Tryz.prog 137 #[.string a] w fun e w' => e = .returned (.string r) ∧ cB w w' := by
 unfold iK.f at h;have H := h;clear h;replace H := be H; obtain ⟨m, A2, H⟩ := H;replace H := ah.mk H;go_enter Tryz.func137, Tryz.ntmps137;go_wp2_with (first | ((with_reducible refine ay (f := 104) rfl ?_); refine aW (some 4) Tryz.func104 #[.string a] ?_; (with_reducible refine (bC.calls k a _ _ A2.out).mono ?_); rintro e w' ⟨rfl, ⟨nd, rfl⟩⟩; refine ⟨_, rfl, ?_⟩; refine bP ?_));refine Hide.mk ?_;replace H := H.out;replace H := ifB H; rcases H with ⟨rfl, H⟩ | ⟨rfl, H⟩
 ·replace H := ifP H; obtain ⟨c4, H⟩ := H;have o := eq_true c4;have u : decide (1 ≤ (a.size : Int)) = true := decide_eq_true c4;clear c4;obtain rfl := Option.some.inj H;(try go_wp2);go_ret;exact ⟨EQ, DR⟩
 ·obtain rfl := Option.some.inj H;(try go_wp2);go_ret;exact ⟨EQ, DR⟩
end Go.Proofs.YthkfjbodohaglaaGreatDoor.PFnExactGradeOf
