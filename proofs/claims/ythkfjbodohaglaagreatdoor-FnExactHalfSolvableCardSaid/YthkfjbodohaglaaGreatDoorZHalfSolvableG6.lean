/- Walks of functions: what each computes. -/
import Derived.Test.YthkfjbodohaglaaGreatDoorZHalfSolvableG0
import Derived.Test.YthkfjbodohaglaaGreatDoorZHalfSolvableG2
import Derived.Test.YthkfjbodohaglaaGreatDoorZHalfSolvableG4
import Derived.Test.YthkfjbodohaglaaGreatDoorZHalfSolvableG5
import Derived.Test.YthkfjbodohaglaaGreatDoorZHalfSolvableW
import Derived.Test.YthkfjbodohaglaaGreatDoorZHalfSolvableShelf
import Derived.Test.YthkfjbodohaglaaGreatDoorZHalfSolvableHandSort
import Derived.Test.YthkfjbodohaglaaGreatDoorZHalfSolvableHandForm
import Derived.Test.YthkfjbodohaglaaGreatDoorZHalfSolvableHandAlone
import Derived.Test.YthkfjbodohaglaaGreatDoorZHalfSolvableHandReach
import Derived.Test.YthkfjbodohaglaaGreatDoorZHalfSolvableHandRepl
namespace Go.Proofs.YthkfjbodohaglaaGreatDoor.PFnExactHalfSolvable
open Go.RowKit Go.Proofs.YthkfjbodohaglaaGreatDoorW.PrintWords Go.Proofs.YthkfjbodohaglaaGreatDoorW.PrintLast Go.Proofs.YthkfjbodohaglaaGreatDoorW.PrintMore Go.Proofs.YthkfjbodohaglaaGreatDoor.Sq
attribute [local go_sem] kH kJ lY lZ jG jH kI kK
set_option maxHeartbeats 8000000
set_option maxRecDepth 100000
set_option linter.unusedVariables false
set_option linter.unusedSimpArgs false
mutual
def aW.l0 : Nat → List (S62) → List ByteArray → List Int → Int → Int → Int → ByteArray → List (S72) → List Int → Int → Option (List Int)
 | 0, _, _, _, _, _, _, _, _, _, _ => none
 | k + 1, a, b, c, d, e, f, g, h, i, j => if d < (h.length : Int) then ((eX.f k e f g h i j).bind fun l => (aW.j1 k a b c d l e f g h i j)) else (aW.j1 k a b c d false e f g h i j)
def aW.j1 : Nat → List (S62) → List ByteArray → List Int → Int → Bool → Int → Int → ByteArray → List (S72) → List Int → Int → Option (List Int)
 | 0, _, _, _, _, _, _, _, _, _, _, _ => none
 | k + 1, a, b, c, d, e, f, g, h, i, j, l => if e = true then ((bU.f k f g h).bind fun m => ((bC.f k f g h m d).bind fun n => (if 0 ≤ d then (if d < (i.length : Int) then ((aR.f k ((dY i d).f0) ((dY i d).f1) a b n 1).bind fun o => (if (o.length : Int) = 1 then (if c.length < 17592186044416 then (aW.l0 k a b (c ++ [d]) (wrap64 (d + 1)) f g h i j l) else (none)) else (aW.l0 k a b c (wrap64 (d + 1)) f g h i j l))) else (none)) else (none)))) else (some c)
end
def aW.f (k : Nat) (LU LV : Int) (LW : ByteArray) (LX : List (S72)) (LY : List Int) (LZ : Int) (l1 : List (S62)) (l2 : List ByteArray) : Option (List Int) := aW.l0 k l1 l2 (([] : List Int)) 0 LU LV LW LX LY LZ
def aW.T5 : Bool × List (List Nat × List Nat) := (true, [([], []), ([0], [0]), ([], []), ([2], [2]), ([3], [3]), ([], []), ([1, 4, 5, 4], [1, 4, 5]), ([6, 6, 0, 1, 2, 3, 4, 5, 6], [6])])
def aW.B5 : List Nat := [0, 1, 0, 4, 12, 0, 63, 127]
theorem aW.KU : lN .any (opsOf Tryz.f17 5) = aW.T5 := by kernel_rfl
theorem aW.Ih : jD aW.T5.2 aW.B5 = true := by kernel_rfl
theorem aW.calls (k : Nat) (LU LV : Int) (LW : ByteArray) (A0_3 : Option Addr) (c0_3 : Nat) (LX : List (S72)) (A0_4 : Option Addr) (c0_4 : Nat) (LY : List Int) (LZ : Int) (A1 : Option Addr) (c1 : Nat) (l1 : List (S62)) (A2 : Option Addr) (c2 : Nat) (l2 : List ByteArray) (r : List Int) (w : World) (hr0_3 : Kd.C k72 w A0_3 LX.length LX) (hc0_3 : LX.length ≤ c0_3) (hr0_4 : Kd.C (Kd.int .i64) w A0_4 LY.length LY) (hc0_4 : LY.length ≤ c0_4) (hr1 : Kd.C k62 w A1 l1.length l1) (hc1 : l1.length ≤ c1) (hr2 : Kd.C Kd.string w A2 l2.length l2) (hc2 : l2.length ≤ c2) (h : aW.f k LU LV LW LX LY LZ l1 l2 = some r) :
  Calls Tryz.prog 17 #[.agg #[.int .i64 LU, .int .i64 LV, .string LW, .slice A0_3 LX.length c0_3, .slice A0_4 LY.length c0_4, .int .i64 LZ], .slice A1 l1.length c1, .slice A2 l2.length c2] w fun e w' => ∃ v0_ : Value, e = .returned (v0_) ∧ Kd.R (Kd.int .i64) 3 w' w.heap.size (fun _ => True) v0_ r ∧ Below w.heap.size w w' := by
 have ys := Tryz.underlying37;have yt := Tryz.underlying34;have yu := Tryz.underlying72;have M := ah.mk hr0_3;have xh := ah.mk hc0_3;clear hr0_3 hc0_3;have xi := ah.mk hr0_4;have xj := ah.mk hc0_4;clear hr0_4 hc0_4;have yb := ah.mk hr1;have yc := ah.mk hc1;clear hr1 hc1;have yd := ah.mk hr2;have ye := ah.mk hc2;clear hr2 hc2;have HB := ah.mk (Below.refl w.heap.size w);unfold aW.f at h;have H := h;clear h;obtain ⟨xS, x⟩ : ∃ y_ : List Int, y_ = (([] : List Int)) := ⟨_, rfl⟩;replace H : (aW.l0 k l1 l2 xS 0 LU LV LW LX LY LZ) = some r := by first | (rw [x]; with_reducible exact H) | (have H2_ := (Option.bind_some _ _).symm.trans H; rw [x]; with_reducible exact H2_) | (have H2_ := (Option.bind_some _ _).symm.trans H; with_reducible exact H2_) | with_reducible exact H | (rw [x]; exact H) | exact H
 have O := ah.mk x;clear x;have H' := ah.mk H;clear H;go_enter Tryz.func17, Tryz.ntmps17;go_wp2_with (first | ((with_reducible refine aJ (N := 3) rfl ?_); refine bf (N := 3) (cs := #[.int .i64 LU, .int .i64 LV, .string LW, .slice A0_3 LX.length c0_3, .slice A0_4 LY.length c0_4, .int .i64 LZ]) (t := 37) ?_; intro u hg w4 hbox hb; have a := ah.mk hbox; have xk := SZ (w := w) hg; have yf := xk; replace HB := BS (w := w) hb; clear hb hbox hg) | ((with_reducible refine aJ (N := 10) rfl ?_); refine Kd.qE (Kd.int .i64) _ 3 ?hg (N := 10) ?hd (xs := ([] : List Int)) (inner := []) (ok := fun _ => True) (okp := fun _ => True) ?hr ?hp (fun _ hk => hk) trivial (Below.refl _ _) (Nat.le_refl _) (by simp) ?_; (case hd => rfl); (case hg => rfl); (case hr => first | (go_simp; done) | (go_simp; rfl)); (case hp => exact (iA.none _ _)); intro yv w5 P hb hg_ hnew_; clear hg_ hnew_; (first | rw [← O.out] at P | (simp only [Int.reduceToNat] at P; rw [← O.out] at P)); replace a := KB a hb; have xl := ah.mk (Kd.bV P (aK BL)); replace HB := BS (w := w) hb; clear hb P))
 go_loopg [7, 8] k (fun kq v7 v8 w' => ∃ (y : List Int) (m : Int), v8 = .int .i64 m ∧ ah (aW.l0 kq l1 l2 y m LU LV LW LX LY LZ = some r) ∧ ah (kq ≤ k) ∧ ah (Kd.R (Kd.int .i64) 3 w' w.heap.size (fun _ => True) v7 y) ∧ ah (w'.heap[u]? = some (.cells #[.int .i64 LU, .int .i64 LV, .string LW, (.slice A0_3 LX.length c0_3), (.slice A0_4 LY.length c0_4), .int .i64 LZ] 37 (0, 0))) ∧ ah (Below w.heap.size w w'))
 case atStart => exact ⟨_, _, EQ, H', ⟨Nat.le_refl _⟩, ⟨(RR xl)⟩, ⟨BK⟩, ⟨BL⟩⟩
 case round =>
  clear H';(try clear c1);(try clear c2);obtain ⟨y, m, rfl, HA, J, l, a, HB⟩ := hrel
  cases gk with
  | zero => exact absurd HA.out (by simp [aW.l0])
  | succ k1 =>
   have H := HA.out;clear HA;simp only [aW.l0] at H;have xm := ah.mk H;clear H;go_upto_region 3 with (fail)
   go_cut [19] (fun yg wc => ∃ (kq : Nat) (G : Bool), yg = .bool G ∧ ah (aW.j1 kq l1 l2 y m G LU LV LW LX LY LZ = some r) ∧ ah (kq ≤ k1) ∧ ah (Kd.R (Kd.int .i64) 3 wc w.heap.size (fun _ => True) u7 y) ∧ ah (wc.heap[u]? = some (.cells #[.int .i64 LU, .int .i64 LV, .string LW, (.slice A0_3 LX.length c0_3), (.slice A0_4 LY.length c0_4), .int .i64 LZ] 37 (0, 0))) ∧ ah (Below w.heap.size w wc))
   case first =>
    have H := xm.out;clear xm;obtain ⟨xn, xo, xp, xq, xr, xt, xu, xv, xw, xx, xy, xz⟩ := cz6 a.out;replace H := ifD H; rcases H with ⟨E, H⟩ | ⟨E, H⟩
    ·(first | rw [E] | (simp only [iB, iZ]; rw [E]) | skip);replace H := be H; obtain ⟨xT, A9, H⟩ := H;have H' := ah.mk H;clear H;go_wp2_with (first | (go_at_call 31; (with_reducible refine (eX.calls k1 LU LV LW _ _ LX _ _ LY LZ xT _ ?side1 ?side2 ?side3 ?side4 A9.out).mono ?_); (case side1 => exact CB M); (case side2 => exact xh.out); (case side3 => exact CB xi); (case side4 => exact xj.out); rintro e yh ⟨rfl, hb⟩; replace l := RB l hb; replace a := KB a hb; replace HB := BS (w := w) hb; (try clear hb); (try clear hb2); (try clear hk); (try clear hi)));go_meet;case rel => exact ⟨_, _, EQ, H', ⟨by have := J.out; first | omega | exact Nat.le_refl _⟩, ⟨(RR l)⟩, ⟨BK⟩, ⟨BL⟩⟩
    ·(first | rw [E] | (simp only [iB, iZ]; rw [E]) | skip);have H' := ah.mk H;clear H;go_wp2;go_meet;case rel => exact ⟨_, _, EQ, H', ⟨by have := J.out; first | omega | exact Nat.le_refl _⟩, ⟨(RR l)⟩, ⟨BK⟩, ⟨BL⟩⟩
   case rest =>
    clear xm;(try clear c1);(try clear c2);obtain ⟨kq, G, rfl, HA, xd, l, a, HB⟩ := hcut
    cases kq with
    | zero => exact absurd HA.out (by simp [aW.j1])
    | succ L =>
     have H := HA.out;clear HA;simp only [aW.j1] at H;replace H := ifB H; rcases H with ⟨rfl, H⟩ | ⟨rfl, H⟩
     ·replace H := be H; obtain ⟨U, yi, H⟩ := H;replace H := be H; obtain ⟨Y, yj, H⟩ := H;replace H := ifN H; obtain ⟨yk, H⟩ := H;replace H := ifN H; obtain ⟨yl, H⟩ := H;replace H := be H; obtain ⟨xU, ym, H⟩ := H;replace H := ah.mk H;(try go_wp2);replace l := ah.mk (Kd.dN l.out);replace a := ah.mk (aH a.out);replace HB := ah.mk (dR HB.out);refine jS (n := 8) (S := fun w' => w'.cell? ⟨u, 0, none⟩ = some (.int .i64 LU) ∧ w'.cell? ⟨u, 1, none⟩ = some (.int .i64 LV) ∧ w'.cell? ⟨u, 2, none⟩ = some (.string LW) ∧ w'.cell? ⟨u, 3, none⟩ = some (.slice A0_3 LX.length c0_3) ∧ w'.cell? ⟨u, 4, none⟩ = some (.slice A0_4 LY.length c0_4) ∧ w'.cell? ⟨u, 5, none⟩ = some (.int .i64 LZ)) (ds := []) #[F,F,F,F,F,F,F,F] (by kernel_rfl) rfl rfl ⟨(ak a.out 0).trans rfl, (ak a.out 1).trans rfl, (ak a.out 2).trans rfl, (ak a.out 3).trans rfl, (ak a.out 4).trans rfl, (ak a.out 5).trans rfl⟩ (fun hHeld => ?_); refine jk aW.KU aW.Ih (fun HT_ HW_ => ?_);generalize wc.drew = yn at l a HB hHeld ⊢;refine pS 0 (some 22) #[T,F,F,F,F,F,F,F] ?_;refine pS 2 (some 24) #[T,F,T,F,F,F,F,F] ?_;refine pS 5 (some 27) #[T,F,T,F,F,T,F,F] ?_;refine tS 1 (some 23) #[T,T,T,F,F,T,F,F] ?_;refine tS 3 (some 25) #[T,T,T,T,F,T,F,F] ?_;refine mh (i := 4) (N := some 26) #[T,T,T,T,T,T,F,F] rfl rfl (jA HT_.out (by kernel_rfl)) (by decide) (fun K hK => ?_);refine jq Tryz.func41 #[.agg #[.int .i64 LU, .int .i64 LV, .string LW]] ?_;(with_reducible refine (bU.calls L LU LV LW U _ yi.out).mono ?_);rintro e yo ⟨rfl, hb⟩;refine ⟨_, rfl, ?_⟩;replace l := RB l hb;replace a := KB a hb;replace HB := BS (w := w) hb;(try clear hb);refine hK.out _ _ ⟨(ak a.out 0).trans rfl, (ak a.out 1).trans rfl, (ak a.out 2).trans rfl, (ak a.out 3).trans rfl, (ak a.out 4).trans rfl, (ak a.out 5).trans rfl⟩ (fun hHeld => ?_);clear hK K;refine nrm (some 26) ?_;refine mh (i := 6) (N := some 28) #[T,T,T,T,T,T,T,F] rfl rfl (jA HT_.out (by kernel_rfl)) (by decide) (fun K hK => ?_);refine jq Tryz.func40 #[.agg #[.int .i64 LU, .int .i64 LV, .string LW], .string U, .int .i64 m] ?_;(with_reducible refine (bC.calls L LU LV LW U m Y _ yj.out).mono ?_);rintro e yp ⟨rfl, hb⟩;refine ⟨_, rfl, ?_⟩;replace l := RB l hb;replace a := KB a hb;replace HB := BS (w := w) hb;(try clear hb);refine hK.out _ _ ⟨(ak a.out 0).trans rfl, (ak a.out 1).trans rfl, (ak a.out 2).trans rfl, (ak a.out 3).trans rfl, (ak a.out 4).trans rfl, (ak a.out 5).trans rfl⟩ (fun hHeld => ?_);clear hK K;refine nrm (some 28) ?_;refine pS 7 (some 9) #[T,T,T,T,T,T,T,T] ?_;refine iU (gX HT_.out (by kernel_rfl)) ?_;obtain ⟨xA, xB, xC, xD, xE, xF, xG, xH, xI, xJ, xK, xL⟩ := cz6 a.out;have Z : 0 ≤ (m : Int) := OD;have xa : m < (LX.length : Int) := OD;obtain ⟨xM, xe, xf, xV, z, A, hl460_1, hi460_1⟩ := wH M.out m Z xa
      cases xV
      (try replace z := (HB.out.cell (World.block_lt_of_cell? w _ z)).trans z);(try replace A := (HB.out.cell (World.block_lt_of_cell? w _ A)).trans A);have xb := ah.mk hi460_1;have xc := ah.mk hl460_1;clear hi460_1 hl460_1;replace Z := eq_true Z;replace xa := eq_true xa;go_wp2_with (first | ((with_reducible refine ay (f := 42) rfl ?_); refine bg (some 37) Tryz.func42 #[.agg #[.int .i64 ((dY LX m).f0), .slice xe ((dY LX m).f1).length xf], .slice A1 l1.length c1, .slice A2 l2.length c2, .string Y, .int .i64 1] ?_; (with_reducible refine (aR.calls L ((dY LX m).f0) _ _ ((dY LX m).f1) _ _ l1 _ _ l2 Y 1 xU _ ?side1 ?side2 ?side3 ?side4 ?side5 ?side6 ym.out).mono ?_); (case side1 => exact CB xb); (case side2 => exact xc.out); (case side3 => exact CB yb); (case side4 => exact yc.out); (case side5 => exact CB yd); (case side6 => exact ye.out); rintro e yq ⟨yw, rfl, xW, hb⟩; refine ⟨_, rfl, ?_⟩; replace l := RB l hb; replace a := KB a hb; have I := ah.mk (Kd.bV xW (aK BL)); replace HB := BS (w := w) hb; (try clear hb); (try clear xW); obtain ⟨xZ, ya, xg⟩ := Kd.dw I.out; subst xg; refine cB ?_));refine Hide.mk ?_;replace H := H.out;replace H := ifE H; rcases H with ⟨xN, xO, H⟩ | ⟨yB, xN, xO, H⟩
      ·replace H := ifP H; obtain ⟨xX, H⟩ := H;have xP := ah.mk xX;clear xX;obtain ⟨xY, D⟩ : ∃ y_ : List Int, y_ = (y ++ [m]) := ⟨_, rfl⟩;replace H : (aW.l0 L l1 l2 xY (wrap64 (m + 1)) LU LV LW LX LY LZ) = some r := by first | (rw [D]; with_reducible exact H) | (have H2_ := (Option.bind_some _ _).symm.trans H; rw [D]; with_reducible exact H2_) | (have H2_ := (Option.bind_some _ _).symm.trans H; with_reducible exact H2_) | with_reducible exact H | (rw [D]; exact H) | exact H
       have xQ := ah.mk D;clear D;have H' := ah.mk H;clear H;(try go_wp2_with (first | ((with_reducible refine dO (b := .append) (xs := #[.tmp 40, .tmp 42]) rfl ?_); at_builtin; refine Kd.gT (Kd.int .i64) (w0 := w) w.heap.size rfl (.tmp 40) (.tmp 42) 25 3 (.int .i64 0) 8 rfl Tryz.underlying25 info3 rfl (by decide) (by omega) u7 y m [.int .i64 m] (fun _ => True) (fun _ => False) rfl rfl ?aP (fun _ hk => hk.elim) ?aF ?aO ?aB ?aS ?aL ?_; (case aP => exact rfl); (case aB => exact BL); (case aF => exact (fun _ _ => trivial)); (case aO => exact (RR l)); (case aS => exact (aK BL)); (case aL => have := xP.out; omega); intro yx yr ho hb hg hat; rw [← xQ.out] at ho; replace I := ah.mk (Kd.lT (RR I) (Kd.fT (RR l)) (by decide) hg); replace a := ah.mk (dV (g := u) (o := .cells #[.int .i64 LU, .int .i64 LV, .string LW, .slice (some xM) LX.length c0_3, .slice A0_4 LY.length c0_4, .int .i64 LZ] 37 (0, 0)) BK hg (Kd.kE l.out a.out (by decide))); replace HB := ah.mk (hb); have xR := ah.mk (ho); clear l; clear ho hb hg hat)));go_roundg L;case measure => have := J.out; have := xd.out; omega
       case rel => exact ⟨_, _, EQ, H', kt J xd, ⟨(RR xR)⟩, ⟨BK⟩, ⟨BL⟩⟩
      ·have H' := ah.mk H;clear H;(try go_wp2);go_roundg L;case measure => have := J.out; have := xd.out; omega
       case rel => exact ⟨_, _, EQ, H', kt J xd, ⟨(RR l)⟩, ⟨BK⟩, ⟨BL⟩⟩
     ·obtain rfl := Option.some.inj H;go_wp2;go_ret;exact ⟨_, EWW, (RR l), BL⟩
def dx.f (a0 a1 a2 : Int) : Option (Bool) := if a1 ≤ a0 then (some (decide (a0 ≤ a2))) else (some false)
theorem dx.calls (l m o : Int) (r : Bool) (w : World) (h : dx.f l m o = some r) :
  Calls Tryz.prog 60 #[.int .i64 l, .int .i64 m, .int .i64 o] w fun e w' => e = .returned (.bool r) ∧ dn w w' := by
 unfold dx.f at h;have H := h;clear h;replace H := ah.mk H;go_enter Tryz.func60, Tryz.ntmps60;replace H := H.out;replace H := ifD H; rcases H with ⟨a, H⟩ | ⟨a, H⟩
 ·obtain rfl := Option.some.inj H;(try go_wp2);go_ret;exact ⟨EQ, DR⟩
 ·obtain rfl := Option.some.inj H;(try go_wp2);go_ret;exact ⟨EQ, DR⟩
mutual
def bB.j0 : Nat → Bool → Int → Int → ByteArray → Option (Bool)
 | 0, _, _, _, _ => none
 | k + 1, a, b, c, d => if a = true then (some false) else (bB.l0 k (d.size : Int) 0 b c d)
def bB.l0 : Nat → Int → Int → Int → Int → ByteArray → Option (Bool)
 | 0, _, _, _, _, _ => none
 | k + 1, a, b, c, d, e => if b < a then (if 0 ≤ b then (if b < (e.size : Int) then (if (bt e b) = 35 then (bB.l0 k a (wrap64 (b + 1)) c d e) else (if (bt e b) = 46 then (bB.l0 k a (wrap64 (b + 1)) c d e) else (some false))) else (none)) else (none)) else (some true)
end
def bB.f (k : Nat) (LU LV : Int) (LW : ByteArray) : Option (Bool) := (dx.f LU 2 6).bind fun t468 => (if t468 = true then ((dx.f LV 2 6).bind fun t469 => (if t469 = true then (bB.j0 k ((LW.size : Int) != (wrap64 (LU * LV))) LU LV LW) else (bB.j0 k true LU LV LW))) else (bB.j0 k true LU LV LW))
theorem bB.calls (k : Nat) (LU LV : Int) (LW : ByteArray) (r : Bool) (w : World) (h : bB.f k LU LV LW = some r) :
  Calls Tryz.prog 75 #[.agg #[.int .i64 LU, .int .i64 LV, .string LW]] w fun e w' => e = .returned (.bool r) ∧ Below w.heap.size w w' := by
 have xp := Tryz.underlying34;have HB := ah.mk (Below.refl w.heap.size w);unfold bB.f at h;have H := h;clear h;have I := ah.mk H;clear H;go_enter Tryz.func75, Tryz.ntmps75;go_upto_region 1 with (first | ((with_reducible refine aJ (N := 1) rfl ?_); (try (refine jI (by rfl) ?_; dsimp only)); refine bf (N := 1) (cs := #[.int .i64 LU, .int .i64 LV, .string LW]) (t := 34) ?_; intro D hg w3 hbox hb; have l := ah.mk hbox; have J := SZ (w := w) hg; have xk := J; replace HB := BS (w := w) hb; clear hb hbox hg));(try simp only [Act.put, List.setIfInBounds_toArray, List.set_cons_zero, List.set_cons_succ])
 go_cut [24] (fun xl wc => ∃ (kq : Nat) (m : Bool), xl = .bool m ∧ ah (bB.j0 kq m LU LV LW = some r) ∧ ah (kq ≤ k) ∧ ah (wc.heap[D]? = some (.cells #[.int .i64 LU, .int .i64 LV, .string LW] 34 (0, 0))) ∧ ah (Below w.heap.size w wc))
 case first =>
  have H := I.out;clear I;replace H := be H; obtain ⟨xq, A4, H⟩ := H;obtain ⟨K, L, M, O, P, U⟩ := cz3 l.out;replace H := ah.mk H;go_wp2_with (first | ((with_reducible refine ay (f := 60) rfl ?_); refine bg (some 6) Tryz.func60 #[.int .i64 LU, .int .i64 2, .int .i64 6] ?_; (with_reducible refine (dx.calls LU 2 6 _ _ A4.out).mono ?_); rintro e w' ⟨rfl, ⟨nd, rfl⟩⟩; refine ⟨_, rfl, ?_⟩; refine cB ?_));refine Hide.mk ?_;replace H := H.out;replace H := ifB H; rcases H with ⟨rfl, H⟩ | ⟨rfl, H⟩
  ·replace H := be H; obtain ⟨xr, A6, H⟩ := H;replace H := ah.mk H;go_wp2_with (first | (go_at_call 60; (with_reducible refine (dx.calls LV 2 6 _ _ A6.out).mono ?_); rintro e w' ⟨rfl, ⟨nd, rfl⟩⟩; refine cB ?_));refine Hide.mk ?_;replace H := H.out;replace H := ifB H; rcases H with ⟨rfl, H⟩ | ⟨rfl, H⟩
   ·have H' := ah.mk H;clear H;(try go_wp2);go_meet;case rel => exact ⟨_, _, EQ, H', ⟨by first | omega | exact Nat.le_refl _⟩, ⟨BK⟩, ⟨BL⟩⟩
   ·have H' := ah.mk H;clear H;(try go_wp2);go_meet;case rel => exact ⟨_, _, EQ, H', ⟨by first | omega | exact Nat.le_refl _⟩, ⟨BK⟩, ⟨BL⟩⟩
  ·have H' := ah.mk H;clear H;(try go_wp2);go_meet;case rel => exact ⟨_, _, EQ, H', ⟨by first | omega | exact Nat.le_refl _⟩, ⟨BK⟩, ⟨BL⟩⟩
 case rest =>
  clear I;obtain ⟨kq, m, rfl, HA, E, l, HB⟩ := hcut
  cases kq with
  | zero => exact absurd HA.out (by simp [bB.j0])
  | succ xj =>
   have H := HA.out;clear HA;simp only [bB.j0] at H;replace H := ifB H; rcases H with ⟨rfl, H⟩ | ⟨rfl, H⟩
   ·obtain rfl := Option.some.inj H;go_wp2;go_ret;exact ⟨EWW, BL⟩
   ·have H' := ah.mk H;clear H;obtain ⟨o, u, x, y, z, A⟩ := cz3 l.out;go_wp2
    go_loopg [28] xj (fun kq xm w' => ∃ (a : Int), xm = .int .i64 a ∧ ah (bB.l0 kq (LW.size : Int) a LU LV LW = some r) ∧ ah (kq ≤ xj) ∧ ah (w'.heap[D]? = some (.cells #[.int .i64 LU, .int .i64 LV, .string LW] 34 (0, 0))) ∧ ah (Below w.heap.size w w'))
    case atStart => exact ⟨_, EQ, H', ⟨Nat.le_refl _⟩, ⟨BK⟩, ⟨BL⟩⟩
    case round =>
     clear H';(try clear c1);(try clear xu);(try clear o u x y z A);obtain ⟨a, rfl, HA, G, l, HB⟩ := hrel
     cases gk with
     | zero => exact absurd HA.out (by simp [bB.l0])
     | succ k2 =>
      have H := HA.out;clear HA;simp only [bB.l0] at H;replace H := ifD H; rcases H with ⟨Y, H⟩ | ⟨Y, H⟩
      ·replace H := ifN H; obtain ⟨xn, H⟩ := H;replace H := ifN H; obtain ⟨xo, H⟩ := H;obtain ⟨Z, xa, xb, xc, xd, xe⟩ := cz3 l.out;have xv : (0 ≤ (a : Int)) = True := OT;have xw : (a < (LW.size : Int)) = True := OT;have hx16 := gF LW a;replace H := ifE H; rcases H with ⟨xf, xg, H⟩ | ⟨xx, xf, xg, H⟩
       ·have H' := ah.mk H;clear H;go_wp2;go_roundg k2;case measure => have := E.out; have := G.out; omega
        case rel => exact ⟨_, EQ, H', ⟨by have := E.out; have := G.out; omega⟩, ⟨BK⟩, ⟨BL⟩⟩
       ·have xy : (0 ≤ (a : Int)) = True := OT;have xz : (a < (LW.size : Int)) = True := OT;have hx19 := gF LW a;replace H := ifE H; rcases H with ⟨xh, xi, H⟩ | ⟨xA, xh, xi, H⟩
        ·have H' := ah.mk H;clear H;go_wp2;go_roundg k2;case measure => have := E.out; have := G.out; omega
         case rel => exact ⟨_, EQ, H', ⟨by have := E.out; have := G.out; omega⟩, ⟨BK⟩, ⟨BL⟩⟩
        ·obtain rfl := Option.some.inj H;go_wp2;go_ret;exact ⟨EWW, BL⟩
      ·obtain rfl := Option.some.inj H;go_wp2;go_ret;exact ⟨EWW, BL⟩
mutual
def eU.j0 : Nat → Int → Int → Int → Int → Int → Int → ByteArray → Option (Int)
 | 0, _, _, _, _, _, _, _ => none
 | k + 1, a, b, c, d, e, f, g => if 0 ≤ a then (if a < (g.size : Int) then (if (bt g a) = 46 then (if c > 0 then (if 0 ≤ (wrap64 (a - b)) then (if (wrap64 (a - b)) < (g.size : Int) then (eU.j1 k a b c d ((bt g (wrap64 (a - b))) == 46) e f g) else (none)) else (none)) else (eU.j1 k a b c d false e f g)) else (eU.j1 k a b c d true e f g)) else (none)) else (none)
def eU.j1 : Nat → Int → Int → Int → Int → Bool → Int → Int → ByteArray → Option (Int)
 | 0, _, _, _, _, _, _, _, _ => none
 | k + 1, a, b, c, d, e, f, g, h => if e = true then (some 0) else (eU.l0 k a b c d 0 f g h)
def eU.l0 : Nat → Int → Int → Int → Int → Int → Int → Int → ByteArray → Option (Int)
 | 0, _, _, _, _, _, _, _, _ => none
 | k + 1, a, b, c, d, e, f, g, h => if (wrap64 (c + e)) < d then (if 0 ≤ (wrap64 (a + (wrap64 (e * b)))) then (if (wrap64 (a + (wrap64 (e * b)))) < (h.size : Int) then (if (bt h (wrap64 (a + (wrap64 (e * b))))) = 46 then (eU.l0 k a b c d (wrap64 (e + 1)) f g h) else (some e)) else (none)) else (none)) else (some e)
end
def eU.f (k : Nat) (LU LV : Int) (LW : ByteArray) (a1 : Int) (a2 : Bool) : Option (Int) := if LV = 0 then (none) else (if a2 = true then (eU.j0 k a1 LV (wrap64 (Int.tdiv a1 LV)) LU LU LV LW) else (eU.j0 k a1 1 (Int.tmod a1 LV) LV LU LV LW))
theorem eU.calls (k : Nat) (LU LV : Int) (LW : ByteArray) (K : Int) (a2 : Bool) (r : Int) (w : World) (h : eU.f k LU LV LW K a2 = some r) :
  Calls Tryz.prog 100 #[.agg #[.int .i64 LU, .int .i64 LV, .string LW], .int .i64 K, .bool a2] w fun e w' => e = .returned (.int .i64 r) ∧ Below w.heap.size w w' := by
 have xM := Tryz.underlying34;have HB := ah.mk (Below.refl w.heap.size w);unfold eU.f at h;have H := h;clear h;by_cases c4 : LV = 0
 ·rw [if_pos c4] at H;exact absurd H (by simp)
 ·rw [if_neg c4] at H;have M : (LV == 0) = false := beq_eq_false_iff_ne.mpr c4;have O : (LV != 0) = true := bne_iff_ne.mpr c4;have xb := ah.mk H;clear H;go_enter Tryz.func100, Tryz.ntmps100;go_upto_if 17 with (first | ((with_reducible refine aJ (N := 3) rfl ?_); refine bf (N := 3) (cs := #[.int .i64 LU, .int .i64 LV, .string LW]) (t := 34) ?_; intro E hg P hbox hb; have a := ah.mk hbox; have G := SZ (w := w) hg; have U := G; replace HB := BS (w := w) hb; clear hb hbox hg; obtain ⟨l, m, o, u, x, y⟩ := cz3 a.out))
  repeat (go_quiet (first | ((with_reducible refine aJ (N := 3) rfl ?_); refine bf (N := 3) (cs := #[.int .i64 LU, .int .i64 LV, .string LW]) (t := 34) ?_; intro E hg P hbox hb; have a := ah.mk hbox; have G := SZ (w := w) hg; have U := G; replace HB := BS (w := w) hb; clear hb hbox hg; obtain ⟨l, m, o, u, x, y⟩ := cz3 a.out)); go_upto_if 17 with (first | ((with_reducible refine aJ (N := 3) rfl ?_); refine bf (N := 3) (cs := #[.int .i64 LU, .int .i64 LV, .string LW]) (t := 34) ?_; intro E hg P hbox hb; have a := ah.mk hbox; have G := SZ (w := w) hg; have U := G; replace HB := BS (w := w) hb; clear hb hbox hg; obtain ⟨l, m, o, u, x, y⟩ := cz3 a.out)))
  (try simp only [Act.put, List.setIfInBounds_toArray, List.set_cons_zero, List.set_cons_succ])
  go_cut [7, 8, 9] (fun v7 v8 v9 wc => ∃ (kq : Nat) (z : Int) (A : Int) (I : Int), v7 = .int .i64 z ∧ v8 = .int .i64 A ∧ v9 = .int .i64 I ∧ ah (eU.j0 kq K z A I LU LV LW = some r) ∧ ah (kq ≤ k) ∧ ah (wc.heap[E]? = some (.cells #[.int .i64 LU, .int .i64 LV, .string LW] 34 (0, 0))) ∧ ah (Below w.heap.size w wc))
  case first =>
   have H := xb.out;clear xb;by_cases c8 : a2 = true
   ·subst c8;rw [if_pos rfl] at H;have H' := ah.mk H;clear H;obtain ⟨xc, xd, xe, xf, xg, xh⟩ := cz3 a.out;go_wp2
    repeat (go_quiet (fail); try go_wp2)
    go_meet;case rel => exact ⟨_, _, _, _, EQ, EQ, EQ, H', ⟨by first | omega | exact Nat.le_refl _⟩, ⟨BK⟩, ⟨BL⟩⟩
   ·replace c8 := Bool.eq_false_iff.mpr c8;subst c8;rw [if_neg Bool.false_ne_true] at H;have H' := ah.mk H;clear H;go_wp2
    repeat (go_quiet (fail); try go_wp2)
    go_meet;case rel => exact ⟨_, _, _, _, EQ, EQ, EQ, H', ⟨by first | omega | exact Nat.le_refl _⟩, ⟨BK⟩, ⟨BL⟩⟩
  case rest =>
   clear xb;(try clear c4);(try clear M);(try clear O);(try clear l m o u x y);obtain ⟨kq, z, A, I, rfl, rfl, rfl, HA, Y, a, HB⟩ := hcut
   cases kq with
   | zero => exact absurd HA.out (by simp [eU.j0])
   | succ xA =>
    have H := HA.out;clear HA;simp only [eU.j0] at H;have Z := ah.mk H;clear H;go_upto_region 4 with (fail)
    repeat (go_quiet (fail); go_upto_region 4 with (fail))
    go_cut [43] (fun xF wc => ∃ (kq : Nat) (J : Bool), xF = .bool J ∧ ah (eU.j1 kq K z A I J LU LV LW = some r) ∧ ah (kq ≤ xA) ∧ ah (wc.heap[E]? = some (.cells #[.int .i64 LU, .int .i64 LV, .string LW] 34 (0, 0))) ∧ ah (Below w.heap.size w wc))
    case first =>
     have H := Z.out;clear Z;replace H := ifN H; obtain ⟨xa, H⟩ := H;(first | rw [xa] | (simp only [iB, iZ]; rw [xa]) | skip);replace H := ifN H; obtain ⟨xG, H⟩ := H;obtain ⟨xi, xj, xk, xl, xm, xn⟩ := cz3 a.out;have xQ : (0 ≤ (K : Int)) = True := OT;have xR : (K < (LW.size : Int)) = True := OT;have hx13 := gF LW K;replace H := ifE H; rcases H with ⟨xo, xp, H⟩ | ⟨xS, xo, xp, H⟩
     ·by_cases L : A > 0
      ·rw [if_pos L] at H;have xq : decide (0 < A) = true := decide_eq_true L;clear L;obtain ⟨ji16, hji16⟩ : ∃ j_ : Int, (wrap64 (K - z)) = j_ := ⟨_, rfl⟩;replace H : (if 0 ≤ (ji16) then (if (ji16) < (LW.size : Int) then (eU.j1 xA K z A I ((bt LW (ji16)) == 46) LU LV LW) else (none)) else (none)) = some r := by first | (rw [hji16] at H; exact H) | (simp only [hji16] at H ⊢; exact H)
       have hji16w : (IntKind.i64.wrap (K - z)) = ji16 := (iB _).trans hji16;replace H := ifN H; obtain ⟨xH, H⟩ := H;replace H := ifN H; obtain ⟨xI, H⟩ := H;have H' := ah.mk H;clear H;have xT : (0 ≤ ((ji16) : Int)) = True := OT;have xU : ((ji16) < (LW.size : Int)) = True := OT;have hx19 := gF LW (ji16);go_wp2
       repeat (go_quiet (fail); try go_wp2)
       go_meet;case rel => exact ⟨_, (((bt LW (ji16)) == 46)), (by first | rfl | (simp; done) | (simp only [← hji16] <;> (first | rfl | simp)) | (simp [*]; done)), H', ⟨by have := Y.out; first | omega | exact Nat.le_refl _⟩, ⟨BK⟩, ⟨BL⟩⟩
      ·rw [if_neg L] at H;have xq : decide (0 < A) = false := decide_eq_false L;clear L;have H' := ah.mk H;clear H;go_wp2
       repeat (go_quiet (fail); try go_wp2)
       go_meet;case rel => exact ⟨_, _, EQ, H', ⟨by have := Y.out; first | omega | exact Nat.le_refl _⟩, ⟨BK⟩, ⟨BL⟩⟩
     ·have H' := ah.mk H;clear H;go_wp2
      repeat (go_quiet (fail); try go_wp2)
      go_meet;case rel => exact ⟨_, _, EQ, H', ⟨by have := Y.out; first | omega | exact Nat.le_refl _⟩, ⟨BK⟩, ⟨BL⟩⟩
    case rest =>
     clear Z;(try clear c4);(try clear M);(try clear O);(try clear l m o u x y);obtain ⟨kq, J, rfl, HA, xB, a, HB⟩ := hcut
     cases kq with
     | zero => exact absurd HA.out (by simp [eU.j1])
     | succ xC =>
      have H := HA.out;clear HA;simp only [eU.j1] at H;replace H := ifB H; rcases H with ⟨rfl, H⟩ | ⟨rfl, H⟩
      ·obtain rfl := Option.some.inj H;go_wp2
       repeat (go_quiet (fail); try go_wp2)
       go_ret;exact ⟨EWW, BL⟩
      ·have H' := ah.mk H;clear H;go_wp2
       repeat (go_quiet (fail); try go_wp2)
       go_loopg [10] xC (fun kq xJ w' => ∃ (D : Int), xJ = .int .i64 D ∧ ah (eU.l0 kq K z A I D LU LV LW = some r) ∧ ah (kq ≤ xC) ∧ ah (w'.heap[E]? = some (.cells #[.int .i64 LU, .int .i64 LV, .string LW] 34 (0, 0))) ∧ ah (Below w.heap.size w w'))
       case atStart => exact ⟨_, EQ, H', ⟨Nat.le_refl _⟩, ⟨BK⟩, ⟨BL⟩⟩
       case round =>
        clear H';(try clear c4);(try clear M);(try clear O);(try clear xV);(try clear l m o u x y);obtain ⟨D, rfl, HA, xD, a, HB⟩ := hrel
        cases gk with
        | zero => exact absurd HA.out (by simp [eU.l0])
        | succ k3 =>
         have H := HA.out;clear HA;simp only [eU.l0] at H;replace H := ifD H; rcases H with ⟨xr, H⟩ | ⟨xr, H⟩
         ·obtain ⟨ji25, hji25⟩ : ∃ j_ : Int, (wrap64 (K + (wrap64 (D * z)))) = j_ := ⟨_, rfl⟩;replace H : (if 0 ≤ (ji25) then (if (ji25) < (LW.size : Int) then (if (bt LW (ji25)) = 46 then (eU.l0 k3 K z A I (wrap64 (D + 1)) LU LV LW) else (some D)) else (none)) else (none)) = some r := by first | (rw [hji25] at H; exact H) | (simp only [hji25] at H ⊢; exact H)
          have hji25w : (IntKind.i64.wrap (K + (wrap64 (D * z)))) = ji25 := (iB _).trans hji25;replace H := ifN H; obtain ⟨xK, H⟩ := H;replace H := ifN H; obtain ⟨xL, H⟩ := H;obtain ⟨xs, xt, xu, xv, xw, xx⟩ := cz3 a.out;have xW : (0 ≤ ((ji25) : Int)) = True := OT;have xX : ((ji25) < (LW.size : Int)) = True := OT;have hx28 := gF LW (ji25);replace H := ifE H; rcases H with ⟨xy, xz, H⟩ | ⟨xY, xy, xz, H⟩
          ·have H' := ah.mk H;clear H;go_wp2
           repeat (go_quiet (fail); try go_wp2)
           go_roundg k3;case measure => have := Y.out; have := xB.out; have := xD.out; omega
           case rel => exact ⟨_, EQ, H', ⟨by have := Y.out; have := xB.out; have := xD.out; omega⟩, ⟨BK⟩, ⟨BL⟩⟩
          ·obtain rfl := Option.some.inj H;go_wp2
           repeat (go_quiet (fail); try go_wp2)
           go_ret;exact ⟨by first | rfl | (simp [mQ, mR] <;> rfl) | (simp only [← hji25]; first | rfl | (simp [mQ, mR] <;> rfl)) | (simp [*, mQ, mR] <;> rfl), BL⟩
         ·obtain rfl := Option.some.inj H;go_wp2
          repeat (go_quiet (fail); try go_wp2)
          go_ret;exact ⟨EWW, BL⟩
mutual
def aY.l0 : Nat → List (S92) → Int → Int → Int → Int → Int → ByteArray → Option ((List (S92)))
 | 0, _, _, _, _, _, _, _ => none
 | k + 1, a, b, c, d, e, f, g => if d < c then ((eU.f k e f g d false).bind fun h => ((eU.f k e f g d true).bind fun i => (if h ≥ 2 then (aY.j1 k a b d h i c d true e f g) else (aY.j1 k a b d h i c d (decide (i ≥ 2)) e f g)))) else (some a)
def aY.j1 : Nat → List (S92) → Int → Int → Int → Int → Int → Int → Bool → Int → Int → ByteArray → Option ((List (S92)))
 | 0, _, _, _, _, _, _, _, _, _, _, _ => none
 | k + 1, a, b, c, d, e, f, g, h, i, j, l => if h = true then (aY.j2 k a (wrap64 (b + 1)) c d e f g i j l) else (aY.j2 k a b c d e f g i j l)
def aY.j2 : Nat → List (S92) → Int → Int → Int → Int → Int → Int → Int → Int → ByteArray → Option ((List (S92)))
 | 0, _, _, _, _, _, _, _, _, _, _ => none
 | k + 1, a, b, c, d, e, f, g, h, i, j => if d ≥ 2 then (if a.length < 4398046511104 then ((some (a ++ [(⟨b, false, c, d⟩ : S92)] : List (S92))).bind fun l => (if e ≥ 2 then (if l.length < 4398046511104 then (aY.l0 k (l ++ [(⟨b, true, c, e⟩ : S92)]) b f (wrap64 (g + 1)) h i j) else (none)) else (aY.l0 k l b f (wrap64 (g + 1)) h i j))) else (none)) else (if e ≥ 2 then (if a.length < 4398046511104 then (aY.l0 k (a ++ [(⟨b, true, c, e⟩ : S92)]) b f (wrap64 (g + 1)) h i j) else (none)) else (aY.l0 k a b f (wrap64 (g + 1)) h i j))
end
def aY.f (k : Nat) (LU LV : Int) (LW : ByteArray) : Option ((List (S92))) := (bB.f k LU LV LW).bind fun t472 => (if t472 = true then (aY.l0 k ([] : List (S92)) 0 (LW.size : Int) 0 LU LV LW) else (some ([] : List (S92))))
def aY.T8 : Bool × List (List Nat × List Nat) := (true, [([], []), ([], []), ([0, 1], [0, 1]), ([], []), ([], []), ([3, 4, 2], [3, 4]), ([2, 5, 0, 1, 2], [2]), ([5, 6, 0, 1, 2, 3, 4, 5, 6], [5])])
def aY.B8 : List Nat := [0, 0, 3, 0, 0, 31, 63, 127]
theorem aY.LM : lN .any (opsOf Tryz.f59 8) = aY.T8 := by kernel_rfl
theorem aY.Lm : jD aY.T8.2 aY.B8 = true := by kernel_rfl
theorem aY.calls (k : Nat) (LU LV : Int) (LW : ByteArray) (r : List (S92)) (w : World) (h : aY.f k LU LV LW = some r) :
  Calls Tryz.prog 59 #[.agg #[.int .i64 LU, .int .i64 LV, .string LW]] w fun e w' => ∃ v0_ : Value, e = .returned (v0_) ∧ Kd.R k92 92 w' w.heap.size (fun _ => True) v0_ r ∧ Below w.heap.size w w' := by
 have xZ := Tryz.underlying34;have ya := Tryz.underlying92;have HB := ah.mk (Below.refl w.heap.size w);unfold aY.f at h;have H := h;clear h;replace H := be H; obtain ⟨yb, A2, H⟩ := H;replace H := ah.mk H;go_enter Tryz.func59, Tryz.ntmps59;go_wp2_with (first | ((with_reducible refine aJ (N := 1) rfl ?_); refine bf (N := 1) (cs := #[.int .i64 LU, .int .i64 LV, .string LW]) (t := 34) ?_; intro z hg xO hbox hb; have a := ah.mk hbox; have xu := SZ (w := w) hg; have xP := xu; replace HB := BS (w := w) hb; clear hb hbox hg; obtain ⟨E, G, I, J, L, M⟩ := cz3 a.out) | ((with_reducible refine ay (f := 75) rfl ?_); refine bg (some 9) Tryz.func75 #[.agg #[.int .i64 LU, .int .i64 LV, .string LW]] ?_; (with_reducible refine (bB.calls k LU LV LW _ _ A2.out).mono ?_); rintro e xQ ⟨rfl, hb⟩; refine ⟨_, rfl, ?_⟩; replace a := KB a hb; replace HB := BS (w := w) hb; (try clear hb); obtain ⟨O, P, U, Y, Z, xa⟩ := cz3 a.out; refine cB ?_));refine Hide.mk ?_;replace H := H.out;replace H := ifB H; rcases H with ⟨rfl, H⟩ | ⟨rfl, H⟩
 ·have H' := ah.mk H;clear H;try go_wp2
  go_loopg [3, 4, 14] k (fun kq v3 v4 xS w' => ∃ (A : List (S92)) (xl : Int) (l : Int), v4 = .int .i64 xl ∧ xS = .int .i64 l ∧ ah (aY.l0 kq A xl (LW.size : Int) l LU LV LW = some r) ∧ ah (kq ≤ k) ∧ ah (Kd.R k92 92 w' w.heap.size (fun _ => True) v3 A) ∧ ah (w'.heap[z]? = some (.cells #[.int .i64 LU, .int .i64 LV, .string LW] 34 (0, 0))) ∧ ah (Below w.heap.size w w'))
  case atStart => exact ⟨_, _, _, EQ, EQ, H', ⟨Nat.le_refl _⟩, ⟨by first | exact Kd.nO _ _ _ _ _ | exact Kd.qo _ _ _ _ _ | exact Kd.qx _ _ _ _ _ | exact Kd.qp _ _ _ _ _ | exact Kd.qw _ _ _ _ _⟩, ⟨BK⟩, ⟨BL⟩⟩
  case round =>
   clear H';(try clear c3);(try clear E G I);(try clear O P U);(try clear J L M);(try clear Y Z xa);obtain ⟨A, xl, l, rfl, rfl, HA, xd, u, a, HB⟩ := hrel
   cases gk with
   | zero => exact absurd HA.out (by simp [aY.l0])
   | succ k1 =>
    have H := HA.out;clear HA;simp only [aY.l0] at H;replace H := ifD H; rcases H with ⟨xq, H⟩ | ⟨xq, H⟩
    ·replace H := be H; obtain ⟨y, A9, H⟩ := H;replace H := be H; obtain ⟨x, xT, H⟩ := H;have xr := ah.mk H;clear H;(try go_wp2);replace u := ah.mk (Kd.dN u.out);replace a := ah.mk (aH a.out);replace HB := ah.mk (dR HB.out);refine jS (n := 8) (S := fun w' => w'.cell? ⟨z, 0, none⟩ = some (.int .i64 LU) ∧ w'.cell? ⟨z, 1, none⟩ = some (.int .i64 LV) ∧ w'.cell? ⟨z, 2, none⟩ = some (.string LW)) (ds := []) #[F,F,F,F,F,F,F,F] (by kernel_rfl) rfl rfl ⟨(ak a.out 0).trans rfl, (ak a.out 1).trans rfl, (ak a.out 2).trans rfl⟩ (fun hHeld => ?_); refine jk aY.LM aY.Lm (fun HT_ HW_ => ?_);generalize wr.drew = xU at u a HB hHeld ⊢;refine pS 1 (some 18) #[F,T,F,F,F,F,F,F] ?_;refine pS 4 (some 21) #[F,T,F,F,T,F,F,F] ?_;refine tS 0 (some 17) #[T,T,F,F,T,F,F,F] ?_;refine tS 3 (some 20) #[T,T,F,T,T,F,F,F] ?_;refine mh (i := 2) (N := some 19) #[T,T,T,T,T,F,F,F] rfl rfl (jA HT_.out (by kernel_rfl)) (by decide) (fun K hK => ?_);refine jq Tryz.func100 #[.agg #[.int .i64 LU, .int .i64 LV, .string LW], .int .i64 l, .bool false] ?_;(with_reducible refine (eU.calls k1 LU LV LW l false y _ A9.out).mono ?_);rintro e xV ⟨rfl, hb⟩;refine ⟨_, rfl, ?_⟩;replace u := RB u hb;replace a := KB a hb;replace HB := BS (w := w) hb;(try clear hb);refine hK.out _ _ ⟨(ak a.out 0).trans rfl, (ak a.out 1).trans rfl, (ak a.out 2).trans rfl⟩ (fun hHeld => ?_);clear hK K;refine nrm (some 19) ?_;refine mh (i := 5) (N := some 22) #[T,T,T,T,T,T,F,F] rfl rfl (jA HT_.out (by kernel_rfl)) (by decide) (fun K hK => ?_);refine jq Tryz.func100 #[.agg #[.int .i64 LU, .int .i64 LV, .string LW], .int .i64 l, .bool true] ?_;(with_reducible refine (eU.calls k1 LU LV LW l true x _ xT.out).mono ?_);rintro e xW ⟨rfl, hb⟩;refine ⟨_, rfl, ?_⟩;replace u := RB u hb;replace a := KB a hb;replace HB := BS (w := w) hb;(try clear hb);refine hK.out _ _ ⟨(ak a.out 0).trans rfl, (ak a.out 1).trans rfl, (ak a.out 2).trans rfl⟩ (fun hHeld => ?_);clear hK K;refine nrm (some 22) ?_;refine pS 6 (some 6) #[T,T,T,T,T,T,T,F] ?_;refine pS 7 (some 7) #[T,T,T,T,T,T,T,T] ?_;refine iU (gX HT_.out (by kernel_rfl)) ?_;go_upto_region 9 with (fail)
     go_cut [28] (fun xX wc => ∃ (kq : Nat) (xi : Bool), xX = .bool xi ∧ ah (aY.j1 kq A xl l y x (LW.size : Int) l xi LU LV LW = some r) ∧ ah (kq ≤ k1) ∧ ah (Kd.R k92 92 wc w.heap.size (fun _ => True) u3 A) ∧ ah (wc.heap[z]? = some (.cells #[.int .i64 LU, .int .i64 LV, .string LW] 34 (0, 0))) ∧ ah (Below w.heap.size w wc))
     case first =>
      have H := xr.out;clear xr;by_cases xm : y ≥ 2
      ·rw [if_pos xm] at H;have xe : decide (2 ≤ y) = true := decide_eq_true xm;clear xm;(first | rw [xe] | (simp only [iB, iZ]; rw [xe]) | skip);have H' := ah.mk H;clear H;go_wp2;go_meet;case rel => exact ⟨_, _, EQ, H', ⟨by have := xd.out; first | omega | exact Nat.le_refl _⟩, ⟨(RR u)⟩, ⟨BK⟩, ⟨BL⟩⟩
      ·rw [if_neg xm] at H;have xe : decide (2 ≤ y) = false := decide_eq_false xm;clear xm;(first | rw [xe] | (simp only [iB, iZ]; rw [xe]) | skip);have H' := ah.mk H;clear H;go_wp2;go_meet;case rel => exact ⟨_, _, EQ, H', ⟨by have := xd.out; first | omega | exact Nat.le_refl _⟩, ⟨(RR u)⟩, ⟨BK⟩, ⟨BL⟩⟩
     case rest =>
      clear xr;(try clear c3);(try clear c8);(try clear xq);(try clear E G I);(try clear O P U);(try clear J L M);(try clear Y Z xa);obtain ⟨kq, xi, rfl, HA, D, u, a, HB⟩ := hcut
      cases kq with
      | zero => exact absurd HA.out (by simp [aY.j1])
      | succ xH =>
       have H := HA.out;clear HA;simp only [aY.j1] at H;have xt := ah.mk H;clear H;go_upto_if 28 with (fail)
       go_cut [4] (fun v4 wc => ∃ (kq : Nat) (m : Int), v4 = .int .i64 m ∧ ah (aY.j2 kq A m l y x (LW.size : Int) l LU LV LW = some r) ∧ ah (kq ≤ xH) ∧ ah (Kd.R k92 92 wc w.heap.size (fun _ => True) u3 A) ∧ ah (wc.heap[z]? = some (.cells #[.int .i64 LU, .int .i64 LV, .string LW] 34 (0, 0))) ∧ ah (Below w.heap.size w wc))
       case first =>
        have H := xt.out;clear xt;replace H := ifB H; rcases H with ⟨rfl, H⟩ | ⟨rfl, H⟩
        ·have H' := ah.mk H;clear H;go_wp2;go_meet;case rel => exact ⟨_, _, EQ, H', ⟨by have := xd.out; have := D.out; first | omega | exact Nat.le_refl _⟩, ⟨(RR u)⟩, ⟨BK⟩, ⟨BL⟩⟩
        ·have H' := ah.mk H;clear H;go_wp2;go_meet;case rel => exact ⟨_, _, EQ, H', ⟨by have := xd.out; have := D.out; first | omega | exact Nat.le_refl _⟩, ⟨(RR u)⟩, ⟨BK⟩, ⟨BL⟩⟩
       case rest =>
        clear xt;(try clear c3);(try clear c8);(try clear xq);(try clear E G I);(try clear O P U);(try clear J L M);(try clear Y Z xa);obtain ⟨kq, m, rfl, HA, xb, u, a, HB⟩ := hcut
        cases kq with
        | zero => exact absurd HA.out (by simp [aY.j2])
        | succ xc =>
         have H := HA.out;clear HA;simp only [aY.j2] at H;by_cases xn : y ≥ 2
         ·rw [if_pos xn] at H;have xv : decide (2 ≤ y) = true := decide_eq_true xn;clear xn;replace H := ifP H; obtain ⟨xI, H⟩ := H;have xw := ah.mk xI;clear xI;obtain ⟨xk, xf⟩ : ∃ y_ : List (S92), y_ = (A ++ [(⟨m, false, l, y⟩ : S92)]) := ⟨_, rfl⟩;replace H : (if x ≥ 2 then (if xk.length < 4398046511104 then (aY.l0 xc (xk ++ [(⟨m, true, l, x⟩ : S92)]) m (LW.size : Int) (wrap64 (l + 1)) LU LV LW) else (none)) else (aY.l0 xc xk m (LW.size : Int) (wrap64 (l + 1)) LU LV LW)) = some r := by first | (rw [xf]; with_reducible exact H) | (have H2_ := (Option.bind_some _ _).symm.trans H; rw [xf]; with_reducible exact H2_) | (have H2_ := (Option.bind_some _ _).symm.trans H; with_reducible exact H2_) | with_reducible exact H | (rw [xf]; exact H) | exact H
          have xx := ah.mk xf;clear xf;replace H := ah.mk H;go_wp2_with (first | ((with_reducible refine dO (b := .append) (xs := #[.tmp 33, .tmp 38]) rfl ?_); at_builtin; refine Kd.gT k92 (w0 := w) w.heap.size rfl (.tmp 33) (.tmp 38) 83 92 (.agg #[(.int .i64 0), (.bool false), (.int .i64 0), (.int .i64 0)]) 32 rfl Tryz.underlying83 wO rfl (by decide) (by omega) u3 A (⟨m, false, l, y⟩ : S92) [.int .i64 m, .bool false, .int .i64 l, .int .i64 y] (fun _ => True) (fun _ => False) rfl rfl ?aP (fun _ hk => hk.elim) ?aF ?aO ?aB ?aS ?aL ?_; (case aP => exact rE _ _ _ (⟨m, false, l, y⟩ : S92)); (case aB => exact BL); (case aF => exact (fun _ _ => trivial)); (case aO => exact (RR u)); (case aS => exact (aK BL)); (case aL => have := xw.out; omega); intro xJ xy ho hb hg hat; rw [← xx.out] at ho; replace a := ah.mk (dV (g := z) (o := .cells #[.int .i64 LU, .int .i64 LV, .string LW] 34 (0, 0)) BK hg (Kd.kE u.out a.out (by decide))); replace HB := ah.mk (hb); have xj := ah.mk (ho); clear u; clear ho hb hg hat; refine cB ?_));refine Hide.mk ?_;replace H := H.out;by_cases xo : x ≥ 2
          ·rw [if_pos xo] at H;have xz : decide (2 ≤ x) = true := decide_eq_true xo;clear xo;replace H := ifP H; obtain ⟨xK, H⟩ := H;have xA := ah.mk xK;clear xK;obtain ⟨xL, xg⟩ : ∃ y_ : List (S92), y_ = (xk ++ [(⟨m, true, l, x⟩ : S92)]) := ⟨_, rfl⟩;replace H : (aY.l0 xc xL m (LW.size : Int) (wrap64 (l + 1)) LU LV LW) = some r := by first | (rw [xg]; with_reducible exact H) | (have H2_ := (Option.bind_some _ _).symm.trans H; rw [xg]; with_reducible exact H2_) | (have H2_ := (Option.bind_some _ _).symm.trans H; with_reducible exact H2_) | with_reducible exact H | (rw [xg]; exact H) | exact H
           have xB := ah.mk xg;clear xg;have H' := ah.mk H;clear H;(try go_wp2_with (first | ((with_reducible refine dO (b := .append) (xs := #[.tmp 42, .tmp 47]) rfl ?_); at_builtin; refine Kd.gT k92 (w0 := w) w.heap.size rfl (.tmp 42) (.tmp 47) 83 92 (.agg #[(.int .i64 0), (.bool false), (.int .i64 0), (.int .i64 0)]) 32 rfl Tryz.underlying83 wO rfl (by decide) (by omega) xJ xk (⟨m, true, l, x⟩ : S92) [.int .i64 m, .bool true, .int .i64 l, .int .i64 x] (fun _ => True) (fun _ => False) rfl rfl ?aP (fun _ hk => hk.elim) ?aF ?aO ?aB ?aS ?aL ?_; (case aP => exact rE _ _ _ (⟨m, true, l, x⟩ : S92)); (case aB => exact BL); (case aF => exact (fun _ _ => trivial)); (case aO => exact (RR xj)); (case aS => exact (aK BL)); (case aL => have := xA.out; omega); intro yc xY ho hb hg hat; rw [← xB.out] at ho; replace a := ah.mk (dV (g := z) (o := .cells #[.int .i64 LU, .int .i64 LV, .string LW] 34 (0, 0)) BK hg (Kd.kE xj.out a.out (by decide))); replace HB := ah.mk (hb); have xC := ah.mk (ho); clear xj; clear ho hb hg hat)));go_roundg xc;case measure => have := xd.out; have := D.out; have := xb.out; omega
           case rel => exact ⟨_, _, _, EQ, EQ, H', ⟨by have := xd.out; have := D.out; have := xb.out; omega⟩, ⟨(RR xC)⟩, ⟨BK⟩, ⟨BL⟩⟩
          ·rw [if_neg xo] at H;have xz : decide (2 ≤ x) = false := decide_eq_false xo;clear xo;have H' := ah.mk H;clear H;(try go_wp2);go_roundg xc;case measure => have := xd.out; have := D.out; have := xb.out; omega
           case rel => exact ⟨_, _, _, EQ, EQ, H', ⟨by have := xd.out; have := D.out; have := xb.out; omega⟩, ⟨(RR xj)⟩, ⟨BK⟩, ⟨BL⟩⟩
         ·rw [if_neg xn] at H;have xv : decide (2 ≤ y) = false := decide_eq_false xn;clear xn;by_cases xp : x ≥ 2
          ·rw [if_pos xp] at H;have xD : decide (2 ≤ x) = true := decide_eq_true xp;clear xp;replace H := ifP H; obtain ⟨xM, H⟩ := H;have xE := ah.mk xM;clear xM;obtain ⟨xN, xh⟩ : ∃ y_ : List (S92), y_ = (A ++ [(⟨m, true, l, x⟩ : S92)]) := ⟨_, rfl⟩;replace H : (aY.l0 xc xN m (LW.size : Int) (wrap64 (l + 1)) LU LV LW) = some r := by first | (rw [xh]; with_reducible exact H) | (have H2_ := (Option.bind_some _ _).symm.trans H; rw [xh]; with_reducible exact H2_) | (have H2_ := (Option.bind_some _ _).symm.trans H; with_reducible exact H2_) | with_reducible exact H | (rw [xh]; exact H) | exact H
           have xF := ah.mk xh;clear xh;have H' := ah.mk H;clear H;go_wp2_with (first | ((with_reducible refine dO (b := .append) (xs := #[.tmp 42, .tmp 47]) rfl ?_); at_builtin; refine Kd.gT k92 (w0 := w) w.heap.size rfl (.tmp 42) (.tmp 47) 83 92 (.agg #[(.int .i64 0), (.bool false), (.int .i64 0), (.int .i64 0)]) 32 rfl Tryz.underlying83 wO rfl (by decide) (by omega) u3 A (⟨m, true, l, x⟩ : S92) [.int .i64 m, .bool true, .int .i64 l, .int .i64 x] (fun _ => True) (fun _ => False) rfl rfl ?aP (fun _ hk => hk.elim) ?aF ?aO ?aB ?aS ?aL ?_; (case aP => exact rE _ _ _ (⟨m, true, l, x⟩ : S92)); (case aB => exact BL); (case aF => exact (fun _ _ => trivial)); (case aO => exact (RR u)); (case aS => exact (aK BL)); (case aL => have := xE.out; omega); intro yd xy ho hb hg hat; rw [← xF.out] at ho; replace a := ah.mk (dV (g := z) (o := .cells #[.int .i64 LU, .int .i64 LV, .string LW] 34 (0, 0)) BK hg (Kd.kE u.out a.out (by decide))); replace HB := ah.mk (hb); have xG := ah.mk (ho); clear u; clear ho hb hg hat));go_roundg xc;case measure => have := xd.out; have := D.out; have := xb.out; omega
           case rel => exact ⟨_, _, _, EQ, EQ, H', ⟨by have := xd.out; have := D.out; have := xb.out; omega⟩, ⟨(RR xG)⟩, ⟨BK⟩, ⟨BL⟩⟩
          ·rw [if_neg xp] at H;have xD : decide (2 ≤ x) = false := decide_eq_false xp;clear xp;have H' := ah.mk H;clear H;go_wp2;go_roundg xc;case measure => have := xd.out; have := D.out; have := xb.out; omega
           case rel => exact ⟨_, _, _, EQ, EQ, H', ⟨by have := xd.out; have := D.out; have := xb.out; omega⟩, ⟨(RR u)⟩, ⟨BK⟩, ⟨BL⟩⟩
    ·obtain rfl := Option.some.inj H;go_wp2;go_ret;exact ⟨_, EWW, (RR u), BL⟩
 ·obtain rfl := Option.some.inj H;(try go_wp2);go_ret;exact ⟨_, EWW, by first | exact Kd.nO _ _ _ _ _ | exact Kd.qo _ _ _ _ _ | exact Kd.qx _ _ _ _ _ | exact Kd.qp _ _ _ _ _ | exact Kd.qw _ _ _ _ _, BL⟩
def iC.f (a0 : ByteArray) : Option (ByteArray) := if a0.size ≤ 100 then (some (strOfNums (bytesOf a0).reverse)) else (none)
theorem iC.calls (a r : ByteArray) (w : World) (h : iC.f a = some r) :
  Calls Tryz.prog 148 #[.string a] w fun e w' => e = .returned (.string r) ∧ Below w.heap.size w w' := by
 by_cases h1 : a.size ≤ 100
 ·have hr : r = strOfNums (bytesOf a).reverse := by
   unfold iC.f at h;rw [if_pos h1] at h;exact (Option.some.inj h).symm
  subst hr;exact Go.Proofs.YthkfjbodohaglaaGreatDoor.HandSort.DF a w h1
 ·simp [iC.f, h1] at h
attribute [local go_sem high] Kk
def jY.f (k : Nat) (LU LV : Int) (LW : ByteArray) : Option (Int × Int × ByteArray) := (bB.f k LU LV LW).bind fun t486 => (if t486 = true then ((iC.f LW).bind fun t487 => (some (LU, LV, t487))) else (some (0, 0, (⟨#[]⟩ : ByteArray))))
theorem jY.calls (k : Nat) (LU LV : Int) (LW : ByteArray) (r1 r2 : Int) (r3 : ByteArray) (w : World) (h : jY.f k LU LV LW = some (r1, r2, r3)) :
  Calls Tryz.prog 125 #[.agg #[.int .i64 LU, .int .i64 LV, .string LW]] w fun e w' => e = .returned (.agg #[.int .i64 r1, .int .i64 r2, .string r3]) ∧ Below w.heap.size w w' := by
 have xt := Tryz.underlying34;have HB := ah.mk (Below.refl w.heap.size w);unfold jY.f at h;have H := h;clear h;replace H := be H; obtain ⟨xu, A2, H⟩ := H;replace H := ah.mk H;go_enter Tryz.func125, Tryz.ntmps125;go_wp2_with (first | ((with_reducible refine aJ (N := 1) rfl ?_); refine bf (N := 1) (cs := #[.int .i64 LU, .int .i64 LV, .string LW]) (t := 34) ?_; intro xn hg xo hbox hb; have a := ah.mk hbox; have I := SZ (w := w) hg; have xp := I; replace HB := BS (w := w) hb; clear hb hbox hg) | ((with_reducible refine aJ (N := 2) rfl ?_); refine bf (N := 2) (cs := #[.int .i64 0, .int .i64 0, .string (⟨#[]⟩ : ByteArray)]) (t := 34) ?_; intro E hg xq hbox hb; have l := ah.mk (hbox); have J := SZ (w := w) hg; have xr := J; replace HB := BS (w := w) hb; have o := NL a hg; have m := NG a hg; replace a := KB a hb; clear hb hbox hg; have xl := o.out; have xm := m.out; obtain ⟨K, L, M, O, P, U⟩ := cz3 a.out; refine cB ?_));refine Hide.mk ?_;replace H := H.out;replace H := ifB H; rcases H with ⟨rfl, H⟩ | ⟨rfl, H⟩
 ·replace H := be H; obtain ⟨G, A4, H⟩ := H;simp only [Option.some.injEq, Prod.mk.injEq] at H;obtain ⟨rfl, rfl, rfl⟩ := H;(try go_wp2_with (first | ((with_reducible refine ay (f := 75) rfl ?_); refine bg (some 4) Tryz.func75 #[.agg #[.int .i64 LU, .int .i64 LV, .string LW]] ?_; (with_reducible refine (bB.calls k LU LV LW _ _ A2.out).mono ?_); rintro e Y ⟨rfl, hb⟩; refine ⟨_, rfl, ?_⟩; replace a := KB a hb; replace l := KB l hb; replace HB := BS (w := w) hb; (try clear hb); obtain ⟨u, x, y, z, A, D⟩ := cz3 a.out) | ((with_reducible refine ay (f := 148) rfl ?_); refine bg (some 9) Tryz.func148 #[.string LW] ?_; (with_reducible refine (iC.calls LW G _ A4.out).mono ?_); rintro e xs ⟨rfl, hb⟩; refine ⟨_, rfl, ?_⟩; replace a := KB a hb; replace l := KB l hb; replace HB := BS (w := w) hb; (try clear hb); obtain ⟨Z, xa, xb, xc, xd, xe⟩ := cz3 a.out; obtain ⟨xf, xg, xh, xi, xj, xk⟩ := cz3 l.out)));refine bodyPost_ret (results_cell_row rfl _ _ E 34 #[.int .i64 LU, .int .i64 LV, .string G] (0, 0) _ rfl (by (with_reducible repeat (first | refine aC ?_ _ | refine aH ?_ | refine aD ?_ _)); refine aX (cs := #[.int .i64 LU, .int .i64 LV, .string (⟨#[]⟩ : ByteArray)]) ?_ 2 _ rfl; (with_reducible repeat (first | refine aC ?_ _ | refine aH ?_ | refine aD ?_ _)); refine aX (cs := #[.int .i64 LU, .int .i64 0, .string (⟨#[]⟩ : ByteArray)]) ?_ 1 _ rfl; (with_reducible repeat (first | refine aC ?_ _ | refine aH ?_ | refine aD ?_ _)); refine aX (cs := #[.int .i64 0, .int .i64 0, .string (⟨#[]⟩ : ByteArray)]) ?_ 0 _ rfl; (with_reducible repeat (first | refine aC ?_ _ | refine aH ?_ | refine aD ?_ _)); refine dU ?_ m.out _; (with_reducible repeat (first | refine aC ?_ _ | refine aH ?_ | refine aD ?_ _)); exact l.out) Tryz.underlying34 rfl (by kernel_rfl)) rfl ?_;exact ⟨EWW, BL⟩
 ·simp only [Option.some.injEq, Prod.mk.injEq] at H;obtain ⟨rfl, rfl, rfl⟩ := H;(try go_wp2_with (first | ((with_reducible refine ay (f := 75) rfl ?_); refine bg (some 4) Tryz.func75 #[.agg #[.int .i64 LU, .int .i64 LV, .string LW]] ?_; (with_reducible refine (bB.calls k LU LV LW _ _ A2.out).mono ?_); rintro e Y ⟨rfl, hb⟩; refine ⟨_, rfl, ?_⟩; replace a := KB a hb; replace l := KB l hb; replace HB := BS (w := w) hb; (try clear hb); obtain ⟨u, x, y, z, A, D⟩ := cz3 l.out)));refine bodyPost_ret (results_cell_row rfl _ _ E 34 #[.int .i64 0, .int .i64 0, .string (⟨#[]⟩ : ByteArray)] (0, 0) _ rfl (by (with_reducible repeat (first | refine aC ?_ _ | refine aH ?_ | refine aD ?_ _)); refine aX (cs := #[.int .i64 0, .int .i64 0, .string (⟨#[]⟩ : ByteArray)]) ?_ 2 _ rfl; (with_reducible repeat (first | refine aC ?_ _ | refine aH ?_ | refine aD ?_ _)); refine aX (cs := #[.int .i64 0, .int .i64 0, .string (⟨#[]⟩ : ByteArray)]) ?_ 1 _ rfl; (with_reducible repeat (first | refine aC ?_ _ | refine aH ?_ | refine aD ?_ _)); refine aX (cs := #[.int .i64 0, .int .i64 0, .string (⟨#[]⟩ : ByteArray)]) ?_ 0 _ rfl; (with_reducible repeat (first | refine aC ?_ _ | refine aH ?_ | refine aD ?_ _)); exact l.out) Tryz.underlying34 rfl (by kernel_rfl)) rfl ?_;exact ⟨EWW, BL⟩
def eu.f (k : Nat) (LU LV : Int) (LW : ByteArray) : Option (Bool) := (bB.f k LU LV LW).bind fun t489 => (if t489 = true then ((jY.f k LU LV LW).bind fun bt490 => (some (LU == bt490.1 && (LV == bt490.2.1 && (LW.toList == bt490.2.2.toList))))) else (some false))
def eu.T1 : Bool × List (List Nat × List Nat) := (true, [([], []), ([0], [0]), ([1, 1], [1]), ([2], [2]), ([2], [2]), ([4, 2, 2], [2, 4]), ([3, 5, 2], [2, 3, 5]), ([2, 6], [2, 6]), ([7, 5, 0, 1, 2, 3, 4, 5, 6, 7], [7])])
def eu.B1 : List Nat := [0, 1, 3, 7, 7, 23, 63, 127, 255]
theorem eu.KS : lN .any (opsOf Tryz.f96 1) = eu.T1 := by kernel_rfl
theorem eu.Ie : jD eu.T1.2 eu.B1 = true := by kernel_rfl
theorem eu.calls (k : Nat) (LU LV : Int) (LW : ByteArray) (r : Bool) (w : World) (h : eu.f k LU LV LW = some r) :
  Calls Tryz.prog 96 #[.agg #[.int .i64 LU, .int .i64 LV, .string LW]] w fun e w' => e = .returned (.bool r) ∧ Below w.heap.size w w' := by
 have G := Tryz.underlying34;have HB := ah.mk (Below.refl w.heap.size w);unfold eu.f at h;have H := h;clear h;replace H := be H; obtain ⟨I, A2, H⟩ := H;replace H := ah.mk H;go_enter Tryz.func96, Tryz.ntmps96;(try go_wp2_with (first | ((with_reducible refine aJ (N := 1) rfl ?_); refine bf (N := 1) (cs := #[.int .i64 LU, .int .i64 LV, .string LW]) (t := 34) ?_; intro l hg m hbox hb; have a := ah.mk hbox; have o := SZ (w := w) hg; have z := o; replace HB := BS (w := w) hb; clear hb hbox hg)));replace a := ah.mk (aH a.out);replace HB := ah.mk (dR HB.out);refine jS (n := 9) (S := fun w' => w'.cell? ⟨l, 0, none⟩ = some (.int .i64 LU) ∧ w'.cell? ⟨l, 1, none⟩ = some (.int .i64 LV) ∧ w'.cell? ⟨l, 2, none⟩ = some (.string LW)) (ds := []) #[F,F,F,F,F,F,F,F,F] (by kernel_rfl) rfl rfl ⟨(ak a.out 0).trans rfl, (ak a.out 1).trans rfl, (ak a.out 2).trans rfl⟩ (fun hHeld => ?_); refine jk eu.KS eu.Ie (fun HT_ HW_ => ?_);generalize m.drew = A at a HB hHeld ⊢;refine tS 0 (some 3) #[T,F,F,F,F,F,F,F,F] ?_;refine mh (i := 1) (N := some 4) #[T,T,F,F,F,F,F,F,F] rfl rfl (jA HT_.out (by kernel_rfl)) (by decide) (fun K hK => ?_);refine jq Tryz.func75 #[.agg #[.int .i64 LU, .int .i64 LV, .string LW]] ?_;(with_reducible refine (bB.calls k LU LV LW _ _ A2.out).mono ?_);rintro e D ⟨rfl, hb⟩;refine ⟨_, rfl, ?_⟩;replace a := KB a hb;replace HB := BS (w := w) hb;(try clear hb);refine hK.out _ _ ⟨(ak a.out 0).trans rfl, (ak a.out 1).trans rfl, (ak a.out 2).trans rfl⟩ (fun hHeld => ?_);clear hK K;refine nrm (some 4) ?_;replace H := H.out;replace H := ifB H; rcases H with ⟨rfl, H⟩ | ⟨rfl, H⟩
 ·replace H := be H; obtain ⟨⟨u, x, y⟩, J, H⟩ := H;dsimp only at H;obtain rfl := Option.some.inj H;refine pS 2 (some 5) #[T,T,T,F,F,F,F,F,F] ?_;refine tS 3 (some 6) #[T,T,T,T,F,F,F,F,F] ?_;refine tS 4 (some 7) #[T,T,T,T,T,F,F,F,F] ?_;refine mh (i := 5) (N := some 8) #[T,T,T,T,T,T,F,F,F] rfl rfl (jA HT_.out (by kernel_rfl)) (by decide) (fun K hK => ?_);refine jq Tryz.func125 #[.agg #[.int .i64 LU, .int .i64 LV, .string LW]] ?_;(with_reducible refine (jY.calls k LU LV LW u x y _ J.out).mono ?_);rintro e E ⟨rfl, hb⟩;refine ⟨_, rfl, ?_⟩;replace a := KB a hb;replace HB := BS (w := w) hb;(try clear hb);refine hK.out _ _ ⟨(ak a.out 0).trans rfl, (ak a.out 1).trans rfl, (ak a.out 2).trans rfl⟩ (fun hHeld => ?_);clear hK K;refine nrm (some 8) ?_;refine pS 6 (some 9) #[T,T,T,T,T,T,T,F,F] ?_;refine pS 7 (some 10) #[T,T,T,T,T,T,T,T,F] ?_;refine pS 8 (some 2) #[T,T,T,T,T,T,T,T,T] ?_;refine iU (gX HT_.out (by kernel_rfl)) ?_;(try go_wp2);go_ret;exact ⟨EWW, BL⟩
 ·obtain rfl := Option.some.inj H;refine pS 2 (some 5) #[T,T,T,F,F,F,F,F,F] ?_;refine pU 3 (some 6) #[T,T,T,T,F,F,F,F,F] ?_;refine pU 4 (some 7) #[T,T,T,T,T,F,F,F,F] ?_;refine pU 5 (some 8) #[T,T,T,T,T,T,F,F,F] ?_;refine pU 6 (some 9) #[T,T,T,T,T,T,T,F,F] ?_;refine pS 7 (some 10) #[T,T,T,T,T,T,T,T,F] ?_;refine pS 8 (some 2) #[T,T,T,T,T,T,T,T,T] ?_;refine iU (gX HT_.out (by kernel_rfl)) ?_;(try go_wp2);go_ret;exact ⟨EWW, BL⟩
def nu.f (a0 a1 : Int) : Option (Bool) := if a0 ≥ 0 then (some (decide (a0 < a1))) else (some false)
theorem nu.calls (a m : Int) (r : Bool) (w : World) (h : nu.f a m = some r) :
  Calls Tryz.prog 127 #[.int .i64 a, .int .i64 m] w fun e w' => e = .returned (.bool r) ∧ dn w w' := by
 unfold nu.f at h;have H := h;clear h;replace H := ah.mk H;go_enter Tryz.func127, Tryz.ntmps127;replace H := H.out;by_cases c3 : a ≥ 0
 ·rw [if_pos c3] at H;have l : decide (0 ≤ a) = true := decide_eq_true c3;clear c3;obtain rfl := Option.some.inj H;(try go_wp2);go_ret;exact ⟨EQ, DR⟩
 ·rw [if_neg c3] at H;have l : decide (0 ≤ a) = false := decide_eq_false c3;clear c3;obtain rfl := Option.some.inj H;(try go_wp2);go_ret;exact ⟨EQ, DR⟩
def jU.f (k : Nat) (LU LV : Int) (LW : ByteArray) : Option Int := (bB.f k LU LV LW).bind fun t => if t = true then HandForm.parts LU LV LW k (Array.replicate LW.size false) 0 0 else some 0
theorem jU.grid (k : Nat) (R C : Int) (s : ByteArray) (h : bB.f k R C s = some true) : (2 ≤ R ∧ R ≤ 6) ∧ (2 ≤ C ∧ C ≤ 6) ∧ (s.size : Int) = R * C := by
 unfold bB.f at h;obtain ⟨e, h1, h⟩ := Option.bind_eq_some_iff.mp h
 have j : ∀ x, bB.j0 k x R C s = some true → x = false := by
  intro x hx
  cases k with
  | zero => simp [bB.j0] at hx
  | succ k => cases x with
   | false => rfl
   | true => simp [bB.j0] at hx
 cases e with
 | false =>
  rw [if_neg (by decide)] at h
  cases (j _ h)
 | true =>
  rw [if_pos rfl] at h;obtain ⟨l, h2, h⟩ := Option.bind_eq_some_iff.mp h
  cases l with
  | false =>
   rw [if_neg (by decide)] at h
   cases (j _ h)
  | true =>
   rw [if_pos rfl] at h;have h3 := j _ h
   have ir : ∀ a, dx.f a 2 6 = some true → 2 ≤ a ∧ a ≤ 6 := by
    intro a ha;unfold dx.f at ha;split at ha
    ·rename_i x;exact ⟨x, of_decide_eq_true (Option.some.inj ha)⟩
    ·cases ha
   obtain ⟨r0, r1⟩ := ir _ h1;obtain ⟨m, c1⟩ := ir _ h2;have m1 : R * C ≤ 6 * 6 := Int.mul_le_mul (by omega) (by omega) (by omega) (by omega);have m2 : 0 ≤ R * C := Int.mul_nonneg (by omega) (by omega);have hw : wrap64 (R * C) = R * C := by unfold wrap64; omega
   rw [hw] at h3;exact ⟨⟨r0, r1⟩, ⟨m, c1⟩, by simpa using h3⟩
theorem jU.calls (k : Nat) (LU LV : Int) (LW : ByteArray) (r : Int) (w : World) (h : jU.f k LU LV LW = some r) :
  Calls Tryz.prog 126 #[.agg #[.int .i64 LU, .int .i64 LV, .string LW]] w fun e w' => e = .returned (.int .i64 r) ∧ Below w.heap.size w w' := by
 obtain ⟨t, h1, h2⟩ := Option.bind_eq_some_iff.mp h;exact HandForm.GX k LU LV LW t r w (fun V => bB.calls k LU LV LW t V h1) (fun e => jU.grid k _ _ _ (e ▸ h1)) h2
def jf.f (k : Nat) (LU LV : Int) (LW : ByteArray) : Option (Bool) := (jU.f k LU LV LW).bind fun t494 => (some (t494 == 1))
theorem jf.calls (k : Nat) (LU LV : Int) (LW : ByteArray) (r : Bool) (w : World) (h : jf.f k LU LV LW = some r) :
  Calls Tryz.prog 97 #[.agg #[.int .i64 LU, .int .i64 LV, .string LW]] w fun e w' => e = .returned (.bool r) ∧ Below w.heap.size w w' := by
 have G := Tryz.underlying34;have HB := ah.mk (Below.refl w.heap.size w);unfold jf.f at h;have H := h;clear h;replace H := be H; obtain ⟨m, A2, H⟩ := H;obtain rfl := Option.some.inj H;go_enter Tryz.func97, Tryz.ntmps97;go_wp2_with (first | ((with_reducible refine aJ (N := 1) rfl ?_); refine bf (N := 1) (cs := #[.int .i64 LU, .int .i64 LV, .string LW]) (t := 34) ?_; intro D hg I hbox hb; have a := ah.mk hbox; have l := SZ (w := w) hg; have E := l; replace HB := BS (w := w) hb; clear hb hbox hg; obtain ⟨o, u, x, y, z, A⟩ := cz3 a.out) | ((with_reducible refine ay (f := 126) rfl ?_); refine bg (some 4) Tryz.func126 #[.agg #[.int .i64 LU, .int .i64 LV, .string LW]] ?_; (with_reducible refine (jU.calls k LU LV LW m _ A2.out).mono ?_); rintro e J ⟨rfl, hb⟩; refine ⟨_, rfl, ?_⟩; replace a := KB a hb; replace HB := BS (w := w) hb; (try clear hb)));go_ret;exact ⟨EWW, BL⟩
mutual
def fD.j0 : Nat → Int → Int → Bool → Int → Int → Option (List Int)
 | 0, _, _, _, _, _ => none
 | k + 1, a, b, c, d, e => fD.l0 k a ([] : List Int) e 0 b c d e
def fD.l0 : Nat → Int → List Int → Int → Int → Int → Bool → Int → Int → Option (List Int)
 | 0, _, _, _, _, _, _, _, _ => none
 | k + 1, a, b, c, d, e, f, g, h => if d < c then (if b.length < 17592186044416 then (fD.l0 k a (b ++ [wrap64 (g + (wrap64 (d * a)))]) c (wrap64 (d + 1)) e f g h) else (none)) else (some b)
end
def fD.f (k : Nat) (LU LV : Int) (LW : ByteArray) (a1_0 : Int) (a1_1 : Bool) (a1_2 a1_3 : Int) : Option (List Int) := if a1_1 = true then (fD.j0 k LV a1_0 a1_1 a1_2 a1_3) else (fD.j0 k 1 a1_0 a1_1 a1_2 a1_3)
theorem fD.calls (k : Nat) (LU LV : Int) (LW : ByteArray) (D : Int) (z : Bool) (u x : Int) (r : List Int) (w : World) (h : fD.f k LU LV LW D z u x = some r) :
  Calls Tryz.prog 108 #[.agg #[.int .i64 LU, .int .i64 LV, .string LW], .agg #[.int .i64 D, .bool z, .int .i64 u, .int .i64 x]] w fun e w' => ∃ v0_ : Value, e = .returned (v0_) ∧ Kd.R (Kd.int .i64) 3 w' w.heap.size (fun _ => True) v0_ r ∧ Below w.heap.size w w' := by
 have xV := Tryz.underlying34;have xW := Tryz.underlying92;have HB := ah.mk (Below.refl w.heap.size w);unfold fD.f at h;have H := h;clear h;have xk := ah.mk H;clear H;go_enter Tryz.func108, Tryz.ntmps108;go_upto_if 9 with (first | ((with_reducible refine aJ (N := 2) rfl ?_); refine bf (N := 2) (cs := #[.int .i64 LU, .int .i64 LV, .string LW]) (t := 34) ?_; intro K hg w4 hbox hb; have a := ah.mk hbox; have xl := SZ (w := w) hg; have xP := xl; replace HB := BS (w := w) hb; clear hb hbox hg) | ((with_reducible refine aJ (N := 3) rfl ?_); refine bf (N := 3) (cs := #[.int .i64 D, .bool z, .int .i64 u, .int .i64 x]) (t := 92) ?_; intro L hg w5 hbox hb; have y := ah.mk (hbox); have xm := SZ (w := w) hg; have xQ := xm; replace HB := BS (w := w) hb; have l := NL a hg; have m := NG a hg; replace a := KB a hb; clear hb hbox hg; have xX := m.out; have xY := l.out; obtain ⟨M, O, P, U, Y, Z, xa, xb⟩ := cz4 y.out));(try simp only [Act.put, List.setIfInBounds_toArray, List.set_cons_zero, List.set_cons_succ])
 go_cut [5] (fun v5 wc => ∃ (kq : Nat) (E : Int), v5 = .int .i64 E ∧ ah (fD.j0 kq E D z u x = some r) ∧ ah (kq ≤ k) ∧ ah (wc.heap[K]? = some (.cells #[.int .i64 LU, .int .i64 LV, .string LW] 34 (0, 0))) ∧ ah (wc.heap[L]? = some (.cells #[.int .i64 D, .bool z, .int .i64 u, .int .i64 x] 92 (0, 0))) ∧ ah (Below w.heap.size w wc))
 case first =>
  have H := xk.out;clear xk;by_cases c8 : z = true
  ·subst c8;rw [if_pos rfl] at H;have H' := ah.mk H;clear H;have xG := l.out;have xH := m.out;obtain ⟨xn, xo, xp, xq, xr, xt⟩ := cz3 a.out;go_wp2;go_meet;case rel => exact ⟨_, _, EQ, H', ⟨by first | omega | exact Nat.le_refl _⟩, ⟨BK⟩, ⟨BK⟩, ⟨BL⟩⟩
  ·replace c8 := Bool.eq_false_iff.mpr c8;subst c8;rw [if_neg Bool.false_ne_true] at H;have H' := ah.mk H;clear H;go_wp2;go_meet;case rel => exact ⟨_, _, EQ, H', ⟨by first | omega | exact Nat.le_refl _⟩, ⟨BK⟩, ⟨BK⟩, ⟨BL⟩⟩
 case rest =>
  clear xk;(try clear M O P U Y Z xa xb);obtain ⟨kq, E, rfl, HA, xI, a, y, HB⟩ := hcut
  cases kq with
  | zero => exact absurd HA.out (by simp [fD.j0])
  | succ xJ =>
   have H := HA.out;clear HA;simp only [fD.j0] at H;have H' := ah.mk H;clear H;have xR := m.out;have xS := l.out;obtain ⟨xc, xd, xe, xf, xg, xh, xi, xj⟩ := cz4 y.out;go_wp2
   go_loopg [6, 14] xJ (fun kq v6 xT w' => ∃ (I : List Int) (A : Int), xT = .int .i64 A ∧ ah (fD.l0 kq E I x A D z u x = some r) ∧ ah (kq ≤ xJ) ∧ ah (Kd.R (Kd.int .i64) 3 w' w.heap.size (fun _ => True) v6 I) ∧ ah (w'.heap[K]? = some (.cells #[.int .i64 LU, .int .i64 LV, .string LW] 34 (0, 0))) ∧ ah (w'.heap[L]? = some (.cells #[.int .i64 D, .bool z, .int .i64 u, .int .i64 x] 92 (0, 0))) ∧ ah (Below w.heap.size w w'))
   case atStart => exact ⟨_, _, EQ, H', ⟨Nat.le_refl _⟩, ⟨by first | exact Kd.nO _ _ _ _ _ | exact Kd.qo _ _ _ _ _ | exact Kd.qx _ _ _ _ _ | exact Kd.qp _ _ _ _ _ | exact Kd.qw _ _ _ _ _⟩, ⟨BK⟩, ⟨BK⟩, ⟨BL⟩⟩
   case round =>
    clear H';(try clear xc xd xe xf);(try clear M O P U);(try clear xg xh xi xj);(try clear Y Z xa xb);obtain ⟨I, A, rfl, HA, xK, J, a, y, HB⟩ := hrel
    cases gk with
    | zero => exact absurd HA.out (by simp [fD.l0])
    | succ k2 =>
     have H := HA.out;clear HA;simp only [fD.l0] at H;replace H := ifD H; rcases H with ⟨xu, H⟩ | ⟨xu, H⟩
     ·replace H := ifP H; obtain ⟨xL, H⟩ := H;have xv := ah.mk xL;clear xL;obtain ⟨xM, G⟩ : ∃ y_ : List Int, y_ = (I ++ [wrap64 (u + (wrap64 (A * E)))]) := ⟨_, rfl⟩;replace H : (fD.l0 k2 E xM x (wrap64 (A + 1)) D z u x) = some r := by first | (rw [G]; with_reducible exact H) | (have H2_ := (Option.bind_some _ _).symm.trans H; rw [G]; with_reducible exact H2_) | (have H2_ := (Option.bind_some _ _).symm.trans H; with_reducible exact H2_) | with_reducible exact H | (rw [G]; exact H) | exact H
      have xw := ah.mk G;clear G;have H' := ah.mk H;clear H;have xN := m.out;have xO := l.out;obtain ⟨xx, xy, xz, xA, xB, xC, xD, xE⟩ := cz4 y.out;go_wp2_with (first | ((with_reducible refine dO (b := .append) (xs := #[.tmp 17, .tmp 24]) rfl ?_); at_builtin; refine Kd.gT (Kd.int .i64) (w0 := w) w.heap.size rfl (.tmp 17) (.tmp 24) 25 3 (.int .i64 0) 8 rfl Tryz.underlying25 info3 rfl (by decide) (by omega) u6 I (wrap64 (u + (wrap64 (A * E)))) [.int .i64 (wrap64 (u + (wrap64 (A * E))))] (fun _ => True) (fun _ => False) rfl rfl ?aP (fun _ hk => hk.elim) ?aF ?aO ?aB ?aS ?aL ?_; (case aP => exact rfl); (case aB => exact BL); (case aF => exact (fun _ _ => trivial)); (case aO => exact (RR J)); (case aS => exact (aK BL)); (case aL => have := xv.out; omega); intro xZ xU ho hb hg hat; rw [← xw.out] at ho; have n0_ := ah.mk (dV (g := K) (o := .cells #[.int .i64 LU, .int .i64 LV, .string LW] 34 (0, 0)) BK hg (Kd.kE J.out a.out (by decide))); have n1_ := ah.mk (dV (g := L) (o := .cells #[.int .i64 D, .bool z, .int .i64 u, .int .i64 x] 92 (0, 0)) BK hg (Kd.kE J.out y.out (by decide))); have n2_ := ah.mk (hb); have n3_ := ah.mk (ho); clear a y HB J; have a := n0_; have y := n1_; have HB := n2_; have xF := n3_; clear n0_ n1_ n2_ n3_; clear ho hb hg hat));go_roundg k2;case measure => have := xI.out; have := xK.out; omega
      case rel => exact ⟨_, _, EQ, H', ⟨by have := xI.out; have := xK.out; omega⟩, ⟨(RR xF)⟩, ⟨BK⟩, ⟨BK⟩, ⟨BL⟩⟩
     ·obtain rfl := Option.some.inj H;go_wp2;go_ret;exact ⟨_, EWW, (RR J), BL⟩
def eY.l0 : Nat → List (List Int) → List (S92) → Int → Int → Int → Int → ByteArray → Option ((List (List Int)))
 | 0, _, _, _, _, _, _, _ => none
 | k + 1, a, b, c, d, e, f, g => if d < c then (if 0 ≤ d then (if d < (b.length : Int) then ((fD.f k e f g ((aT b d).f0) ((aT b d).f1) ((aT b d).f2) ((aT b d).f3)).bind fun h => (if a.length < 5864062014805 then (eY.l0 k (a ++ [h]) b c (wrap64 (d + 1)) e f g) else (none))) else (none)) else (none)) else (some a)
def eY.f (k : Nat) (LU LV : Int) (LW : ByteArray) : Option ((List (List Int))) := (aY.f k LU LV LW).bind fun t501 => (eY.l0 k ([] : List (List Int)) t501 (t501.length : Int) 0 LU LV LW)
theorem eY.calls (k : Nat) (LU LV : Int) (LW : ByteArray) (r : List (List Int)) (w : World) (h : eY.f k LU LV LW = some r) :
  Calls Tryz.prog 73 #[.agg #[.int .i64 LU, .int .i64 LV, .string LW]] w fun e w' => ∃ v0_ : Value, e = .returned (v0_) ∧ Kd.S (Kd.slice 3 (Kd.int .i64)) 25 w' w.heap.size (fun _ => True) v0_ r ∧ Below w.heap.size w w' := by
 have xV := Tryz.underlying34;have xW := Tryz.underlying92;have HB := ah.mk (Below.refl w.heap.size w);unfold eY.f at h;have H := h;clear h;replace H := be H; obtain ⟨a, A2, H⟩ := H;have H' := ah.mk H;clear H;go_enter Tryz.func73, Tryz.ntmps73;go_wp2_with (first | ((with_reducible refine aJ (N := 1) rfl ?_); refine bf (N := 1) (cs := #[.int .i64 LU, .int .i64 LV, .string LW]) (t := 34) ?_; intro J hg w3 hbox hb; have m := ah.mk hbox; have xg := SZ (w := w) hg; have xL := xg; replace HB := BS (w := w) hb; clear hb hbox hg; obtain ⟨Z, xa, xb, xc, xd, xe⟩ := cz3 m.out) | ((with_reducible refine ay (f := 59) rfl ?_); refine bg (some 7) Tryz.func59 #[.agg #[.int .i64 LU, .int .i64 LV, .string LW]] ?_; (with_reducible refine (aY.calls k LU LV LW a _ A2.out).mono ?_); rintro e w5 ⟨xX, rfl, O, hb⟩; refine ⟨_, rfl, ?_⟩; replace m := KB m hb; have P := ah.mk (Kd.bV O (aK BL)); replace HB := BS (w := w) hb; (try clear hb); (try clear O); obtain ⟨xM, xN, xO⟩ := Kd.dw P.out; subst xO))
 go_loopg [3, 9] k (fun kq v3 v9 w' => ∃ (G : List (List Int)) (l : Int), v9 = .int .i64 l ∧ ah (eY.l0 kq G a (a.length : Int) l LU LV LW = some r) ∧ ah (kq ≤ k) ∧ ah (Kd.S (Kd.slice 3 (Kd.int .i64)) 25 w' w.heap.size (fun _ => True) v3 G) ∧ ah (Kd.R k92 92 w' w.heap.size (fun _ => True) (.slice xM a.length xN) a) ∧ ah (w'.heap[J]? = some (.cells #[.int .i64 LU, .int .i64 LV, .string LW] 34 (0, 0))) ∧ ah (Below w.heap.size w w'))
 case atStart => exact ⟨_, _, EQ, H', ⟨Nat.le_refl _⟩, ⟨by first | exact Kd.qw _ _ _ _ _ | exact Kd.qo _ _ _ _ _ | exact Kd.qx _ _ _ _ _ | exact Kd.qp _ _ _ _ _ | exact Kd.nO _ _ _ _ _⟩, ⟨(RR P)⟩, ⟨BK⟩, ⟨BL⟩⟩
 case round =>
  clear H';(try clear Z xa xb xc xd xe);obtain ⟨G, l, rfl, HA, xA, y, A, m, HB⟩ := hrel
  cases gk with
  | zero => exact absurd HA.out (by simp [eY.l0])
  | succ k1 =>
   have H := HA.out;clear HA;simp only [eY.l0] at H;replace H := ifD H; rcases H with ⟨xB, H⟩ | ⟨xB, H⟩
   ·replace H := ifN H; obtain ⟨xY, H⟩ := H;replace H := ifN H; obtain ⟨xZ, H⟩ := H;replace H := be H; obtain ⟨I, xP, H⟩ := H;replace H := ifP H; obtain ⟨xC, H⟩ := H;have xh := ah.mk xC;clear xC;obtain ⟨xD, D⟩ : ∃ y_ : List (List Int), y_ = (G ++ [I]) := ⟨_, rfl⟩;replace H : (eY.l0 k1 xD a (a.length : Int) (wrap64 (l + 1)) LU LV LW) = some r := by first | (rw [D]; with_reducible exact H) | (have H2_ := (Option.bind_some _ _).symm.trans H; rw [D]; with_reducible exact H2_) | (have H2_ := (Option.bind_some _ _).symm.trans H; with_reducible exact H2_) | with_reducible exact H | (rw [D]; exact H) | exact H
    have xi := ah.mk D;clear D;have H' := ah.mk H;clear H;have U : 0 ≤ (l : Int) := OD;have Y : l < (a.length : Int) := OD;obtain ⟨xQ, xE, xF, xG, xH, xI⟩ := pY (Kd.bq A.out).2.2 l U Y
    cases xE
    replace U := eq_true U;replace Y := eq_true Y;go_wp2_with (first | ((with_reducible refine aJ (N := 5) rfl ?_); refine bf (N := 5) (cs := #[.int .i64 0, .bool false, .int .i64 0, .int .i64 0]) (t := 92) ?_; intro u hg xR hbox hb; replace y := ah.mk (Kd.gu (SR y) hb); replace A := ah.mk (Kd.kC (Kd.sZ (RR A) u (Nat.le_of_eq hg.symm)) hb); have z := ah.mk (hbox); have xj := SZ (w := w) hg; have xS := xj; replace HB := BS (w := w) hb; have x := NL m hg; have K := NG m hg; replace m := KB m hb; clear hb hbox hg; have xJ := K.out; have xK := x.out; obtain ⟨xk, xl, xm, xn, xo, xp, xq, xr⟩ := cz4 z.out; obtain ⟨xt, xu, xv, xw, xx, xy⟩ := cz3 m.out) | ((with_reducible refine ay (f := 108) rfl ?_); refine bg (some 16) Tryz.func108 #[.agg #[.int .i64 LU, .int .i64 LV, .string LW], .agg #[.int .i64 ((aT a l).f0), .bool ((aT a l).f1), .int .i64 ((aT a l).f2), .int .i64 ((aT a l).f3)]] ?_; (with_reducible refine (fD.calls k1 LU LV LW ((aT a l).f0) ((aT a l).f1) ((aT a l).f2) ((aT a l).f3) I _ xP.out).mono ?_); rintro e xT ⟨ya, rfl, O, hb⟩; refine ⟨_, rfl, ?_⟩; have n0_ := ah.mk (Kd.pG (by (with_reducible repeat (first | apply Kd.jo | apply Kd.gD | apply Kd.jR)); exact (Kd.lu (Kd.kT (p := ⟨u, 3, none⟩) (Kd.kT (p := ⟨u, 2, none⟩) (Kd.kT (p := ⟨u, 1, none⟩) (Kd.kT (p := ⟨u, 0, none⟩) (Kd.rC y.out z.out (by decide)) (fun _ hk => hk.2) (.int .i64 ((aT a l).f0))) (fun _ hk => hk.2) (.bool ((aT a l).f1))) (fun _ hk => hk.2) (.int .i64 ((aT a l).f2))) (fun _ hk => hk.2) (.int .i64 ((aT a l).f3))) (fun _ h_ => h_.1))) (Kd.iV O) hb); have n1_ := ah.mk (Kd.kC (by (with_reducible repeat (first | apply Kd.eH | apply Kd.cZ | apply Kd.dN)); exact (Kd.bI (Kd.fQ (p := ⟨u, 3, none⟩) (Kd.fQ (p := ⟨u, 2, none⟩) (Kd.fQ (p := ⟨u, 1, none⟩) (Kd.fQ (p := ⟨u, 0, none⟩) (Kd.bI A.out (fun k_ hk => (⟨hk, hk.2⟩ : _ ∧ k_ ≠ u))) (fun _ hk => hk.2) (.int .i64 ((aT a l).f0))) (fun _ hk => hk.2) (.bool ((aT a l).f1))) (fun _ hk => hk.2) (.int .i64 ((aT a l).f2))) (fun _ hk => hk.2) (.int .i64 ((aT a l).f3))) (fun _ h_ => h_.1))) hb); have n2_ := ah.mk (Kd.bV O (aK BL)); have n3_ := ah.mk (dz (g := J) (o := .cells #[.int .i64 LU, .int .i64 LV, .string LW] 34 (0, 0)) (by (with_reducible repeat (first | refine aC ?_ _ | refine aH ?_ | refine aD ?_ _)); refine dU ?_ x.out _; (with_reducible repeat (first | refine aC ?_ _ | refine aH ?_ | refine aD ?_ _)); refine dU ?_ x.out _; (with_reducible repeat (first | refine aC ?_ _ | refine aH ?_ | refine aD ?_ _)); refine dU ?_ x.out _; (with_reducible repeat (first | refine aC ?_ _ | refine aH ?_ | refine aD ?_ _)); refine dU ?_ x.out _; (with_reducible repeat (first | refine aC ?_ _ | refine aH ?_ | refine aD ?_ _)); exact m.out) hb); have n4_ := ah.mk (dz (g := u) (o := .cells #[.int .i64 ((aT a l).f0), .bool ((aT a l).f1), .int .i64 ((aT a l).f2), .int .i64 ((aT a l).f3)] 92 (0, 0)) (by (with_reducible repeat (first | refine aC ?_ _ | refine aH ?_ | refine aD ?_ _)); refine aX (cs := #[.int .i64 ((aT a l).f0), .bool ((aT a l).f1), .int .i64 ((aT a l).f2), .int .i64 0]) ?_ 3 _ rfl; (with_reducible repeat (first | refine aC ?_ _ | refine aH ?_ | refine aD ?_ _)); refine aX (cs := #[.int .i64 ((aT a l).f0), .bool ((aT a l).f1), .int .i64 0, .int .i64 0]) ?_ 2 _ rfl; (with_reducible repeat (first | refine aC ?_ _ | refine aH ?_ | refine aD ?_ _)); refine aX (cs := #[.int .i64 ((aT a l).f0), .bool false, .int .i64 0, .int .i64 0]) ?_ 1 _ rfl; (with_reducible repeat (first | refine aC ?_ _ | refine aH ?_ | refine aD ?_ _)); refine aX (cs := #[.int .i64 0, .bool false, .int .i64 0, .int .i64 0]) ?_ 0 _ rfl; (with_reducible repeat (first | refine aC ?_ _ | refine aH ?_ | refine aD ?_ _)); exact z.out) hb); replace HB := BS (w := w) hb; clear y A m z; have y := n0_; have A := n1_; have E := n2_; have m := n3_; have z := n4_; clear n0_ n1_ n2_ n3_ n4_; (try clear hb); (try clear hk); (try clear O); obtain ⟨L, M, xf⟩ := Kd.dw E.out; subst xf) | ((with_reducible refine dO (b := .append) (xs := #[.tmp 13, .tmp 17]) rfl ?_); at_builtin; refine Kd.Hz (Kd.slice 3 (Kd.int .i64)) (w0 := w) w.heap.size rfl (.tmp 13) (.tmp 17) 98 25 (.slice none 0 0) 24 rfl Tryz.underlying98 KM rfl (by decide) (by omega) u3 G I [.slice L I.length M] (fun _ => True) (fun k_ => some k_ = (.slice L I.length M : Value).ownBlock) rfl rfl ?aP (fun k_ hk_ => ((Kd.bI (ok' := fun k_ => ((fun _ => True)) k_ ∧ some k_ ≠ (u3 : Value).ownBlock) (Kd.gL (E.out) (Kd.tC y.out) (by decide)) (fun k_ hk => ⟨trivial, hk.2⟩))).1 k_ hk_.symm) ?aF ?aO ?aB ?aS ?aL ?_; (case aP => exact Kd.KZ (Kd.bI (Kd.nM rfl (Kd.bI (ok' := fun k_ => ((fun _ => True)) k_ ∧ some k_ ≠ (u3 : Value).ownBlock) (Kd.gL (E.out) (Kd.tC y.out) (by decide)) (fun k_ hk => ⟨trivial, hk.2⟩))) (fun _ h_ => h_))); (case aB => exact BL); (case aF => exact (fun _ _ => trivial)); (case aO => exact (by (with_reducible repeat (first | apply Kd.jo | apply Kd.gD | apply Kd.jR)); exact Kd.lu y.out (fun k_ hk => ⟨trivial, fun e_ => hk.2 e_⟩))); (case aS => exact (aK BL)); (case aL => have := xh.out; omega); intro yb xU ho hb hg hat; rw [← xi.out] at ho; have n0_ := ah.mk (Kd.lT (RR A) (Kd.tC (SR y)) (by decide) hg); have n1_ := ah.mk (dV (g := J) (o := .cells #[.int .i64 LU, .int .i64 LV, .string LW] 34 (0, 0)) BK hg (Kd.Lh y.out m.out (by decide))); have n2_ := ah.mk (dV (g := u) (o := .cells #[.int .i64 ((aT a l).f0), .bool ((aT a l).f1), .int .i64 ((aT a l).f2), .int .i64 ((aT a l).f3)] 92 (0, 0)) BK hg (Kd.Lh y.out z.out (by decide))); have n3_ := ah.mk (hb); have n4_ := ah.mk (ho); clear A m z HB y E; have A := n0_; have m := n1_; have z := n2_; have HB := n3_; have xz := n4_; clear n0_ n1_ n2_ n3_ n4_; clear ho hb hg hat));go_roundg k1;case measure => have := xA.out; omega
    case rel => exact ⟨_, _, EQ, H', ks xA, ⟨by (with_reducible repeat (first | apply Kd.jo | apply Kd.gD | apply Kd.jR)); exact xz.out⟩, ⟨by (with_reducible repeat (first | apply Kd.eH | apply Kd.cZ | apply Kd.dN)); exact Kd.bI A.out (fun _ hk => trivial)⟩, ⟨BK⟩, ⟨BL⟩⟩
   ·obtain rfl := Option.some.inj H;go_wp2;go_ret;exact ⟨_, EWW, (SR y), BL⟩
def cO.l0 : Nat → List Int → Int → Int → Int → Option (Int)
 | 0, _, _, _, _ => none
 | k + 1, a, b, c, d => if d < c then (if 0 ≤ d then (if d < (a.length : Int) then (if b = (rd a d) then (some d) else (cO.l0 k a b c (wrap64 (d + 1)))) else (none)) else (none)) else (some (-1))
def cO.f (k : Nat) (l0 : List Int) (a1 : Int) : Option (Int) := cO.l0 k l0 a1 (l0.length : Int) 0
theorem cO.calls (k : Nat) (K : Option Addr) (L : Nat) (l0 : List Int) (G r : Int) (w : World) (o : Kd.C (Kd.int .i64) w K l0.length l0) (u : l0.length ≤ L) (h : cO.f k l0 G = some r) :
  Calls Tryz.prog 176 #[.slice K l0.length L, .int .i64 G] w fun e w' => e = .returned (.int .i64 r) ∧ dn w w' := by
 have I := ah.mk o;have P := ah.mk u;clear o u;unfold cO.f at h;have H := h;clear h;have H' := ah.mk H;clear H;go_enter Tryz.func176, Tryz.ntmps176;go_wp2
 go_loopg [8] k (fun kq U w' => ∃ (a : Int), U = .int .i64 a ∧ ah (cO.l0 kq l0 G (l0.length : Int) a = some r) ∧ ah (kq ≤ k) ∧ dn w w')
 case atStart => exact ⟨_, EQ, H', ⟨Nat.le_refl _⟩, DR⟩
 case round =>
  clear H';obtain ⟨a, rfl, HA, x, ⟨m1, rfl⟩⟩ := hrel
  cases gk with
  | zero => exact absurd HA.out (by simp [cO.l0])
  | succ k1 =>
   have H := HA.out;clear HA;simp only [cO.l0] at H;replace H := ifD H; rcases H with ⟨y, H⟩ | ⟨y, H⟩
   ·replace H := ifN H; obtain ⟨M, H⟩ := H;replace H := ifN H; obtain ⟨O, H⟩ := H;have l : 0 ≤ (a : Int) := OD;have m : a < (l0.length : Int) := OD;obtain ⟨J, z, A⟩ := Kd.nU I.out a l m
    cases z
    replace l := eq_true l;replace m := eq_true m;replace H := ifE H; rcases H with ⟨D, E, H⟩ | ⟨c6, D, E, H⟩
    ·obtain rfl := Option.some.inj H;go_wp2;go_ret;exact ⟨EQ, DR⟩
    ·have H' := ah.mk H;clear H;go_wp2;go_roundg k1;case measure => have := x.out; omega
     case rel => exact ⟨_, EQ, H', ks x, DR⟩
   ·obtain rfl := Option.some.inj H;go_wp2;go_ret;exact ⟨EQ, DR⟩
def gN.f (k : Nat) (l0 : List Int) (a1 : Int) : Option (Bool) := (cO.f k l0 a1).bind fun t513 => (some (decide (t513 ≥ 0)))
theorem gN.calls (k : Nat) (u : Option Addr) (x : Nat) (l0 : List Int) (o : Int) (r : Bool) (w : World) (a : Kd.C (Kd.int .i64) w u l0.length l0) (l : l0.length ≤ x) (h : gN.f k l0 o = some r) :
  Calls Tryz.prog 168 #[.slice u l0.length x, .int .i64 o] w fun e w' => e = .returned (.bool r) ∧ dn w w' := by
 have y := ah.mk a;have z := ah.mk l;clear a l;unfold gN.f at h;have H := h;clear h;replace H := be H; obtain ⟨m, A, H⟩ := H;obtain rfl := Option.some.inj H;go_enter Tryz.func168, Tryz.ntmps168;go_wp2_with (first | ((with_reducible refine ay (f := 176) rfl ?_); refine bg (some 7) Tryz.func176 #[.slice u l0.length x, .int .i64 o] ?_; (with_reducible refine (cO.calls k _ _ l0 o m _ ?side1 ?side2 A.out).mono ?_); (case side1 => repeat (first | exact y.out | (with_reducible refine Kd.gV ?_ _) | (with_reducible refine Kd.gW ?_ _) | (with_reducible refine Kd.iT ?_))); (case side2 => exact z.out); rintro e w' ⟨rfl, ⟨nd, rfl⟩⟩; refine ⟨_, rfl, ?_⟩));go_ret;exact ⟨EQ, DR⟩
def fU.l0 : Nat → Int → List Int → List (List Int) → Int → Int → Option (List Int)
 | 0, _, _, _, _, _ => none
 | k + 1, a, b, c, d, e => if e < d then (if 0 ≤ e then (if e < (c.length : Int) then ((gN.f k (jB c e) a).bind fun f => (if f = true then (if b.length < 17592186044416 then (fU.l0 k a (b ++ [e]) c d (wrap64 (e + 1))) else (none)) else (fU.l0 k a b c d (wrap64 (e + 1))))) else (none)) else (none)) else (some b)
def fU.f (k : Nat) (LU LV : Int) (LW : ByteArray) (a1 : Int) : Option (List Int) := (eY.f k LU LV LW).bind fun t515 => (fU.l0 k a1 ([] : List Int) t515 (t515.length : Int) 0)
theorem fU.calls (k : Nat) (LU LV : Int) (LW : ByteArray) (a1 : Int) (r : List Int) (w : World) (h : fU.f k LU LV LW a1 = some r) :
  Calls Tryz.prog 158 #[.agg #[.int .i64 LU, .int .i64 LV, .string LW], .int .i64 a1] w fun e w' => ∃ v0_ : Value, e = .returned (v0_) ∧ Kd.R (Kd.int .i64) 3 w' w.heap.size (fun _ => True) v0_ r ∧ Below w.heap.size w w' := by
 have xw := Tryz.underlying34;have HB := ah.mk (Below.refl w.heap.size w);unfold fU.f at h;have H := h;clear h;replace H := be H; obtain ⟨l, A3, H⟩ := H;have H' := ah.mk H;clear H;go_enter Tryz.func158, Tryz.ntmps158;go_wp2_with (first | ((with_reducible refine aJ (N := 2) rfl ?_); refine bf (N := 2) (cs := #[.int .i64 LU, .int .i64 LV, .string LW]) (t := 34) ?_; intro G hg w4 hbox hb; have m := ah.mk hbox; have xc := SZ (w := w) hg; have xo := xc; replace HB := BS (w := w) hb; clear hb hbox hg; obtain ⟨L, M, O, P, U, Y⟩ := cz3 m.out) | ((with_reducible refine ay (f := 73) rfl ?_); refine bg (some 9) Tryz.func73 #[.agg #[.int .i64 LU, .int .i64 LV, .string LW]] ?_; (with_reducible refine (eY.calls k LU LV LW l _ A3.out).mono ?_); rintro e w6 ⟨xx, rfl, xi, hb⟩; refine ⟨_, rfl, ?_⟩; replace m := KB m hb; have I := ah.mk (Kd.oz xi (aK BL)); replace HB := BS (w := w) hb; (try clear hb); (try clear xi); obtain ⟨xp, xj, xq⟩ := Kd.ni I.out; subst xq))
 go_loopg [5, 11] k (fun kq v5 xr w' => ∃ (y : List Int) (a : Int), xr = .int .i64 a ∧ ah (fU.l0 kq a1 y l (l.length : Int) a = some r) ∧ ah (kq ≤ k) ∧ ah (Kd.R (Kd.int .i64) 3 w' w.heap.size (fun _ => True) v5 y) ∧ ah (Kd.S (Kd.slice 3 (Kd.int .i64)) 25 w' w.heap.size (fun k_ => some k_ ≠ (v5 : Value).ownBlock) (.slice xp l.length xj) l) ∧ ah (w'.heap[G]? = some (.cells #[.int .i64 LU, .int .i64 LV, .string LW] 34 (0, 0))) ∧ ah (Below w.heap.size w w'))
 case atStart => exact ⟨_, _, EQ, H', ⟨Nat.le_refl _⟩, ⟨by first | exact Kd.nO _ _ _ _ _ | exact Kd.qo _ _ _ _ _ | exact Kd.qx _ _ _ _ _ | exact Kd.qp _ _ _ _ _ | exact Kd.qw _ _ _ _ _⟩, ⟨by (with_reducible repeat (first | apply Kd.jo | apply Kd.gD | apply Kd.jR)); exact Kd.lu I.out (fun _ hk => (by simp [Value.ownBlock]))⟩, ⟨BK⟩, ⟨BL⟩⟩
 case round =>
  clear H';(try clear L M O P U Y);obtain ⟨y, a, rfl, HA, Z, z, u, m, HB⟩ := hrel
  cases gk with
  | zero => exact absurd HA.out (by simp [fU.l0])
  | succ k1 =>
   have H := HA.out;clear HA;simp only [fU.l0] at H;replace H := ifD H; rcases H with ⟨xk, H⟩ | ⟨xk, H⟩
   ·replace H := ifN H; obtain ⟨xz, H⟩ := H;replace H := ifN H; obtain ⟨xt, H⟩ := H;replace H := be H; obtain ⟨xA, xu, H⟩ := H;have D : 0 ≤ (a : Int) := OD;have E : a < (l.length : Int) := OD;obtain ⟨xd, xa, xb, xl, J, hl518_0, hi518_0⟩ := Fx (Kd.iX u.out).2.2 a D E
    cases xl
    obtain ⟨ce518, hce518, hMe518, hcc518⟩ := Kd.Ga u.out [] a D (by first | exact E | exact OD | (have e_ := (Kd.iX u.out).1; omega));obtain ⟨ve518_0, rfl, ge518_0⟩ := hMe518;have hv518_0 := hcc518 0 _ rfl;rw [Nat.add_zero, show ((Kd.slice 3 (Kd.int .i64))).sz = 1 from rfl, Nat.mul_one] at hv518_0;replace hv518_0 := Option.some.inj (hv518_0.symm.trans J);rw [hv518_0] at ge518_0;have HL518_0 := ah.mk (show Kd.R (Kd.int .i64) 3 _ _ _ _ (jB l a) from ge518_0);clear hv518_0 ge518_0;clear hcc518 hce518;have A := ah.mk hi518_0;have K := ah.mk hl518_0;clear hi518_0 hl518_0;replace D := eq_true D;replace E := eq_true E;replace H := ah.mk H;go_wp2_with (first | ((with_reducible refine ay (f := 168) rfl ?_); refine bg (some 18) Tryz.func168 #[.slice xa (jB l a).length xb, .int .i64 a1] ?_; (with_reducible refine (gN.calls k1 _ _ (jB l a) a1 _ _ ?side1 ?side2 xu.out).mono ?_); (case side1 => repeat (first | exact (by repeat (first | (with_reducible exact A.out) | (with_reducible refine Kd.gV ?_ _) | (with_reducible refine Kd.gW ?_ _) | (with_reducible refine Kd.iT ?_) | exact A.out)) | (with_reducible refine Kd.gV ?_ _) | (with_reducible refine Kd.gW ?_ _) | (with_reducible refine Kd.iT ?_))); (case side2 => exact K.out); rintro e w' ⟨rfl, ⟨nd, rfl⟩⟩; refine ⟨_, rfl, ?_⟩; refine cB ?_));refine Hide.mk ?_;replace H := H.out;replace H := ifB H; rcases H with ⟨rfl, H⟩ | ⟨rfl, H⟩
    ·replace H := ifP H; obtain ⟨xm, H⟩ := H;have xe := ah.mk xm;clear xm;obtain ⟨xn, x⟩ : ∃ y_ : List Int, y_ = (y ++ [a]) := ⟨_, rfl⟩;replace H : (fU.l0 k1 a1 xn l (l.length : Int) (wrap64 (a + 1))) = some r := by first | (rw [x]; with_reducible exact H) | (have H2_ := (Option.bind_some _ _).symm.trans H; rw [x]; with_reducible exact H2_) | (have H2_ := (Option.bind_some _ _).symm.trans H; with_reducible exact H2_) | with_reducible exact H | (rw [x]; exact H) | exact H
     have xf := ah.mk x;clear x;have H' := ah.mk H;clear H;(try go_wp2_with (first | ((with_reducible refine dO (b := .append) (xs := #[.tmp 19, .tmp 21]) rfl ?_); at_builtin; refine Kd.gT (Kd.int .i64) (w0 := w) w.heap.size rfl (.tmp 19) (.tmp 21) 25 3 (.int .i64 0) 8 rfl Tryz.underlying25 info3 rfl (by decide) (by omega) u5 y a [.int .i64 a] (fun _ => True) (fun _ => False) rfl rfl ?aP (fun _ hk => hk.elim) ?aF ?aO ?aB ?aS ?aL ?_; (case aP => exact rfl); (case aB => exact BL); (case aF => exact (fun _ _ => trivial)); (case aO => exact (RR z)); (case aS => exact (aK BL)); (case aL => have := xe.out; omega); intro xB xv ho hb hg hat; rw [← xf.out] at ho; replace u := ah.mk (Kd.Jt (ok := (fun _ => True)) (by (with_reducible repeat (first | apply Kd.jo | apply Kd.gD | apply Kd.jR)); exact Kd.lu u.out (fun _ hk => ⟨trivial, hk⟩)) hg hat); replace HL518_0 := ah.mk (Kd.rA (ok := (fun k_ => some k_ ≠ (.slice (some xd) l.length xj : Value).ownBlock)) (by (with_reducible repeat (first | apply Kd.eH | apply Kd.cZ | apply Kd.dN)); exact Kd.bI HL518_0.out (fun _ hk => ⟨hk.2, hk.1⟩)) hg hat); replace m := ah.mk (dV (g := G) (o := .cells #[.int .i64 LU, .int .i64 LV, .string LW] 34 (0, 0)) BK hg (Kd.kE z.out m.out (by decide))); replace HB := ah.mk (hb); have xg := ah.mk (ho); clear z; clear ho hb hg hat)));go_roundg k1;case measure => have := Z.out; omega
     case rel => exact ⟨_, _, EQ, H', ks Z, ⟨(RR xg)⟩, ⟨by (with_reducible repeat (first | apply Kd.jo | apply Kd.gD | apply Kd.jR)); exact Kd.lu u.out (fun _ hk => hk.2)⟩, ⟨BK⟩, ⟨BL⟩⟩
    ·have H' := ah.mk H;clear H;(try go_wp2);go_roundg k1;case measure => have := Z.out; omega
     case rel => exact ⟨_, _, EQ, H', ks Z, ⟨(RR z)⟩, ⟨by (with_reducible repeat (first | apply Kd.jo | apply Kd.gD | apply Kd.jR)); exact u.out⟩, ⟨BK⟩, ⟨BL⟩⟩
   ·obtain rfl := Option.some.inj H;go_wp2;go_ret;exact ⟨_, EWW, (RR z), BL⟩
end Go.Proofs.YthkfjbodohaglaaGreatDoor.PFnExactHalfSolvable
