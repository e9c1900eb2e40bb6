/- Walks of functions: what each computes. -/
import Derived.Test.YtikmdgmnhbodjaaGreatZClueDomainsG0
import Derived.Test.YtikmdgmnhbodjaaGreatZClueDomainsG1
import Derived.Test.YtikmdgmnhbodjaaGreatZClueDomainsG2
import Derived.Test.YtikmdgmnhbodjaaGreatZClueDomainsG3
import Derived.Test.YtikmdgmnhbodjaaGreatZClueDomainsW
import Derived.Test.YtikmdgmnhbodjaaGreatZClueDomainsShelf
import Derived.Test.YtikmdgmnhbodjaaGreatZClueDomainsHandSort
import Derived.Test.YtikmdgmnhbodjaaGreatZClueDomainsHandForm
import Derived.Test.YtikmdgmnhbodjaaGreatZClueDomainsHandAlone
import Derived.Test.YtikmdgmnhbodjaaGreatZClueDomainsHandReach
namespace Go.Proofs.YtikmdgmnhbodjaaGreat.PFnExactClueDomains
open Go.RowKit Go.Proofs.YtikmdgmnhbodjaaGreatW.PrintWords Go.Proofs.YtikmdgmnhbodjaaGreatW.PrintLast Go.Proofs.YtikmdgmnhbodjaaGreatW.PrintMore Go.Proofs.YtikmdgmnhbodjaaGreat.Sq
attribute [local go_sem] kW kY mH mI jU jV kX kZ
set_option maxHeartbeats 8000000
set_option maxRecDepth 100000
set_option linter.unusedVariables false
set_option linter.unusedSimpArgs false
mutual
def bM.j0 : Nat → ByteArray → ByteArray → Bool → Option (Bool)
 | 0, _, _, _ => none
 | k + 1, a, b, c => if c = true then (some false) else (bM.l0 k a b 0)
def bM.l0 : Nat → ByteArray → ByteArray → Int → Option (Bool)
 | 0, _, _, _ => none
 | k + 1, a, b, c => if c < (a.size : Int) then (if 0 ≤ c then (if (bt a c) = 63 then (bM.l0 k a b (wrap64 (c + 1))) else (if c < (b.size : Int) then (if (bt a c) = (bt b c) then (bM.l0 k a b (wrap64 (c + 1))) else (some false)) else (none))) else (none)) else (some true)
end
def bM.f (k : Nat) (a0 a1 : ByteArray) : Option (Bool) := (dA.f k a0).bind fun t334 => (if t334 = true then ((bH.f k a1).bind fun t335 => (if t335 = true then (bM.j0 k a0 a1 ((a0.size : Int) != (a1.size : Int))) else (bM.j0 k a0 a1 true))) else (bM.j0 k a0 a1 true))
theorem bM.calls (k : Nat) (l a1 : ByteArray) (r : Bool) (w : World) (h : bM.f k l a1 = some r) :
  Calls Tryz.prog 80 #[.string l, .string a1] w fun e w' => e = .returned (.bool r) ∧ dM w w' := by
 unfold bM.f at h;have H := h;clear h;have y := ah.mk H;clear H;go_enter Tryz.func80, Tryz.ntmps80;go_upto_region 1 with (fail)
 repeat (go_quiet (fail); go_upto_region 1 with (fail))
 go_cut [20] (fun K wc => ∃ (kq : Nat) (m : Bool), K = .bool m ∧ ah (bM.j0 kq l a1 m = some r) ∧ ah (kq ≤ k) ∧ dM w wc)
 case first =>
  have H := y.out;clear y;replace H := be H; obtain ⟨O, o, H⟩ := H;replace H := ifB H; rcases H with ⟨rfl, H⟩ | ⟨rfl, H⟩
  ·replace H := be H; obtain ⟨P, G, H⟩ := H;replace H := ifB H; rcases H with ⟨rfl, H⟩ | ⟨rfl, H⟩
   ·have H' := ah.mk H;clear H
    repeat (go_wp2_with (first | (go_at_call 136; (with_reducible refine (dA.calls k l _ _ o.out).mono ?_); rintro e w' ⟨rfl, ⟨nd, rfl⟩⟩; (try first | exact da | exact DD)) | (go_at_call 97; (with_reducible refine (bH.calls k a1 _ _ G.out).mono ?_); rintro e w' ⟨rfl, ⟨nd, rfl⟩⟩; (try first | exact da | exact DD))); go_quiet (first | (go_at_call 136; (with_reducible refine (dA.calls k l _ _ o.out).mono ?_); rintro e w' ⟨rfl, ⟨nd, rfl⟩⟩; (try first | exact da | exact DD)) | (go_at_call 97; (with_reducible refine (bH.calls k a1 _ _ G.out).mono ?_); rintro e w' ⟨rfl, ⟨nd, rfl⟩⟩; (try first | exact da | exact DD))))
    go_wp2_with (first | (go_at_call 136; (with_reducible refine (dA.calls k l _ _ o.out).mono ?_); rintro e w' ⟨rfl, ⟨nd, rfl⟩⟩; (try first | exact da | exact DD)) | (go_at_call 97; (with_reducible refine (bH.calls k a1 _ _ G.out).mono ?_); rintro e w' ⟨rfl, ⟨nd, rfl⟩⟩; (try first | exact da | exact DD)));go_meet;case rel => exact ⟨_, _, EQ, H', ⟨by first | omega | exact Nat.le_refl _⟩, DR⟩
   ·have H' := ah.mk H;clear H
    repeat (go_wp2_with (first | (go_at_call 136; (with_reducible refine (dA.calls k l _ _ o.out).mono ?_); rintro e w' ⟨rfl, ⟨nd, rfl⟩⟩; (try first | exact da | exact DD)) | (go_at_call 97; (with_reducible refine (bH.calls k a1 _ _ G.out).mono ?_); rintro e w' ⟨rfl, ⟨nd, rfl⟩⟩; (try first | exact da | exact DD))); go_quiet (first | (go_at_call 136; (with_reducible refine (dA.calls k l _ _ o.out).mono ?_); rintro e w' ⟨rfl, ⟨nd, rfl⟩⟩; (try first | exact da | exact DD)) | (go_at_call 97; (with_reducible refine (bH.calls k a1 _ _ G.out).mono ?_); rintro e w' ⟨rfl, ⟨nd, rfl⟩⟩; (try first | exact da | exact DD))))
    go_wp2_with (first | (go_at_call 136; (with_reducible refine (dA.calls k l _ _ o.out).mono ?_); rintro e w' ⟨rfl, ⟨nd, rfl⟩⟩; (try first | exact da | exact DD)) | (go_at_call 97; (with_reducible refine (bH.calls k a1 _ _ G.out).mono ?_); rintro e w' ⟨rfl, ⟨nd, rfl⟩⟩; (try first | exact da | exact DD)));go_meet;case rel => exact ⟨_, _, EQ, H', ⟨by first | omega | exact Nat.le_refl _⟩, DR⟩
  ·have H' := ah.mk H;clear H
   repeat (go_wp2_with (first | (go_at_call 136; (with_reducible refine (dA.calls k l _ _ o.out).mono ?_); rintro e w' ⟨rfl, ⟨nd, rfl⟩⟩; (try first | exact da | exact DD))); go_quiet (first | (go_at_call 136; (with_reducible refine (dA.calls k l _ _ o.out).mono ?_); rintro e w' ⟨rfl, ⟨nd, rfl⟩⟩; (try first | exact da | exact DD))))
   go_wp2_with (first | (go_at_call 136; (with_reducible refine (dA.calls k l _ _ o.out).mono ?_); rintro e w' ⟨rfl, ⟨nd, rfl⟩⟩; (try first | exact da | exact DD)));go_meet;case rel => exact ⟨_, _, EQ, H', ⟨by first | omega | exact Nat.le_refl _⟩, DR⟩
 case rest =>
  clear y;obtain ⟨kq, m, rfl, HA, u, ⟨mc2, rfl⟩⟩ := hcut
  cases kq with
  | zero => exact absurd HA.out (by simp [bM.j0])
  | succ I =>
   have H := HA.out;clear HA;simp only [bM.j0] at H;replace H := ifB H; rcases H with ⟨rfl, H⟩ | ⟨rfl, H⟩
   ·obtain rfl := Option.some.inj H;go_wp2
    repeat (go_quiet (fail); try go_wp2)
    go_ret;exact ⟨EQ, DR⟩
   ·have H' := ah.mk H;clear H;go_wp2
    repeat (go_quiet (fail); try go_wp2)
    go_loopg [5] I (fun kq U w' => ∃ (a : Int), U = .int .i64 a ∧ ah (bM.l0 kq l a1 a = some r) ∧ ah (kq ≤ I) ∧ dM w w')
    case atStart => exact ⟨_, EQ, H', ⟨Nat.le_refl _⟩, DR⟩
    case round =>
     clear H';(try clear c8);obtain ⟨a, rfl, HA, x, ⟨m2, rfl⟩⟩ := hrel
     cases gk with
     | zero => exact absurd HA.out (by simp [bM.l0])
     | succ k2 =>
      have H := HA.out;clear HA;simp only [bM.l0] at H;replace H := ifD H; rcases H with ⟨J, H⟩ | ⟨J, H⟩
      ·replace H := ifN H; obtain ⟨L, H⟩ := H;have X : (0 ≤ (a : Int)) = True := OT;have Y : (a < (l.size : Int)) = True := OT;have hx11 := gX l a;replace H := ifE H; rcases H with ⟨z, A, H⟩ | ⟨Z, z, A, H⟩
       ·have H' := ah.mk H;clear H;go_wp2
        repeat (go_quiet (fail); try go_wp2)
        go_roundg k2;case measure => have := u.out; have := x.out; omega
        case rel => exact ⟨_, EQ, H', ⟨by have := u.out; have := x.out; omega⟩, DR⟩
       ·replace H := ifN H; obtain ⟨M, H⟩ := H;have xa : (0 ≤ (a : Int)) = True := OT;have xb : (a < (l.size : Int)) = True := OT;have hx13 := gX l a;have xc : (0 ≤ (a : Int)) = True := OT;have xd : (a < (a1.size : Int)) = True := OT;have hx15 := gX a1 a;replace H := ifE H; rcases H with ⟨D, E, H⟩ | ⟨xe, D, E, H⟩
        ·have H' := ah.mk H;clear H;go_wp2
         repeat (go_quiet (fail); try go_wp2)
         go_roundg k2;case measure => have := u.out; have := x.out; omega
         case rel => exact ⟨_, EQ, H', ⟨by have := u.out; have := x.out; omega⟩, DR⟩
        ·obtain rfl := Option.some.inj H;go_wp2
         repeat (go_quiet (fail); try go_wp2)
         go_ret;exact ⟨EQ, DR⟩
      ·obtain rfl := Option.some.inj H;go_wp2
       repeat (go_quiet (fail); try go_wp2)
       go_ret;exact ⟨EQ, DR⟩
def ig.l0 : Nat → List ByteArray → ByteArray → Int → Option (Bool)
 | 0, _, _, _ => none
 | k + 1, a, b, c => if c < (a.length : Int) then (if 0 ≤ c then (if (gW ByteArray.empty a c).toList = b.toList then (some true) else (ig.l0 k a b (wrap64 (c + 1)))) else (none)) else (some false)
def ig.f (k : Nat) (l0 : List ByteArray) (a1 : ByteArray) : Option (Bool) := ig.l0 k l0 a1 0
theorem ig.calls (k : Nat) (J : Option Addr) (K : Nat) (l0 : List ByteArray) (a1 : ByteArray) (r : Bool) (w : World) (o : Kd.C Kd.string w J l0.length l0) (u : l0.length ≤ K) (h : ig.f k l0 a1 = some r) :
  Calls Tryz.prog 81 #[.slice J l0.length K, .string a1] w fun e w' => e = .returned (.bool r) ∧ dM w w' := by
 have G := ah.mk o;have M := ah.mk u;clear o u;have H : (ig.l0 k l0 a1 0) = some r := h;clear h;have H' := ah.mk H;clear H;go_enter Tryz.func81, Tryz.ntmps81;go_wp2
 go_loopg [5] k (fun kq O w' => ∃ (a : Int), O = .int .i64 a ∧ ah (ig.l0 kq l0 a1 a = some r) ∧ ah (kq ≤ k) ∧ dM w w')
 case atStart => exact ⟨_, EQ, H', ⟨Nat.le_refl _⟩, DR⟩
 case round =>
  clear H';obtain ⟨a, rfl, HA, x, ⟨m1, rfl⟩⟩ := hrel
  cases gk with
  | zero => exact absurd HA.out (by simp [ig.l0])
  | succ k1 =>
   have H := HA.out;clear HA;simp only [ig.l0] at H;replace H := ifD H; rcases H with ⟨y, H⟩ | ⟨y, H⟩
   ·replace H := ifN H; obtain ⟨L, H⟩ := H;have l : 0 ≤ (a : Int) := OD;have m : a < (l0.length : Int) := OD;obtain ⟨I, z, A⟩ := Kd.kT G.out a l m
    cases z
    replace l := eq_true l;replace m := eq_true m;replace H := ifE H; rcases H with ⟨D, E, H⟩ | ⟨c5, D, E, H⟩
    ·obtain rfl := Option.some.inj H;go_wp2;go_ret;exact ⟨EQ, DR⟩
    ·have H' := ah.mk H;clear H;go_wp2;go_roundg k1;case measure => have := x.out; omega
     case rel => exact ⟨_, EQ, H', ks x, DR⟩
   ·obtain rfl := Option.some.inj H;go_wp2;go_ret;exact ⟨EQ, DR⟩
mutual
def aU.l0 : Nat → List (S73) → List ByteArray → ByteArray → Int → List ByteArray → Int → Int → List (bW) → Option (List ByteArray)
 | 0, _, _, _, _, _, _, _, _ => none
 | k + 1, a, b, c, d, e, f, g, h => if f < (b.length : Int) then ((bF.f d 0 3).bind fun i => (aU.j1 k a b c d e f i g h)) else (aU.j1 k a b c d e f false g h)
def aU.j1 : Nat → List (S73) → List ByteArray → ByteArray → Int → List ByteArray → Int → Bool → Int → List (bW) → Option (List ByteArray)
 | 0, _, _, _, _, _, _, _, _, _ => none
 | k + 1, a, b, c, d, e, f, g, h, i => if g = true then (if 0 ≤ f then (if f < (b.length : Int) then (if (Int.tmod d 2) = 0 then (aU.j2 k a b c d e f (gW ByteArray.empty b f) true h i) else ((gF.f k a (gW ByteArray.empty b f) h).bind fun j => (aU.j2 k a b c d e f (gW ByteArray.empty b f) j h i))) else (none)) else (none)) else (some e)
def aU.j2 : Nat → List (S73) → List ByteArray → ByteArray → Int → List ByteArray → Int → ByteArray → Bool → Int → List (bW) → Option (List ByteArray)
 | 0, _, _, _, _, _, _, _, _, _, _ => none
 | k + 1, a, b, c, d, e, f, g, h, i, j => if d < 2 then (aU.j3 k a b c d e f g h true i j) else ((ni.f k j g).bind fun l => (aU.j3 k a b c d e f g h l i j))
def aU.j3 : Nat → List (S73) → List ByteArray → ByteArray → Int → List ByteArray → Int → ByteArray → Bool → Bool → Int → List (bW) → Option (List ByteArray)
 | 0, _, _, _, _, _, _, _, _, _, _, _ => none
 | k + 1, a, b, c, d, e, f, g, h, i, j, l => (bM.f k c g).bind fun m => (if m = true then (if h = true then (if i = true then ((ig.f k e g).bind fun n => (if n = true then (aU.l0 k a b c d e (wrap64 (f + 1)) j l) else (if e.length < 8796093022208 then (aU.l0 k a b c d (e ++ [g]) (wrap64 (f + 1)) j l) else (none)))) else (aU.l0 k a b c d e (wrap64 (f + 1)) j l)) else (aU.l0 k a b c d e (wrap64 (f + 1)) j l)) else (aU.l0 k a b c d e (wrap64 (f + 1)) j l))
end
def aU.f (k : Nat) (JW : Int) (l0_1 : List (bW)) (l1 : List (S73)) (l2 : List ByteArray) (a3 : ByteArray) (a4 : Int) : Option (List ByteArray) := aU.l0 k l1 l2 a3 a4 (([] : List ByteArray)) 0 JW l0_1
theorem aU.calls (k : Nat) (JW : Int) (G : Option Addr) (I : Nat) (m : List (bW)) (A1 : Option Addr) (c1 : Nat) (l1 : List (S73)) (A2 : Option Addr) (c2 : Nat) (l2 : List ByteArray) (a3 : ByteArray) (a4 : Int) (r : List ByteArray) (w : World) (xc : Kd.C iW w G m.length m) (xd : m.length ≤ I) (xJ : Kd.C k73 w A1 l1.length l1) (xK : l1.length ≤ c1) (hr2 : Kd.C Kd.string w A2 l2.length l2) (hc2 : l2.length ≤ c2) (h : aU.f k JW m l1 l2 a3 a4 = some r) :
  Calls Tryz.prog 42 #[.agg #[.int .i64 JW, .slice G m.length I], .slice A1 l1.length c1, .slice A2 l2.length c2, .string a3, .int .i64 a4] w fun e w' => ∃ v0_ : Value, e = .returned (v0_) ∧ Kd.R Kd.string 9 w' w.heap.size (fun _ => True) v0_ r ∧ Below w.heap.size w w' := by
 have yo := Tryz.underlying70;have xq := ah.mk xc;have xr := ah.mk xd;clear xc xd;have xT := ah.mk xJ;have xU := ah.mk xK;clear xJ xK;have xV := ah.mk hr2;have yt := ah.mk hc2;clear hr2 hc2;have HB := ah.mk (Below.refl w.heap.size w);unfold aU.f at h;have H := h;clear h;obtain ⟨xL, L⟩ : ∃ y_ : List ByteArray, y_ = (([] : List ByteArray)) := ⟨_, rfl⟩;replace H : (aU.l0 k l1 l2 a3 a4 xL 0 JW m) = some r := by first | (rw [L]; with_reducible exact H) | (have H2_ := (Option.bind_some _ _).symm.trans H; rw [L]; with_reducible exact H2_) | (have H2_ := (Option.bind_some _ _).symm.trans H; with_reducible exact H2_) | with_reducible exact H | (rw [L]; exact H) | exact H
 have xe := ah.mk L;clear L;have H' := ah.mk H;clear H;go_enter Tryz.func42, Tryz.ntmps42;go_wp2_with (first | ((with_reducible refine aK (N := 5) rfl ?_); refine bA (N := 5) (cs := #[.int .i64 JW, .slice G m.length I]) (t := 70) ?_; intro M hg w6 hbox hb; have x := ah.mk hbox; have xt := SZ (w := w) hg; have xW := xt; replace HB := BS (w := w) hb; clear hb hbox hg) | ((with_reducible refine aK (N := 16) rfl ?_); refine Kd.qN Kd.string _ 9 ?hg (N := 16) ?hd (xs := ([] : List ByteArray)) (inner := []) (ok := fun _ => True) (okp := fun _ => True) ?hr ?hp (fun _ hk => hk) trivial (Below.refl _ _) (Nat.le_refl _) (by simp) ?_; (case hd => rfl); (case hg => rfl); (case hr => first | (go_simp; done) | (go_simp; rfl)); (case hp => exact (iL.none _ _)); intro yp w7 xf hb hg_ hnew_; clear hg_ hnew_; (first | rw [← xe.out] at xf | (simp only [Int.reduceToNat] at xf; rw [← xe.out] at xf)); replace x := KB x hb; have xu := ah.mk (Kd.bT xf (aJ BL)); replace HB := BS (w := w) hb; clear hb xf))
 go_loopg [11, 12] k (fun kq xX xY w' => ∃ (u : List ByteArray) (l : Int), xY = .int .i64 l ∧ ah (aU.l0 kq l1 l2 a3 a4 u l JW m = some r) ∧ ah (kq ≤ k) ∧ ah (Kd.R Kd.string 9 w' w.heap.size (fun _ => True) xX u) ∧ ah (w'.heap[M]? = some (.cells #[.int .i64 JW, (.slice G m.length I)] 70 (0, 0))) ∧ ah (Below w.heap.size w w'))
 case atStart => exact ⟨_, _, EQ, H', ⟨Nat.le_refl _⟩, ⟨(RR xu)⟩, ⟨BK⟩, ⟨BL⟩⟩
 case round =>
  clear H';(try clear c1);(try clear c2);obtain ⟨u, l, rfl, HA, A, a, x, HB⟩ := hrel
  cases gk with
  | zero => exact absurd HA.out (by simp [aU.l0])
  | succ k1 =>
   have H := HA.out;clear HA;simp only [aU.l0] at H;have xv := ah.mk H;clear H;go_upto_region 3 with (fail)
   go_cut [24] (fun xZ wc => ∃ (kq : Nat) (xb : Bool), xZ = .bool xb ∧ ah (aU.j1 kq l1 l2 a3 a4 u l xb JW m = some r) ∧ ah (kq ≤ k1) ∧ ah (Kd.R Kd.string 9 wc w.heap.size (fun _ => True) u11 u) ∧ ah (wc.heap[M]? = some (.cells #[.int .i64 JW, (.slice G m.length I)] 70 (0, 0))) ∧ ah (Below w.heap.size w wc))
   case first =>
    have H := xv.out;clear xv;replace H := ifD H; rcases H with ⟨O, H⟩ | ⟨O, H⟩
    ·(first | rw [O] | (simp only [iQ, jv]; rw [O]) | skip);replace H := be H; obtain ⟨xM, ya, H⟩ := H;have H' := ah.mk H;clear H;go_wp2_with (first | (go_at_call 58; (with_reducible refine (bF.calls a4 0 3 xM _ ya.out).mono ?_); rintro e w' ⟨rfl, ⟨nd, rfl⟩⟩));go_meet;case rel => exact ⟨_, _, EQ, H', ⟨by have := A.out; first | omega | exact Nat.le_refl _⟩, ⟨(RR a)⟩, ⟨BK⟩, ⟨BL⟩⟩
    ·(first | rw [O] | (simp only [iQ, jv]; rw [O]) | skip);have H' := ah.mk H;clear H;go_wp2;go_meet;case rel => exact ⟨_, _, EQ, H', ⟨by have := A.out; first | omega | exact Nat.le_refl _⟩, ⟨(RR a)⟩, ⟨BK⟩, ⟨BL⟩⟩
   case rest =>
    clear xv;(try clear c1);(try clear c2);obtain ⟨kq, xb, rfl, HA, E, a, x, HB⟩ := hcut
    cases kq with
    | zero => exact absurd HA.out (by simp [aU.j1])
    | succ xN =>
     have H := HA.out;clear HA;simp only [aU.j1] at H;replace H := ifB H; rcases H with ⟨rfl, H⟩ | ⟨rfl, H⟩
     ·replace H := ifN H; obtain ⟨xg, H⟩ := H;replace H := ifN H; obtain ⟨xh, H⟩ := H;have xi := ah.mk H;clear H;have Z : 0 ≤ (l : Int) := OD;have xa : l < (l2.length : Int) := OD;obtain ⟨yb, xO, z⟩ := Kd.kT xV.out l Z xa
      cases xO
      (try replace z := (HB.out.cell (World.block_lt_of_cell? w _ z)).trans z);replace Z := eq_true Z;replace xa := eq_true xa;go_upto_region 6 with (fail)
      go_cut [14] (fun yc wc => ∃ (kq : Nat) (K : Bool), yc = .bool K ∧ ah (aU.j2 kq l1 l2 a3 a4 u l (gW ByteArray.empty l2 l) K JW m = some r) ∧ ah (kq ≤ xN) ∧ ah (Kd.R Kd.string 9 wc w.heap.size (fun _ => True) u11 u) ∧ ah (wc.heap[M]? = some (.cells #[.int .i64 JW, (.slice G m.length I)] 70 (0, 0))) ∧ ah (Below w.heap.size w wc))
      case first =>
       have H := xi.out;clear xi;replace H := ifE H; rcases H with ⟨P, xw, H⟩ | ⟨yu, P, xw, H⟩
       ·(first | rw [P] | (simp only [iQ, jv]; rw [P]) | skip);have H' := ah.mk H;clear H;go_wp2;go_meet;case rel => exact ⟨_, _, EQ, H', ⟨by have := A.out; have := E.out; first | omega | exact Nat.le_refl _⟩, ⟨(RR a)⟩, ⟨BK⟩, ⟨BL⟩⟩
       ·(first | rw [P] | (simp only [iQ, jv]; rw [P]) | skip);replace H := be H; obtain ⟨xP, yd, H⟩ := H;have H' := ah.mk H;clear H;obtain ⟨xx, xy, xz, xA⟩ := cz2 x.out;go_wp2_with (first | (go_at_call 78; (with_reducible refine (gF.calls xN _ _ l1 (gW ByteArray.empty l2 l) JW xP _ ?side1 ?side2 yd.out).mono ?_); (case side1 => exact CB xT); (case side2 => exact xU.out); rintro e w' ⟨rfl, ⟨nd, rfl⟩⟩));go_meet;case rel => exact ⟨_, _, EQ, H', ⟨by have := A.out; have := E.out; first | omega | exact Nat.le_refl _⟩, ⟨(RR a)⟩, ⟨BK⟩, ⟨BL⟩⟩
      case rest =>
       clear xi;(try clear c1);(try clear c2);(try clear ye);(try clear yf);(try clear xg);(try clear yg);(try clear xh);(try clear z);(try clear Z);(try clear xa);obtain ⟨kq, K, rfl, HA, y, a, x, HB⟩ := hcut
       cases kq with
       | zero => exact absurd HA.out (by simp [aU.j2])
       | succ xp =>
        have H := HA.out;clear HA;simp only [aU.j2] at H;have xj := ah.mk H;clear H;go_upto_region 7 with (fail)
        go_cut [15] (fun yh wc => ∃ (kq : Nat) (Y : Bool), yh = .bool Y ∧ ah (aU.j3 kq l1 l2 a3 a4 u l (gW ByteArray.empty l2 l) K Y JW m = some r) ∧ ah (kq ≤ xp) ∧ ah (Kd.R Kd.string 9 wc w.heap.size (fun _ => True) u11 u) ∧ ah (wc.heap[M]? = some (.cells #[.int .i64 JW, (.slice G m.length I)] 70 (0, 0))) ∧ ah (Below w.heap.size w wc))
        case first =>
         have H := xj.out;clear xj;replace H := ifD H; rcases H with ⟨U, H⟩ | ⟨U, H⟩
         ·(first | rw [U] | (simp only [iQ, jv]; rw [U]) | skip);have H' := ah.mk H;clear H;go_wp2;go_meet;case rel => exact ⟨_, _, EQ, H', ⟨by have := A.out; have := E.out; have := y.out; first | omega | exact Nat.le_refl _⟩, ⟨(RR a)⟩, ⟨BK⟩, ⟨BL⟩⟩
         ·(first | rw [U] | (simp only [iQ, jv]; rw [U]) | skip);replace H := be H; obtain ⟨xQ, yi, H⟩ := H;have H' := ah.mk H;clear H;obtain ⟨xB, xC, xD, xE⟩ := cz2 x.out;go_wp2_with (first | (go_at_call 79; (with_reducible refine (ni.calls xp _ _ m (gW ByteArray.empty l2 l) xQ _ ?side1 ?side2 yi.out).mono ?_); (case side1 => exact CB xq); (case side2 => exact xr.out); rintro e yj ⟨rfl, hb⟩; replace a := RB a hb; replace x := KB x hb; replace HB := BS (w := w) hb; (try clear hb); (try clear hb2); (try clear hk); (try clear hi)));go_meet;case rel => exact ⟨_, _, EQ, H', ⟨by have := A.out; have := E.out; have := y.out; first | omega | exact Nat.le_refl _⟩, ⟨(RR a)⟩, ⟨BK⟩, ⟨BL⟩⟩
        case rest =>
         clear xj;(try clear c1);(try clear c2);(try clear ye);(try clear yf);(try clear xg);(try clear yg);(try clear xh);(try clear z);(try clear Z);(try clear xa);obtain ⟨kq, Y, rfl, HA, D, a, x, HB⟩ := hcut
         cases kq with
         | zero => exact absurd HA.out (by simp [aU.j3])
         | succ J =>
          have H := HA.out;clear HA;simp only [aU.j3] at H;replace H := be H; obtain ⟨yq, yk, H⟩ := H;replace H := ah.mk H;go_wp2_with (first | ((with_reducible refine aA (f := 80) rfl ?_); refine aY (some 51) Tryz.func80 #[.string a3, .string (gW ByteArray.empty l2 l)] ?_; (with_reducible refine (bM.calls J a3 (gW ByteArray.empty l2 l) _ _ yk.out).mono ?_); rintro e w' ⟨rfl, ⟨nd, rfl⟩⟩; refine ⟨_, rfl, ?_⟩; refine dF ?_));refine Hide.mk ?_;replace H := H.out;replace H := ifB H; rcases H with ⟨rfl, H⟩ | ⟨rfl, H⟩
          ·replace H := ifB H; rcases H with ⟨rfl, H⟩ | ⟨rfl, H⟩
           ·replace H := ifB H; rcases H with ⟨rfl, H⟩ | ⟨rfl, H⟩
            ·replace H := be H; obtain ⟨yr, yl, H⟩ := H;replace H := ah.mk H;obtain ⟨xm, xn, xo⟩ := Kd.cK a.out;subst xo;go_wp2_with (first | (go_at_call 81; (with_reducible refine (ig.calls J _ _ u (gW ByteArray.empty l2 l) _ _ ?side1 ?side2 yl.out).mono ?_); (case side1 => exact CR2 a); (case side2 => exact (Kd.aZ a.out).2.1); rintro e w' ⟨rfl, ⟨nd, rfl⟩⟩; refine dF ?_));refine Hide.mk ?_;replace H := H.out;replace H := ifB H; rcases H with ⟨rfl, H⟩ | ⟨rfl, H⟩
             ·have H' := ah.mk H;clear H;(try go_wp2);go_roundg J;case measure => have := A.out; have := E.out; have := y.out; have := D.out; omega
              case rel => exact ⟨_, _, EQ, H', ⟨by have := A.out; have := E.out; have := y.out; have := D.out; omega⟩, ⟨(RR a)⟩, ⟨BK⟩, ⟨BL⟩⟩
             ·replace H := ifP H; obtain ⟨xR, H⟩ := H;have xF := ah.mk xR;clear xR;obtain ⟨xS, X⟩ : ∃ y_ : List ByteArray, y_ = (u ++ [(gW ByteArray.empty l2 l)]) := ⟨_, rfl⟩;replace H : (aU.l0 J l1 l2 a3 a4 xS (wrap64 (l + 1)) JW m) = some r := by first | (rw [X]; with_reducible exact H) | (have H2_ := (Option.bind_some _ _).symm.trans H; rw [X]; with_reducible exact H2_) | (have H2_ := (Option.bind_some _ _).symm.trans H; with_reducible exact H2_) | with_reducible exact H | (rw [X]; exact H) | exact H
              have xG := ah.mk X;clear X;have H' := ah.mk H;clear H;(try go_wp2_with (first | ((with_reducible refine eP (b := .append) (xs := #[.tmp 64, .tmp 66]) rfl ?_); at_builtin; refine Kd.iM Kd.string (w0 := w) w.heap.size rfl (.tmp 64) (.tmp 66) 29 9 (.string ⟨#[]⟩) 16 rfl Tryz.underlying29 Cz rfl (by decide) (by omega) (.slice xm u.length xn) u (gW ByteArray.empty l2 l) [.string (gW ByteArray.empty l2 l)] (fun _ => True) (fun _ => False) rfl rfl ?aP (fun _ hk => hk.elim) ?aF ?aO ?aB ?aS ?aL ?_; (case aP => exact rfl); (case aB => exact BL); (case aF => exact (fun _ _ => trivial)); (case aO => exact (RR a)); (case aS => exact (aJ BL)); (case aL => have := xF.out; omega); intro ys ym ho hb hg hat; rw [← xG.out] at ho; replace x := ah.mk (eX (g := M) (o := .cells #[.int .i64 JW, .slice G m.length I] 70 (0, 0)) BK hg (Kd.lM a.out x.out (by decide))); replace HB := ah.mk (hb); have xH := ah.mk (ho); clear a; clear ho hb hg hat)));go_roundg J;case measure => have := A.out; have := E.out; have := y.out; have := D.out; omega
              case rel => exact ⟨_, _, EQ, H', ⟨by have := A.out; have := E.out; have := y.out; have := D.out; omega⟩, ⟨(RR xH)⟩, ⟨BK⟩, ⟨BL⟩⟩
            ·have H' := ah.mk H;clear H;(try go_wp2);go_roundg J;case measure => have := A.out; have := E.out; have := y.out; have := D.out; omega
             case rel => exact ⟨_, _, EQ, H', ⟨by have := A.out; have := E.out; have := y.out; have := D.out; omega⟩, ⟨(RR a)⟩, ⟨BK⟩, ⟨BL⟩⟩
           ·have H' := ah.mk H;clear H;(try go_wp2);go_roundg J;case measure => have := A.out; have := E.out; have := y.out; have := D.out; omega
            case rel => exact ⟨_, _, EQ, H', ⟨by have := A.out; have := E.out; have := y.out; have := D.out; omega⟩, ⟨(RR a)⟩, ⟨BK⟩, ⟨BL⟩⟩
          ·have H' := ah.mk H;clear H;(try go_wp2);go_roundg J;case measure => have := A.out; have := E.out; have := y.out; have := D.out; omega
           case rel => exact ⟨_, _, EQ, H', ⟨by have := A.out; have := E.out; have := y.out; have := D.out; omega⟩, ⟨(RR a)⟩, ⟨BK⟩, ⟨BL⟩⟩
     ·obtain rfl := Option.some.inj H;go_wp2;go_ret;exact ⟨_, EWW, (RR a), BL⟩
mutual
def bE.j0 : Nat → ByteArray → Int → List (eZ) → Bool → Int → Int → ByteArray → Option (ByteArray)
 | 0, _, _, _, _, _, _, _ => none
 | k + 1, a, b, c, d, e, f, g => if d = true then (some (⟨#[]⟩ : ByteArray)) else (if 0 ≤ b then (if b < (c.length : Int) then ((bV.f k e f g ((aN c b).f0) ((aN c b).f1) ((aN c b).f2) ((aN c b).f3)).bind fun h => (bE.l0 k a (⟨#[]⟩ : ByteArray) h 0)) else (none)) else (none))
def bE.l0 : Nat → ByteArray → ByteArray → List Int → Int → Option (ByteArray)
 | 0, _, _, _, _ => none
 | k + 1, a, b, c, d => if d < (c.length : Int) then (if 0 ≤ d then (if 0 ≤ (rd c d) then (if (rd c d) ≤ (wrap64 ((rd c d) + 1)) then (if (wrap64 ((rd c d) + 1)) ≤ (a.size : Int) then (if b.size + (a.extract ((rd c d) : Int).toNat ((wrap64 ((rd c d) + 1)) : Int).toNat).size ≤ 9223372036854775807 then (bE.l0 k a (b ++ (a.extract ((rd c d) : Int).toNat ((wrap64 ((rd c d) + 1)) : Int).toNat)) c (wrap64 (d + 1))) else (none)) else (none)) else (none)) else (none)) else (none)) else (some b)
end
def bE.f (k : Nat) (JW JX : Int) (JY a1 : ByteArray) (a2 : Int) : Option (ByteArray) := (aQ.f k JW JX JY).bind fun t351 => ((cu.f k JW JX JY a1).bind fun t354 => (if t354 = true then ((bF.f a2 0 (wrap64 ((t351.length : Int) - 1))).bind fun t355 => (bE.j0 k a1 a2 t351 (!t355) JW JX JY)) else (bE.j0 k a1 a2 t351 true JW JX JY)))
def bE.T9 : Bool × List (List Nat × List Nat) := (true, [([], []), ([], []), ([], []), ([], []), ([2, 3], [2, 3]), ([4], [4]), ([], []), ([], []), ([6, 7], [6, 7]), ([8], [8]), ([9], [9]), ([1, 5, 10], [1, 5, 10]), ([0, 11], [0, 11]), ([12, 0, 1, 2, 3, 4, 5, 6, 7, 8, 9, 10, 11, 12], [0, 12])])
def bE.B9 : List Nat := [0, 0, 0, 0, 12, 28, 0, 0, 192, 448, 960, 2046, 4095, 8191]
theorem bE.JR : mO .any (opsOf Tryz.f43 9) = bE.T9 := by kernel_rfl
theorem bE.JA : kC bE.T9.2 bE.B9 = true := by kernel_rfl
theorem bE.calls (k : Nat) (JW JX : Int) (JY a1 : ByteArray) (x : Int) (r : ByteArray) (w : World) (h : bE.f k JW JX JY a1 x = some r) :
  Calls Tryz.prog 43 #[.agg #[.int .i64 JW, .int .i64 JX, .string JY], .string a1, .int .i64 x] w fun e w' => e = .returned (.string r) ∧ Below w.heap.size w w' := by
 have yr := Tryz.underlying35;have xY := Tryz.underlying109;have HB := ah.mk (Below.refl w.heap.size w);unfold bE.f at h;have H := h;clear h;replace H := be H; obtain ⟨o, A4, H⟩ := H;have xo := ah.mk H;clear H;go_enter Tryz.func43, Tryz.ntmps43;go_upto_region 2 with (first | ((with_reducible refine aK (N := 3) rfl ?_); (try (refine jW (by rfl) ?_; dsimp only)); refine bA (N := 3) (cs := #[.int .i64 JW, .int .i64 JX, .string JY]) (t := 35) ?_; intro y hg w6 hbox hb; have l := ah.mk hbox; have xp := SZ (w := w) hg; have xZ := xp; replace HB := BS (w := w) hb; clear hb hbox hg; obtain ⟨X, Y, Z, xa, xb, xc⟩ := cz3 l.out) | ((with_reducible refine aA (f := 75) rfl ?_); refine aY (some 12) Tryz.func75 #[.agg #[.int .i64 JW, .int .i64 JX, .string JY]] ?_; (with_reducible refine (aQ.calls k JW JX JY o _ A4.out).mono ?_); rintro e w8 ⟨xE, rfl, xg, hb⟩; refine ⟨_, rfl, ?_⟩; replace l := KB l hb; have z := ah.mk (Kd.bT xg (aJ BL)); replace HB := BS (w := w) hb; (try clear hb); (try clear xg)));(try simp only [Act.put, List.setIfInBounds_toArray, List.set_cons_zero, List.set_cons_succ])
 go_cut [24] (fun ya wc => ∃ (kq : Nat) (P : Bool), ya = .bool P ∧ ah (bE.j0 kq a1 x o P JW JX JY = some r) ∧ ah (kq ≤ k) ∧ ah (Kd.R mZ 109 wc w.heap.size (fun _ => True) xE o) ∧ ah (wc.heap[y]? = some (.cells #[.int .i64 JW, .int .i64 JX, .string JY] 35 (0, 0))) ∧ ah (Below w.heap.size w wc))
 case first =>
  have H := xo.out;clear xo;replace H := be H; obtain ⟨ys, A9, H⟩ := H;obtain ⟨xq, xr, xs, xt, xu, xv⟩ := cz3 l.out;replace H := ah.mk H;go_wp2_with (first | ((with_reducible refine aA (f := 41) rfl ?_); refine aY (some 15) Tryz.func41 #[.agg #[.int .i64 JW, .int .i64 JX, .string JY], .string a1] ?_; (with_reducible refine (cu.calls k JW JX JY a1 _ _ A9.out).mono ?_); rintro e yb ⟨rfl, hb⟩; refine ⟨_, rfl, ?_⟩; replace z := RB z hb; replace l := KB l hb; replace HB := BS (w := w) hb; (try clear hb); refine dF ?_));refine Hide.mk ?_;replace H := H.out;replace H := ifB H; rcases H with ⟨rfl, H⟩ | ⟨rfl, H⟩
  ·replace H := be H; obtain ⟨xF, yc, H⟩ := H;have H' := ah.mk H;clear H;obtain ⟨xS, xT, xm⟩ := Kd.cK z.out;subst xm;go_wp2_with (first | (go_at_call 58; (with_reducible refine (bF.calls x 0 (wrap64 ((o.length : Int) - 1)) xF _ yc.out).mono ?_); rintro e w' ⟨rfl, ⟨nd, rfl⟩⟩));go_meet;case rel => exact ⟨_, _, EQ, H', ⟨by first | omega | exact Nat.le_refl _⟩, ⟨(RR z)⟩, ⟨BK⟩, ⟨BL⟩⟩
  ·have H' := ah.mk H;clear H;(try go_wp2);go_meet;case rel => exact ⟨_, _, EQ, H', ⟨by first | omega | exact Nat.le_refl _⟩, ⟨(RR z)⟩, ⟨BK⟩, ⟨BL⟩⟩
 case rest =>
  clear xo;(try clear X Y Z xa xb xc);obtain ⟨kq, P, rfl, HA, xG, A, l, HB⟩ := hcut
  cases kq with
  | zero => exact absurd HA.out (by simp [bE.j0])
  | succ xw =>
   have H := HA.out;clear HA;simp only [bE.j0] at H;replace H := ifB H; rcases H with ⟨rfl, H⟩ | ⟨rfl, H⟩
   ·obtain rfl := Option.some.inj H;go_wp2;go_ret;exact ⟨EWW, BL⟩
   ·replace H := ifN H; obtain ⟨xx, H⟩ := H;replace H := ifN H; obtain ⟨xy, H⟩ := H;replace H := be H; obtain ⟨m, yd, H⟩ := H;have H' := ah.mk H;clear H;(try go_wp2);replace A := ah.mk (Kd.bR A.out);replace l := ah.mk (aD l.out);replace HB := ah.mk (dO HB.out);obtain ⟨xU, xV, xd⟩ := Kd.cK A.out;(first | subst xd | (injection xd with f1_ f2_ f3_; have f4_ := f1_.symm; have f5_ := f3_.symm; clear f1_ f2_ f3_; subst f4_; subst f5_));have xe : 0 ≤ (x : Int) := OD;have xf : x < (o.length : Int) := OD;obtain ⟨u, xH, D, E, G, I⟩ := oN (Kd.aZ A.out).2.2 x xe xf
    cases xH
    replace xe := eq_true xe;replace xf := eq_true xf;refine jJ (n := 7) (S := fun w' => w'.cell? ⟨y, 0, none⟩ = some (.int .i64 JW) ∧ w'.cell? ⟨y, 1, none⟩ = some (.int .i64 JX) ∧ w'.cell? ⟨y, 2, none⟩ = some (.string JY) ∧ w'.cell? (u.add ((x).toNat * 4)) = some (.int .i64 ((aN o x).f0)) ∧ w'.cell? ⟨(u.add ((x).toNat * 4)).block, (u.add ((x).toNat * 4)).off + 1, none⟩ = some (.bool ((aN o x).f1)) ∧ w'.cell? ⟨(u.add ((x).toNat * 4)).block, (u.add ((x).toNat * 4)).off + 2, none⟩ = some (.int .i64 ((aN o x).f2)) ∧ w'.cell? ⟨(u.add ((x).toNat * 4)).block, (u.add ((x).toNat * 4)).off + 3, none⟩ = some (.int .i64 ((aN o x).f3))) (ds := []) #[F,F,F,F,F,F,F] (by kernel_rfl) rfl rfl ⟨(ak l.out 0).trans rfl, (ak l.out 1).trans rfl, (ak l.out 2).trans rfl, D, E, G, I⟩ (fun hHeld => ?_);generalize wc.drew = ye at A l HB D E G I hHeld ⊢;refine puS (i := 1) (N := some 26) #[F,T,F,F,F,F,F] (by kernel_rfl) ?_;refine puS (i := 2) (N := some 27) #[F,T,T,F,F,F,F] (by kernel_rfl) ?_;refine puS (i := 3) (N := some 28) #[F,T,T,T,F,F,F] (by kernel_rfl) ?_;refine taS (i := 0) (N := some 25) #[T,T,T,T,F,F,F] (by kernel_rfl) hHeld ?_;refine taS (i := 4) (N := some 29) #[T,T,T,T,T,F,F] (by kernel_rfl) hHeld ?_;refine lg (i := 5) (N := some 30) #[T,T,T,T,T,T,F] rfl rfl (by kernel_rfl) (by decide) (fun K hK => ?_);refine jq Tryz.func82 #[.agg #[.int .i64 JW, .int .i64 JX, .string JY], .agg #[.int .i64 ((aN o x).f0), .bool ((aN o x).f1), .int .i64 ((aN o x).f2), .int .i64 ((aN o x).f3)]] ?_;(with_reducible refine (bV.calls xw JW JX JY ((aN o x).f0) ((aN o x).f1) ((aN o x).f2) ((aN o x).f3) m _ yd.out).mono ?_);rintro e yf ⟨xI, rfl, xg, hb⟩;have xJ := (hb.cell (World.block_lt_of_cell? _ _ (hHeld.2.2.2.1))).trans (hHeld.2.2.2.1);have xK := (hb.cell (World.block_lt_of_cell? _ _ (hHeld.2.2.2.2.1))).trans (hHeld.2.2.2.2.1);have xL := (hb.cell (World.block_lt_of_cell? _ _ (hHeld.2.2.2.2.2.1))).trans (hHeld.2.2.2.2.2.1);have xM := (hb.cell (World.block_lt_of_cell? _ _ (hHeld.2.2.2.2.2.2))).trans (hHeld.2.2.2.2.2.2);refine ⟨_, rfl, ?_⟩;replace A := RB A hb;have xz := ah.mk (Kd.bT xg (aJ BL));replace l := KB l hb;replace HB := BS (w := w) hb;(try clear hb);(try clear xg);refine hK.out _ _ ⟨(ak l.out 0).trans rfl, (ak l.out 1).trans rfl, (ak l.out 2).trans rfl, xJ, xK, xL, xM⟩ (fun hHeld => ?_);clear hK K;refine nrm (some 30) ?_;refine puS (i := 6) (N := some 9) #[T,T,T,T,T,T,T] (by kernel_rfl) ?_;refine je (by kernel_rfl) ?_;try go_wp2
    go_loopg [8, 10] xw (fun kq v8 yg w' => ∃ (J : ByteArray) (a : Int), v8 = .string J ∧ yg = .int .i64 a ∧ ah (bE.l0 kq a1 J m a = some r) ∧ ah (kq ≤ xw) ∧ ah (Kd.R (Kd.int .i64) 3 w' w.heap.size (fun _ => True) xI m) ∧ ah (w'.heap[y]? = some (.cells #[.int .i64 JW, .int .i64 JX, .string JY] 35 (0, 0))) ∧ ah (Below w.heap.size w w'))
    case atStart => exact ⟨_, _, EQ, EQ, H', ⟨Nat.le_refl _⟩, ⟨(RR xz)⟩, ⟨BK⟩, ⟨BL⟩⟩
    case round =>
     clear H';(try clear yw);(try clear yx);(try clear xx);(try clear yy);(try clear xy);(try clear X Y Z xa xb xc);(try clear D);(try clear E);(try clear G);(try clear I);(try clear xe);(try clear xf);obtain ⟨J, a, rfl, rfl, HA, xN, L, l, HB⟩ := hrel
     cases gk with
     | zero => exact absurd HA.out (by simp [bE.l0])
     | succ k2 =>
      have H := HA.out;clear HA;simp only [bE.l0] at H;obtain ⟨xW, xX, xn⟩ := Kd.cK L.out;subst xn;replace H := ifD H; rcases H with ⟨xA, H⟩ | ⟨xA, H⟩
      ·replace H := ifN H; obtain ⟨yh, H⟩ := H;replace H := ifP H; obtain ⟨xB, H⟩ := H;have yi := eq_true xB;have yj : decide (0 ≤ (rd m a)) = true := decide_eq_true xB;clear xB;replace H := ifP H; obtain ⟨xO, H⟩ := H;have yk := eq_true xO;have yl : decide ((rd m a) ≤ (wrap64 ((rd m a) + 1))) = true := decide_eq_true xO;replace H := ifP H; obtain ⟨xP, H⟩ := H;have ym := eq_true xP;have yn : decide ((wrap64 ((rd m a) + 1)) ≤ (a1.size : Int)) = true := decide_eq_true xP;by_cases xh : J.size + (a1.extract ((rd m a) : Int).toNat ((wrap64 ((rd m a) + 1)) : Int).toNat).size ≤ 9223372036854775807
       ·rw [if_pos xh] at H;have yo := eq_true xh;have yp : decide (J.size + (a1.extract ((rd m a) : Int).toNat ((wrap64 ((rd m a) + 1)) : Int).toNat).size ≤ 9223372036854775807) = true := decide_eq_true xh;try have xC : (9223372036854775807 < J.size + (a1.extract ((rd m a) : Int).toNat ((wrap64 ((rd m a) + 1)) : Int).toNat).size) = False := eq_false (Nat.not_lt.2 xh)
        have c29b3c : (9223372036854775807 < J.size + (((wrap64 ((rd m a) + 1))).toNat - ((rd m a)).toNat)) = False := by
         have hy_ : (wrap64 ((rd m a) + 1)) ≤ (a1.size : Int) := OD;have hs_ : (a1.extract ((rd m a) : Int).toNat ((wrap64 ((rd m a) + 1)) : Int).toNat).size = ((wrap64 ((rd m a) + 1))).toNat - ((rd m a)).toNat := by rw [ByteArray.size_extract]; omega
         rw [← hs_]; exact xC
        have H' := ah.mk H;clear H;(try go_wp2);replace L := ah.mk (Kd.bR L.out);replace l := ah.mk (aD l.out);replace HB := ah.mk (dO HB.out);have xi : 0 ≤ (a : Int) := OD;have xj : a < (m.length : Int) := OD;obtain ⟨U, xQ, M⟩ := Kd.oU (Kd.aZ L.out).2.2 a xi xj
        cases xQ
        replace xi := eq_true xi;replace xj := eq_true xj;have xk : 0 ≤ (a : Int) := OD;have xl : a < (m.length : Int) := OD;obtain ⟨xD, xR, O⟩ := Kd.oU (Kd.aZ L.out).2.2 a xk xl;obtain rfl : U = xD := (by injection xR);replace xk := eq_true xk;replace xl := eq_true xl;refine jJ (n := 14) (S := fun w' => w'.cell? (U.add (a).toNat) = some (.int .i64 (rd m a)) ∧ w'.cell? (U.add (a).toNat) = some (.int .i64 (rd m a))) (ds := []) #[F,F,F,F,F,F,F,F,F,F,F,F,F,F] (by kernel_rfl) rfl rfl ⟨M, O⟩ (fun hHeld => ?_); refine jF bE.JR bE.JA (fun HT_ HW_ => ?_);generalize wr.drew = yq at L l HB M O hHeld ⊢;refine pS 0 (some 37) #[T,F,F,F,F,F,F,F,F,F,F,F,F,F] ?_;refine pS 1 (some 38) #[T,T,F,F,F,F,F,F,F,F,F,F,F,F] ?_;refine pS 2 (some 39) #[T,T,T,F,F,F,F,F,F,F,F,F,F,F] ?_;refine pS 3 (some 40) #[T,T,T,T,F,F,F,F,F,F,F,F,F,F] ?_;refine pS 4 (some 41) #[T,T,T,T,T,F,F,F,F,F,F,F,F,F] ?_;refine pS 6 (some 43) #[T,T,T,T,T,F,T,F,F,F,F,F,F,F] ?_;refine pS 7 (some 44) #[T,T,T,T,T,F,T,T,F,F,F,F,F,F] ?_;refine pS 8 (some 45) #[T,T,T,T,T,F,T,T,T,F,F,F,F,F] ?_;refine tS 5 (some 42) #[T,T,T,T,T,T,T,T,T,F,F,F,F,F] ?_;refine tS 9 (some 46) #[T,T,T,T,T,T,T,T,T,T,F,F,F,F] ?_;refine pS 10 (some 47) #[T,T,T,T,T,T,T,T,T,T,T,F,F,F] ?_;refine pS 11 (some 48) #[T,T,T,T,T,T,T,T,T,T,T,T,F,F] ?_;refine pS 12 (some 49) #[T,T,T,T,T,T,T,T,T,T,T,T,T,F] ?_;refine pS 13 (some 8) #[T,T,T,T,T,T,T,T,T,T,T,T,T,T] ?_;refine je (iJ HT_.out (by kernel_rfl)) ?_;(try go_wp2);go_roundg k2;case measure => have := xG.out; have := xN.out; omega
        case rel => exact ⟨_, _, EQ, EQ, H', ⟨by have := xG.out; have := xN.out; omega⟩, ⟨(RR L)⟩, ⟨BK⟩, ⟨BL⟩⟩
       ·rw [if_neg xh] at H;exact absurd H (by simp)
      ·obtain rfl := Option.some.inj H;go_wp2;go_ret;exact ⟨EWW, BL⟩
end Go.Proofs.YtikmdgmnhbodjaaGreat.PFnExactClueDomains
