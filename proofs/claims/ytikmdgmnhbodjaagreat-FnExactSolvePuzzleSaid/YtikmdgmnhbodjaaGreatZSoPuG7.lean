/- Walks of functions: what each computes. -/
import Derived.Test.YtikmdgmnhbodjaaGreatZSoPuG0
import Derived.Test.YtikmdgmnhbodjaaGreatZSoPuG3
import Derived.Test.YtikmdgmnhbodjaaGreatZSoPuG4
import Derived.Test.YtikmdgmnhbodjaaGreatZSoPuG5
import Derived.Test.YtikmdgmnhbodjaaGreatZSoPuG6
namespace Go.Proofs.YtikmdgmnhbodjaaGreat.PFnExactSolvePuzzle
open Go.RowKit Go.Proofs.Yw.PrintWords Go.Proofs.Yw.PrintLast Go.Proofs.Yw.PrintMore Go.Proofs.YtikmdgmnhbodjaaGreat.Sq
attribute [local go_sem] jk jm jP jQ iP iQ jl jo
set_option maxHeartbeats 8000000
set_option maxRecDepth 100000
set_option linter.unusedVariables false
set_option linter.unusedSimpArgs false
mutual
def bO.j0 : Nat → Oo → Oo → Bool → Option (Bool)
 | 0, _, _, _ => none
 | k + 1, a, b, c => if c = true then some false else bO.l0 k a b 0
def bO.l0 : Nat → Oo → Oo → Int → Option (Bool)
 | 0, _, _, _ => none
 | k + 1, a, b, c => if c < (a.size : Int) then if 0 ≤ c then if (bt a c) = 63 then bO.l0 k a b (wrap64 (c + 1)) else if c < (b.size : Int) then if (bt a c) = (bt b c) then bO.l0 k a b (wrap64 (c + 1)) else some false else none else none else some true
end
def bO.f (k : Nat) (a0 a1 : Oo) : Option (Bool) := (dB.f k a0).bind fun t441 => if t441 = true then (bg.f k a1).bind fun t442 => if t442 = true then bO.j0 k a0 a1 ((a0.size : Int) != (a1.size : Int)) else bO.j0 k a0 a1 true else bO.j0 k a0 a1 true
theorem bO.calls (k : Nat) (m a1 : Oo) (r : Bool) (w : World) (h : bO.f k m a1 = some r) :
  Calls Tryz.prog 80 #[.string m, .string a1] w fun e w' => e = .returned (.bool r) ∧ bU w w' := by
 unfold bO.f at h;have H := h;clear h;have z := ah.mk H;clear H;go_enter Tryz.func80, Tryz.ntmps80;go_upto_region 1 with (fail)
 repeat (go_quiet (fail); go_upto_region 1 with (fail))
 go_cut [20] (fun L wc => ∃ (kq : Nat) (o : Bool), L = .bool o ∧ ah (bO.j0 kq m a1 o = some r) ∧ ah (kq ≤ k) ∧ bU w wc)
 case first =>
  have H := z.out;clear z;replace H := be H; obtain ⟨P, u, H⟩ := H;replace H := ifB H; rcases H with ⟨rfl, H⟩ | ⟨rfl, H⟩
  ·replace H := be H; obtain ⟨U, I, H⟩ := H;replace H := ifB H; rcases H with ⟨rfl, H⟩ | ⟨rfl, H⟩
   ·have H' := ah.mk H;clear H
    repeat (go_wp2_with (first | (go_at_call 136; (with_reducible refine (dB.calls k m _ _ u.out).mono ?_); rintro e w' ⟨rfl, ⟨nd, rfl⟩⟩; (try first | exact da | exact DD)) | (go_at_call 97; (with_reducible refine (bg.calls k a1 _ _ I.out).mono ?_); rintro e w' ⟨rfl, ⟨nd, rfl⟩⟩; (try first | exact da | exact DD))); go_quiet (first | (go_at_call 136; (with_reducible refine (dB.calls k m _ _ u.out).mono ?_); rintro e w' ⟨rfl, ⟨nd, rfl⟩⟩; (try first | exact da | exact DD)) | (go_at_call 97; (with_reducible refine (bg.calls k a1 _ _ I.out).mono ?_); rintro e w' ⟨rfl, ⟨nd, rfl⟩⟩; (try first | exact da | exact DD))))
    go_wp2_with (first | (go_at_call 136; (with_reducible refine (dB.calls k m _ _ u.out).mono ?_); rintro e w' ⟨rfl, ⟨nd, rfl⟩⟩; (try first | exact da | exact DD)) | (go_at_call 97; (with_reducible refine (bg.calls k a1 _ _ I.out).mono ?_); rintro e w' ⟨rfl, ⟨nd, rfl⟩⟩; (try first | exact da | exact DD)));go_meet;case rel => exact ⟨_, _, EQ, H', ⟨by first | omega | exact nR _⟩, DR⟩
   ·have H' := ah.mk H;clear H
    repeat (go_wp2_with (first | (go_at_call 136; (with_reducible refine (dB.calls k m _ _ u.out).mono ?_); rintro e w' ⟨rfl, ⟨nd, rfl⟩⟩; (try first | exact da | exact DD)) | (go_at_call 97; (with_reducible refine (bg.calls k a1 _ _ I.out).mono ?_); rintro e w' ⟨rfl, ⟨nd, rfl⟩⟩; (try first | exact da | exact DD))); go_quiet (first | (go_at_call 136; (with_reducible refine (dB.calls k m _ _ u.out).mono ?_); rintro e w' ⟨rfl, ⟨nd, rfl⟩⟩; (try first | exact da | exact DD)) | (go_at_call 97; (with_reducible refine (bg.calls k a1 _ _ I.out).mono ?_); rintro e w' ⟨rfl, ⟨nd, rfl⟩⟩; (try first | exact da | exact DD))))
    go_wp2_with (first | (go_at_call 136; (with_reducible refine (dB.calls k m _ _ u.out).mono ?_); rintro e w' ⟨rfl, ⟨nd, rfl⟩⟩; (try first | exact da | exact DD)) | (go_at_call 97; (with_reducible refine (bg.calls k a1 _ _ I.out).mono ?_); rintro e w' ⟨rfl, ⟨nd, rfl⟩⟩; (try first | exact da | exact DD)));go_meet;case rel => exact ⟨_, _, EQ, H', ⟨by first | omega | exact nR _⟩, DR⟩
  ·have H' := ah.mk H;clear H
   repeat (go_wp2_with (first | (go_at_call 136; (with_reducible refine (dB.calls k m _ _ u.out).mono ?_); rintro e w' ⟨rfl, ⟨nd, rfl⟩⟩; (try first | exact da | exact DD))); go_quiet (first | (go_at_call 136; (with_reducible refine (dB.calls k m _ _ u.out).mono ?_); rintro e w' ⟨rfl, ⟨nd, rfl⟩⟩; (try first | exact da | exact DD))))
   go_wp2_with (first | (go_at_call 136; (with_reducible refine (dB.calls k m _ _ u.out).mono ?_); rintro e w' ⟨rfl, ⟨nd, rfl⟩⟩; (try first | exact da | exact DD)));go_meet;case rel => exact ⟨_, _, EQ, H', ⟨by first | omega | exact nR _⟩, DR⟩
 case rest =>
  clear z;obtain ⟨kq, o, rfl, HA, x, ⟨mc2, rfl⟩⟩ := hcut
  cases kq with
  | zero => exact absurd HA.out (by simp [bO.j0])
  | succ J =>
   have H := HA.out;clear HA;simp only [bO.j0] at H;replace H := ifB H; rcases H with ⟨rfl, H⟩ | ⟨rfl, H⟩
   ·obtain rfl := sI H;go_wp2
    repeat (go_quiet (fail); try go_wp2)
    go_ret;exact ⟨EQ, DR⟩
   ·have H' := ah.mk H;clear H;go_wp2
    repeat (go_quiet (fail); try go_wp2)
    go_loopg [5] J (fun kq X w' => ∃ (a : Int), X = .int .i64 a ∧ ah (bO.l0 kq m a1 a = some r) ∧ ah (kq ≤ J) ∧ bU w w')
    case atStart => exact ⟨_, EQ, H', ⟨nR _⟩, DR⟩
    case round =>
     clear H';obtain ⟨a, rfl, HA, y, ⟨m2, rfl⟩⟩ := hrel
     cases gk with
     | zero => exact absurd HA.out (by simp [bO.l0])
     | succ k2 =>
      have H := HA.out;clear HA;simp only [bO.l0] at H;replace H := ifD H; rcases H with ⟨K, H⟩ | ⟨K, H⟩
      ·replace H := ifN H; obtain ⟨M, H⟩ := H;have Y : (0 ≤ (a : Int)) = True := OT;have Z : (a < (m.size : Int)) = True := OT;have hx11 := fF m a;replace H := ifE H; rcases H with ⟨A, D, H⟩ | ⟨xa, A, D, H⟩
       ·have H' := ah.mk H;clear H;go_wp2
        repeat (go_quiet (fail); try go_wp2)
        go_roundg k2;case measure => have := x.out; have := y.out; omega
        case rel => exact ⟨_, EQ, H', ⟨by have := x.out; have := y.out; omega⟩, DR⟩
       ·replace H := ifN H; obtain ⟨O, H⟩ := H;have xb : (0 ≤ (a : Int)) = True := OT;have xc : (a < (m.size : Int)) = True := OT;have hx13 := fF m a;have xd : (0 ≤ (a : Int)) = True := OT;have xe : (a < (a1.size : Int)) = True := OT;have hx15 := fF a1 a;replace H := ifE H; rcases H with ⟨E, G, H⟩ | ⟨xf, E, G, H⟩
        ·have H' := ah.mk H;clear H;go_wp2
         repeat (go_quiet (fail); try go_wp2)
         go_roundg k2;case measure => have := x.out; have := y.out; omega
         case rel => exact ⟨_, EQ, H', ⟨by have := x.out; have := y.out; omega⟩, DR⟩
        ·obtain rfl := sI H;go_wp2
         repeat (go_quiet (fail); try go_wp2)
         go_ret;exact ⟨EQ, DR⟩
      ·obtain rfl := sI H;go_wp2
       repeat (go_quiet (fail); try go_wp2)
       go_ret;exact ⟨EQ, DR⟩
def iI.l0 : Nat → List Oo → Oo → Int → Option (Bool)
 | 0, _, _, _ => none
 | k + 1, a, b, c => if c < (a.length : Int) then if 0 ≤ c then if (fB ByteArray.empty a c).toList = b.toList then some true else iI.l0 k a b (wrap64 (c + 1)) else none else some false
def iI.f (k : Nat) (l0 : List Oo) (a1 : Oo) : Option (Bool) := iI.l0 k l0 a1 0
theorem iI.calls (k : Nat) (K : Option Addr) (L : Nat) (l0 : List Oo) (a1 : Oo) (r : Bool) (w : World) (u : Kd.C Kd.string w K l0.length l0) (x : l0.length ≤ L) (h : iI.f k l0 a1 = some r) :
  Calls Tryz.prog 81 #[.slice K l0.length L, .string a1] w fun e w' => e = .returned (.bool r) ∧ bU w w' := by
 have I := ah.mk u;have O := ah.mk x;clear u x;have H : (iI.l0 k l0 a1 0) = some r := h;clear h;have H' := ah.mk H;clear H;go_enter Tryz.func81, Tryz.ntmps81;go_wp2
 go_loopg [5] k (fun kq P w' => ∃ (a : Int), P = .int .i64 a ∧ ah (iI.l0 kq l0 a1 a = some r) ∧ ah (kq ≤ k) ∧ bU w w')
 case atStart => exact ⟨_, EQ, H', ⟨nR _⟩, DR⟩
 case round =>
  clear H';obtain ⟨a, rfl, HA, y, ⟨m1, rfl⟩⟩ := hrel
  cases gk with
  | zero => exact absurd HA.out (by simp [iI.l0])
  | succ k1 =>
   have H := HA.out;clear HA;simp only [iI.l0] at H;replace H := ifD H; rcases H with ⟨z, H⟩ | ⟨z, H⟩
   ·replace H := ifN H; obtain ⟨M, H⟩ := H;have m : 0 ≤ (a : Int) := OD;have o : a < (l0.length : Int) := OD;obtain ⟨J, A, D⟩ := Kd.iN I.out a m o
    cases A
    replace m := eq_true m;replace o := eq_true o;replace H := ifE H; rcases H with ⟨E, G, H⟩ | ⟨c5, E, G, H⟩
    ·obtain rfl := sI H;go_wp2;go_ret;exact ⟨EQ, DR⟩
    ·have H' := ah.mk H;clear H;go_wp2;go_roundg k1;case measure => have := y.out; omega
     case rel => exact ⟨_, EQ, H', ks y, DR⟩
   ·obtain rfl := sI H;go_wp2;go_ret;exact ⟨EQ, DR⟩
mutual
def aV.l0 : Nat → List S73 → List Oo → Oo → Int → List Oo → Int → Int → List bY → Option (List Oo)
 | 0, _, _, _, _, _, _, _, _ => none
 | k + 1, a, b, c, d, e, f, g, h => if f < (b.length : Int) then (aW.f d 0 3).bind fun i => aV.j1 k a b c d e f i g h else aV.j1 k a b c d e f false g h
def aV.j1 : Nat → List S73 → List Oo → Oo → Int → List Oo → Int → Bool → Int → List bY → Option (List Oo)
 | 0, _, _, _, _, _, _, _, _, _ => none
 | k + 1, a, b, c, d, e, f, g, h, i => if g = true then if 0 ≤ f then if f < (b.length : Int) then if (Int.tmod d 2) = 0 then aV.j2 k a b c d e f (fB ByteArray.empty b f) true h i else (Oi.f k a (fB ByteArray.empty b f) h).bind fun j => aV.j2 k a b c d e f (fB ByteArray.empty b f) j h i else none else none else some e
def aV.j2 : Nat → List S73 → List Oo → Oo → Int → List Oo → Int → Oo → Bool → Int → List bY → Option (List Oo)
 | 0, _, _, _, _, _, _, _, _, _, _ => none
 | k + 1, a, b, c, d, e, f, g, h, i, j => if d < 2 then aV.j3 k a b c d e f g h true i j else (mP.f k j g).bind fun l => aV.j3 k a b c d e f g h l i j
def aV.j3 : Nat → List S73 → List Oo → Oo → Int → List Oo → Int → Oo → Bool → Bool → Int → List bY → Option (List Oo)
 | 0, _, _, _, _, _, _, _, _, _, _, _ => none
 | k + 1, a, b, c, d, e, f, g, h, i, j, l => (bO.f k c g).bind fun m => if m = true then if h = true then if i = true then (iI.f k e g).bind fun n => if n = true then aV.l0 k a b c d e (wrap64 (f + 1)) j l else if e.length < 8796093022208 then aV.l0 k a b c d (e ++ [g]) (wrap64 (f + 1)) j l else none else aV.l0 k a b c d e (wrap64 (f + 1)) j l else aV.l0 k a b c d e (wrap64 (f + 1)) j l else aV.l0 k a b c d e (wrap64 (f + 1)) j l
end
def aV.f (k : Nat) (Dp : Int) (l0_1 : List bY) (l1 : List S73) (l2 : List Oo) (a3 : Oo) (a4 : Int) : Option (List Oo) := aV.l0 k l1 l2 a3 a4 (([] : List Oo)) 0 Dp l0_1
theorem aV.calls (k : Nat) (Dp : Int) (I : Option Addr) (J : Nat) (u : List bY) (A1 : Option Addr) (c1 : Nat) (l1 : List S73) (A2 : Option Addr) (c2 : Nat) (l2 : List Oo) (a3 : Oo) (a4 : Int) (r : List Oo) (w : World) (xd : Kd.C gV w I u.length u) (xe : u.length ≤ J) (xK : Kd.C k73 w A1 l1.length l1) (xL : l1.length ≤ c1) (hr2 : Kd.C Kd.string w A2 l2.length l2) (hc2 : l2.length ≤ c2) (h : aV.f k Dp u l1 l2 a3 a4 = some r) :
  Calls Tryz.prog 42 #[.agg #[.int .i64 Dp, .slice I u.length J], .slice A1 l1.length c1, .slice A2 l2.length c2, .string a3, .int .i64 a4] w fun e w' => ∃ v0_ : Value, e = .returned (v0_) ∧ Kd.R Kd.string 9 w' w.heap.size (fun _ => True) v0_ r ∧ Below w.heap.size w w' := by
 have yp := Tryz.underlying70;have xr := ah.mk xd;have xt := ah.mk xe;clear xd xe;have xU := ah.mk xK;have xV := ah.mk xL;clear xK xL;have xW := ah.mk hr2;have yu := ah.mk hc2;clear hr2 hc2;have HB := ah.mk (bR w.heap.size w);unfold aV.f at h;have H := h;clear h;obtain ⟨xM, M⟩ : ∃ y_ : List Oo, y_ = (([] : List Oo)) := ⟨_, rfl⟩;replace H : (aV.l0 k l1 l2 a3 a4 xM 0 Dp u) = some r := cW M H
 have xf := ah.mk M;clear M;have H' := ah.mk H;clear H;go_enter Tryz.func42, Tryz.ntmps42;go_wp2_with (first | ((with_reducible refine aG (N := 5) rfl ?_); refine aN (N := 5) (cs := #[.int .i64 Dp, .slice I u.length J]) (t := 70) ?_; intro O hg w6 hbox hb; have y := ah.mk hbox; have xu := SZ (w := w) hg; have xX := xu; replace HB := BS (w := w) hb; clear hb hbox hg) | ((with_reducible refine aG (N := 16) rfl ?_); refine Kd.nI Kd.string _ 9 ?hg (N := 16) ?hd (xs := ([] : List Oo)) (inner := []) (ok := fun _ => True) (okp := fun _ => True) ?hr ?hp (fun _ hk => hk) trivial (bR _ _) (nR _) (by simp) ?_; (case hd => rfl); (case hg => rfl); (case hr => first | (go_simp; done) | (go_simp; rfl)); (case hp => exact (gy.none _ _)); intro yq w7 xg hb hg_ hnew_; clear hg_ hnew_; (first | rw [← xf.out] at xg | (simp only [Int.reduceToNat] at xg; rw [← xf.out] at xg)); replace y := KB y hb; have xv := ah.mk (Kd.bD xg (aD BL)); replace HB := BS (w := w) hb; clear hb xg))
 go_loopg [11, 12] k (fun kq xY xZ w' => ∃ (x : List Oo) (m : Int), xZ = .int .i64 m ∧ ah (aV.l0 kq l1 l2 a3 a4 x m Dp u = some r) ∧ ah (kq ≤ k) ∧ ah (Kd.R Kd.string 9 w' w.heap.size (fun _ => True) xY x) ∧ ah (w'.heap[O]? = some (.cells #[.int .i64 Dp, (.slice I u.length J)] 70 (0, 0))) ∧ ah (Below w.heap.size w w'))
 case atStart => exact ⟨_, _, EQ, H', ⟨nR _⟩, ⟨(RR xv)⟩, ⟨BK⟩, ⟨BL⟩⟩
 case round =>
  clear H';(try clear c1);(try clear c2);obtain ⟨x, m, rfl, HA, D, a, y, HB⟩ := hrel
  cases gk with
  | zero => exact absurd HA.out (by simp [aV.l0])
  | succ k1 =>
   have H := HA.out;clear HA;simp only [aV.l0] at H;have xw := ah.mk H;clear H;go_upto_region 3 with (fail)
   go_cut [24] (fun ya wc => ∃ (kq : Nat) (xc : Bool), ya = .bool xc ∧ ah (aV.j1 kq l1 l2 a3 a4 x m xc Dp u = some r) ∧ ah (kq ≤ k1) ∧ ah (Kd.R Kd.string 9 wc w.heap.size (fun _ => True) u11 x) ∧ ah (wc.heap[O]? = some (.cells #[.int .i64 Dp, (.slice I u.length J)] 70 (0, 0))) ∧ ah (Below w.heap.size w wc))
   case first =>
    have H := xw.out;clear xw;replace H := ifD H; rcases H with ⟨P, H⟩ | ⟨P, H⟩
    ·(first | rw [P] | (simp only [gH, iE]; rw [P]) | skip);replace H := be H; obtain ⟨xN, yb, H⟩ := H;have H' := ah.mk H;clear H;go_wp2_with (first | (go_at_call 58; (with_reducible refine (aW.calls a4 0 3 xN _ yb.out).mono ?_); rintro e w' ⟨rfl, ⟨nd, rfl⟩⟩));go_meet;case rel => exact ⟨_, _, EQ, H', ⟨by have := D.out; first | omega | exact nR _⟩, ⟨(RR a)⟩, ⟨BK⟩, ⟨BL⟩⟩
    ·(first | rw [P] | (simp only [gH, iE]; rw [P]) | skip);have H' := ah.mk H;clear H;go_wp2;go_meet;case rel => exact ⟨_, _, EQ, H', ⟨by have := D.out; first | omega | exact nR _⟩, ⟨(RR a)⟩, ⟨BK⟩, ⟨BL⟩⟩
   case rest =>
    clear xw;(try clear c1);(try clear c2);obtain ⟨kq, xc, rfl, HA, G, a, y, HB⟩ := hcut
    cases kq with
    | zero => exact absurd HA.out (by simp [aV.j1])
    | succ xO =>
     have H := HA.out;clear HA;simp only [aV.j1] at H;replace H := ifB H; rcases H with ⟨rfl, H⟩ | ⟨rfl, H⟩
     ·replace H := ifN H; obtain ⟨xh, H⟩ := H;replace H := ifN H; obtain ⟨xi, H⟩ := H;have xj := ah.mk H;clear H;have xa : 0 ≤ (m : Int) := OD;have xb : m < (l2.length : Int) := OD;obtain ⟨yc, xP, A⟩ := Kd.iN xW.out m xa xb
      cases xP
      (try replace A := (HB.out.cell (wB w _ A)).trans A);replace xa := eq_true xa;replace xb := eq_true xb;go_upto_region 6 with (fail)
      go_cut [14] (fun yd wc => ∃ (kq : Nat) (L : Bool), yd = .bool L ∧ ah (aV.j2 kq l1 l2 a3 a4 x m (fB ByteArray.empty l2 m) L Dp u = some r) ∧ ah (kq ≤ xO) ∧ ah (Kd.R Kd.string 9 wc w.heap.size (fun _ => True) u11 x) ∧ ah (wc.heap[O]? = some (.cells #[.int .i64 Dp, (.slice I u.length J)] 70 (0, 0))) ∧ ah (Below w.heap.size w wc))
      case first =>
       have H := xj.out;clear xj;replace H := ifE H; rcases H with ⟨U, xx, H⟩ | ⟨yv, U, xx, H⟩
       ·(first | rw [U] | (simp only [gH, iE]; rw [U]) | skip);have H' := ah.mk H;clear H;go_wp2;go_meet;case rel => exact ⟨_, _, EQ, H', ⟨by have := D.out; have := G.out; first | omega | exact nR _⟩, ⟨(RR a)⟩, ⟨BK⟩, ⟨BL⟩⟩
       ·(first | rw [U] | (simp only [gH, iE]; rw [U]) | skip);replace H := be H; obtain ⟨xQ, ye, H⟩ := H;have H' := ah.mk H;clear H;obtain ⟨xy, xz, xA, xB⟩ := cz2 y.out;go_wp2_with (first | (go_at_call 78; (with_reducible refine (Oi.calls xO _ _ l1 (fB ByteArray.empty l2 m) Dp xQ _ ?s1_ ?s2_ ye.out).mono ?_); (case s1_ => exact CB xU); (case s2_ => exact xV.out); rintro e w' ⟨rfl, ⟨nd, rfl⟩⟩));go_meet;case rel => exact ⟨_, _, EQ, H', ⟨by have := D.out; have := G.out; first | omega | exact nR _⟩, ⟨(RR a)⟩, ⟨BK⟩, ⟨BL⟩⟩
      case rest =>
       clear xj;(try clear c1);(try clear c2);(try clear xh);(try clear xi);(try clear A);(try clear xa);(try clear xb);obtain ⟨kq, L, rfl, HA, z, a, y, HB⟩ := hcut
       cases kq with
       | zero => exact absurd HA.out (by simp [aV.j2])
       | succ xq =>
        have H := HA.out;clear HA;simp only [aV.j2] at H;have xk := ah.mk H;clear H;go_upto_region 7 with (fail)
        go_cut [15] (fun yi wc => ∃ (kq : Nat) (Z : Bool), yi = .bool Z ∧ ah (aV.j3 kq l1 l2 a3 a4 x m (fB ByteArray.empty l2 m) L Z Dp u = some r) ∧ ah (kq ≤ xq) ∧ ah (Kd.R Kd.string 9 wc w.heap.size (fun _ => True) u11 x) ∧ ah (wc.heap[O]? = some (.cells #[.int .i64 Dp, (.slice I u.length J)] 70 (0, 0))) ∧ ah (Below w.heap.size w wc))
        case first =>
         have H := xk.out;clear xk;replace H := ifD H; rcases H with ⟨X, H⟩ | ⟨X, H⟩
         ·(first | rw [X] | (simp only [gH, iE]; rw [X]) | skip);have H' := ah.mk H;clear H;go_wp2;go_meet;case rel => exact ⟨_, _, EQ, H', ⟨by have := D.out; have := G.out; have := z.out; first | omega | exact nR _⟩, ⟨(RR a)⟩, ⟨BK⟩, ⟨BL⟩⟩
         ·(first | rw [X] | (simp only [gH, iE]; rw [X]) | skip);replace H := be H; obtain ⟨xR, yj, H⟩ := H;have H' := ah.mk H;clear H;obtain ⟨xC, xD, xE, xF⟩ := cz2 y.out;go_wp2_with (first | (go_at_call 79; (with_reducible refine (mP.calls xq _ _ u (fB ByteArray.empty l2 m) xR _ ?s1_ ?s2_ yj.out).mono ?_); (case s1_ => exact CB xr); (case s2_ => exact xt.out); rintro e yk ⟨rfl, hb⟩; replace a := RB a hb; replace y := KB y hb; replace HB := BS (w := w) hb; (try clear hb); (try clear hk)));go_meet;case rel => exact ⟨_, _, EQ, H', ⟨by have := D.out; have := G.out; have := z.out; first | omega | exact nR _⟩, ⟨(RR a)⟩, ⟨BK⟩, ⟨BL⟩⟩
        case rest =>
         clear xk;(try clear c1);(try clear c2);(try clear xh);(try clear xi);(try clear A);(try clear xa);(try clear xb);obtain ⟨kq, Z, rfl, HA, E, a, y, HB⟩ := hcut
         cases kq with
         | zero => exact absurd HA.out (by simp [aV.j3])
         | succ K =>
          have H := HA.out;clear HA;simp only [aV.j3] at H;replace H := be H; obtain ⟨yr, yl, H⟩ := H;replace H := ah.mk H;go_wp2_with (first | ((with_reducible refine au (f := 80) rfl ?_); refine aK (some 51) Tryz.func80 #[.string a3, .string (fB ByteArray.empty l2 m)] ?_; (with_reducible refine (bO.calls K a3 (fB ByteArray.empty l2 m) _ _ yl.out).mono ?_); rintro e w' ⟨rfl, ⟨nd, rfl⟩⟩; refine ⟨_, rfl, ?_⟩; refine bI ?_));refine Hide.mk ?_;replace H := H.out;replace H := ifB H; rcases H with ⟨rfl, H⟩ | ⟨rfl, H⟩
          ·replace H := ifB H; rcases H with ⟨rfl, H⟩ | ⟨rfl, H⟩
           ·replace H := ifB H; rcases H with ⟨rfl, H⟩ | ⟨rfl, H⟩
            ·replace H := be H; obtain ⟨ys, ym, H⟩ := H;replace H := ah.mk H;obtain ⟨xn, xo, xp⟩ := Kd.bE a.out;subst xp;go_wp2_with (first | (go_at_call 81; (with_reducible refine (iI.calls K _ _ x (fB ByteArray.empty l2 m) _ _ ?s1_ ?s2_ ym.out).mono ?_); (case s1_ => exact CR2 a); (case s2_ => exact (Kd.aQ a.out).2.1); rintro e w' ⟨rfl, ⟨nd, rfl⟩⟩; refine bI ?_));refine Hide.mk ?_;replace H := H.out;replace H := ifB H; rcases H with ⟨rfl, H⟩ | ⟨rfl, H⟩
             ·have H' := ah.mk H;clear H;(try go_wp2);go_roundg K;case measure => have := D.out; have := G.out; have := z.out; have := E.out; omega
              case rel => exact ⟨_, _, EQ, H', ⟨by have := D.out; have := G.out; have := z.out; have := E.out; omega⟩, ⟨(RR a)⟩, ⟨BK⟩, ⟨BL⟩⟩
             ·replace H := ifP H; obtain ⟨xS, H⟩ := H;have xG := ah.mk xS;clear xS;obtain ⟨xT, Y⟩ : ∃ y_ : List Oo, y_ = (x ++ [(fB ByteArray.empty l2 m)]) := ⟨_, rfl⟩;replace H : (aV.l0 K l1 l2 a3 a4 xT (wrap64 (m + 1)) Dp u) = some r := cW Y H
              have xH := ah.mk Y;clear Y;have H' := ah.mk H;clear H;(try go_wp2_with (first | ((with_reducible refine bV (b := .append) (xs := #[.tmp 64, .tmp 66]) rfl ?_); at_builtin; refine Kd.fO Kd.string (w0 := w) w.heap.size rfl (.tmp 64) (.tmp 66) 29 9 (.string ⟨#[]⟩) 16 rfl Tryz.underlying29 pQ rfl (by decide) (by omega) (.slice xn x.length xo) x (fB ByteArray.empty l2 m) [.string (fB ByteArray.empty l2 m)] (fun _ => True) (fun _ => False) rfl rfl ?aP (fun _ hk => hk.elim) ?aF ?aO ?aB ?aS ?aL ?_; (case aP => exact rfl); (case aB => exact BL); (case aF => exact (fun _ _ => trivial)); (case aO => exact (RR a)); (case aS => exact (aD BL)); (case aL => have := xG.out; omega); intro yt yn ho hb hg hat; rw [← xH.out] at ho; replace y := ah.mk (cZ (g := O) (o := .cells #[.int .i64 Dp, .slice I u.length J] 70 (0, 0)) BK hg (Kd.jv a.out y.out (by decide))); replace HB := ah.mk (hb); have xI := ah.mk (ho); clear a; clear ho hb hg hat)));go_roundg K;case measure => have := D.out; have := G.out; have := z.out; have := E.out; omega
              case rel => exact ⟨_, _, EQ, H', ⟨by have := D.out; have := G.out; have := z.out; have := E.out; omega⟩, ⟨(RR xI)⟩, ⟨BK⟩, ⟨BL⟩⟩
            ·have H' := ah.mk H;clear H;(try go_wp2);go_roundg K;case measure => have := D.out; have := G.out; have := z.out; have := E.out; omega
             case rel => exact ⟨_, _, EQ, H', ⟨by have := D.out; have := G.out; have := z.out; have := E.out; omega⟩, ⟨(RR a)⟩, ⟨BK⟩, ⟨BL⟩⟩
           ·have H' := ah.mk H;clear H;(try go_wp2);go_roundg K;case measure => have := D.out; have := G.out; have := z.out; have := E.out; omega
            case rel => exact ⟨_, _, EQ, H', ⟨by have := D.out; have := G.out; have := z.out; have := E.out; omega⟩, ⟨(RR a)⟩, ⟨BK⟩, ⟨BL⟩⟩
          ·have H' := ah.mk H;clear H;(try go_wp2);go_roundg K;case measure => have := D.out; have := G.out; have := z.out; have := E.out; omega
           case rel => exact ⟨_, _, EQ, H', ⟨by have := D.out; have := G.out; have := z.out; have := E.out; omega⟩, ⟨(RR a)⟩, ⟨BK⟩, ⟨BL⟩⟩
     ·obtain rfl := sI H;go_wp2;go_ret;exact ⟨_, EWW, (RR a), BL⟩
mutual
def bf.j0 : Nat → Oo → Int → List gu → Bool → Int → Int → Oo → Option (Oo)
 | 0, _, _, _, _, _, _, _ => none
 | k + 1, a, b, c, d, e, f, g => if d = true then some (⟨#[]⟩ : Oo) else if 0 ≤ b then if b < (c.length : Int) then (bS.f k e f g ((aH c b).f0) ((aH c b).f1) ((aH c b).f2) ((aH c b).f3)).bind fun h => bf.l0 k a (⟨#[]⟩ : Oo) h 0 else none else none
def bf.l0 : Nat → Oo → Oo → List Int → Int → Option (Oo)
 | 0, _, _, _, _ => none
 | k + 1, a, b, c, d => if d < (c.length : Int) then (if 0 ≤ d then (if 0 ≤ (rd c d) then (if (rd c d) ≤ (wrap64 ((rd c d) + 1)) then (if (wrap64 ((rd c d) + 1)) ≤ (a.size : Int) then (if b.size + (a.extract ((rd c d) : Int).toNat ((wrap64 ((rd c d) + 1)) : Int).toNat).size ≤ 9223372036854775807 then (bf.l0 k a (b ++ (a.extract ((rd c d) : Int).toNat ((wrap64 ((rd c d) + 1)) : Int).toNat)) c (wrap64 (d + 1))) else none) else none) else none) else none) else none) else some b
end
def bf.f (k : Nat) (Dp Dq : Int) (Dr a1 : Oo) (a2 : Int) : Option (Oo) := (aM.f k Dp Dq Dr).bind fun t458 => (bW.f k Dp Dq Dr a1).bind fun t461 => if t461 = true then (aW.f a2 0 (wrap64 ((t458.length : Int) - 1))).bind fun t462 => bf.j0 k a1 a2 t458 (!t462) Dp Dq Dr else bf.j0 k a1 a2 t458 true Dp Dq Dr
def bf.T9 : Bool × List (List Nat × List Nat) := (true, [([], []), ([], []), ([], []), ([], []), ([2, 3], [2, 3]), ([4], [4]), ([], []), ([], []), ([6, 7], [6, 7]), ([8], [8]), ([9], [9]), ([1, 5, 10], [1, 5, 10]), ([0, 11], [0, 11]), ([12, 0, 1, 2, 3, 4, 5, 6, 7, 8, 9, 10, 11, 12], [0, 12])])
def bf.B9 : List Nat := [0, 0, 0, 0, 12, 28, 0, 0, 192, 448, 960, 2046, 4095, 8191]
theorem bf.Dl : jR .any (opsOf Tryz.f43 9) = bf.T9 := by kernel_rfl
theorem bf.CV : iM bf.T9.2 bf.B9 = true := by kernel_rfl
theorem bf.calls (k : Nat) (Dp Dq : Int) (Dr a1 : Oo) (y : Int) (r : Oo) (w : World) (h : bf.f k Dp Dq Dr a1 y = some r) :
  Calls Tryz.prog 43 #[.agg #[.int .i64 Dp, .int .i64 Dq, .string Dr], .string a1, .int .i64 y] w fun e w' => e = .returned (.string r) ∧ Below w.heap.size w w' := by
 have ys := Tryz.underlying35;have xZ := Tryz.underlying109;have HB := ah.mk (bR w.heap.size w);unfold bf.f at h;have H := h;clear h;replace H := be H; obtain ⟨u, A4, H⟩ := H;have xp := ah.mk H;clear H;go_enter Tryz.func43, Tryz.ntmps43;go_upto_region 2 with (first | ((with_reducible refine aG (N := 3) rfl ?_); (try (refine iO (by rfl) ?_; dsimp only)); refine aN (N := 3) (cs := #[.int .i64 Dp, .int .i64 Dq, .string Dr]) (t := 35) ?_; intro z hg w6 hbox hb; have m := ah.mk hbox; have xq := SZ (w := w) hg; have ya := xq; replace HB := BS (w := w) hb; clear hb hbox hg; obtain ⟨Y, Z, xa, xb, xc, xd⟩ := cz3 m.out) | ((with_reducible refine au (f := 75) rfl ?_); refine aK (some 12) Tryz.func75 #[.agg #[.int .i64 Dp, .int .i64 Dq, .string Dr]] ?_; (with_reducible refine (aM.calls k Dp Dq Dr u _ A4.out).mono ?_); rintro e w8 ⟨xF, rfl, xh, hb⟩; refine ⟨_, rfl, ?_⟩; replace m := KB m hb; have A := ah.mk (Kd.bD xh (aD BL)); replace HB := BS (w := w) hb; (try clear hb); (try clear xh)));(try simp only [Act.put, List.setIfInBounds_toArray, List.set_cons_zero, List.set_cons_succ])
 go_cut [24] (fun yb wc => ∃ (kq : Nat) (U : Bool), yb = .bool U ∧ ah (bf.j0 kq a1 y u U Dp Dq Dr = some r) ∧ ah (kq ≤ k) ∧ ah (Kd.R kT 109 wc w.heap.size (fun _ => True) xF u) ∧ ah (wc.heap[z]? = some (.cells #[.int .i64 Dp, .int .i64 Dq, .string Dr] 35 (0, 0))) ∧ ah (Below w.heap.size w wc))
 case first =>
  have H := xp.out;clear xp;replace H := be H; obtain ⟨yt, A9, H⟩ := H;obtain ⟨xr, xs, xt, xu, xv, xw⟩ := cz3 m.out;replace H := ah.mk H;go_wp2_with (first | ((with_reducible refine au (f := 41) rfl ?_); refine aK (some 15) Tryz.func41 #[.agg #[.int .i64 Dp, .int .i64 Dq, .string Dr], .string a1] ?_; (with_reducible refine (bW.calls k Dp Dq Dr a1 _ _ A9.out).mono ?_); rintro e yc ⟨rfl, hb⟩; refine ⟨_, rfl, ?_⟩; replace A := RB A hb; replace m := KB m hb; replace HB := BS (w := w) hb; (try clear hb); refine bI ?_));refine Hide.mk ?_;replace H := H.out;replace H := ifB H; rcases H with ⟨rfl, H⟩ | ⟨rfl, H⟩
  ·replace H := be H; obtain ⟨xG, yd, H⟩ := H;have H' := ah.mk H;clear H;obtain ⟨xT, xU, xn⟩ := Kd.bE A.out;subst xn;go_wp2_with (first | (go_at_call 58; (with_reducible refine (aW.calls y 0 (wrap64 ((u.length : Int) - 1)) xG _ yd.out).mono ?_); rintro e w' ⟨rfl, ⟨nd, rfl⟩⟩));go_meet;case rel => exact ⟨_, _, EQ, H', ⟨by first | omega | exact nR _⟩, ⟨(RR A)⟩, ⟨BK⟩, ⟨BL⟩⟩
  ·have H' := ah.mk H;clear H;(try go_wp2);go_meet;case rel => exact ⟨_, _, EQ, H', ⟨by first | omega | exact nR _⟩, ⟨(RR A)⟩, ⟨BK⟩, ⟨BL⟩⟩
 case rest =>
  clear xp;(try clear Y Z xa xb xc xd);obtain ⟨kq, U, rfl, HA, xH, D, m, HB⟩ := hcut
  cases kq with
  | zero => exact absurd HA.out (by simp [bf.j0])
  | succ xx =>
   have H := HA.out;clear HA;simp only [bf.j0] at H;replace H := ifB H; rcases H with ⟨rfl, H⟩ | ⟨rfl, H⟩
   ·obtain rfl := sI H;go_wp2;go_ret;exact ⟨EWW, BL⟩
   ·replace H := ifN H; obtain ⟨xy, H⟩ := H;replace H := ifN H; obtain ⟨xz, H⟩ := H;replace H := be H; obtain ⟨o, ye, H⟩ := H;have H' := ah.mk H;clear H;(try go_wp2);replace D := ah.mk (Kd.bJ D.out);replace m := ah.mk (aC m.out);replace HB := ah.mk (bG HB.out);obtain ⟨xV, xW, xe⟩ := Kd.bE D.out;(first | subst xe | (injection xe with f1_ f2_ f3_; have f4_ := f1_.symm; have f5_ := f3_.symm; clear f1_ f2_ f3_; subst f4_; subst f5_));have xf : 0 ≤ (y : Int) := OD;have xg : y < (u.length : Int) := OD;obtain ⟨x, xI, E, G, I, J⟩ := lJ (Kd.aQ D.out).2.2 y xf xg
    cases xI
    replace xf := eq_true xf;replace xg := eq_true xg;refine iT (n := 7) (S := fun w' => w'.cell? ⟨z, 0, none⟩ = some (.int .i64 Dp) ∧ w'.cell? ⟨z, 1, none⟩ = some (.int .i64 Dq) ∧ w'.cell? ⟨z, 2, none⟩ = some (.string Dr) ∧ w'.cell? (x.add ((y).toNat * 4)) = some (.int .i64 ((aH u y).f0)) ∧ w'.cell? ⟨(x.add ((y).toNat * 4)).block, (x.add ((y).toNat * 4)).off + 1, none⟩ = some (.bool ((aH u y).f1)) ∧ w'.cell? ⟨(x.add ((y).toNat * 4)).block, (x.add ((y).toNat * 4)).off + 2, none⟩ = some (.int .i64 ((aH u y).f2)) ∧ w'.cell? ⟨(x.add ((y).toNat * 4)).block, (x.add ((y).toNat * 4)).off + 3, none⟩ = some (.int .i64 ((aH u y).f3))) (ds := []) #[F,F,F,F,F,F,F] (by kernel_rfl) rfl rfl ⟨(ak m.out 0).trans rfl, (ak m.out 1).trans rfl, (ak m.out 2).trans rfl, E, G, I, J⟩ (fun hHeld => ?_);generalize wc.drew = yf at D m HB E G I J hHeld ⊢;refine puS (i := 1) (N := some 26) #[F,T,F,F,F,F,F] (by kernel_rfl) ?_;refine puS (i := 2) (N := some 27) #[F,T,T,F,F,F,F] (by kernel_rfl) ?_;refine puS (i := 3) (N := some 28) #[F,T,T,T,F,F,F] (by kernel_rfl) ?_;refine taS (i := 0) (N := some 25) #[T,T,T,T,F,F,F] (by kernel_rfl) hHeld ?_;refine taS (i := 4) (N := some 29) #[T,T,T,T,T,F,F] (by kernel_rfl) hHeld ?_;refine jD (i := 5) (N := some 30) #[T,T,T,T,T,T,F] rfl rfl (by kernel_rfl) (by decide) (fun K hK => ?_);refine iD Tryz.func82 #[.agg #[.int .i64 Dp, .int .i64 Dq, .string Dr], .agg #[.int .i64 ((aH u y).f0), .bool ((aH u y).f1), .int .i64 ((aH u y).f2), .int .i64 ((aH u y).f3)]] ?_;(with_reducible refine (bS.calls xx Dp Dq Dr ((aH u y).f0) ((aH u y).f1) ((aH u y).f2) ((aH u y).f3) o _ ye.out).mono ?_);rintro e yg ⟨xJ, rfl, xh, hb⟩;have xK := (hb.cell (wB _ _ (hHeld.2.2.2.1))).trans (hHeld.2.2.2.1);have xL := (hb.cell (wB _ _ (hHeld.2.2.2.2.1))).trans (hHeld.2.2.2.2.1);have xM := (hb.cell (wB _ _ (hHeld.2.2.2.2.2.1))).trans (hHeld.2.2.2.2.2.1);have xN := (hb.cell (wB _ _ (hHeld.2.2.2.2.2.2))).trans (hHeld.2.2.2.2.2.2);refine ⟨_, rfl, ?_⟩;replace D := RB D hb;have xA := ah.mk (Kd.bD xh (aD BL));replace m := KB m hb;replace HB := BS (w := w) hb;(try clear hb);(try clear xh);refine hK.out _ _ ⟨(ak m.out 0).trans rfl, (ak m.out 1).trans rfl, (ak m.out 2).trans rfl, xK, xL, xM, xN⟩ (fun hHeld => ?_);clear hK K;refine nrm (some 30) ?_;refine puS (i := 6) (N := some 9) #[T,T,T,T,T,T,T] (by kernel_rfl) ?_;refine gN (by kernel_rfl) ?_;try go_wp2
    go_loopg [8, 10] xx (fun kq v8 yh w' => ∃ (L : Oo) (a : Int), v8 = .string L ∧ yh = .int .i64 a ∧ ah (bf.l0 kq a1 L o a = some r) ∧ ah (kq ≤ xx) ∧ ah (Kd.R (Kd.int .i64) 3 w' w.heap.size (fun _ => True) xJ o) ∧ ah (w'.heap[z]? = some (.cells #[.int .i64 Dp, .int .i64 Dq, .string Dr] 35 (0, 0))) ∧ ah (Below w.heap.size w w'))
    case atStart => exact ⟨_, _, EQ, EQ, H', ⟨nR _⟩, ⟨(RR xA)⟩, ⟨BK⟩, ⟨BL⟩⟩
    case round =>
     clear H';(try clear xy);(try clear xz);(try clear Y Z xa xb xc xd);(try clear E);(try clear G);(try clear I);(try clear J);(try clear xf);(try clear xg);obtain ⟨L, a, rfl, rfl, HA, xO, M, m, HB⟩ := hrel
     cases gk with
     | zero => exact absurd HA.out (by simp [bf.l0])
     | succ k2 =>
      have H := HA.out;clear HA;simp only [bf.l0] at H;obtain ⟨xX, xY, xo⟩ := Kd.bE M.out;subst xo;replace H := ifD H; rcases H with ⟨xB, H⟩ | ⟨xB, H⟩
      ·replace H := ifN H; obtain ⟨yi, H⟩ := H;replace H := ifP H; obtain ⟨xC, H⟩ := H;have yj := eq_true xC;have yk : decide (0 ≤ (rd o a)) = true := dT xC;clear xC;replace H := ifP H; obtain ⟨xP, H⟩ := H;have yl := eq_true xP;have ym : decide ((rd o a) ≤ (wrap64 ((rd o a) + 1))) = true := dT xP;replace H := ifP H; obtain ⟨xQ, H⟩ := H;have yn := eq_true xQ;have yo : decide ((wrap64 ((rd o a) + 1)) ≤ (a1.size : Int)) = true := dT xQ;by_cases xi : L.size + (a1.extract ((rd o a) : Int).toNat ((wrap64 ((rd o a) + 1)) : Int).toNat).size ≤ 9223372036854775807
       ·rw [if_pos xi] at H;have yp := eq_true xi;have yq : decide (L.size + (a1.extract ((rd o a) : Int).toNat ((wrap64 ((rd o a) + 1)) : Int).toNat).size ≤ 9223372036854775807) = true := dT xi;try have xD : (9223372036854775807 < L.size + (a1.extract ((rd o a) : Int).toNat ((wrap64 ((rd o a) + 1)) : Int).toNat).size) = False := eq_false (Nat.not_lt.2 xi)
        have c29b3c : (9223372036854775807 < L.size + (((wrap64 ((rd o a) + 1))).toNat - ((rd o a)).toNat)) = False := by
         have hy_ : (wrap64 ((rd o a) + 1)) ≤ (a1.size : Int) := OD;have hs_ : (a1.extract ((rd o a) : Int).toNat ((wrap64 ((rd o a) + 1)) : Int).toNat).size = ((wrap64 ((rd o a) + 1))).toNat - ((rd o a)).toNat := by rw [ByteArray.size_extract]; omega
         rw [← hs_]; exact xD
        have H' := ah.mk H;clear H;(try go_wp2);replace M := ah.mk (Kd.bJ M.out);replace m := ah.mk (aC m.out);replace HB := ah.mk (bG HB.out);have xj : 0 ≤ (a : Int) := OD;have xk : a < (o.length : Int) := OD;obtain ⟨X, xR, O⟩ := Kd.lg (Kd.aQ M.out).2.2 a xj xk
        cases xR
        replace xj := eq_true xj;replace xk := eq_true xk;have xl : 0 ≤ (a : Int) := OD;have xm : a < (o.length : Int) := OD;obtain ⟨xE, xS, P⟩ := Kd.lg (Kd.aQ M.out).2.2 a xl xm;obtain rfl : X = xE := (by injection xS);replace xl := eq_true xl;replace xm := eq_true xm;refine iT (n := 14) (S := fun w' => w'.cell? (X.add (a).toNat) = some (.int .i64 (rd o a)) ∧ w'.cell? (X.add (a).toNat) = some (.int .i64 (rd o a))) (ds := []) #[F,F,F,F,F,F,F,F,F,F,F,F,F,F] (by kernel_rfl) rfl rfl ⟨O, P⟩ (fun hHeld => ?_); refine gW bf.Dl bf.CV (fun HT_ HW_ => ?_);generalize wr.drew = yr at M m HB O P hHeld ⊢;refine pS 0 (some 37) #[T,F,F,F,F,F,F,F,F,F,F,F,F,F] ?_;refine pS 1 (some 38) #[T,T,F,F,F,F,F,F,F,F,F,F,F,F] ?_;refine pS 2 (some 39) #[T,T,T,F,F,F,F,F,F,F,F,F,F,F] ?_;refine pS 3 (some 40) #[T,T,T,T,F,F,F,F,F,F,F,F,F,F] ?_;refine pS 4 (some 41) #[T,T,T,T,T,F,F,F,F,F,F,F,F,F] ?_;refine pS 6 (some 43) #[T,T,T,T,T,F,T,F,F,F,F,F,F,F] ?_;refine pS 7 (some 44) #[T,T,T,T,T,F,T,T,F,F,F,F,F,F] ?_;refine pS 8 (some 45) #[T,T,T,T,T,F,T,T,T,F,F,F,F,F] ?_;refine tS 5 (some 42) #[T,T,T,T,T,T,T,T,T,F,F,F,F,F] ?_;refine tS 9 (some 46) #[T,T,T,T,T,T,T,T,T,T,F,F,F,F] ?_;refine pS 10 (some 47) #[T,T,T,T,T,T,T,T,T,T,T,F,F,F] ?_;refine pS 11 (some 48) #[T,T,T,T,T,T,T,T,T,T,T,T,F,F] ?_;refine pS 12 (some 49) #[T,T,T,T,T,T,T,T,T,T,T,T,T,F] ?_;refine pS 13 (some 8) #[T,T,T,T,T,T,T,T,T,T,T,T,T,T] ?_;refine gN (fE HT_.out (by kernel_rfl)) ?_;(try go_wp2);go_roundg k2;case measure => have := xH.out; have := xO.out; omega
        case rel => exact ⟨_, _, EQ, EQ, H', ⟨by have := xH.out; have := xO.out; omega⟩, ⟨(RR M)⟩, ⟨BK⟩, ⟨BL⟩⟩
       ·rw [if_neg xi] at H;exact absurd H (by simp)
      ·obtain rfl := sI H;go_wp2;go_ret;exact ⟨EWW, BL⟩
mutual
def aY.l0 : Nat → Oo → List S73 → List Oo → List (List Oo) → Int → Int → Int → Oo → List S70 → List Int → Int → Option ((List (List Oo)))
 | 0, _, _, _, _, _, _, _, _, _, _, _ => none
 | k + 1, a, b, c, d, e, f, g, h, i, j, l => if e < (i.length : Int) then (gF.f k f g h i j l).bind fun m => if m = true then (bW.f k f g h a).bind fun n => aY.j1 k a b c d e n f g h i j l else aY.j1 k a b c d e false f g h i j l else aY.j1 k a b c d e false f g h i j l
def aY.j1 : Nat → Oo → List S73 → List Oo → List (List Oo) → Int → Bool → Int → Int → Oo → List S70 → List Int → Int → Option ((List (List Oo)))
 | 0, _, _, _, _, _, _, _, _, _, _, _, _ => none
 | k + 1, a, b, c, d, e, f, g, h, i, j, l, m => if f = true then if 0 ≤ e then if e < (j.length : Int) then (bf.f k g h i a e).bind fun n => (aV.f k ((Oh j e).f0) ((Oh j e).f1) b c n 3).bind fun o => if d.length < 5864062014805 then aY.l0 k a b c (d ++ [o]) (wrap64 (e + 1)) g h i j l m else none else none else none else some d
end
def aY.f (k : Nat) (Dp Dq : Int) (Dr : Oo) (Dt : List S70) (Du : List Int) (Dv : Int) (a1 : Oo) (l2 : List S73) (l3 : List Oo) : Option ((List (List Oo))) := aY.l0 k a1 l2 l3 (([] : List (List Oo))) 0 Dp Dq Dr Dt Du Dv
def aY.T5 : Bool × List (List Nat × List Nat) := (true, [([], []), ([], []), ([1], [1]), ([], []), ([2, 3], [2, 3]), ([4], [4]), ([], []), ([], []), ([], []), ([8], [8]), ([], []), ([], []), ([9, 10, 11], [9, 10, 11]), ([5, 6, 7, 12, 12], [5, 6, 7, 12]), ([13], [13]), ([0, 14, 13], [0, 14]), ([15, 15, 0, 1, 2, 3, 4, 5, 6, 7, 8, 9, 10, 11, 12, 13, 14, 15], [0, 15])])
def aY.B5 : List Nat := [0, 0, 2, 0, 14, 30, 0, 0, 0, 256, 0, 0, 3840, 8190, 16382, 32767, 65535]
theorem aY.Co : jR .any (opsOf Tryz.f10 5) = aY.T5 := by kernel_rfl
theorem aY.wI : iM aY.T5.2 aY.B5 = true := by kernel_rfl
theorem aY.calls (k : Nat) (Dp Dq : Int) (Dr : Oo) (A0_3 : Option Addr) (c0_3 : Nat) (Dt : List S70) (A0_4 : Option Addr) (c0_4 : Nat) (Du : List Int) (Dv : Int) (a1 : Oo) (A2 : Option Addr) (c2 : Nat) (l2 : List S73) (A3 : Option Addr) (c3 : Nat) (l3 : List Oo) (r : List (List Oo)) (w : World) (hr0_3 : Kd.C k70 w A0_3 Dt.length Dt) (hc0_3 : Dt.length ≤ c0_3) (hr0_4 : Kd.C (Kd.int .i64) w A0_4 Du.length Du) (hc0_4 : Du.length ≤ c0_4) (hr2 : Kd.C k73 w A2 l2.length l2) (hc2 : l2.length ≤ c2) (hr3 : Kd.C Kd.string w A3 l3.length l3) (hc3 : l3.length ≤ c3) (h : aY.f k Dp Dq Dr Dt Du Dv a1 l2 l3 = some r) :
  Calls Tryz.prog 10 #[.agg #[.int .i64 Dp, .int .i64 Dq, .string Dr, .slice A0_3 Dt.length c0_3, .slice A0_4 Du.length c0_4, .int .i64 Dv], .string a1, .slice A2 l2.length c2, .slice A3 l3.length c3] w fun e w' => ∃ v0_ : Value, e = .returned (v0_) ∧ Kd.S (Kd.slice 9 Kd.string) 29 w' w.heap.size (fun _ => True) v0_ r ∧ Below w.heap.size w w' := by
 have yt := Tryz.underlying38;have yu := Tryz.underlying35;have yv := Tryz.underlying70;have xc := ah.mk hr0_3;have xl := ah.mk hc0_3;clear hr0_3 hc0_3;have xm := ah.mk hr0_4;have xn := ah.mk hc0_4;clear hr0_4 hc0_4;have ya := ah.mk hr2;have yb := ah.mk hc2;clear hr2 hc2;have yc := ah.mk hr3;have yd := ah.mk hc3;clear hr3 hc3;have HB := ah.mk (bR w.heap.size w);unfold aY.f at h;have H := h;clear h;obtain ⟨xU, E⟩ : ∃ y_ : List (List Oo), y_ = (([] : List (List Oo))) := ⟨_, rfl⟩;replace H : (aY.l0 k a1 l2 l3 xU 0 Dp Dq Dr Dt Du Dv) = some r := cW E H
 have xd := ah.mk E;clear E;have H' := ah.mk H;clear H;go_enter Tryz.func10, Tryz.ntmps10;go_wp2_with (first | ((with_reducible refine aG (N := 4) rfl ?_); refine aN (N := 4) (cs := #[.int .i64 Dp, .int .i64 Dq, .string Dr, .slice A0_3 Dt.length c0_3, .slice A0_4 Du.length c0_4, .int .i64 Dv]) (t := 38) ?_; intro z hg w5 hbox hb; have a := ah.mk hbox; have xo := SZ (w := w) hg; have ye := xo; replace HB := BS (w := w) hb; clear hb hbox hg) | ((with_reducible refine aG (N := 11) rfl ?_); refine Kd.CP (Kd.slice 9 Kd.string) _ 29 ?hg (N := 11) ?hd (xs := ([] : List (List Oo))) (inner := []) (ok := fun _ => True) (okp := fun _ => True) ?hr ?hp (fun _ hk => hk) trivial (bR _ _) (nR _) (by simp) ?_; (case hd => rfl); (case hg => rfl); (case hr => first | (go_simp; done) | (go_simp; rfl)); (case hp => exact (gy.none _ _)); intro yw w6 xe hb hg_ hnew_; clear hg_ hnew_; (first | rw [← xd.out] at xe | (simp only [Int.reduceToNat] at xe; rw [← xd.out] at xe)); replace a := KB a hb; have xp := ah.mk (Kd.ko xe (aD BL)); replace HB := BS (w := w) hb; clear hb xe))
 go_loopg [9, 10] k (fun kq v9 yf w' => ∃ (G : List (List Oo)) (m : Int), yf = .int .i64 m ∧ ah (aY.l0 kq a1 l2 l3 G m Dp Dq Dr Dt Du Dv = some r) ∧ ah (kq ≤ k) ∧ ah (Kd.S (Kd.slice 9 Kd.string) 29 w' w.heap.size (fun _ => True) v9 G) ∧ ah (w'.heap[z]? = some (.cells #[.int .i64 Dp, .int .i64 Dq, .string Dr, (.slice A0_3 Dt.length c0_3), (.slice A0_4 Du.length c0_4), .int .i64 Dv] 38 (0, 0))) ∧ ah (Below w.heap.size w w'))
 case atStart => exact ⟨_, _, EQ, H', ⟨nR _⟩, ⟨(SR xp)⟩, ⟨BK⟩, ⟨BL⟩⟩
 case round =>
  clear H';(try clear c2);(try clear c3);obtain ⟨G, m, rfl, HA, xf, y, a, HB⟩ := hrel
  cases gk with
  | zero => exact absurd HA.out (by simp [aY.l0])
  | succ k1 =>
   have H := HA.out;clear HA;simp only [aY.l0] at H;have xq := ah.mk H;clear H;go_upto_region 3 with (fail)
   go_cut [26] (fun yg wc => ∃ (kq : Nat) (U : Bool), yg = .bool U ∧ ah (aY.j1 kq a1 l2 l3 G m U Dp Dq Dr Dt Du Dv = some r) ∧ ah (kq ≤ k1) ∧ ah (Kd.S (Kd.slice 9 Kd.string) 29 wc w.heap.size (fun _ => True) u9 G) ∧ ah (wc.heap[z]? = some (.cells #[.int .i64 Dp, .int .i64 Dq, .string Dr, (.slice A0_3 Dt.length c0_3), (.slice A0_4 Du.length c0_4), .int .i64 Dv] 38 (0, 0))) ∧ ah (Below w.heap.size w wc))
   case first =>
    have H := xq.out;clear xq;obtain ⟨xr, xt, xu, xv, xw, xx, xy, xz, xA, xB, xC, xD⟩ := cz6 a.out;replace H := ifD H; rcases H with ⟨M, H⟩ | ⟨M, H⟩
    ·(first | rw [M] | (simp only [gH, iE]; rw [M]) | skip);replace H := be H; obtain ⟨yx, yh, H⟩ := H;replace H := ah.mk H;go_wp2_with (first | (go_at_call 40; (with_reducible refine (gF.calls k1 Dp Dq Dr _ _ Dt _ _ Du Dv _ _ ?s1_ ?s2_ ?s3_ ?s4_ yh.out).mono ?_); (case s1_ => exact CB xc); (case s2_ => exact xl.out); (case s3_ => exact CB xm); (case s4_ => exact xn.out); rintro e yi ⟨rfl, hb⟩; replace a := KB a hb; replace HB := BS (w := w) hb; replace y := ah.mk (Kd.eG (SR y) hb); (try clear hb); (try clear hk); obtain ⟨xE, xF, xG, xH, xI, xJ, xK, xL, xM, xN, xO, xP⟩ := cz6 a.out; refine bI ?_));refine Hide.mk ?_;replace H := H.out;replace H := ifB H; rcases H with ⟨rfl, H⟩ | ⟨rfl, H⟩
     ·replace H := be H; obtain ⟨xV, yj, H⟩ := H;have H' := ah.mk H;clear H;(try go_wp2_with (first | (go_at_call 41; (with_reducible refine (bW.calls k1 Dp Dq Dr a1 xV _ yj.out).mono ?_); rintro e yk ⟨rfl, hb⟩; replace a := KB a hb; replace HB := BS (w := w) hb; replace y := ah.mk (Kd.eG (SR y) hb); (try clear hb); (try clear hk))));go_meet;case rel => exact ⟨_, _, EQ, H', ⟨by have := xf.out; first | omega | exact nR _⟩, ⟨by (with_reducible repeat (first | apply Kd.fZ | apply Kd.dJ | apply Kd.gY)); exact y.out⟩, ⟨BK⟩, ⟨BL⟩⟩
     ·have H' := ah.mk H;clear H;(try go_wp2);go_meet;case rel => exact ⟨_, _, EQ, H', ⟨by have := xf.out; first | omega | exact nR _⟩, ⟨by (with_reducible repeat (first | apply Kd.fZ | apply Kd.dJ | apply Kd.gY)); exact y.out⟩, ⟨BK⟩, ⟨BL⟩⟩
    ·(first | rw [M] | (simp only [gH, iE]; rw [M]) | skip);have H' := ah.mk H;clear H;go_wp2;go_meet;case rel => exact ⟨_, _, EQ, H', ⟨by have := xf.out; first | omega | exact nR _⟩, ⟨by (with_reducible repeat (first | apply Kd.fZ | apply Kd.dJ | apply Kd.gY)); exact y.out⟩, ⟨BK⟩, ⟨BL⟩⟩
   case rest =>
    clear xq;(try clear c2);(try clear c3);obtain ⟨kq, U, rfl, HA, xW, y, a, HB⟩ := hcut
    cases kq with
    | zero => exact absurd HA.out (by simp [aY.j1])
    | succ xk =>
     have H := HA.out;clear HA;simp only [aY.j1] at H;replace H := ifB H; rcases H with ⟨rfl, H⟩ | ⟨rfl, H⟩
     ·replace H := ifN H; obtain ⟨yl, H⟩ := H;replace H := ifN H; obtain ⟨ym, H⟩ := H;replace H := be H; obtain ⟨xg, yn, H⟩ := H;replace H := be H; obtain ⟨O, yo, H⟩ := H;replace H := ifP H; obtain ⟨xX, H⟩ := H;have xQ := ah.mk xX;clear xX;obtain ⟨xY, I⟩ : ∃ y_ : List (List Oo), y_ = (G ++ [O]) := ⟨_, rfl⟩;replace H : (aY.l0 xk a1 l2 l3 xY (wrap64 (m + 1)) Dp Dq Dr Dt Du Dv) = some r := cW I H
      have xR := ah.mk I;clear I;have H' := ah.mk H;clear H;(try go_wp2);replace y := ah.mk (Kd.gY y.out);replace a := ah.mk (aC a.out);replace HB := ah.mk (bG HB.out);have xh : 0 ≤ (m : Int) := OD;have xi : m < (Dt.length : Int) := OD;obtain ⟨J, X, Y, xZ, A, D, hl475_1, hi475_1⟩ := pE xc.out m xh xi;have u := D;have x := A
      cases xZ
      (try replace A := (HB.out.cell (wB w _ A)).trans A);(try replace D := (HB.out.cell (wB w _ D)).trans D);have P := ah.mk hi475_1;have xj := ah.mk hl475_1;clear hi475_1 hl475_1;replace xh := eq_true xh;replace xi := eq_true xi;refine iT (n := 17) (S := fun w' => w'.cell? ⟨z, 0, none⟩ = some (.int .i64 Dp) ∧ w'.cell? ⟨z, 1, none⟩ = some (.int .i64 Dq) ∧ w'.cell? ⟨z, 2, none⟩ = some (.string Dr) ∧ w'.cell? ⟨z, 3, none⟩ = some (.slice (some J) Dt.length c0_3) ∧ w'.cell? ⟨z, 4, none⟩ = some (.slice A0_4 Du.length c0_4) ∧ w'.cell? ⟨z, 5, none⟩ = some (.int .i64 Dv) ∧ w'.cell? (J.add ((m).toNat * 2)) = some (.int .i64 ((Oh Dt m).f0)) ∧ w'.cell? ⟨(J.add ((m).toNat * 2)).block, (J.add ((m).toNat * 2)).off + 1, none⟩ = some (.slice X ((Oh Dt m).f1).length Y)) (ds := []) #[F,F,F,F,F,F,F,F,F,F,F,F,F,F,F,F,F] (by kernel_rfl) rfl rfl ⟨(ak a.out 0).trans rfl, (ak a.out 1).trans rfl, (ak a.out 2).trans rfl, (ak a.out 3).trans rfl, (ak a.out 4).trans rfl, (ak a.out 5).trans rfl, ((HB.out.cell (wB w _ x)).trans x), ((HB.out.cell (wB w _ u)).trans u)⟩ (fun hHeld => ?_); refine gW aY.Co aY.wI (fun HT_ HW_ => ?_);generalize wc.drew = yp at y a HB P A D hHeld ⊢;refine pS 0 (some 29) #[T,F,F,F,F,F,F,F,F,F,F,F,F,F,F,F,F] ?_;refine pS 1 (some 30) #[T,T,F,F,F,F,F,F,F,F,F,F,F,F,F,F,F] ?_;refine pS 3 (some 32) #[T,T,F,T,F,F,F,F,F,F,F,F,F,F,F,F,F] ?_;refine pS 6 (some 35) #[T,T,F,T,F,F,T,F,F,F,F,F,F,F,F,F,F] ?_;refine pS 7 (some 36) #[T,T,F,T,F,F,T,T,F,F,F,F,F,F,F,F,F] ?_;refine pS 8 (some 37) #[T,T,F,T,F,F,T,T,T,F,F,F,F,F,F,F,F] ?_;refine pS 10 (some 39) #[T,T,F,T,F,F,T,T,T,F,T,F,F,F,F,F,F] ?_;refine pS 11 (some 40) #[T,T,F,T,F,F,T,T,T,F,T,T,F,F,F,F,F] ?_;refine tS 2 (some 31) #[T,T,T,T,F,F,T,T,T,F,T,T,F,F,F,F,F] ?_;refine pS 4 (some 33) #[T,T,T,T,T,F,T,T,T,F,T,T,F,F,F,F,F] ?_;refine tS 5 (some 34) #[T,T,T,T,T,T,T,T,T,F,T,T,F,F,F,F,F] ?_;refine tS 9 (some 38) #[T,T,T,T,T,T,T,T,T,T,T,T,F,F,F,F,F] ?_;refine jD (i := 12) (N := some 41) #[T,T,T,T,T,T,T,T,T,T,T,T,T,F,F,F,F] rfl rfl (iA HT_.out (by kernel_rfl)) (by decide) (fun K hK => ?_);refine iD Tryz.func43 #[.agg #[.int .i64 Dp, .int .i64 Dq, .string Dr], .string a1, .int .i64 m] ?_;(with_reducible refine (bf.calls xk Dp Dq Dr a1 m xg _ yn.out).mono ?_);rintro e yq ⟨rfl, hb⟩;refine ⟨_, rfl, ?_⟩;replace y := ah.mk (Kd.eG (SR y) hb);replace a := KB a hb;replace HB := BS (w := w) hb;(try clear hb);refine hK.out _ _ ⟨(ak a.out 0).trans rfl, (ak a.out 1).trans rfl, (ak a.out 2).trans rfl, (ak a.out 3).trans rfl, (ak a.out 4).trans rfl, (ak a.out 5).trans rfl, ((HB.out.cell (wB w _ x)).trans x), ((HB.out.cell (wB w _ u)).trans u)⟩ (fun hHeld => ?_);clear hK K;refine nrm (some 41) ?_;refine jD (i := 13) (N := some 42) #[T,T,T,T,T,T,T,T,T,T,T,T,T,T,F,F,F] rfl rfl (iA HT_.out (by kernel_rfl)) (by decide) (fun K hK => ?_);refine iD Tryz.func42 #[.agg #[.int .i64 ((Oh Dt m).f0), .slice X ((Oh Dt m).f1).length Y], .slice A2 l2.length c2, .slice A3 l3.length c3, .string xg, .int .i64 3] ?_;(with_reducible refine (aV.calls xk ((Oh Dt m).f0) _ _ ((Oh Dt m).f1) _ _ l2 _ _ l3 xg 3 O _ ?s1_ ?s2_ ?s3_ ?s4_ ?s5_ ?s6_ yo.out).mono ?_);(case s1_ => exact CB P);(case s2_ => exact xj.out);(case s3_ => exact CB ya);(case s4_ => exact yb.out);(case s5_ => exact CB yc);(case s6_ => exact yd.out);rintro e yr ⟨yy, rfl, xS, hb⟩;refine ⟨_, rfl, ?_⟩;replace y := ah.mk (Kd.lM (SR y) (Kd.gX xS) hb);have L := ah.mk (Kd.bD xS (aD BL));replace a := KB a hb;replace HB := BS (w := w) hb;(try clear hb);(try clear xS);obtain ⟨Z, xa, xb⟩ := Kd.bE L.out;(first | subst xb | (injection xb with f1_ f2_ f3_; have f4_ := f1_.symm; have f5_ := f3_.symm; clear f1_ f2_ f3_; subst f4_; subst f5_));refine hK.out _ _ ⟨(ak a.out 0).trans rfl, (ak a.out 1).trans rfl, (ak a.out 2).trans rfl, (ak a.out 3).trans rfl, (ak a.out 4).trans rfl, (ak a.out 5).trans rfl, ((HB.out.cell (wB w _ x)).trans x), ((HB.out.cell (wB w _ u)).trans u)⟩ (fun hHeld => ?_);clear hK K;refine nrm (some 42) ?_;refine jD (i := 14) (N := some 43) #[T,T,T,T,T,T,T,T,T,T,T,T,T,T,T,F,F] rfl rfl (iA HT_.out (by kernel_rfl)) (by decide) (fun K hK => ?_);refine Ap (w1 := ?_) (v := ?_) (by rfl) rfl ?_ ?_
      rotate_left 2
      ·go_simp;constructor
       ·rfl
       ·rfl
      refine hK.out _ _ ⟨(ak (av a.out _) 0).trans rfl, (ak (av a.out _) 1).trans rfl, (ak (av a.out _) 2).trans rfl, (ak (av a.out _) 3).trans rfl, (ak (av a.out _) 4).trans rfl, (ak (av a.out _) 5).trans rfl, (World.cell?_alloc_lt _ _ _ (wB _ _ (((HB.out.cell (wB w _ x)).trans x)))).trans (((HB.out.cell (wB w _ x)).trans x)), (World.cell?_alloc_lt _ _ _ (wB _ _ (((HB.out.cell (wB w _ u)).trans u)))).trans (((HB.out.cell (wB w _ u)).trans u))⟩ (fun hHeld => ?_);clear hK K;refine nrm (some 43) ?_;refine jD (i := 15) (N := some 44) #[T,T,T,T,T,T,T,T,T,T,T,T,T,T,T,T,F] rfl rfl (iA HT_.out (by kernel_rfl)) (by decide) (fun K hK => ?_);refine Kd.qI (Kd.slice 9 Kd.string) (w0 := w) w.heap.size (by rfl) (.tmp 29) (.tmp 43) 33 29 (.slice none 0 0) 24 rfl Tryz.underlying33 wQ rfl (by decide) (by omega) u9 G O [.slice Z O.length xa] (fun _ => True) (fun k_ => some k_ = (.slice Z O.length xa : Value).ownBlock) rfl rfl ?aP (fun k_ hk_ => ((Kd.aU (ok' := fun k_ => ((fun _ => True)) k_ ∧ some k_ ≠ (u9 : Value).ownBlock) (Kd.eH (L.out) (Kd.lI y.out) (by decide)) (fun k_ hk => ⟨trivial, hk.2⟩))).1 k_ hk_.symm) ?aF ?aO ?aB ?aS ?aL ?_;(case aP => exact Kd.wm (Kd.aU (Kd.jO rfl (Kd.aU (ok' := fun k_ => ((fun _ => True)) k_ ∧ some k_ ≠ (u9 : Value).ownBlock) (Kd.eH (L.out) (Kd.lI y.out) (by decide)) (fun k_ hk => ⟨trivial, hk.2⟩))) (fun _ h_ => h_)));(case aB => exact BL);(case aF => exact (fun _ _ => trivial));(case aO => exact (by (with_reducible repeat (first | apply Kd.fZ | apply Kd.dJ | apply Kd.gY)); exact Kd.jh y.out (fun k_ hk => ⟨trivial, fun e_ => hk.2 e_⟩)));(case aS => exact (aD BL));(case aL => have := xQ.out; omega);intro yz ys ho hb hg hat;rw [← xR.out] at ho;replace a := ah.mk (cZ (g := z) (o := .cells #[.int .i64 Dp, .int .i64 Dq, .string Dr, .slice (some J) Dt.length c0_3, .slice A0_4 Du.length c0_4, .int .i64 Dv] 38 (0, 0)) BK hg (Kd.AQ y.out a.out (by decide)));replace HB := ah.mk (hb);have xT := ah.mk (ho);clear y L;clear ho hb hg hat;refine hK.out _ _ ⟨(ak a.out 0).trans rfl, (ak a.out 1).trans rfl, (ak a.out 2).trans rfl, (ak a.out 3).trans rfl, (ak a.out 4).trans rfl, (ak a.out 5).trans rfl, ((HB.out.cell (wB w _ x)).trans x), ((HB.out.cell (wB w _ u)).trans u)⟩ (fun hHeld => ?_);clear hK K;refine nrm (some 44) ?_;refine pS 16 (some 9) #[T,T,T,T,T,T,T,T,T,T,T,T,T,T,T,T,T] ?_;refine gN (fE HT_.out (by kernel_rfl)) ?_;(try go_wp2);go_roundg xk;case measure => have := xf.out; have := xW.out; omega
      case rel => exact ⟨_, _, EQ, H', kt xf xW, ⟨by (with_reducible repeat (first | apply Kd.fZ | apply Kd.dJ | apply Kd.gY)); exact xT.out⟩, ⟨BK⟩, ⟨BL⟩⟩
     ·obtain rfl := sI H;go_wp2;go_ret;exact ⟨_, EWW, (SR y), BL⟩
def bN.l0 : Nat → Oo → Oo → List Int → Int → Option (Oo × Bool)
 | 0, _, _, _, _ => none
 | k + 1, a, b, c, d => if d < (c.length : Int) then (if 0 ≤ d then (if 0 ≤ (rd c d) then (if (rd c d) ≤ (a.size : Int) then (if d ≤ (wrap64 (d + 1)) then (if (wrap64 (d + 1)) ≤ (b.size : Int) then (if (a.extract 0 ((rd c d) : Int).toNat).size + (b.extract (d : Int).toNat ((wrap64 (d + 1)) : Int).toNat).size ≤ 9223372036854775807 then (if 0 ≤ (wrap64 ((rd c d) + 1)) then (if (wrap64 ((rd c d) + 1)) ≤ (a.size : Int) then (if ((a.extract 0 ((rd c d) : Int).toNat) ++ (b.extract (d : Int).toNat ((wrap64 (d + 1)) : Int).toNat)).size + (a.extract ((wrap64 ((rd c d) + 1)) : Int).toNat a.size).size ≤ 9223372036854775807 then (bN.l0 k (((a.extract 0 ((rd c d) : Int).toNat) ++ (b.extract (d : Int).toNat ((wrap64 (d + 1)) : Int).toNat)) ++ (a.extract ((wrap64 ((rd c d) + 1)) : Int).toNat a.size)) b c (wrap64 (d + 1))) else none) else none) else none) else none) else none) else none) else none) else none) else none) else some (a, true)
def bN.f (k : Nat) (Dp Dq : Int) (Dr a1 : Oo) (a2 : Int) (a3 : Oo) : Option (Oo × Bool) := (bf.f k Dp Dq Dr a1 a2).bind fun t484 => (bO.f k t484 a3).bind fun t485 => if t485 = true then (aM.f k Dp Dq Dr).bind fun t486 => if 0 ≤ a2 then if a2 < (t486.length : Int) then (bS.f k Dp Dq Dr ((aH t486 a2).f0) ((aH t486 a2).f1) ((aH t486 a2).f2) ((aH t486 a2).f3)).bind fun t490 => bN.l0 k a1 a3 t490 0 else none else none else some (a1, false)
def bN.T3 : Bool × List (List Nat × List Nat) := (true, [([], []), ([], []), ([1], [1]), ([], []), ([2, 3], [2, 3]), ([4], [4]), ([0, 5, 2], [0, 5]), ([6, 6, 0, 1, 2, 3, 4, 5, 6], [6])])
def bN.B3 : List Nat := [0, 0, 2, 0, 14, 30, 63, 127]
theorem bN.Cn : jR .any (opsOf Tryz.f121 3) = bN.T3 := by kernel_rfl
theorem bN.wH : iM bN.T3.2 bN.B3 = true := by kernel_rfl
def bN.T7 : Bool × List (List Nat × List Nat) := (true, [([], []), ([], []), ([], []), ([1, 2], [1, 2]), ([3], [3]), ([0, 4], [0, 4]), ([], []), ([], []), ([], []), ([8], [8]), ([6, 7, 9], [6, 7, 9]), ([5, 10], [5, 10]), ([], []), ([], []), ([], []), ([13, 14], [13, 14]), ([15], [15]), ([16], [16]), ([12, 17], [12, 17]), ([11, 18], [11, 18]), ([19, 0, 1, 2, 3, 4, 5, 6, 7, 8, 9, 10, 11, 12, 13, 14, 15, 16, 17, 18, 19], [0, 12, 19])])
def bN.B7 : List Nat := [0, 0, 0, 6, 14, 31, 0, 0, 0, 256, 960, 2047, 0, 0, 0, 24576, 57344, 122880, 258048, 524287, 1048575]
theorem bN.Cq : jR .any (opsOf Tryz.f121 7) = bN.T7 := by kernel_rfl
theorem bN.wJ : iM bN.T7.2 bN.B7 = true := by kernel_rfl
theorem bN.calls (k : Nat) (Dp Dq : Int) (Dr a1 : Oo) (a2 : Int) (a3 r1 : Oo) (r2 : Bool) (w : World) (h : bN.f k Dp Dq Dr a1 a2 a3 = some (r1, r2)) :
  Calls Tryz.prog 121 #[.agg #[.int .i64 Dp, .int .i64 Dq, .string Dr], .string a1, .int .i64 a2, .string a3] w fun e w' => e = .returned (.tuple #[.string r1, .bool r2]) ∧ Below w.heap.size w w' := by
 have hu35 := Tryz.underlying35
 have hu109 := Tryz.underlying109
 have HB := ah.mk (bR w.heap.size w)
 unfold bN.f at h
 have H := h
 clear h
 replace H := be H; obtain ⟨t484, A5, H⟩ := H
 replace H := be H; obtain ⟨t485, A6, H⟩ := H
 replace H := ah.mk H
 go_enter Tryz.func121, Tryz.ntmps121
 go_wp2_with (first | ((with_reducible refine aG (N := 4) rfl ?_); refine aN (N := 4) (cs := #[.int .i64 Dp, .int .i64 Dq, .string Dr]) (t := 35) ?_; intro gb483 hg w9000 hbox hb; have BK483 := ah.mk hbox; have GW483 := SZ (w := w) hg; have GE483 := GW483; replace HB := BS (w := w) hb; clear hb hbox hg; obtain ⟨hcz9001_0, hcz9001_1, hcz9001_2, hfz9001_0, hfz9001_1, hfz9001_2⟩ := cz3 BK483.out) | ((with_reducible refine au (f := 43) rfl ?_); refine aK (some 15) Tryz.func43 #[.agg #[.int .i64 Dp, .int .i64 Dq, .string Dr], .string a1, .int .i64 a2] ?_; (with_reducible refine (bf.calls k Dp Dq Dr a1 a2 t484 _ A5.out).mono ?_); rintro e w9002 ⟨rfl, hb⟩; refine ⟨_, rfl, ?_⟩; replace BK483 := KB BK483 hb; replace HB := BS (w := w) hb; (try clear hb)) | ((with_reducible refine au (f := 80) rfl ?_); refine aK (some 17) Tryz.func80 #[.string t484, .string a3] ?_; (with_reducible refine (bO.calls k t484 a3 _ _ A6.out).mono ?_); rintro e w' ⟨rfl, ⟨nd, rfl⟩⟩; refine ⟨_, rfl, ?_⟩; refine bI ?_))
 refine Hide.mk ?_
 replace H := H.out
 replace H := ifB H; rcases H with ⟨rfl, H⟩ | ⟨rfl, H⟩
 ·replace H := be H; obtain ⟨t486, A8, H⟩ := H
  replace H := ifN H; obtain ⟨c9b0, H⟩ := H
  replace H := ifN H; obtain ⟨c10b0, H⟩ := H
  replace H := be H; obtain ⟨t490, A11, H⟩ := H
  have H' := ah.mk H
  clear H
  try go_wp2
  (try (rw [mK w9002]; generalize hq_ : World.drewN w9002 _ = w9002; have n0_ : ah (w9002.heap[gb483]? = some (.cells #[.int .i64 Dp, .int .i64 Dq, .string Dr] 35 (0, 0))) := ⟨by rw [← hq_]; exact BK⟩; have n1_ : ah (Below w.heap.size w w9002) := ⟨by rw [← hq_]; exact BL⟩; clear BK483 HB hq_; have BK483 := n0_; have HB := n1_; clear n0_ n1_))
  replace BK483 := ah.mk (aC BK483.out)
  replace HB := ah.mk (bG HB.out)
  refine iT (n := 8) (S := fun w' => w'.cell? ⟨gb483, 0, none⟩ = some (.int .i64 Dp) ∧ w'.cell? ⟨gb483, 1, none⟩ = some (.int .i64 Dq) ∧ w'.cell? ⟨gb483, 2, none⟩ = some (.string Dr)) (ds := []) #[F,F,F,F,F,F,F,F] (by kernel_rfl) rfl rfl ⟨(ak BK483.out 0).trans rfl, (ak BK483.out 1).trans rfl, (ak BK483.out 2).trans rfl⟩ (fun hHeld => ?_); refine gW bN.Cn bN.wH (fun HT_ HW_ => ?_)
  generalize w9002.drew = w9003 at BK483 HB hHeld ⊢
  refine puS (i := 3) (N := some 23) #[F,F,F,T,F,F,F,F] (iX HT_.out (by kernel_rfl)) ?_
  refine taS (i := 0) (N := some 20) #[T,F,F,T,F,F,F,F] (nT HT_.out HW_.out (by kernel_rfl)) hHeld ?_
  refine taS (i := 1) (N := some 21) #[T,T,F,T,F,F,F,F] (nT HT_.out HW_.out (by kernel_rfl)) hHeld ?_
  refine jD (i := 2) (N := some 22) #[T,T,T,T,F,F,F,F] rfl rfl (iA HT_.out (by kernel_rfl)) (by decide) (fun K hK => ?_)
  refine iD Tryz.func75 #[.agg #[.int .i64 Dp, .int .i64 Dq, .string Dr]] ?_
  with_reducible refine (aM.calls k Dp Dq Dr t486 _ A8.out).mono ?_
  rintro e w9004 ⟨v487, rfl, ho0, hb⟩
  refine ⟨_, rfl, ?_⟩
  have n0_ := ah.mk (Kd.bD ho0 (aD BL))
  have n1_ := KB BK483 hb
  have n2_ := BS (w := w) hb
  clear BK483
  clear HB
  have HO488 := n0_
  have BK483 := n1_
  have HB := n2_
  clear n0_ n1_ n2_
  (try clear hb)
  (try clear ho0)
  obtain ⟨Ao9005, co9005, eo9005⟩ := Kd.bE HO488.out
  (first | subst eo9005 | (injection eo9005 with f1_ f2_ f3_; have f4_ := f1_.symm; have f5_ := f3_.symm; clear f1_ f2_ f3_; subst f4_; subst f5_))
  have p489 : 0 ≤ (a2 : Int) := OD
  have q489 : a2 < (t486.length : Int) := OD
  obtain ⟨ad489, e489, hx489_0, hx489_1, hx489_2, hx489_3⟩ := lJ (Kd.aQ HO488.out).2.2 a2 p489 q489
  cases e489
  replace p489 := eq_true p489
  replace q489 := eq_true q489
  refine hK.out _ _ ⟨(ak BK483.out 0).trans rfl, (ak BK483.out 1).trans rfl, (ak BK483.out 2).trans rfl⟩ (fun hHeld => ?_)
  clear hK K
  refine nrm (some 22) ?_
  refine puS (i := 4) (N := some 24) #[T,T,T,T,T,F,F,F] (iX HT_.out (by kernel_rfl)) ?_
  refine jD (i := 5) (N := some 25) #[T,T,T,T,T,T,F,F] rfl rfl (iA HT_.out (by kernel_rfl)) (by decide) (fun K hK => ?_)
  refine Ap (v := ?_) (w1 := w9004) (by rfl) (by rfl) ?_ ?_
  rotate_left
  ·go_simp
   with_reducible rfl
  refine hK.out _ _ ⟨(ak BK483.out 0).trans rfl, (ak BK483.out 1).trans rfl, (ak BK483.out 2).trans rfl⟩ (fun hHeld => ?_)
  clear hK K
  refine nrm (some 25) ?_
  refine jD (i := 6) (N := some 26) #[T,T,T,T,T,T,T,F] rfl rfl (iA HT_.out (by kernel_rfl)) (by decide) (fun K hK => ?_)
  refine iD Tryz.func82 #[.agg #[.int .i64 Dp, .int .i64 Dq, .string Dr], .agg #[.int .i64 ((aH t486 a2).f0), .bool ((aH t486 a2).f1), .int .i64 ((aH t486 a2).f2), .int .i64 ((aH t486 a2).f3)]] ?_
  with_reducible refine (bS.calls k Dp Dq Dr ((aH t486 a2).f0) ((aH t486 a2).f1) ((aH t486 a2).f2) ((aH t486 a2).f3) t490 _ A11.out).mono ?_
  rintro e w9006 ⟨v491, rfl, ho0, hb⟩
  refine ⟨_, rfl, ?_⟩
  have n0_ := RB HO488 hb
  have n1_ := ah.mk (Kd.bD ho0 (aD BL))
  have n2_ := KB BK483 hb
  have n3_ := BS (w := w) hb
  clear HO488
  clear BK483
  clear HB
  have HO488 := n0_
  have HO492 := n1_
  have BK483 := n2_
  have HB := n3_
  clear n0_ n1_ n2_ n3_
  (try clear hb)
  (try clear ho0)
  refine hK.out _ _ ⟨(ak BK483.out 0).trans rfl, (ak BK483.out 1).trans rfl, (ak BK483.out 2).trans rfl⟩ (fun hHeld => ?_)
  clear hK K
  refine nrm (some 26) ?_
  refine puS (i := 7) (N := some 10) #[T,T,T,T,T,T,T,T] (iX HT_.out (by kernel_rfl)) ?_
  refine gN (fE HT_.out (by kernel_rfl)) ?_
  try go_wp2
  go_loopg [1, 11] k (fun kq v1 v11 w' => ∃ (x1_1 : Oo) (x11_1 : Int), v1 = .string x1_1 ∧ v11 = .int .i64 x11_1 ∧ ah (bN.l0 kq x1_1 a3 t490 x11_1 = some (r1, r2)) ∧ ah (kq ≤ k) ∧ ah (Kd.R (Kd.int .i64) 3 w' w.heap.size (fun _ => True) v491 t490) ∧ ah (w'.heap[gb483]? = some (.cells #[.int .i64 Dp, .int .i64 Dq, .string Dr] 35 (0, 0))) ∧ ah (Below w.heap.size w w'))
  case atStart => exact ⟨(a1), (0), EQ, EQ, H', ⟨nR _⟩, ⟨(RR HO492)⟩, ⟨BK⟩, ⟨BL⟩⟩
  case round =>
   clear H'
   try clear c7
   try clear c9
   try clear c9b0
   try clear c10
   try clear c10b0
   try clear hcz9001_0
   try clear hcz9001_1
   try clear hcz9001_2
   try clear hfz9001_0
   try clear hfz9001_1
   try clear hfz9001_2
   try clear hx489_0
   try clear hx489_1
   try clear hx489_2
   try clear hx489_3
   try clear p489
   try clear q489
   obtain ⟨x1_1, x11_1, rfl, rfl, HA, HK1, HO_10, BK483, HB⟩ := hrel
   cases gk with
   | zero => exact absurd HA.out (by simp [bN.l0])
   | succ k1 =>
    have H := HA.out
    clear HA
    simp only [bN.l0] at H
    obtain ⟨Ao9007, co9007, eo9007⟩ := Kd.bE HO_10.out
    subst eo9007
    replace H := ifD H; rcases H with ⟨c19b0, H⟩ | ⟨c19b0, H⟩
    ·replace H := ifN H; obtain ⟨c20b0, H⟩ := H
     replace H := ifP H; obtain ⟨c21, H⟩ := H
     have c21b0 := eq_true c21
     have c21b1 : decide (0 ≤ (rd t490 x11_1)) = true := dT c21
     clear c21
     replace H := ifP H; obtain ⟨c22, H⟩ := H
     have c22b0 := eq_true c22
     have c22b1 : decide ((rd t490 x11_1) ≤ (x1_1.size : Int)) = true := dT c22
     clear c22
     have c23b0 := eq_true (OD : 0 ≤ x11_1)
     replace H := ifP H; obtain ⟨c24, H⟩ := H
     have c24b0 := eq_true c24
     have c24b1 : decide (x11_1 ≤ (wrap64 (x11_1 + 1))) = true := dT c24
     replace H := ifP H; obtain ⟨c25, H⟩ := H
     have c25b0 := eq_true c25
     have c25b1 : decide ((wrap64 (x11_1 + 1)) ≤ (a3.size : Int)) = true := dT c25
     by_cases c26 : (x1_1.extract 0 ((rd t490 x11_1) : Int).toNat).size + (a3.extract (x11_1 : Int).toNat ((wrap64 (x11_1 + 1)) : Int).toNat).size ≤ 9223372036854775807
     ·rw [if_pos c26] at H
      have c26b0 := eq_true c26
      have c26b1 : decide ((x1_1.extract 0 ((rd t490 x11_1) : Int).toNat).size + (a3.extract (x11_1 : Int).toNat ((wrap64 (x11_1 + 1)) : Int).toNat).size ≤ 9223372036854775807) = true := dT c26
      try have c26b2 : (9223372036854775807 < (x1_1.extract 0 ((rd t490 x11_1) : Int).toNat).size + (a3.extract (x11_1 : Int).toNat ((wrap64 (x11_1 + 1)) : Int).toNat).size) = False := eq_false (Nat.not_lt.2 c26)
      have c26b3 : (9223372036854775807 < ((rd t490 x11_1)).toNat + (((wrap64 (x11_1 + 1))).toNat - (x11_1).toNat)) = False := eq_false (by
       have h1_ : (rd t490 x11_1) ≤ (x1_1.size : Int) := OD
       have h2_ : (wrap64 (x11_1 + 1)) ≤ (a3.size : Int) := OD
       have h_ := c26
       simp only [ByteArray.size_extract] at h_
       omega)
      obtain ⟨ji27, hji27⟩ : ∃ j_ : Int, (wrap64 ((rd t490 x11_1) + 1)) = j_ := ⟨_, rfl⟩
      replace H : (if 0 ≤ (ji27) then (if (ji27) ≤ (x1_1.size : Int) then (if ((x1_1.extract 0 ((rd t490 x11_1) : Int).toNat) ++ (a3.extract (x11_1 : Int).toNat ((wrap64 (x11_1 + 1)) : Int).toNat)).size + (x1_1.extract ((ji27) : Int).toNat x1_1.size).size ≤ 9223372036854775807 then (bN.l0 k1 (((x1_1.extract 0 ((rd t490 x11_1) : Int).toNat) ++ (a3.extract (x11_1 : Int).toNat ((wrap64 (x11_1 + 1)) : Int).toNat)) ++ (x1_1.extract ((ji27) : Int).toNat x1_1.size)) a3 t490 (wrap64 (x11_1 + 1))) else (none)) else (none)) else (none)) = some (r1, r2) := by first | (rw [hji27] at H; exact H) | (simp only [hji27] at H ⊢; exact H)
      have hji27w : (IntKind.i64.wrap ((rd t490 x11_1) + 1)) = ji27 := (gH _).trans hji27
      replace H := ifP H; obtain ⟨c28, H⟩ := H
      have c28b0 := eq_true c28
      have c28b1 : decide (0 ≤ (ji27)) = true := dT c28
      clear c28
      replace H := ifP H; obtain ⟨c29, H⟩ := H
      have c29b0 := eq_true c29
      have c29b1 : decide ((ji27) ≤ (x1_1.size : Int)) = true := dT c29
      clear c29
      by_cases c30 : ((x1_1.extract 0 ((rd t490 x11_1) : Int).toNat) ++ (a3.extract (x11_1 : Int).toNat ((wrap64 (x11_1 + 1)) : Int).toNat)).size + (x1_1.extract ((ji27) : Int).toNat x1_1.size).size ≤ 9223372036854775807
      ·rw [if_pos c30] at H
       have c30b0 := eq_true c30
       have c30b1 : decide (((x1_1.extract 0 ((rd t490 x11_1) : Int).toNat) ++ (a3.extract (x11_1 : Int).toNat ((wrap64 (x11_1 + 1)) : Int).toNat)).size + (x1_1.extract ((ji27) : Int).toNat x1_1.size).size ≤ 9223372036854775807) = true := dT c30
       try have c30b2 : (9223372036854775807 < ((x1_1.extract 0 ((rd t490 x11_1) : Int).toNat) ++ (a3.extract (x11_1 : Int).toNat ((wrap64 (x11_1 + 1)) : Int).toNat)).size + (x1_1.extract ((ji27) : Int).toNat x1_1.size).size) = False := eq_false (Nat.not_lt.2 c30)
       have c30b3 : (9223372036854775807 < ((rd t490 x11_1)).toNat + (((wrap64 (x11_1 + 1))).toNat - (x11_1).toNat) + (x1_1.size - (ji27).toNat)) = False := eq_false (by
        have h1_ : (rd t490 x11_1) ≤ (x1_1.size : Int) := OD
        have h2_ : (wrap64 (x11_1 + 1)) ≤ (a3.size : Int) := OD
        have h_ := c30
        simp only [ByteArray.size_append, ByteArray.size_extract] at h_
        omega)
       have H' := ah.mk H
       clear H
       try go_wp2
       replace HO_10 := ah.mk (Kd.bJ HO_10.out)
       replace BK483 := ah.mk (aC BK483.out)
       replace HB := ah.mk (bG HB.out)
       have p493 : 0 ≤ (x11_1 : Int) := OD
       have q493 : x11_1 < (t490.length : Int) := OD
       obtain ⟨ad493, e493, hx493_0⟩ := Kd.lg (Kd.aQ HO_10.out).2.2 x11_1 p493 q493
       cases e493
       replace p493 := eq_true p493
       replace q493 := eq_true q493
       have p494 : 0 ≤ (x11_1 : Int) := OD
       have q494 : x11_1 < (t490.length : Int) := OD
       obtain ⟨ad494, e494, hx494_0⟩ := Kd.lg (Kd.aQ HO_10.out).2.2 x11_1 p494 q494
       obtain rfl : ad493 = ad494 := (by injection e494)
       replace p494 := eq_true p494
       replace q494 := eq_true q494
       refine iT (n := 21) (S := fun w' => w'.cell? (ad493.add (x11_1).toNat) = some (.int .i64 (rd t490 x11_1)) ∧ w'.cell? (ad493.add (x11_1).toNat) = some (.int .i64 (rd t490 x11_1))) (ds := []) #[F,F,F,F,F,F,F,F,F,F,F,F,F,F,F,F,F,F,F,F,F] (by kernel_rfl) rfl rfl ⟨hx493_0, hx494_0⟩ (fun hHeld => ?_); refine gW bN.Cq bN.wJ (fun HT_ HW_ => ?_)
       generalize wr.drew = w9008 at HO_10 BK483 HB hx493_0 hx494_0 hHeld ⊢
       refine puS (i := 0) (N := some 33) #[T,F,F,F,F,F,F,F,F,F,F,F,F,F,F,F,F,F,F,F,F] (iX HT_.out (by kernel_rfl)) ?_
       refine puS (i := 1) (N := some 34) #[T,T,F,F,F,F,F,F,F,F,F,F,F,F,F,F,F,F,F,F,F] (iX HT_.out (by kernel_rfl)) ?_
       refine puS (i := 2) (N := some 35) #[T,T,T,F,F,F,F,F,F,F,F,F,F,F,F,F,F,F,F,F,F] (iX HT_.out (by kernel_rfl)) ?_
       refine puS (i := 3) (N := some 36) #[T,T,T,T,F,F,F,F,F,F,F,F,F,F,F,F,F,F,F,F,F] (iX HT_.out (by kernel_rfl)) ?_
       refine puS (i := 6) (N := some 39) #[T,T,T,T,F,F,T,F,F,F,F,F,F,F,F,F,F,F,F,F,F] (iX HT_.out (by kernel_rfl)) ?_
       refine puS (i := 7) (N := some 40) #[T,T,T,T,F,F,T,T,F,F,F,F,F,F,F,F,F,F,F,F,F] (iX HT_.out (by kernel_rfl)) ?_
       refine puS (i := 8) (N := some 41) #[T,T,T,T,F,F,T,T,T,F,F,F,F,F,F,F,F,F,F,F,F] (iX HT_.out (by kernel_rfl)) ?_
       refine puS (i := 9) (N := some 42) #[T,T,T,T,F,F,T,T,T,T,F,F,F,F,F,F,F,F,F,F,F] (iX HT_.out (by kernel_rfl)) ?_
       refine puS (i := 10) (N := some 43) #[T,T,T,T,F,F,T,T,T,T,T,F,F,F,F,F,F,F,F,F,F] (iX HT_.out (by kernel_rfl)) ?_
       refine puS (i := 12) (N := some 45) #[T,T,T,T,F,F,T,T,T,T,T,F,T,F,F,F,F,F,F,F,F] (iX HT_.out (by kernel_rfl)) ?_
       refine puS (i := 13) (N := some 46) #[T,T,T,T,F,F,T,T,T,T,T,F,T,T,F,F,F,F,F,F,F] (iX HT_.out (by kernel_rfl)) ?_
       refine puS (i := 14) (N := some 47) #[T,T,T,T,F,F,T,T,T,T,T,F,T,T,T,F,F,F,F,F,F] (iX HT_.out (by kernel_rfl)) ?_
       refine puS (i := 15) (N := some 48) #[T,T,T,T,F,F,T,T,T,T,T,F,T,T,T,T,F,F,F,F,F] (iX HT_.out (by kernel_rfl)) ?_
       refine taS (i := 4) (N := some 37) #[T,T,T,T,T,F,T,T,T,T,T,F,T,T,T,T,F,F,F,F,F] (nT HT_.out HW_.out (by kernel_rfl)) hHeld ?_
       refine puS (i := 5) (N := some 38) #[T,T,T,T,T,T,T,T,T,T,T,F,T,T,T,T,F,F,F,F,F] (iX HT_.out (by kernel_rfl)) ?_
       refine puS (i := 11) (N := some 44) #[T,T,T,T,T,T,T,T,T,T,T,T,T,T,T,T,F,F,F,F,F] (iX HT_.out (by kernel_rfl)) ?_
       refine taS (i := 16) (N := some 49) #[T,T,T,T,T,T,T,T,T,T,T,T,T,T,T,T,T,F,F,F,F] (nT HT_.out HW_.out (by kernel_rfl)) hHeld ?_
       refine puS (i := 17) (N := some 50) #[T,T,T,T,T,T,T,T,T,T,T,T,T,T,T,T,T,T,F,F,F] (iX HT_.out (by kernel_rfl)) ?_
       refine puS (i := 18) (N := some 51) #[T,T,T,T,T,T,T,T,T,T,T,T,T,T,T,T,T,T,T,F,F] (iX HT_.out (by kernel_rfl)) ?_
       refine puS (i := 19) (N := some 52) #[T,T,T,T,T,T,T,T,T,T,T,T,T,T,T,T,T,T,T,T,F] (iX HT_.out (by kernel_rfl)) ?_
       refine puS (i := 20) (N := some 1) #[T,T,T,T,T,T,T,T,T,T,T,T,T,T,T,T,T,T,T,T,T] (iX HT_.out (by kernel_rfl)) ?_
       refine gN (fE HT_.out (by kernel_rfl)) ?_
       try go_wp2
       go_roundg k1
       case measure => have := HK1.out; omega
       case rel => exact ⟨(((x1_1.extract 0 ((rd t490 x11_1) : Int).toNat) ++ (a3.extract (x11_1 : Int).toNat ((wrap64 (x11_1 + 1)) : Int).toNat)) ++ (x1_1.extract ((ji27) : Int).toNat x1_1.size)), (wrap64 (x11_1 + 1)), (by first | rfl | (simp; done) | (simp only [← hji27] <;> (first | rfl | simp)) | (simp [*]; done)), EQ, H', ⟨by have := HK1.out; omega⟩, ⟨(RR HO_10)⟩, ⟨BK⟩, ⟨BL⟩⟩
      ·rw [if_neg c30] at H
       exact absurd H (by simp)
     ·rw [if_neg c26] at H
      exact absurd H (by simp)
    ·simp only [Option.some.injEq, Prod.mk.injEq] at H
     obtain ⟨rfl, rfl⟩ := H
     go_wp2
     go_ret2
     exact ⟨EWW, BL⟩
 ·simp only [Option.some.injEq, Prod.mk.injEq] at H
  obtain ⟨rfl, rfl⟩ := H
  try go_wp2
  go_ret2
  exact ⟨EWW, BL⟩
end Go.Proofs.YtikmdgmnhbodjaaGreat.PFnExactSolvePuzzle
