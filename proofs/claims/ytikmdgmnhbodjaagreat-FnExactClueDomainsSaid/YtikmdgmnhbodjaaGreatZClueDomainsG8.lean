/- Walks of functions: what each computes. -/
import Derived.Test.YtikmdgmnhbodjaaGreatZClueDomainsG0
import Derived.Test.YtikmdgmnhbodjaaGreatZClueDomainsG5
import Derived.Test.YtikmdgmnhbodjaaGreatZClueDomainsG6
import Derived.Test.YtikmdgmnhbodjaaGreatZClueDomainsG7
import Derived.Test.YtikmdgmnhbodjaaGreatZClueDomainsW
import Derived.Test.YtikmdgmnhbodjaaGreatZClueDomainsShelf
import Derived.Test.YtikmdgmnhbodjaaGreatZClueDomainsHandSort
import Derived.Test.YtikmdgmnhbodjaaGreatZClueDomainsHandForm
import Derived.Test.YtikmdgmnhbodjaaGreatZClueDomainsHandAlone
import Derived.Test.YtikmdgmnhbodjaaGreatZClueDomainsHandReach
namespace Go.Proofs.YtikmdgmnhbodjaaGreat.PFnExactClueDomains
open Go.RowKit Go.Proofs.YtikmdgmnhbodjaaGreatW.PrintWords Go.Proofs.YtikmdgmnhbodjaaGreatW.PrintLast Go.Proofs.YtikmdgmnhbodjaaGreatW.PrintMore Go.Proofs.YtikmdgmnhbodjaaGreat.Sq
attribute [local go_sem] kW kY mH mI jU jV kX kZ
set_option maxHeartbeats 8000000
set_option maxRecDepth 100000
set_option linter.unusedVariables false
set_option linter.unusedSimpArgs false
attribute [local go_sem high] JB
def bL.l0 : Nat → List ByteArray → ByteArray → Int → Int → Option (Int)
 | 0, _, _, _, _ => none
 | k + 1, a, b, c, d => if d < c then (if 0 ≤ d then (if d < (a.length : Int) then (if b.toList = (gW ByteArray.empty a d).toList then (some d) else (bL.l0 k a b c (wrap64 (d + 1)))) else (none)) else (none)) else (some (-1))
def bL.f (k : Nat) (l0 : List ByteArray) (a1 : ByteArray) : Option (Int) := bL.l0 k l0 a1 (l0.length : Int) 0
theorem bL.calls (k : Nat) (J : Option Addr) (K : Nat) (l0 : List ByteArray) (a1 : ByteArray) (r : Int) (w : World) (o : Kd.C Kd.string w J l0.length l0) (u : l0.length ≤ K) (h : bL.f k l0 a1 = some r) :
  Calls Tryz.prog 170 #[.slice J l0.length K, .string a1] w fun e w' => e = .returned (.int .i64 r) ∧ dM w w' := by
 have G := ah.mk o;have O := ah.mk u;clear o u;unfold bL.f at h;have H := h;clear h;have H' := ah.mk H;clear H;go_enter Tryz.func170, Tryz.ntmps170;go_wp2
 go_loopg [8] k (fun kq P w' => ∃ (a : Int), P = .int .i64 a ∧ ah (bL.l0 kq l0 a1 (l0.length : Int) a = some r) ∧ ah (kq ≤ k) ∧ dM w w')
 case atStart => exact ⟨_, EQ, H', ⟨Nat.le_refl _⟩, DR⟩
 case round =>
  clear H';obtain ⟨a, rfl, HA, x, ⟨m1, rfl⟩⟩ := hrel
  cases gk with
  | zero => exact absurd HA.out (by simp [bL.l0])
  | succ k1 =>
   have H := HA.out;clear HA;simp only [bL.l0] at H;replace H := ifD H; rcases H with ⟨y, H⟩ | ⟨y, H⟩
   ·replace H := ifN H; obtain ⟨L, H⟩ := H;replace H := ifN H; obtain ⟨M, H⟩ := H;have l : 0 ≤ (a : Int) := OD;have m : a < (l0.length : Int) := OD;obtain ⟨I, z, A⟩ := Kd.kT G.out a l m
    cases z
    replace l := eq_true l;replace m := eq_true m;replace H := ifE H; rcases H with ⟨D, E, H⟩ | ⟨c6, D, E, H⟩
    ·obtain rfl := Option.some.inj H;go_wp2;go_ret;exact ⟨EQ, DR⟩
    ·have H' := ah.mk H;clear H;go_wp2;go_roundg k1;case measure => have := x.out; omega
     case rel => exact ⟨_, EQ, H', ks x, DR⟩
   ·obtain rfl := Option.some.inj H;go_wp2;go_ret;exact ⟨EQ, DR⟩
def fQ.f (k : Nat) (l0 : List ByteArray) (a1 : ByteArray) : Option (Bool) := (bL.f k l0 a1).bind fun t566 => (some (decide (t566 ≥ 0)))
theorem fQ.calls (k : Nat) (o : Option Addr) (u : Nat) (l0 : List ByteArray) (a1 : ByteArray) (r : Bool) (w : World) (a : Kd.C Kd.string w o l0.length l0) (l : l0.length ≤ u) (h : fQ.f k l0 a1 = some r) :
  Calls Tryz.prog 126 #[.slice o l0.length u, .string a1] w fun e w' => e = .returned (.bool r) ∧ dM w w' := by
 have x := ah.mk a;have y := ah.mk l;clear a l;unfold fQ.f at h;have H := h;clear h;replace H := be H; obtain ⟨m, A3, H⟩ := H;obtain rfl := Option.some.inj H;go_enter Tryz.func126, Tryz.ntmps126;go_wp2_with (first | ((with_reducible refine aA (f := 170) rfl ?_); refine aY (some 7) Tryz.func170 #[.slice o l0.length u, .string a1] ?_; (with_reducible refine (bL.calls k _ _ l0 a1 m _ ?side1 ?side2 A3.out).mono ?_); (case side1 => repeat (first | exact x.out | (with_reducible refine Kd.dh ?_ _) | (with_reducible refine Kd.dn ?_ _) | (with_reducible refine Kd.dY ?_))); (case side2 => exact y.out); rintro e w' ⟨rfl, ⟨nd, rfl⟩⟩; refine ⟨_, rfl, ?_⟩));go_ret;exact ⟨EQ, DR⟩
def iF.l0 : Nat → List ByteArray → List ByteArray → Int → Int → Option (List ByteArray)
 | 0, _, _, _, _ => none
 | k + 1, a, b, c, d => if d < c then (if 0 ≤ d then (if d < (b.length : Int) then ((fQ.f k a (gW ByteArray.empty b d)).bind fun e => (if e = true then (iF.l0 k a b c (wrap64 (d + 1))) else (if a.length < 8796093022208 then (iF.l0 k (a ++ [gW ByteArray.empty b d]) b c (wrap64 (d + 1))) else (none)))) else (none)) else (none)) else (some a)
def iF.f (k : Nat) (l0 : List ByteArray) : Option (List ByteArray) := iF.l0 k ([] : List ByteArray) l0 (l0.length : Int) 0
theorem iF.calls (k : Nat) (Z : Option Addr) (c0 : Nat) (l0 r : List ByteArray) (w : World) (J : Kd.C Kd.string w Z l0.length l0) (K : l0.length ≤ c0) (h : iF.f k l0 = some r) :
  Calls Tryz.prog 89 #[.slice Z l0.length c0] w fun e w' => ∃ v0_ : Value, e = .returned (v0_) ∧ Kd.R Kd.string 9 w' w.heap.size (fun _ => True) v0_ r ∧ Below w.heap.size w w' := by
 have U := ah.mk J;have xf := ah.mk K;clear J K;have HB := ah.mk (Below.refl w.heap.size w);unfold iF.f at h;have H := h;clear h;have H' := ah.mk H;clear H;go_enter Tryz.func89, Tryz.ntmps89;go_wp2
 go_loopg [3, 8] k (fun kq v3 v8 w' => ∃ (l : List ByteArray) (a : Int), v8 = .int .i64 a ∧ ah (iF.l0 kq l l0 (l0.length : Int) a = some r) ∧ ah (kq ≤ k) ∧ ah (Kd.R Kd.string 9 w' w.heap.size (fun _ => True) v3 l) ∧ ah (Below w.heap.size w w'))
 case atStart => exact ⟨_, _, EQ, H', ⟨Nat.le_refl _⟩, ⟨by first | exact Kd.nY _ _ _ _ _ | exact Kd.qD _ _ _ _ _ | exact Kd.qG _ _ _ _ _ | exact Kd.qE _ _ _ _ _ | exact Kd.qF _ _ _ _ _⟩, ⟨BL⟩⟩
 case round =>
  clear H';obtain ⟨l, a, rfl, HA, D, m, HB⟩ := hrel
  cases gk with
  | zero => exact absurd HA.out (by simp [iF.l0])
  | succ k1 =>
   have H := HA.out;clear HA;simp only [iF.l0] at H;replace H := ifD H; rcases H with ⟨L, H⟩ | ⟨L, H⟩
   ·replace H := ifN H; obtain ⟨xb, H⟩ := H;replace H := ifN H; obtain ⟨xc, H⟩ := H;replace H := be H; obtain ⟨xd, A5, H⟩ := H;have z : 0 ≤ (a : Int) := OD;have A : a < (l0.length : Int) := OD;obtain ⟨X, M, o⟩ := Kd.kT U.out a z A
    cases M
    (try replace o := (HB.out.cell (World.block_lt_of_cell? w _ o)).trans o);replace z := eq_true z;replace A := eq_true A;obtain ⟨x, y, E⟩ := Kd.cK m.out;subst E;replace H := ah.mk H;go_wp2_with (first | ((with_reducible refine aA (f := 126) rfl ?_); refine aY (some 14) Tryz.func126 #[.slice x l.length y, .string (gW ByteArray.empty l0 a)] ?_; (with_reducible refine (fQ.calls k1 _ _ l (gW ByteArray.empty l0 a) _ _ ?side1 ?side2 A5.out).mono ?_); (case side1 => exact CR2 m); (case side2 => exact (Kd.aZ m.out).2.1); rintro e w' ⟨rfl, ⟨nd, rfl⟩⟩; refine ⟨_, rfl, ?_⟩; refine dF ?_));refine Hide.mk ?_;replace H := H.out;replace H := ifB H; rcases H with ⟨rfl, H⟩ | ⟨rfl, H⟩
    ·have H' := ah.mk H;clear H;(try go_wp2);go_roundg k1;case measure => have := D.out; omega
     case rel => exact ⟨_, _, EQ, H', ks D, ⟨(RR m)⟩, ⟨BL⟩⟩
    ·replace H := ifP H; obtain ⟨c8, H⟩ := H;have O := ah.mk c8;clear c8;obtain ⟨P, u⟩ : ∃ y_ : List ByteArray, y_ = (l ++ [gW ByteArray.empty l0 a]) := ⟨_, rfl⟩;replace H : (iF.l0 k1 P l0 (l0.length : Int) (wrap64 (a + 1))) = some r := by first | (rw [u]; with_reducible exact H) | (have H2_ := (Option.bind_some _ _).symm.trans H; rw [u]; with_reducible exact H2_) | (have H2_ := (Option.bind_some _ _).symm.trans H; with_reducible exact H2_) | with_reducible exact H | (rw [u]; exact H) | exact H
     have G := ah.mk u;clear u;have H' := ah.mk H;clear H;(try go_wp2_with (first | ((with_reducible refine eP (b := .append) (xs := #[.tmp 16, .tmp 18]) rfl ?_); at_builtin; refine Kd.iM Kd.string (w0 := w) w.heap.size rfl (.tmp 16) (.tmp 18) 29 9 (.string ⟨#[]⟩) 16 rfl Tryz.underlying29 Cz rfl (by decide) (by omega) (.slice x l.length y) l (gW ByteArray.empty l0 a) [.string (gW ByteArray.empty l0 a)] (fun _ => True) (fun _ => False) rfl rfl ?aP (fun _ hk => hk.elim) ?aF ?aO ?aB ?aS ?aL ?_; (case aP => exact rfl); (case aB => exact BL); (case aF => exact (fun _ _ => trivial)); (case aO => exact (RR m)); (case aS => exact (aJ BL)); (case aL => have := O.out; omega); intro xe Y ho hb hg hat; rw [← G.out] at ho; replace HB := ah.mk (hb); have I := ah.mk (ho); clear m; clear ho hb hg hat)));go_roundg k1;case measure => have := D.out; omega
     case rel => exact ⟨_, _, EQ, H', ks D, ⟨(RR I)⟩, ⟨BL⟩⟩
   ·obtain rfl := Option.some.inj H;go_wp2;go_ret;exact ⟨_, EWW, (RR m), BL⟩
def gB.l0 : Nat → (Nat → ByteArray → Option Bool) → List ByteArray → List ByteArray → Int → Int → Option (List ByteArray)
 | 0, _, _, _, _, _ => none
 | k + 1, a, b, c, d, e => if e < d then (if 0 ≤ e then (if e < (c.length : Int) then ((a k (gW ByteArray.empty c e)).bind fun f => (if f = true then (if b.length < 8796093022208 then (gB.l0 k a (b ++ [gW ByteArray.empty c e]) c d (wrap64 (e + 1))) else (none)) else (gB.l0 k a b c d (wrap64 (e + 1))))) else (none)) else (none)) else (some b)
def gB.f (k : Nat) (l0 : List ByteArray) (a1 : (Nat → ByteArray → Option Bool)) : Option (List ByteArray) := gB.l0 k a1 ([] : List ByteArray) l0 (l0.length : Int) 0
theorem gB.calls (k : Nat) (Y : Option Addr) (Z : Nat) (l0 : List ByteArray) (a1 : (Nat → ByteArray → Option Bool)) (r : List ByteArray) (w : World) (G : Kd.C Kd.string w Y l0.length l0) (I : l0.length ≤ Z) (h : gB.f k l0 a1 = some r) (g : FuncId) (lb : Array Value) (eg : ∀ args w, (callFunc g args).run Tryz.prog w = .ok (.enter g args) w) (hp : ∀ (j : Nat) (s : ByteArray) (b : Bool) (W : World), Below w.heap.size w W → a1 j s = some b → Calls Tryz.prog g (#[.string s] ++ lb) W fun e w' => e = .returned (.bool b) ∧ Below W.heap.size W w') :
  Calls Tryz.prog 90 #[.slice Y l0.length Z, .func (.func g) #[] lb] w fun e w' => ∃ v0_ : Value, e = .returned (v0_) ∧ Kd.R Kd.string 9 w' w.heap.size (fun _ => True) v0_ r ∧ Below w.heap.size w w' := by
 have O := ah.mk G;have xf := ah.mk I;clear G I;have HB := ah.mk (Below.refl w.heap.size w);have HPP := ah.mk hp;clear hp;unfold gB.f at h;have H := h;clear h;have H' := ah.mk H;clear H;go_enter Tryz.func90, Tryz.ntmps90;go_wp2
 go_loopg [5, 10] k (fun kq v5 P w' => ∃ (u : List ByteArray) (a : Int), P = .int .i64 a ∧ ah (gB.l0 kq a1 u l0 (l0.length : Int) a = some r) ∧ ah (kq ≤ k) ∧ ah (Kd.R Kd.string 9 w' w.heap.size (fun _ => True) v5 u) ∧ ah (Below w.heap.size w w'))
 case atStart => exact ⟨_, _, EQ, H', ⟨Nat.le_refl _⟩, ⟨by first | exact Kd.nY _ _ _ _ _ | exact Kd.qD _ _ _ _ _ | exact Kd.qG _ _ _ _ _ | exact Kd.qE _ _ _ _ _ | exact Kd.qF _ _ _ _ _⟩, ⟨BL⟩⟩
 case round =>
  clear H';obtain ⟨u, a, rfl, HA, z, l, HB⟩ := hrel
  cases gk with
  | zero => exact absurd HA.out (by simp [gB.l0])
  | succ k1 =>
   have H := HA.out;clear HA;simp only [gB.l0] at H;replace H := ifD H; rcases H with ⟨J, H⟩ | ⟨J, H⟩
   ·replace H := ifN H; obtain ⟨xa, H⟩ := H;replace H := ifN H; obtain ⟨xb, H⟩ := H;replace H := be H; obtain ⟨xc, A6, H⟩ := H;have x : 0 ≤ (a : Int) := OD;have y : a < (l0.length : Int) := OD;obtain ⟨U, K, m⟩ := Kd.kT O.out a x y
    cases K
    (try replace m := (HB.out.cell (World.block_lt_of_cell? w _ m)).trans m);replace x := eq_true x;replace y := eq_true y;replace H := ifB H; rcases H with ⟨rfl, H⟩ | ⟨rfl, H⟩
    ·replace H := ifP H; obtain ⟨c8, H⟩ := H;have L := ah.mk c8;clear c8;obtain ⟨M, o⟩ : ∃ y_ : List ByteArray, y_ = (u ++ [gW ByteArray.empty l0 a]) := ⟨_, rfl⟩;replace H : (gB.l0 k1 a1 M l0 (l0.length : Int) (wrap64 (a + 1))) = some r := by first | (rw [o]; with_reducible exact H) | (have H2_ := (Option.bind_some _ _).symm.trans H; rw [o]; with_reducible exact H2_) | (have H2_ := (Option.bind_some _ _).symm.trans H; with_reducible exact H2_) | with_reducible exact H | (rw [o]; exact H) | exact H
     have A := ah.mk o;clear o;have H' := ah.mk H;clear H;go_wp2_with (first | (refine (HPP.out k1 (gW ByteArray.empty l0 a) true _ BL A6.out).mono ?_; rintro e D ⟨rfl, hb⟩; replace l := RB l hb; replace HB := BS (w := w) hb; (try clear hb)) | ((with_reducible refine eP (b := .append) (xs := #[.tmp 17, .tmp 19]) rfl ?_); at_builtin; refine Kd.iM Kd.string (w0 := w) w.heap.size rfl (.tmp 17) (.tmp 19) 29 9 (.string ⟨#[]⟩) 16 rfl Tryz.underlying29 Cz rfl (by decide) (by omega) u5 u (gW ByteArray.empty l0 a) [.string (gW ByteArray.empty l0 a)] (fun _ => True) (fun _ => False) rfl rfl ?aP (fun _ hk => hk.elim) ?aF ?aO ?aB ?aS ?aL ?_; (case aP => exact rfl); (case aB => exact BL); (case aF => exact (fun _ _ => trivial)); (case aO => exact (RR l)); (case aS => exact (aJ BL)); (case aL => have := L.out; omega); intro xe X ho hb hg hat; rw [← A.out] at ho; replace HB := ah.mk (hb); have E := ah.mk (ho); clear l; clear ho hb hg hat));go_roundg k1;case measure => have := z.out; omega
     case rel => exact ⟨_, _, EQ, H', ks z, ⟨(RR E)⟩, ⟨BL⟩⟩
    ·have H' := ah.mk H;clear H;go_wp2_with (first | (refine (HPP.out k1 (gW ByteArray.empty l0 a) false _ BL A6.out).mono ?_; rintro e D ⟨rfl, hb⟩; replace l := RB l hb; replace HB := BS (w := w) hb; (try clear hb); (try clear hb2); (try clear hk); (try clear hi)));go_roundg k1;case measure => have := z.out; omega
     case rel => exact ⟨_, _, EQ, H', ks z, ⟨(RR l)⟩, ⟨BL⟩⟩
   ·obtain rfl := Option.some.inj H;go_wp2;go_ret;exact ⟨_, EWW, (RR l), BL⟩
def dx.l0 : Nat → ByteArray → Int → Int → Option (Bool)
 | 0, _, _, _ => none
 | k + 1, a, b, c => if c < b then (if 0 ≤ c then (if c < (a.size : Int) then (if (bt a c) = 63 then (dx.l0 k a b (wrap64 (c + 1))) else ((fE.f (bt a c)).bind fun d => (if d = true then (dx.l0 k a b (wrap64 (c + 1))) else (some false)))) else (none)) else (none)) else (some true)
def dx.f (k : Nat) (a0 : ByteArray) : Option (Bool) := (dN.f (a0.size : Int) 1 8).bind fun t577 => (if t577 = true then (dx.l0 k a0 (a0.size : Int) 0) else (some false))
theorem dx.calls (k : Nat) (l : ByteArray) (r : Bool) (w : World) (h : dx.f k l = some r) :
  Calls Tryz.prog 144 #[.string l] w fun e w' => e = .returned (.bool r) ∧ dM w w' := by
 unfold dx.f at h;have H := h;clear h;replace H := be H; obtain ⟨A, A2, H⟩ := H;replace H := ah.mk H;go_enter Tryz.func144, Tryz.ntmps144;go_wp2_with (first | ((with_reducible refine aA (f := 63) rfl ?_); refine aY (some 6) Tryz.func63 #[.int .i64 (l.size : Int), .int .i64 1, .int .i64 8] ?_; (with_reducible refine (dN.calls (l.size : Int) 1 8 _ _ A2.out).mono ?_); rintro e w' ⟨rfl, ⟨nd, rfl⟩⟩; refine ⟨_, rfl, ?_⟩; refine dF ?_));refine Hide.mk ?_;replace H := H.out;replace H := ifB H; rcases H with ⟨rfl, H⟩ | ⟨rfl, H⟩
 ·have H' := ah.mk H;clear H;try go_wp2
  go_loopg [10] k (fun kq y w' => ∃ (a : Int), y = .int .i64 a ∧ ah (dx.l0 kq l (l.size : Int) a = some r) ∧ ah (kq ≤ k) ∧ dM w w')
  case atStart => exact ⟨_, EQ, H', ⟨Nat.le_refl _⟩, DR⟩
  case round =>
   clear H';(try clear c3);obtain ⟨a, rfl, HA, m, ⟨m1, rfl⟩⟩ := hrel
   cases gk with
   | zero => exact absurd HA.out (by simp [dx.l0])
   | succ k1 =>
    have H := HA.out;clear HA;simp only [dx.l0] at H;replace H := ifD H; rcases H with ⟨o, H⟩ | ⟨o, H⟩
    ·replace H := ifN H; obtain ⟨D, H⟩ := H;replace H := ifN H; obtain ⟨E, H⟩ := H;have I : (0 ≤ (a : Int)) = True := OT;have J : (a < (l.size : Int)) = True := OT;have hx7 := gX l a;replace H := ifE H; rcases H with ⟨u, x, H⟩ | ⟨c8, u, x, H⟩
     ·have H' := ah.mk H;clear H;go_wp2;go_roundg k1;case measure => have := m.out; omega
      case rel => exact ⟨_, EQ, H', ks m, DR⟩
     ·replace H := be H; obtain ⟨G, z, H⟩ := H;have K : (0 ≤ (a : Int)) = True := OT;have L : (a < (l.size : Int)) = True := OT;have hx9 := gX l a;replace H := ah.mk H;go_wp2_with (first | (go_at_call 123; (with_reducible refine (fE.calls (bt l a) _ _ z.out).mono ?_); rintro e w' ⟨rfl, ⟨nd, rfl⟩⟩; refine dF ?_));refine Hide.mk ?_;replace H := H.out;replace H := ifB H; rcases H with ⟨rfl, H⟩ | ⟨rfl, H⟩
      ·have H' := ah.mk H;clear H;(try go_wp2);go_roundg k1;case measure => have := m.out; omega
       case rel => exact ⟨_, EQ, H', ks m, DR⟩
      ·obtain rfl := Option.some.inj H;(try go_wp2);go_ret;exact ⟨EQ, DR⟩
    ·obtain rfl := Option.some.inj H;go_wp2;go_ret;exact ⟨EQ, DR⟩
 ·obtain rfl := Option.some.inj H;(try go_wp2);go_ret;exact ⟨EQ, DR⟩
mutual
def aX.j0 : Nat → ByteArray → ByteArray → Bool → Option (Bool)
 | 0, _, _, _ => none
 | k + 1, a, b, c => if c = true then (some false) else (aX.l0 k a b (a.size : Int) 0)
def aX.l0 : Nat → ByteArray → ByteArray → Int → Int → Option (Bool)
 | 0, _, _, _, _ => none
 | k + 1, a, b, c, d => if d < c then (if 0 ≤ d then (if d < (a.size : Int) then (if (bt a d) = 63 then (aX.l0 k a b c (wrap64 (d + 1))) else (if d < (b.size : Int) then (if (bt a d) = (bt b d) then (aX.l0 k a b c (wrap64 (d + 1))) else (some false)) else (none))) else (none)) else (none)) else (some true)
end
def aX.f (k : Nat) (a0 a1 : ByteArray) : Option (Bool) := (dx.f k a0).bind fun t579 => (if t579 = true then ((bO.f k a1).bind fun t580 => (if t580 = true then (aX.j0 k a0 a1 ((a0.size : Int) != (a1.size : Int))) else (aX.j0 k a0 a1 true))) else (aX.j0 k a0 a1 true))
theorem aX.calls (k : Nat) (l a1 : ByteArray) (r : Bool) (w : World) (h : aX.f k l a1 = some r) :
  Calls Tryz.prog 92 #[.string l, .string a1] w fun e w' => e = .returned (.bool r) ∧ dM w w' := by
 unfold aX.f at h;have H := h;clear h;have y := ah.mk H;clear H;go_enter Tryz.func92, Tryz.ntmps92;go_upto_region 1 with (fail)
 repeat (go_quiet (fail); go_upto_region 1 with (fail))
 go_cut [20] (fun K wc => ∃ (kq : Nat) (m : Bool), K = .bool m ∧ ah (aX.j0 kq l a1 m = some r) ∧ ah (kq ≤ k) ∧ dM w wc)
 case first =>
  have H := y.out;clear y;replace H := be H; obtain ⟨U, o, H⟩ := H;replace H := ifB H; rcases H with ⟨rfl, H⟩ | ⟨rfl, H⟩
  ·replace H := be H; obtain ⟨X, G, H⟩ := H;replace H := ifB H; rcases H with ⟨rfl, H⟩ | ⟨rfl, H⟩
   ·have H' := ah.mk H;clear H
    repeat (go_wp2_with (first | (go_at_call 144; (with_reducible refine (dx.calls k l _ _ o.out).mono ?_); rintro e w' ⟨rfl, ⟨nd, rfl⟩⟩; (try first | exact da | exact DD)) | (go_at_call 102; (with_reducible refine (bO.calls k a1 _ _ G.out).mono ?_); rintro e w' ⟨rfl, ⟨nd, rfl⟩⟩; (try first | exact da | exact DD))); go_quiet (first | (go_at_call 144; (with_reducible refine (dx.calls k l _ _ o.out).mono ?_); rintro e w' ⟨rfl, ⟨nd, rfl⟩⟩; (try first | exact da | exact DD)) | (go_at_call 102; (with_reducible refine (bO.calls k a1 _ _ G.out).mono ?_); rintro e w' ⟨rfl, ⟨nd, rfl⟩⟩; (try first | exact da | exact DD))))
    go_wp2_with (first | (go_at_call 144; (with_reducible refine (dx.calls k l _ _ o.out).mono ?_); rintro e w' ⟨rfl, ⟨nd, rfl⟩⟩; (try first | exact da | exact DD)) | (go_at_call 102; (with_reducible refine (bO.calls k a1 _ _ G.out).mono ?_); rintro e w' ⟨rfl, ⟨nd, rfl⟩⟩; (try first | exact da | exact DD)));go_meet;case rel => exact ⟨_, _, EQ, H', ⟨by first | omega | exact Nat.le_refl _⟩, DR⟩
   ·have H' := ah.mk H;clear H
    repeat (go_wp2_with (first | (go_at_call 144; (with_reducible refine (dx.calls k l _ _ o.out).mono ?_); rintro e w' ⟨rfl, ⟨nd, rfl⟩⟩; (try first | exact da | exact DD)) | (go_at_call 102; (with_reducible refine (bO.calls k a1 _ _ G.out).mono ?_); rintro e w' ⟨rfl, ⟨nd, rfl⟩⟩; (try first | exact da | exact DD))); go_quiet (first | (go_at_call 144; (with_reducible refine (dx.calls k l _ _ o.out).mono ?_); rintro e w' ⟨rfl, ⟨nd, rfl⟩⟩; (try first | exact da | exact DD)) | (go_at_call 102; (with_reducible refine (bO.calls k a1 _ _ G.out).mono ?_); rintro e w' ⟨rfl, ⟨nd, rfl⟩⟩; (try first | exact da | exact DD))))
    go_wp2_with (first | (go_at_call 144; (with_reducible refine (dx.calls k l _ _ o.out).mono ?_); rintro e w' ⟨rfl, ⟨nd, rfl⟩⟩; (try first | exact da | exact DD)) | (go_at_call 102; (with_reducible refine (bO.calls k a1 _ _ G.out).mono ?_); rintro e w' ⟨rfl, ⟨nd, rfl⟩⟩; (try first | exact da | exact DD)));go_meet;case rel => exact ⟨_, _, EQ, H', ⟨by first | omega | exact Nat.le_refl _⟩, DR⟩
  ·have H' := ah.mk H;clear H
   repeat (go_wp2_with (first | (go_at_call 144; (with_reducible refine (dx.calls k l _ _ o.out).mono ?_); rintro e w' ⟨rfl, ⟨nd, rfl⟩⟩; (try first | exact da | exact DD))); go_quiet (first | (go_at_call 144; (with_reducible refine (dx.calls k l _ _ o.out).mono ?_); rintro e w' ⟨rfl, ⟨nd, rfl⟩⟩; (try first | exact da | exact DD))))
   go_wp2_with (first | (go_at_call 144; (with_reducible refine (dx.calls k l _ _ o.out).mono ?_); rintro e w' ⟨rfl, ⟨nd, rfl⟩⟩; (try first | exact da | exact DD)));go_meet;case rel => exact ⟨_, _, EQ, H', ⟨by first | omega | exact Nat.le_refl _⟩, DR⟩
 case rest =>
  clear y;obtain ⟨kq, m, rfl, HA, u, ⟨mc2, rfl⟩⟩ := hcut
  cases kq with
  | zero => exact absurd HA.out (by simp [aX.j0])
  | succ I =>
   have H := HA.out;clear HA;simp only [aX.j0] at H;replace H := ifB H; rcases H with ⟨rfl, H⟩ | ⟨rfl, H⟩
   ·obtain rfl := Option.some.inj H;go_wp2
    repeat (go_quiet (fail); try go_wp2)
    go_ret;exact ⟨EQ, DR⟩
   ·have H' := ah.mk H;clear H;go_wp2
    repeat (go_quiet (fail); try go_wp2)
    go_loopg [23] I (fun kq L w' => ∃ (a : Int), L = .int .i64 a ∧ ah (aX.l0 kq l a1 (l.size : Int) a = some r) ∧ ah (kq ≤ I) ∧ dM w w')
    case atStart => exact ⟨_, EQ, H', ⟨Nat.le_refl _⟩, DR⟩
    case round =>
     clear H';(try clear c8);obtain ⟨a, rfl, HA, x, ⟨m2, rfl⟩⟩ := hrel
     cases gk with
     | zero => exact absurd HA.out (by simp [aX.l0])
     | succ k2 =>
      have H := HA.out;clear HA;simp only [aX.l0] at H;replace H := ifD H; rcases H with ⟨J, H⟩ | ⟨J, H⟩
      ·replace H := ifN H; obtain ⟨M, H⟩ := H;replace H := ifN H; obtain ⟨O, H⟩ := H;have Y : (0 ≤ (a : Int)) = True := OT;have Z : (a < (l.size : Int)) = True := OT;have hx12 := gX l a;replace H := ifE H; rcases H with ⟨z, A, H⟩ | ⟨xa, z, A, H⟩
       ·have H' := ah.mk H;clear H;go_wp2
        repeat (go_quiet (fail); try go_wp2)
        go_roundg k2;case measure => have := u.out; have := x.out; omega
        case rel => exact ⟨_, EQ, H', ⟨by have := u.out; have := x.out; omega⟩, DR⟩
       ·replace H := ifN H; obtain ⟨P, H⟩ := H;have xb : (0 ≤ (a : Int)) = True := OT;have xc : (a < (l.size : Int)) = True := OT;have hx14 := gX l a;have xd : (0 ≤ (a : Int)) = True := OT;have xe : (a < (a1.size : Int)) = True := OT;have hx16 := gX a1 a;replace H := ifE H; rcases H with ⟨D, E, H⟩ | ⟨xf, D, E, H⟩
        ·have H' := ah.mk H;clear H;go_wp2
         repeat (go_quiet (fail); try go_wp2)
         go_roundg k2;case measure => have := u.out; have := x.out; omega
         case rel => exact ⟨_, EQ, H', ⟨by have := u.out; have := x.out; omega⟩, DR⟩
        ·obtain rfl := Option.some.inj H;go_wp2
         repeat (go_quiet (fail); try go_wp2)
         go_ret;exact ⟨EQ, DR⟩
      ·obtain rfl := Option.some.inj H;go_wp2
       repeat (go_quiet (fail); try go_wp2)
       go_ret;exact ⟨EQ, DR⟩
def fB.l0 : Nat → List (S73) → Int → Int → ByteArray → Int → Option (Int)
 | 0, _, _, _, _, _ => none
 | k + 1, a, b, c, d, e => if c < b then (if 0 ≤ c then (if c < (a.length : Int) then (if (d.toList == (((fF a c).f0).toList) && (e == ((fF a c).f1))) = true then (some c) else (fB.l0 k a b (wrap64 (c + 1)) d e)) else (none)) else (none)) else (some (-1))
def fB.f (k : Nat) (l0 : List (S73)) (a1_0 : ByteArray) (a1_1 : Int) : Option (Int) := fB.l0 k l0 (l0.length : Int) 0 a1_0 a1_1
theorem fB.calls (k : Nat) (A0 : Option Addr) (c0 : Nat) (l0 : List (S73)) (a1_0 : ByteArray) (a1_1 r : Int) (w : World) (hr0 : Kd.C k73 w A0 l0.length l0) (hc0 : l0.length ≤ c0) (h : fB.f k l0 a1_0 a1_1 = some r) :
  Calls Tryz.prog 190 #[.slice A0 l0.length c0, .agg #[.string a1_0, .int .i64 a1_1]] w fun e w' => e = .returned (.int .i64 r) ∧ Below w.heap.size w w' := by
 have hu73 := Tryz.underlying73
 have HR0 := ah.mk hr0
 have HC0 := ah.mk hc0
 clear hr0 hc0
 have HB := ah.mk (Below.refl w.heap.size w)
 unfold fB.f at h
 have H := h
 clear h
 have H' := ah.mk H
 clear H
 go_enter Tryz.func190, Tryz.ntmps190
 repeat (go_wp2_with (first | ((with_reducible refine aK (N := 3) rfl ?_); refine bA (N := 3) (cs := #[.string a1_0, .int .i64 a1_1]) (t := 73) ?_; intro gb581 hg w3 hbox hb; have BK581 := ah.mk hbox; have GW581 := SZ (w := w) hg; have GE581 := GW581; replace HB := BS (w := w) hb; clear hb hbox hg)); go_quiet (first | ((with_reducible refine aK (N := 3) rfl ?_); refine bA (N := 3) (cs := #[.string a1_0, .int .i64 a1_1]) (t := 73) ?_; intro gb581 hg w3 hbox hb; have BK581 := ah.mk hbox; have GW581 := SZ (w := w) hg; have GE581 := GW581; replace HB := BS (w := w) hb; clear hb hbox hg)))
 go_wp2_with (first | ((with_reducible refine aK (N := 3) rfl ?_); refine bA (N := 3) (cs := #[.string a1_0, .int .i64 a1_1]) (t := 73) ?_; intro gb581 hg w3 hbox hb; have BK581 := ah.mk hbox; have GW581 := SZ (w := w) hg; have GE581 := GW581; replace HB := BS (w := w) hb; clear hb hbox hg))
 go_loopg [8] k (fun kq v8 w' => ∃ (x8_1 : Int), v8 = .int .i64 x8_1 ∧ ah (fB.l0 kq l0 (l0.length : Int) x8_1 a1_0 a1_1 = some r) ∧ ah (kq ≤ k) ∧ ah (w'.heap[gb581]? = some (.cells #[.string a1_0, .int .i64 a1_1] 73 (0, 0))) ∧ ah (Below w.heap.size w w'))
 case atStart => exact ⟨(0), EQ, H', ⟨Nat.le_refl _⟩, ⟨BK⟩, ⟨BL⟩⟩
 case round =>
  clear H'
  obtain ⟨x8_1, rfl, HA, HK1, BK581, HB⟩ := hrel
  cases gk with
  | zero => exact absurd HA.out (by simp [fB.l0])
  | succ k1 =>
   have H := HA.out
   clear HA
   simp only [fB.l0] at H
   replace H := ifD H; rcases H with ⟨c4b0, H⟩ | ⟨c4b0, H⟩
   ·replace H := ifN H; obtain ⟨c5b0, H⟩ := H
    replace H := ifN H; obtain ⟨c6b0, H⟩ := H
    obtain ⟨hcz7000_0, hcz7000_1, hfz7000_0, hfz7000_1⟩ := cz2 BK581.out
    have p582 : 0 ≤ (x8_1 : Int) := OD
    have q582 : x8_1 < (l0.length : Int) := OD
    obtain ⟨ad582, e582, hx582_0, hx582_1⟩ := wK HR0.out x8_1 p582 q582
    cases e582
    try replace hx582_0 := (HB.out.cell (World.block_lt_of_cell? w _ hx582_0)).trans hx582_0
    try replace hx582_1 := (HB.out.cell (World.block_lt_of_cell? w _ hx582_1)).trans hx582_1
    replace p582 := eq_true p582
    replace q582 := eq_true q582
    by_cases c7 : (a1_0.toList == (((fF l0 x8_1).f0).toList) && (a1_1 == ((fF l0 x8_1).f1))) = true
    ·rw [if_pos c7] at H
     have c7b0 : (a1_0.toList == (((fF l0 x8_1).f0).toList) && (a1_1 == ((fF l0 x8_1).f1))) = true := c7
     (try (have c7b1 : decide (a1_0.toList = (((fF l0 x8_1).f0).toList) && (a1_1 == ((fF l0 x8_1).f1))) = true := by simpa using c7))
     (try (have c7b2 : (a1_0.toList == (((fF l0 x8_1).f0).toList) && (a1_1 == ((fF l0 x8_1).f1))) = true := by simpa using c7))
     clear c7
     obtain rfl := Option.some.inj H
     go_wp2
     repeat (go_quiet (fail); try go_wp2)
     go_ret
     exact ⟨EWW, BL⟩
    ·rw [if_neg c7] at H
     have c7b0 : (a1_0.toList == (((fF l0 x8_1).f0).toList) && (a1_1 == ((fF l0 x8_1).f1))) = false := by simpa using c7
     (try (have c7b1 : decide (a1_0.toList = (((fF l0 x8_1).f0).toList) && (a1_1 == ((fF l0 x8_1).f1))) = false := by simpa using c7))
     (try (have c7b2 : (a1_0.toList == (((fF l0 x8_1).f0).toList) && (a1_1 == ((fF l0 x8_1).f1))) = false := by simpa using c7))
     (try (have c7b3 : ¬ (a1_0.toList = (((fF l0 x8_1).f0).toList) && (a1_1 == ((fF l0 x8_1).f1))) := by simpa using c7))
     clear c7
     have H' := ah.mk H
     clear H
     go_wp2
     repeat (go_quiet (fail); try go_wp2)
     go_roundg k1
     case measure => have := HK1.out; omega
     case rel => exact ⟨(wrap64 (x8_1 + 1)), EQ, H', ⟨by have := HK1.out; omega⟩, ⟨BK⟩, ⟨BL⟩⟩
   ·obtain rfl := Option.some.inj H
    go_wp2
    repeat (go_quiet (fail); try go_wp2)
    go_ret
    exact ⟨EWW, BL⟩
def jB.f (k : Nat) (l0 : List (S73)) (a1_0 : ByteArray) (a1_1 : Int) : Option (Bool) := (fB.f k l0 a1_0 a1_1).bind fun t584 => (some (decide (t584 ≥ 0)))
theorem jB.calls (k : Nat) (A0 : Option Addr) (c0 : Nat) (l0 : List (S73)) (a1_0 : ByteArray) (a1_1 : Int) (r : Bool) (w : World) (hr0 : Kd.C k73 w A0 l0.length l0) (hc0 : l0.length ≤ c0) (h : jB.f k l0 a1_0 a1_1 = some r) :
  Calls Tryz.prog 145 #[.slice A0 l0.length c0, .agg #[.string a1_0, .int .i64 a1_1]] w fun e w' => e = .returned (.bool r) ∧ Below w.heap.size w w' := by
 have hu73 := Tryz.underlying73
 have HR0 := ah.mk hr0
 have HC0 := ah.mk hc0
 clear hr0 hc0
 have HB := ah.mk (Below.refl w.heap.size w)
 unfold jB.f at h
 have H := h
 clear h
 replace H := be H; obtain ⟨t584, A3, H⟩ := H
 obtain rfl := Option.some.inj H
 go_enter Tryz.func145, Tryz.ntmps145
 go_wp2_with (first | ((with_reducible refine aK (N := 3) rfl ?_); refine bA (N := 3) (cs := #[.string a1_0, .int .i64 a1_1]) (t := 73) ?_; intro gb583 hg w4 hbox hb; have BK583 := ah.mk hbox; have GW583 := SZ (w := w) hg; have GE583 := GW583; replace HB := BS (w := w) hb; clear hb hbox hg; obtain ⟨hcz5_0, hcz5_1, hfz5_0, hfz5_1⟩ := cz2 BK583.out) | ((with_reducible refine aA (f := 190) rfl ?_); refine aY (some 7) Tryz.func190 #[.slice A0 l0.length c0, .agg #[.string a1_0, .int .i64 a1_1]] ?_; (with_reducible refine (fB.calls k _ _ l0 a1_0 a1_1 t584 _ ?side1 ?side2 A3.out).mono ?_); (case side1 => exact CB HR0); (case side2 => exact HC0.out); rintro e w6 ⟨rfl, hb⟩; refine ⟨_, rfl, ?_⟩; replace BK583 := KB BK583 hb; replace HB := BS (w := w) hb; (try clear hb)))
 go_ret
 exact ⟨EWW, BL⟩
def iE.f (k : Nat) (l0 : List (S73)) (a1 : ByteArray) (a2 : Int) : Option (Bool) := (jB.f k l0 a1 a2).bind fun t585 => (some t585)
theorem iE.calls (k : Nat) (u : Option Addr) (x : Nat) (l0 : List (S73)) (a1 : ByteArray) (o : Int) (r : Bool) (w : World) (a : Kd.C k73 w u l0.length l0) (l : l0.length ≤ x) (h : iE.f k l0 a1 o = some r) :
  Calls Tryz.prog 93 #[.slice u l0.length x, .string a1, .int .i64 o] w fun e w' => e = .returned (.bool r) ∧ Below w.heap.size w w' := by
 have A := Tryz.underlying73;have y := ah.mk a;have z := ah.mk l;clear a l;have HB := ah.mk (Below.refl w.heap.size w);unfold iE.f at h;have H := h;clear h;replace H := be H; obtain ⟨m, D, H⟩ := H;obtain rfl := Option.some.inj H;go_enter Tryz.func93, Tryz.ntmps93;go_wp2_with (first | ((with_reducible refine aA (f := 145) rfl ?_); refine aY (some 11) Tryz.func145 #[.slice u l0.length x, .agg #[.string a1, .int .i64 o]] ?_; (with_reducible refine (jB.calls k _ _ l0 a1 o m _ ?side1 ?side2 D.out).mono ?_); (case side1 => repeat (first | exact y.out | (with_reducible refine Kd.dh ?_ _) | (with_reducible refine Kd.dn ?_ _) | (with_reducible refine Kd.dY ?_))); (case side2 => exact z.out); rintro e E ⟨rfl, hb⟩; refine ⟨_, rfl, ?_⟩; replace HB := BS (w := w) hb; (try clear hb)));go_ret;exact ⟨EWW, BL⟩
def jh.f (k : Nat) (a0 : ByteArray) : Option (ByteArray) := (bO.f k a0).bind fun t => (if t = true then (if a0.size ≤ 12 then (some (strOfNums (Go.Proofs.YtikmdgmnhbodjaaGreat.HandSort.sorted a0))) else (none)) else (none))
theorem jh.calls (k : Nat) (a r : ByteArray) (w : World) (h : jh.f k a = some r) :
  Calls Tryz.prog 210 #[.string a] w fun e w' => e = .returned (.string r) ∧ Below w.heap.size w w' := by
 obtain ⟨t, h1, h2⟩ := Option.bind_eq_some_iff.mp h
 cases t with
 | false => simp at h2
 | true =>
  rw [if_pos rfl] at h2;by_cases h3 : a.size ≤ 12
  ·rw [if_pos h3] at h2;obtain rfl := Option.some.inj h2;exact Go.Proofs.YtikmdgmnhbodjaaGreat.HandSort.zT a w h3 ((bO.calls k a true w h1).mono fun e w' hq => ⟨hq.1, hq.2.out⟩)
  ·rw [if_neg h3] at h2
   cases h2
def iY.f (k : Nat) (a0 a1 : ByteArray) : Option (Bool) := (bO.f k a0).bind fun t586 => (if t586 = true then ((bO.f k a1).bind fun t587 => (if t587 = true then (if a0.toList = a1.toList then (some false) else ((jh.f k a0).bind fun t588 => ((jh.f k a1).bind fun t589 => (some (t588.toList == t589.toList))))) else (some false))) else (some false))
theorem iY.calls (k : Nat) (a a1 : ByteArray) (r : Bool) (w : World) (h : iY.f k a a1 = some r) :
  Calls Tryz.prog 192 #[.string a, .string a1] w fun e w' => e = .returned (.bool r) ∧ Below w.heap.size w w' := by
 have HB := ah.mk (Below.refl w.heap.size w);unfold iY.f at h;have H := h;clear h;replace H := be H; obtain ⟨z, A3, H⟩ := H;replace H := ah.mk H;go_enter Tryz.func192, Tryz.ntmps192;go_wp2_with (first | ((with_reducible refine aA (f := 102) rfl ?_); refine aY (some 6) Tryz.func102 #[.string a] ?_; (with_reducible refine (bO.calls k a _ _ A3.out).mono ?_); rintro e w' ⟨rfl, ⟨nd, rfl⟩⟩; refine ⟨_, rfl, ?_⟩; refine dF ?_));refine Hide.mk ?_;replace H := H.out;replace H := ifB H; rcases H with ⟨rfl, H⟩ | ⟨rfl, H⟩
 ·replace H := be H; obtain ⟨A, D, H⟩ := H;replace H := ah.mk H;go_wp2_with (first | (go_at_call 102; (with_reducible refine (bO.calls k a1 _ _ D.out).mono ?_); rintro e w' ⟨rfl, ⟨nd, rfl⟩⟩; refine dF ?_));refine Hide.mk ?_;replace H := H.out;replace H := ifB H; rcases H with ⟨rfl, H⟩ | ⟨rfl, H⟩
  ·replace H := ifE H; rcases H with ⟨l, m, H⟩ | ⟨c7, l, m, H⟩
   ·obtain rfl := Option.some.inj H;(try go_wp2);go_ret;exact ⟨EWW, BL⟩
   ·replace H := be H; obtain ⟨o, E, H⟩ := H;replace H := be H; obtain ⟨u, G, H⟩ := H;obtain rfl := Option.some.inj H;(try go_wp2_with (first | (go_at_call 210; (with_reducible refine (jh.calls k a o _ E.out).mono ?_); rintro e x ⟨rfl, hb⟩; replace HB := BS (w := w) hb; (try clear hb)) | (go_at_call 210; (with_reducible refine (jh.calls k a1 u _ G.out).mono ?_); rintro e y ⟨rfl, hb⟩; replace HB := BS (w := w) hb; (try clear hb))));go_ret;exact ⟨EWW, BL⟩
  ·obtain rfl := Option.some.inj H;(try go_wp2);go_ret;exact ⟨EWW, BL⟩
 ·obtain rfl := Option.some.inj H;(try go_wp2);go_ret;exact ⟨EWW, BL⟩
def lu.f (k : Nat) (a0 : ByteArray) : Option (ByteArray) := (bO.f k a0).bind fun t590 => (if t590 = true then (if 0 ≤ 1 then (if 1 ≤ (a0.size : Int) then (some (a0.extract 0 1)) else (none)) else (none)) else (some (⟨#[]⟩ : ByteArray)))
theorem lu.calls (k : Nat) (a r : ByteArray) (w : World) (h : lu.f k a = some r) :
  Calls Tryz.prog 193 #[.string a] w fun e w' => e = .returned (.string r) ∧ dM w w' := by
 unfold lu.f at h;have H := h;clear h;replace H := be H; obtain ⟨l, A2, H⟩ := H;replace H := ah.mk H;go_enter Tryz.func193, Tryz.ntmps193;go_wp2_with (first | ((with_reducible refine aA (f := 102) rfl ?_); refine aY (some 4) Tryz.func102 #[.string a] ?_; (with_reducible refine (bO.calls k a _ _ A2.out).mono ?_); rintro e w' ⟨rfl, ⟨nd, rfl⟩⟩; refine ⟨_, rfl, ?_⟩; refine dF ?_));refine Hide.mk ?_;replace H := H.out;replace H := ifB H; rcases H with ⟨rfl, H⟩ | ⟨rfl, H⟩
 ·replace H := ifP H; obtain ⟨c4, H⟩ := H;have m := eq_true c4;have o : decide (0 ≤ 1) = true := decide_eq_true c4;clear c4;replace H := ifP H; obtain ⟨c5, H⟩ := H;have u := eq_true c5;have x : decide (1 ≤ (a.size : Int)) = true := decide_eq_true c5;clear c5;obtain rfl := Option.some.inj H;(try go_wp2);go_ret;exact ⟨EQ, DR⟩
 ·obtain rfl := Option.some.inj H;(try go_wp2);go_ret;exact ⟨EQ, DR⟩
def ji.f (k : Nat) (a0 : ByteArray) : Option (ByteArray) := (bO.f k a0).bind fun t591 => (if t591 = true then (if 1 ≤ (a0.size : Int) then (some (a0.extract 1 a0.size)) else (none)) else (some (⟨#[]⟩ : ByteArray)))
theorem ji.calls (k : Nat) (a r : ByteArray) (w : World) (h : ji.f k a = some r) :
  Calls Tryz.prog 194 #[.string a] w fun e w' => e = .returned (.string r) ∧ dM w w' := by
 unfold ji.f at h;have H := h;clear h;replace H := be H; obtain ⟨l, A2, H⟩ := H;replace H := ah.mk H;go_enter Tryz.func194, Tryz.ntmps194;go_wp2_with (first | ((with_reducible refine aA (f := 102) rfl ?_); refine aY (some 4) Tryz.func102 #[.string a] ?_; (with_reducible refine (bO.calls k a _ _ A2.out).mono ?_); rintro e w' ⟨rfl, ⟨nd, rfl⟩⟩; refine ⟨_, rfl, ?_⟩; refine dF ?_));refine Hide.mk ?_;replace H := H.out;replace H := ifB H; rcases H with ⟨rfl, H⟩ | ⟨rfl, H⟩
 ·replace H := ifP H; obtain ⟨c4, H⟩ := H;have m := eq_true c4;have o : decide (1 ≤ (a.size : Int)) = true := decide_eq_true c4;clear c4;obtain rfl := Option.some.inj H;(try go_wp2);go_ret;exact ⟨EQ, DR⟩
 ·obtain rfl := Option.some.inj H;(try go_wp2);go_ret;exact ⟨EQ, DR⟩
def jk.f (k : Nat) (a0 : ByteArray) : Option (ByteArray) := (bO.f k a0).bind fun t592 => (if t592 = true then (if 0 ≤ (wrap64 ((a0.size : Int) - 1)) then (if (wrap64 ((a0.size : Int) - 1)) ≤ (a0.size : Int) then (some (a0.extract 0 ((wrap64 ((a0.size : Int) - 1)) : Int).toNat)) else (none)) else (none)) else (some (⟨#[]⟩ : ByteArray)))
theorem jk.calls (k : Nat) (a r : ByteArray) (w : World) (h : jk.f k a = some r) :
  Calls Tryz.prog 195 #[.string a] w fun e w' => e = .returned (.string r) ∧ dM w w' := by
 unfold jk.f at h;have H := h;clear h;replace H := be H; obtain ⟨l, A2, H⟩ := H;replace H := ah.mk H;go_enter Tryz.func195, Tryz.ntmps195;go_wp2_with (first | ((with_reducible refine aA (f := 102) rfl ?_); refine aY (some 4) Tryz.func102 #[.string a] ?_; (with_reducible refine (bO.calls k a _ _ A2.out).mono ?_); rintro e w' ⟨rfl, ⟨nd, rfl⟩⟩; refine ⟨_, rfl, ?_⟩; refine dF ?_));refine Hide.mk ?_;replace H := H.out;replace H := ifB H; rcases H with ⟨rfl, H⟩ | ⟨rfl, H⟩
 ·obtain ⟨ji4, hji4⟩ : ∃ j_ : Int, (wrap64 ((a.size : Int) - 1)) = j_ := ⟨_, rfl⟩;replace H : (if 0 ≤ (ji4) then (if (ji4) ≤ (a.size : Int) then (some (a.extract 0 ((ji4) : Int).toNat)) else (none)) else (none)) = some r := by first | (rw [hji4] at H; exact H) | (simp only [hji4] at H ⊢; exact H)
  (try rw [hji4] at A2);have hji4w : (IntKind.i64.wrap ((a.size : Int) - 1)) = ji4 := (iQ _).trans hji4;replace H := ifP H; obtain ⟨c5, H⟩ := H;have m := eq_true c5;have o : decide (0 ≤ (ji4)) = true := decide_eq_true c5;clear c5;replace H := ifP H; obtain ⟨c6, H⟩ := H;have u := eq_true c6;have x : decide ((ji4) ≤ (a.size : Int)) = true := decide_eq_true c6;clear c6;obtain rfl := Option.some.inj H;(try go_wp2);go_ret;exact ⟨by first | rfl | (simp; done) | (simp only [← hji4] <;> (first | rfl | simp)) | (simp [*]; done), DR⟩
 ·obtain rfl := Option.some.inj H;(try go_wp2);go_ret;exact ⟨EQ, DR⟩
mutual
def dP.j0 : Nat → ByteArray → ByteArray → Bool → Option (Bool)
 | 0, _, _, _ => none
 | k + 1, a, b, c => if c = true then (some false) else (dP.l0 k a b 1)
def dP.l0 : Nat → ByteArray → ByteArray → Int → Option (Bool)
 | 0, _, _, _ => none
 | k + 1, a, b, c => if (wrap64 (c + (a.size : Int))) < (b.size : Int) then (if 0 ≤ c then (if c ≤ (wrap64 (c + (a.size : Int))) then (if (wrap64 (c + (a.size : Int))) ≤ (b.size : Int) then (if (b.extract (c : Int).toNat ((wrap64 (c + (a.size : Int))) : Int).toNat).toList = a.toList then (some true) else (dP.l0 k a b (wrap64 (c + 1)))) else (none)) else (none)) else (none)) else (some false)
end
def dP.f (k : Nat) (a0 a1 : ByteArray) : Option (Bool) := (bO.f k a0).bind fun t593 => (if t593 = true then ((bO.f k a1).bind fun t594 => (dP.j0 k a0 a1 (!t594))) else (dP.j0 k a0 a1 true))
theorem dP.calls (k : Nat) (m a1 : ByteArray) (r : Bool) (w : World) (h : dP.f k m a1 = some r) :
  Calls Tryz.prog 196 #[.string m, .string a1] w fun e w' => e = .returned (.bool r) ∧ dM w w' := by
 unfold dP.f at h;have H := h;clear h;have o := ah.mk H;clear H;go_enter Tryz.func196, Tryz.ntmps196;go_upto_region 1 with (fail)
 go_cut [13] (fun I wc => ∃ (kq : Nat) (l : Bool), I = .bool l ∧ ah (dP.j0 kq m a1 l = some r) ∧ ah (kq ≤ k) ∧ dM w wc)
 case first =>
  have H := o.out;clear o;replace H := be H; obtain ⟨O, X, H⟩ := H;replace H := ah.mk H;go_wp2_with (first | ((with_reducible refine aA (f := 102) rfl ?_); refine aY (some 7) Tryz.func102 #[.string m] ?_; (with_reducible refine (bO.calls k m _ _ X.out).mono ?_); rintro e w' ⟨rfl, ⟨nd, rfl⟩⟩; refine ⟨_, rfl, ?_⟩; refine dF ?_));refine Hide.mk ?_;replace H := H.out;replace H := ifB H; rcases H with ⟨rfl, H⟩ | ⟨rfl, H⟩
  ·replace H := be H; obtain ⟨y, Y, H⟩ := H;have H' := ah.mk H;clear H;(try go_wp2_with (first | (go_at_call 102; (with_reducible refine (bO.calls k a1 y _ Y.out).mono ?_); rintro e w' ⟨rfl, ⟨nd, rfl⟩⟩)));go_meet;case rel => exact ⟨_, _, EQ, H', ⟨by first | omega | exact Nat.le_refl _⟩, DR⟩
  ·have H' := ah.mk H;clear H;(try go_wp2);go_meet;case rel => exact ⟨_, _, EQ, H', ⟨by first | omega | exact Nat.le_refl _⟩, DR⟩
 case rest =>
  clear o;obtain ⟨kq, l, rfl, HA, z, ⟨mc2, rfl⟩⟩ := hcut
  cases kq with
  | zero => exact absurd HA.out (by simp [dP.j0])
  | succ A =>
   have H := HA.out;clear HA;simp only [dP.j0] at H;replace H := ifB H; rcases H with ⟨rfl, H⟩ | ⟨rfl, H⟩
   ·obtain rfl := Option.some.inj H;go_wp2;go_ret;exact ⟨EQ, DR⟩
   ·have H' := ah.mk H;clear H;go_wp2
    go_loopg [5] A (fun kq Z w' => ∃ (a : Int), Z = .int .i64 a ∧ ah (dP.l0 kq m a1 a = some r) ∧ ah (kq ≤ A) ∧ dM w w')
    case atStart => exact ⟨_, EQ, H', ⟨Nat.le_refl _⟩, DR⟩
    case round =>
     clear H';(try clear c7);obtain ⟨a, rfl, HA, D, ⟨m2, rfl⟩⟩ := hrel
     cases gk with
     | zero => exact absurd HA.out (by simp [dP.l0])
     | succ k2 =>
      have H := HA.out;clear HA;simp only [dP.l0] at H;replace H := ifD H; rcases H with ⟨E, H⟩ | ⟨E, H⟩
      ·replace H := ifP H; obtain ⟨c9, H⟩ := H;have P := eq_true c9;have U : decide (0 ≤ a) = true := decide_eq_true c9;clear c9;replace H := ifP H; obtain ⟨c10, H⟩ := H;have J := eq_true c10;have K : decide (a ≤ (wrap64 (a + (m.size : Int)))) = true := decide_eq_true c10;replace H := ifP H; obtain ⟨G, H⟩ := H;have L := eq_true G;have M : decide ((wrap64 (a + (m.size : Int))) ≤ (a1.size : Int)) = true := decide_eq_true G;replace H := ifE H; rcases H with ⟨u, x, H⟩ | ⟨xa, u, x, H⟩
       ·obtain rfl := Option.some.inj H;go_wp2;go_ret;exact ⟨EQ, DR⟩
       ·have H' := ah.mk H;clear H;go_wp2;go_roundg k2;case measure => have := z.out; have := D.out; omega
        case rel => exact ⟨_, EQ, H', ⟨by have := z.out; have := D.out; omega⟩, DR⟩
      ·obtain rfl := Option.some.inj H;go_wp2;go_ret;exact ⟨EQ, DR⟩
mutual
def bB.l0 : Nat → List (bW) → ByteArray → Int → Int → ByteArray → Int → Int → Option (Bool)
 | 0, _, _, _, _, _, _, _ => none
 | k + 1, a, b, c, d, e, f, g => if c < (b.size : Int) then (if 0 ≤ c then (if c ≤ (b.size : Int) then ((bB.f k a f (b.extract 0 (c : Int).toNat)).bind fun h => (if h = true then ((bB.f k a g (b.extract (c : Int).toNat b.size)).bind fun i => (if i = true then (some true) else (bB.l0 k a b (wrap64 (c + 1)) d e f g))) else (bB.l0 k a b (wrap64 (c + 1)) d e f g))) else (none)) else (none)) else (some false)
def bB.l1 : Nat → List (bW) → ByteArray → Int → Int → ByteArray → Int → Int → Option (Bool)
 | 0, _, _, _, _, _, _, _ => none
 | k + 1, a, b, c, d, e, f, g => if c < (b.size : Int) then (bB.l2 k a b c (wrap64 (c + 1)) d e f g) else (some false)
def bB.l2 : Nat → List (bW) → ByteArray → Int → Int → Int → ByteArray → Int → Int → Option (Bool)
 | 0, _, _, _, _, _, _, _, _ => none
 | k + 1, a, b, c, d, e, f, g, h => if d < (b.size : Int) then (if 0 ≤ c then (if c ≤ d then (if d ≤ (b.size : Int) then ((bB.f k a h (b.extract (c : Int).toNat (d : Int).toNat)).bind fun i => (if i = true then (if c ≤ (b.size : Int) then (if 0 ≤ d then (if (b.extract 0 (c : Int).toNat).size + (b.extract (d : Int).toNat b.size).size ≤ 9223372036854775807 then ((bB.f k a g ((b.extract 0 (c : Int).toNat) ++ (b.extract (d : Int).toNat b.size))).bind fun j => (if j = true then (some true) else (bB.l2 k a b c (wrap64 (d + 1)) e f g h))) else (none)) else (none)) else (none)) else (bB.l2 k a b c (wrap64 (d + 1)) e f g h))) else (none)) else (none)) else (none)) else (bB.l1 k a b (wrap64 (c + 1)) e f g h)
def bB.f : Nat → List (bW) → Int → ByteArray → Option (Bool)
 | 0, _, _, _ => none
 | k + 1, a, b, c => if 0 ≤ b then (if b < (a.length : Int) then (if c.toList = ([] : List UInt8) then (some false) else (if 0 ≤ ((aj a b).f2) then (if ((aj a b).f2) < (a.length : Int) then (if ((aj a b).f0) = 1 then (some (c.toList == ((aj a b).f1).toList)) else (if ((aj a b).f0) = 2 then ((iN.f c).bind fun d => ((bB.f k a ((aj a b).f2) d).bind fun e => (some e))) else (if ((aj a b).f0) = 3 then ((iY.f k ((aj a ((aj a b).f2)).f1) c).bind fun f => (some f)) else (if ((aj a b).f0) = 4 then (bB.l0 k a c 1 ((aj a b).f0) ((aj a b).f1) ((aj a b).f2) ((aj a b).f3)) else (if ((aj a b).f0) = 5 then (bB.l1 k a c 1 ((aj a b).f0) ((aj a b).f1) ((aj a b).f2) ((aj a b).f3)) else (if ((aj a b).f0) = 6 then ((lu.f k ((aj a ((aj a b).f2)).f1)).bind fun g => (some (c.toList == g.toList))) else (if ((aj a b).f0) = 7 then ((ji.f k ((aj a ((aj a b).f2)).f1)).bind fun h => (some (c.toList == h.toList))) else (if ((aj a b).f0) = 8 then ((jk.f k ((aj a ((aj a b).f2)).f1)).bind fun i => (some (c.toList == i.toList))) else (if ((aj a b).f0) = 9 then ((dP.f k c ((aj a ((aj a b).f2)).f1)).bind fun j => (some j)) else (some false)))))))))) else (none)) else (none))) else (none)) else (none)
end
def bB.T16 : Bool × List (List Nat × List Nat) := (true, [([], []), ([], []), ([1], [1]), ([], []), ([], []), ([3, 4], [3, 4]), ([0, 2, 5], [0, 2, 5]), ([6, 6], [6]), ([7], [7]), ([7], [7]), ([9, 7], [7, 9]), ([7], [7]), ([7], [7]), ([11, 12, 7], [7, 11, 12]), ([8, 10, 13, 7, 7], [7, 8, 10, 13]), ([7, 14], [7, 14])])
def bB.B16 : List Nat := [0, 0, 2, 0, 0, 24, 63, 127, 255, 255, 767, 255, 255, 6399, 16383, 32767]
theorem bB.JH : mO .any (opsOf Tryz.f146 16) = bB.T16 := by kernel_rfl
theorem bB.IW : kC bB.T16.2 bB.B16 = true := by kernel_rfl
def bB.T25 : Bool × List (List Nat × List Nat) := (true, [([], []), ([], []), ([1], [1]), ([], []), ([], []), ([], []), ([3, 4, 5], [3, 4, 5]), ([0, 2, 6], [0, 2, 6]), ([7, 7], [7]), ([8], [8]), ([8], [8]), ([10, 8], [8, 10]), ([8], [8]), ([8], [8]), ([12, 13, 8], [8, 12, 13]), ([8], [8]), ([8], [8]), ([15, 16, 8], [8, 15, 16]), ([14, 17, 8], [8, 14, 17]), ([9, 11, 18, 8, 8], [8, 9, 11, 18]), ([8, 19], [8, 19])])
def bB.B25 : List Nat := [0, 0, 2, 0, 0, 0, 56, 127, 255, 511, 511, 1535, 511, 511, 12799, 511, 511, 98815, 258559, 524287, 1048575]
theorem bB.JI : mO .any (opsOf Tryz.f146 25) = bB.T25 := by kernel_rfl
theorem bB.IX : kC bB.T25.2 bB.B25 = true := by kernel_rfl
theorem bB.calls (k : Nat) : ∀ (A0 : Option Addr) (c0 : Nat) (l0 : List (bW)) (a1 : Int) (D : ByteArray) (r : Bool) (w : World) (xP : Kd.C iW w A0 l0.length l0) (xQ : l0.length ≤ c0) (h : bB.f k l0 a1 D = some r),
  Calls Tryz.prog 146 #[.slice A0 l0.length c0, .int .i64 a1, .string D] w fun e w' => e = .returned (.bool r) ∧ Below w.heap.size w w' := by
 induction k using Nat.strongRecOn with
 | _ k ih =>
 intro A0 c0 l0 a1 D r w xP xQ h
 cases k with
 | zero => exact absurd h (by simp [bB.f])
 | succ k =>
 simp only [bB.f] at h;have yy := Tryz.underlying127;have Z := ah.mk xP;have xk := ah.mk xQ;clear xP xQ;have HB := ah.mk (Below.refl w.heap.size w);have H : (if 0 ≤ a1 then (if a1 < (l0.length : Int) then (if D.toList = ([] : List UInt8) then (some false) else (if 0 ≤ ((aj l0 a1).f2) then (if ((aj l0 a1).f2) < (l0.length : Int) then (if ((aj l0 a1).f0) = 1 then (some (D.toList == ((aj l0 a1).f1).toList)) else (if ((aj l0 a1).f0) = 2 then ((iN.f D).bind fun xq => ((bB.f k l0 ((aj l0 a1).f2) xq).bind fun xu => (some xu))) else (if ((aj l0 a1).f0) = 3 then ((iY.f k ((aj l0 ((aj l0 a1).f2)).f1) D).bind fun xv => (some xv)) else (if ((aj l0 a1).f0) = 4 then (bB.l0 k l0 D 1 ((aj l0 a1).f0) ((aj l0 a1).f1) ((aj l0 a1).f2) ((aj l0 a1).f3)) else (if ((aj l0 a1).f0) = 5 then (bB.l1 k l0 D 1 ((aj l0 a1).f0) ((aj l0 a1).f1) ((aj l0 a1).f2) ((aj l0 a1).f3)) else (if ((aj l0 a1).f0) = 6 then ((lu.f k ((aj l0 ((aj l0 a1).f2)).f1)).bind fun xw => (some (D.toList == xw.toList))) else (if ((aj l0 a1).f0) = 7 then ((ji.f k ((aj l0 ((aj l0 a1).f2)).f1)).bind fun xx => (some (D.toList == xx.toList))) else (if ((aj l0 a1).f0) = 8 then ((jk.f k ((aj l0 ((aj l0 a1).f2)).f1)).bind fun xy => (some (D.toList == xy.toList))) else (if ((aj l0 a1).f0) = 9 then ((dP.f k D ((aj l0 ((aj l0 a1).f2)).f1)).bind fun xz => (some xz)) else (some false)))))))))) else (none)) else (none))) else (none)) else (none)) = some r := h;clear h;replace H := ifN H; obtain ⟨yn, H⟩ := H;replace H := ifN H; obtain ⟨yo, H⟩ := H;have xg : 0 ≤ (a1 : Int) := OD;have xh : a1 < (l0.length : Int) := OD;obtain ⟨E, yp, xa, xb, xc, xd⟩ := kQ Z.out a1 xg xh
 cases yp
 replace xg := eq_true xg;replace xh := eq_true xh;replace H := ah.mk H;go_enter Tryz.func146, Tryz.ntmps146;go_wp2_with (first | ((with_reducible refine aK (N := 7) rfl ?_); refine bA (N := 7) (cs := #[.int .i64 0, .string (⟨#[]⟩ : ByteArray), .int .i64 0, .int .i64 0]) (t := 127) ?_; intro l hg xr hbox hb; have a := ah.mk hbox; have xe := SZ (w := w) hg; have yz := xe; replace HB := BS (w := w) hb; clear hb hbox hg; obtain ⟨J, L, M, O, P, U, X, Y⟩ := cz4 a.out; refine dF ?_));refine Hide.mk ?_;replace H := H.out;replace H := ifE H; rcases H with ⟨xN, xO, H⟩ | ⟨c6, xN, xO, H⟩
 ·obtain rfl := Option.some.inj H;(try go_wp2);go_ret;exact ⟨EWW, BL⟩
 ·replace H := ifN H; obtain ⟨yq, H⟩ := H;replace H := ifN H; obtain ⟨xR, H⟩ := H;replace H := ah.mk H;have xi : 0 ≤ (((aj l0 a1).f2) : Int) := OD;have xj : ((aj l0 a1).f2) < (l0.length : Int) := OD;obtain ⟨xS, yr, m, u, x, y⟩ := kQ Z.out ((aj l0 a1).f2) xi xj;obtain rfl : E = xS := (by injection yr);have xA : E.block ≠ l := Nat.ne_of_lt (Nat.lt_of_lt_of_le (by have := World.block_lt_of_cell? _ _ m; first | rwa [add_block] at this | exact this) xe.out);have xB : E.block ≠ l := Nat.ne_of_lt (Nat.lt_of_lt_of_le (by have := World.block_lt_of_cell? _ _ m; first | rwa [add_block] at this | exact this) xe.out);have xC : E.block ≠ l := Nat.ne_of_lt (Nat.lt_of_lt_of_le (by have := World.block_lt_of_cell? _ _ m; first | rwa [add_block] at this | exact this) xe.out);have xD : E.block ≠ l := Nat.ne_of_lt (Nat.lt_of_lt_of_le (by have := World.block_lt_of_cell? _ _ m; first | rwa [add_block] at this | exact this) xe.out);replace m := (HB.out.cell (World.block_lt_of_cell? w _ m)).trans m;replace u := (HB.out.cell (World.block_lt_of_cell? w _ u)).trans u;replace x := (HB.out.cell (World.block_lt_of_cell? w _ x)).trans x;replace y := (HB.out.cell (World.block_lt_of_cell? w _ y)).trans y;replace m := (cell_far (p := ⟨l, 0, none⟩) AB (.int .i64 ((aj l0 a1).f0))).trans m;replace u := (cell_far (p := ⟨l, 0, none⟩) AB (.int .i64 ((aj l0 a1).f0))).trans u;replace x := (cell_far (p := ⟨l, 0, none⟩) AB (.int .i64 ((aj l0 a1).f0))).trans x;replace y := (cell_far (p := ⟨l, 0, none⟩) AB (.int .i64 ((aj l0 a1).f0))).trans y;replace m := (cell_far (p := ⟨l, 1, none⟩) AB (.string ((aj l0 a1).f1))).trans m;replace u := (cell_far (p := ⟨l, 1, none⟩) AB (.string ((aj l0 a1).f1))).trans u;replace x := (cell_far (p := ⟨l, 1, none⟩) AB (.string ((aj l0 a1).f1))).trans x;replace y := (cell_far (p := ⟨l, 1, none⟩) AB (.string ((aj l0 a1).f1))).trans y;replace m := (cell_far (p := ⟨l, 2, none⟩) AB (.int .i64 ((aj l0 a1).f2))).trans m;replace u := (cell_far (p := ⟨l, 2, none⟩) AB (.int .i64 ((aj l0 a1).f2))).trans u;replace x := (cell_far (p := ⟨l, 2, none⟩) AB (.int .i64 ((aj l0 a1).f2))).trans x;replace y := (cell_far (p := ⟨l, 2, none⟩) AB (.int .i64 ((aj l0 a1).f2))).trans y;replace m := (cell_far (p := ⟨l, 3, none⟩) AB (.int .i64 ((aj l0 a1).f3))).trans m;replace u := (cell_far (p := ⟨l, 3, none⟩) AB (.int .i64 ((aj l0 a1).f3))).trans u;replace x := (cell_far (p := ⟨l, 3, none⟩) AB (.int .i64 ((aj l0 a1).f3))).trans x;replace y := (cell_far (p := ⟨l, 3, none⟩) AB (.int .i64 ((aj l0 a1).f3))).trans y;clear xA xB xC xD;replace xi := eq_true xi;replace xj := eq_true xj;replace H := H.out;replace H := ifE H; rcases H with ⟨xE, xF, H⟩ | ⟨yA, xE, xF, H⟩
  ·obtain rfl := Option.some.inj H;(try go_wp2);go_ret;exact ⟨EWW, BL⟩
  ·replace H := ifE H; rcases H with ⟨xG, xH, H⟩ | ⟨xT, xG, xH, H⟩
   ·replace H := be H; obtain ⟨xq, yB, H⟩ := H;replace H := be H; obtain ⟨xu, yC, H⟩ := H;obtain rfl := Option.some.inj H;(try go_wp2);have n0_ : ah (((((xr.setCell ⟨l, 0, none⟩ (.int .i64 ((aj l0 a1).f0))).setCell ⟨l, 1, none⟩ (.string ((aj l0 a1).f1))).setCell ⟨l, 2, none⟩ (.int .i64 ((aj l0 a1).f2))).setCell ⟨l, 3, none⟩ (.int .i64 ((aj l0 a1).f3))).heap[l]? = some (.cells #[.int .i64 ((aj l0 a1).f0), .string ((aj l0 a1).f1), .int .i64 ((aj l0 a1).f2), .int .i64 ((aj l0 a1).f3)] 127 (0, 0))) := ⟨by (with_reducible repeat (first | refine aC ?_ _ | refine aD ?_ | refine ay ?_ _)); refine aR (cs := #[.int .i64 ((aj l0 a1).f0), .string ((aj l0 a1).f1), .int .i64 ((aj l0 a1).f2), .int .i64 0]) ?_ 3 _ rfl; (with_reducible repeat (first | refine aC ?_ _ | refine aD ?_ | refine ay ?_ _)); refine aR (cs := #[.int .i64 ((aj l0 a1).f0), .string ((aj l0 a1).f1), .int .i64 0, .int .i64 0]) ?_ 2 _ rfl; (with_reducible repeat (first | refine aC ?_ _ | refine aD ?_ | refine ay ?_ _)); refine aR (cs := #[.int .i64 ((aj l0 a1).f0), .string (⟨#[]⟩ : ByteArray), .int .i64 0, .int .i64 0]) ?_ 1 _ rfl; (with_reducible repeat (first | refine aC ?_ _ | refine aD ?_ | refine ay ?_ _)); refine aR (cs := #[.int .i64 0, .string (⟨#[]⟩ : ByteArray), .int .i64 0, .int .i64 0]) ?_ 0 _ rfl; (with_reducible repeat (first | refine aC ?_ _ | refine aD ?_ | refine ay ?_ _)); exact a.out⟩;have n1_ : ah (Below w.heap.size w ((((xr.setCell ⟨l, 0, none⟩ (.int .i64 ((aj l0 a1).f0))).setCell ⟨l, 1, none⟩ (.string ((aj l0 a1).f1))).setCell ⟨l, 2, none⟩ (.int .i64 ((aj l0 a1).f2))).setCell ⟨l, 3, none⟩ (.int .i64 ((aj l0 a1).f3)))) := ⟨BL⟩;(try clear a);(try clear HB);generalize ((((xr.setCell ⟨l, 0, none⟩ (.int .i64 ((aj l0 a1).f0))).setCell ⟨l, 1, none⟩ (.string ((aj l0 a1).f1))).setCell ⟨l, 2, none⟩ (.int .i64 ((aj l0 a1).f2))).setCell ⟨l, 3, none⟩ (.int .i64 ((aj l0 a1).f3))) = xl at n0_ n1_ ⊢;have a := n0_;have HB := n1_;clear n0_ n1_;replace a := ah.mk (aD a.out);replace HB := ah.mk (dO HB.out);refine jJ (n := 7) (S := fun w' => w'.cell? ⟨l, 0, none⟩ = some (.int .i64 ((aj l0 a1).f0)) ∧ w'.cell? ⟨l, 1, none⟩ = some (.string ((aj l0 a1).f1)) ∧ w'.cell? ⟨l, 2, none⟩ = some (.int .i64 ((aj l0 a1).f2)) ∧ w'.cell? ⟨l, 3, none⟩ = some (.int .i64 ((aj l0 a1).f3))) (ds := []) #[F,F,F,F,F,F,F] (by kernel_rfl) rfl rfl ⟨(ak a.out 0).trans rfl, (ak a.out 1).trans rfl, (ak a.out 2).trans rfl, (ak a.out 3).trans rfl⟩ (fun hHeld => ?_);generalize xl.drew = xm at a HB hHeld ⊢;refine puS (i := 0) (N := some 34) #[T,F,F,F,F,F,F] (by kernel_rfl) ?_;refine puS (i := 1) (N := some 35) #[T,T,F,F,F,F,F] (by kernel_rfl) ?_;refine puS (i := 3) (N := some 37) #[T,T,F,T,F,F,F] (by kernel_rfl) ?_;refine taS (i := 2) (N := some 36) #[T,T,T,T,F,F,F] (by kernel_rfl) hHeld ?_;refine lg (i := 4) (N := some 38) #[T,T,T,T,T,F,F] rfl rfl (by kernel_rfl) (by decide) (fun K hK => ?_);refine jq Tryz.func191 #[.string D] ?_;(with_reducible refine (iN.calls D xq _ yB.out).mono ?_);rintro e xn ⟨rfl, hb⟩;refine ⟨_, rfl, ?_⟩;replace a := KB a hb;replace HB := BS (w := w) hb;(try clear hb);refine hK.out _ _ ⟨(ak a.out 0).trans rfl, (ak a.out 1).trans rfl, (ak a.out 2).trans rfl, (ak a.out 3).trans rfl⟩ (fun hHeld => ?_);clear hK K;refine nrm (some 38) ?_;refine lg (i := 5) (N := some 39) #[T,T,T,T,T,T,F] rfl rfl (by kernel_rfl) (by decide) (fun K hK => ?_);refine jq Tryz.func146 #[.slice (some E) l0.length c0, .int .i64 ((aj l0 a1).f2), .string xq] ?_;(with_reducible refine (ih k (by omega) _ _ l0 ((aj l0 a1).f2) xq xu _ ?side1 ?side2 yC.out).mono ?_);(case side1 => exact CB Z);(case side2 => exact xk.out);rintro e yD ⟨rfl, hb⟩;refine ⟨_, rfl, ?_⟩;replace a := KB a hb;replace HB := BS (w := w) hb;(try clear hb);refine hK.out _ _ ⟨(ak a.out 0).trans rfl, (ak a.out 1).trans rfl, (ak a.out 2).trans rfl, (ak a.out 3).trans rfl⟩ (fun hHeld => ?_);clear hK K;refine nrm (some 39) ?_;refine puS (i := 6) (N := some 6) #[T,T,T,T,T,T,T] (by kernel_rfl) ?_;refine je (by kernel_rfl) ?_;(try go_wp2);go_ret;exact ⟨EWW, BL⟩
   ·replace H := ifE H; rcases H with ⟨xI, xJ, H⟩ | ⟨yE, xI, xJ, H⟩
    ·replace H := be H; obtain ⟨xv, yF, H⟩ := H;obtain rfl := Option.some.inj H;(try go_wp2_with (first | ((with_reducible refine aA (f := 192) rfl ?_); refine aY (some 44) Tryz.func192 #[.string ((aj l0 ((aj l0 a1).f2)).f1), .string D] ?_; (with_reducible refine (iY.calls k ((aj l0 ((aj l0 a1).f2)).f1) D xv _ yF.out).mono ?_); rintro e xl ⟨rfl, hb⟩; refine ⟨_, rfl, ?_⟩; replace a := ah.mk (cO (g := l) (o := .cells #[.int .i64 ((aj l0 a1).f0), .string ((aj l0 a1).f1), .int .i64 ((aj l0 a1).f2), .int .i64 ((aj l0 a1).f3)] 127 (0, 0)) (by (with_reducible repeat (first | refine aC ?_ _ | refine aD ?_ | refine ay ?_ _)); refine aR (cs := #[.int .i64 ((aj l0 a1).f0), .string ((aj l0 a1).f1), .int .i64 ((aj l0 a1).f2), .int .i64 0]) ?_ 3 _ rfl; (with_reducible repeat (first | refine aC ?_ _ | refine aD ?_ | refine ay ?_ _)); refine aR (cs := #[.int .i64 ((aj l0 a1).f0), .string ((aj l0 a1).f1), .int .i64 0, .int .i64 0]) ?_ 2 _ rfl; (with_reducible repeat (first | refine aC ?_ _ | refine aD ?_ | refine ay ?_ _)); refine aR (cs := #[.int .i64 ((aj l0 a1).f0), .string (⟨#[]⟩ : ByteArray), .int .i64 0, .int .i64 0]) ?_ 1 _ rfl; (with_reducible repeat (first | refine aC ?_ _ | refine aD ?_ | refine ay ?_ _)); refine aR (cs := #[.int .i64 0, .string (⟨#[]⟩ : ByteArray), .int .i64 0, .int .i64 0]) ?_ 0 _ rfl; (with_reducible repeat (first | refine aC ?_ _ | refine aD ?_ | refine ay ?_ _)); exact a.out) hb); replace HB := BS (w := w) hb; (try clear hb))));go_ret;exact ⟨EWW, BL⟩
    ·replace H := ifE H; rcases H with ⟨xo, xp, H⟩ | ⟨xU, xo, xp, H⟩
     ·have H' := ah.mk H;clear H;try go_wp2
      go_loopg [9] k (fun kq v9 w' => ∃ (G : Int), v9 = .int .i64 G ∧ ah (bB.l0 kq l0 D G ((aj l0 a1).f0) ((aj l0 a1).f1) ((aj l0 a1).f2) ((aj l0 a1).f3) = some r) ∧ ah (kq ≤ k) ∧ ah (w'.heap[l]? = some (.cells #[.int .i64 ((aj l0 a1).f0), .string ((aj l0 a1).f1), .int .i64 ((aj l0 a1).f2), .int .i64 ((aj l0 a1).f3)] 127 (0, 0))) ∧ ah (Below w.heap.size w w'))
      case atStart => exact ⟨_, EQ, H', ⟨Nat.le_refl _⟩, ⟨by (with_reducible repeat (first | refine aC ?_ _ | refine aD ?_ | refine ay ?_ _)); refine aR (cs := #[.int .i64 ((aj l0 a1).f0), .string ((aj l0 a1).f1), .int .i64 ((aj l0 a1).f2), .int .i64 0]) ?_ 3 _ rfl; (with_reducible repeat (first | refine aC ?_ _ | refine aD ?_ | refine ay ?_ _)); refine aR (cs := #[.int .i64 ((aj l0 a1).f0), .string ((aj l0 a1).f1), .int .i64 0, .int .i64 0]) ?_ 2 _ rfl; (with_reducible repeat (first | refine aC ?_ _ | refine aD ?_ | refine ay ?_ _)); refine aR (cs := #[.int .i64 ((aj l0 a1).f0), .string (⟨#[]⟩ : ByteArray), .int .i64 0, .int .i64 0]) ?_ 1 _ rfl; (with_reducible repeat (first | refine aC ?_ _ | refine aD ?_ | refine ay ?_ _)); refine aR (cs := #[.int .i64 0, .string (⟨#[]⟩ : ByteArray), .int .i64 0, .int .i64 0]) ?_ 0 _ rfl; (with_reducible repeat (first | refine aC ?_ _ | refine aD ?_ | refine ay ?_ _)); exact a.out⟩, ⟨BL⟩⟩
      case round =>
       clear H';(try clear c4);(try clear yn);(try clear c5);(try clear yo);(try clear c6);(try clear xN);(try clear xO);(try clear c9);(try clear yq);(try clear c10);(try clear xR);(try clear yA);(try clear xE);(try clear xF);(try clear xT);(try clear xG);(try clear xH);(try clear yE);(try clear xI);(try clear xJ);(try clear xU);(try clear xo);(try clear xp);(try clear J L M O P U X Y);(try clear xa);(try clear xb);(try clear xc);(try clear xd);(try clear m);(try clear u);(try clear x);(try clear y);(try clear xg);(try clear xi);(try clear xh);(try clear xj);obtain ⟨G, rfl, HA, I, a, HB⟩ := hrel
       cases gk with
       | zero => exact absurd HA.out (by simp [bB.l0])
       | succ k1 =>
        have H := HA.out;clear HA;simp only [bB.l0] at H;replace H := ifD H; rcases H with ⟨xV, H⟩ | ⟨xV, H⟩
        ·replace H := ifP H; obtain ⟨xW, H⟩ := H;have yG := eq_true xW;have yH : decide (0 ≤ G) = true := decide_eq_true xW;clear xW;replace H := ifP H; obtain ⟨xX, H⟩ := H;have yI := eq_true xX;have yJ : decide (G ≤ (D.size : Int)) = true := decide_eq_true xX;clear xX;replace H := be H; obtain ⟨zg, ys, H⟩ := H;replace H := ah.mk H;(try go_wp2);replace a := ah.mk (aD a.out);replace HB := ah.mk (dO HB.out);refine jJ (n := 16) (S := fun w' => w'.cell? ⟨l, 0, none⟩ = some (.int .i64 ((aj l0 a1).f0)) ∧ w'.cell? ⟨l, 1, none⟩ = some (.string ((aj l0 a1).f1)) ∧ w'.cell? ⟨l, 2, none⟩ = some (.int .i64 ((aj l0 a1).f2)) ∧ w'.cell? ⟨l, 3, none⟩ = some (.int .i64 ((aj l0 a1).f3))) (ds := []) #[F,F,F,F,F,F,F,F,F,F,F,F,F,F,F,F] (by kernel_rfl) rfl rfl ⟨(ak a.out 0).trans rfl, (ak a.out 1).trans rfl, (ak a.out 2).trans rfl, (ak a.out 3).trans rfl⟩ (fun hHeld => ?_); refine jF bB.JH bB.IW (fun HT_ HW_ => ?_);generalize wr.drew = xl at a HB hHeld ⊢;refine pS 0 (some 53) #[T,F,F,F,F,F,F,F,F,F,F,F,F,F,F,F] ?_;refine pS 1 (some 54) #[T,T,F,F,F,F,F,F,F,F,F,F,F,F,F,F] ?_;refine pS 3 (some 56) #[T,T,F,T,F,F,F,F,F,F,F,F,F,F,F,F] ?_;refine pS 4 (some 57) #[T,T,F,T,T,F,F,F,F,F,F,F,F,F,F,F] ?_;refine pS 5 (some 58) #[T,T,F,T,T,T,F,F,F,F,F,F,F,F,F,F] ?_;refine tS 2 (some 55) #[T,T,T,T,T,T,F,F,F,F,F,F,F,F,F,F] ?_;refine lg (i := 6) (N := some 59) #[T,T,T,T,T,T,T,F,F,F,F,F,F,F,F,F] rfl rfl (jO HT_.out (by kernel_rfl)) (by decide) (fun K hK => ?_);refine jq Tryz.func146 #[.slice (some E) l0.length c0, .int .i64 ((aj l0 a1).f2), .string (D.extract 0 (G : Int).toNat)] ?_;replace H := H.out;replace H := ifB H; rcases H with ⟨rfl, H⟩ | ⟨rfl, H⟩
         ·have yK := eq_true (OD : 0 ≤ G);have yL := eq_true (OD : G ≤ (D.size : Int));replace H := be H; obtain ⟨zh, yt, H⟩ := H;replace H := ah.mk H;(with_reducible refine (ih k1 (by have := I.out; omega) _ _ l0 ((aj l0 a1).f2) (D.extract 0 (G : Int).toNat) true _ ?side1 ?side2 ys.out).mono ?_);(case side1 => exact CB Z);(case side2 => exact xk.out);rintro e xm ⟨rfl, hb⟩;refine ⟨_, rfl, ?_⟩;replace a := KB a hb;replace HB := BS (w := w) hb;(try clear hb);refine hK.out _ _ ⟨(ak a.out 0).trans rfl, (ak a.out 1).trans rfl, (ak a.out 2).trans rfl, (ak a.out 3).trans rfl⟩ (fun hHeld => ?_);clear hK K;refine nrm (some 59) ?_;refine pS 7 (some 60) #[T,T,T,T,T,T,T,T,F,F,F,F,F,F,F,F] ?_;refine pS 8 (some 61) #[T,T,T,T,T,T,T,T,T,F,F,F,F,F,F,F] ?_;refine pS 9 (some 62) #[T,T,T,T,T,T,T,T,T,T,F,F,F,F,F,F] ?_;refine pS 11 (some 64) #[T,T,T,T,T,T,T,T,T,T,F,T,F,F,F,F] ?_;refine pS 12 (some 65) #[T,T,T,T,T,T,T,T,T,T,F,T,T,F,F,F] ?_;refine pS 13 (some 66) #[T,T,T,T,T,T,T,T,T,T,F,T,T,T,F,F] ?_;refine tS 10 (some 63) #[T,T,T,T,T,T,T,T,T,T,T,T,T,T,F,F] ?_;refine lg (i := 14) (N := some 67) #[T,T,T,T,T,T,T,T,T,T,T,T,T,T,T,F] rfl rfl (jO HT_.out (by kernel_rfl)) (by decide) (fun K hK => ?_);refine jq Tryz.func146 #[.slice (some E) l0.length c0, .int .i64 ((aj l0 a1).f3), .string (D.extract (G : Int).toNat D.size)] ?_;replace H := H.out;replace H := ifB H; rcases H with ⟨rfl, H⟩ | ⟨rfl, H⟩
          ·obtain rfl := Option.some.inj H;(with_reducible refine (ih k1 (by have := I.out; omega) _ _ l0 ((aj l0 a1).f3) (D.extract (G : Int).toNat D.size) true _ ?side1 ?side2 yt.out).mono ?_);(case side1 => exact CB Z);(case side2 => exact xk.out);rintro e xn ⟨rfl, hb⟩;refine ⟨_, rfl, ?_⟩;replace a := KB a hb;replace HB := BS (w := w) hb;(try clear hb);refine hK.out _ _ ⟨(ak a.out 0).trans rfl, (ak a.out 1).trans rfl, (ak a.out 2).trans rfl, (ak a.out 3).trans rfl⟩ (fun hHeld => ?_);clear hK K;refine nrm (some 67) ?_;refine pS 15 (some 68) #[T,T,T,T,T,T,T,T,T,T,T,T,T,T,T,T] ?_;refine je (iJ HT_.out (by kernel_rfl)) ?_;(try go_wp2);go_ret;exact ⟨EWW, BL⟩
          ·have H' := ah.mk H;clear H;(with_reducible refine (ih k1 (by have := I.out; omega) _ _ l0 ((aj l0 a1).f3) (D.extract (G : Int).toNat D.size) false _ ?side1 ?side2 yt.out).mono ?_);(case side1 => exact CB Z);(case side2 => exact xk.out);rintro e xn ⟨rfl, hb⟩;refine ⟨_, rfl, ?_⟩;replace a := KB a hb;replace HB := BS (w := w) hb;(try clear hb);refine hK.out _ _ ⟨(ak a.out 0).trans rfl, (ak a.out 1).trans rfl, (ak a.out 2).trans rfl, (ak a.out 3).trans rfl⟩ (fun hHeld => ?_);clear hK K;refine nrm (some 67) ?_;refine pS 15 (some 68) #[T,T,T,T,T,T,T,T,T,T,T,T,T,T,T,T] ?_;refine je (iJ HT_.out (by kernel_rfl)) ?_;(try go_wp2);go_roundg k1;case measure => have := I.out; omega
           case rel => exact ⟨_, EQ, H', ks I, ⟨BK⟩, ⟨BL⟩⟩
         ·have H' := ah.mk H;clear H;(with_reducible refine (ih k1 (by have := I.out; omega) _ _ l0 ((aj l0 a1).f2) (D.extract 0 (G : Int).toNat) false _ ?side1 ?side2 ys.out).mono ?_);(case side1 => exact CB Z);(case side2 => exact xk.out);rintro e xm ⟨rfl, hb⟩;refine ⟨_, rfl, ?_⟩;replace a := KB a hb;replace HB := BS (w := w) hb;(try clear hb);refine hK.out _ _ ⟨(ak a.out 0).trans rfl, (ak a.out 1).trans rfl, (ak a.out 2).trans rfl, (ak a.out 3).trans rfl⟩ (fun hHeld => ?_);clear hK K;refine nrm (some 59) ?_;refine pS 7 (some 60) #[T,T,T,T,T,T,T,T,F,F,F,F,F,F,F,F] ?_;refine pU 8 (some 61) #[T,T,T,T,T,T,T,T,T,F,F,F,F,F,F,F] ?_;refine pU 9 (some 62) #[T,T,T,T,T,T,T,T,T,T,F,F,F,F,F,F] ?_;refine pU 10 (some 63) #[T,T,T,T,T,T,T,T,T,T,T,F,F,F,F,F] ?_;refine pU 11 (some 64) #[T,T,T,T,T,T,T,T,T,T,T,T,F,F,F,F] ?_;refine pU 12 (some 65) #[T,T,T,T,T,T,T,T,T,T,T,T,T,F,F,F] ?_;refine pU 13 (some 66) #[T,T,T,T,T,T,T,T,T,T,T,T,T,T,F,F] ?_;refine pU 14 (some 67) #[T,T,T,T,T,T,T,T,T,T,T,T,T,T,T,F] ?_;refine pS 15 (some 68) #[T,T,T,T,T,T,T,T,T,T,T,T,T,T,T,T] ?_;refine je (iJ HT_.out (by kernel_rfl)) ?_;(try go_wp2);go_roundg k1;case measure => have := I.out; omega
          case rel => exact ⟨_, EQ, H', ks I, ⟨BK⟩, ⟨BL⟩⟩
        ·obtain rfl := Option.some.inj H;go_wp2;go_ret;exact ⟨EWW, BL⟩
     ·replace H := ifE H; rcases H with ⟨xs, xt, H⟩ | ⟨yu, xs, xt, H⟩
      ·have H' := ah.mk H;clear H;try go_wp2
       go_loopg [10] k (fun kq yM w' => ∃ (z : Int), yM = .int .i64 z ∧ ah (bB.l1 kq l0 D z ((aj l0 a1).f0) ((aj l0 a1).f1) ((aj l0 a1).f2) ((aj l0 a1).f3) = some r) ∧ ah (kq ≤ k) ∧ ah (w'.heap[l]? = some (.cells #[.int .i64 ((aj l0 a1).f0), .string ((aj l0 a1).f1), .int .i64 ((aj l0 a1).f2), .int .i64 ((aj l0 a1).f3)] 127 (0, 0))) ∧ ah (Below w.heap.size w w'))
       case atStart => exact ⟨_, EQ, H', ⟨Nat.le_refl _⟩, ⟨by (with_reducible repeat (first | refine aC ?_ _ | refine aD ?_ | refine ay ?_ _)); refine aR (cs := #[.int .i64 ((aj l0 a1).f0), .string ((aj l0 a1).f1), .int .i64 ((aj l0 a1).f2), .int .i64 0]) ?_ 3 _ rfl; (with_reducible repeat (first | refine aC ?_ _ | refine aD ?_ | refine ay ?_ _)); refine aR (cs := #[.int .i64 ((aj l0 a1).f0), .string ((aj l0 a1).f1), .int .i64 0, .int .i64 0]) ?_ 2 _ rfl; (with_reducible repeat (first | refine aC ?_ _ | refine aD ?_ | refine ay ?_ _)); refine aR (cs := #[.int .i64 ((aj l0 a1).f0), .string (⟨#[]⟩ : ByteArray), .int .i64 0, .int .i64 0]) ?_ 1 _ rfl; (with_reducible repeat (first | refine aC ?_ _ | refine aD ?_ | refine ay ?_ _)); refine aR (cs := #[.int .i64 0, .string (⟨#[]⟩ : ByteArray), .int .i64 0, .int .i64 0]) ?_ 0 _ rfl; (with_reducible repeat (first | refine aC ?_ _ | refine aD ?_ | refine ay ?_ _)); exact a.out⟩, ⟨BL⟩⟩
       case round =>
        clear H';(try clear c4);(try clear xT);(try clear xU);(try clear xo);(try clear xp);(try clear yu);(try clear xs);(try clear xt);(try clear J L M O P U X Y);(try clear xa);(try clear xb);(try clear xc);(try clear xd);(try clear m);(try clear u);(try clear x);(try clear y);(try clear xg);(try clear xi);(try clear xh);(try clear xj);obtain ⟨z, rfl, HA, I, a, HB⟩ := hrel
        cases gk with
        | zero => exact absurd HA.out (by simp [bB.l1])
        | succ k1 =>
         have H := HA.out;clear HA;simp only [bB.l1] at H;replace H := ifD H; rcases H with ⟨xK, H⟩ | ⟨xK, H⟩
         ·have H' := ah.mk H;clear H;go_wp2
          go_loopg [11] k1 (fun kq yN w' => ∃ (A : Int), yN = .int .i64 A ∧ ah (bB.l2 kq l0 D z A ((aj l0 a1).f0) ((aj l0 a1).f1) ((aj l0 a1).f2) ((aj l0 a1).f3) = some r) ∧ ah (kq ≤ k1) ∧ ah (w'.heap[l]? = some (.cells #[.int .i64 ((aj l0 a1).f0), .string ((aj l0 a1).f1), .int .i64 ((aj l0 a1).f2), .int .i64 ((aj l0 a1).f3)] 127 (0, 0))) ∧ ah (Below w.heap.size w w'))
          case atStart => exact ⟨_, EQ, H', ⟨Nat.le_refl _⟩, ⟨BK⟩, ⟨BL⟩⟩
          case round =>
           clear H';(try clear c4);(try clear c5);(try clear xT);(try clear xU);(try clear xo);(try clear xp);(try clear yu);(try clear xs);(try clear xt);(try clear zl);(try clear xK);(try clear J L M O P U X Y);(try clear xa);(try clear xb);(try clear xc);(try clear xd);(try clear m);(try clear u);(try clear x);(try clear y);(try clear xg);(try clear xi);(try clear xh);(try clear xj);obtain ⟨A, rfl, HA, xf, a, HB⟩ := hrel
           cases gk with
           | zero => exact absurd HA.out (by simp [bB.l2])
           | succ k2 =>
            have H := HA.out;clear HA;simp only [bB.l2] at H;replace H := ifD H; rcases H with ⟨xY, H⟩ | ⟨xY, H⟩
            ·replace H := ifP H; obtain ⟨xZ, H⟩ := H;have yO := eq_true xZ;have yP : decide (0 ≤ z) = true := decide_eq_true xZ;clear xZ;replace H := ifP H; obtain ⟨ya, H⟩ := H;have yQ := eq_true ya;have yR : decide (z ≤ A) = true := decide_eq_true ya;clear ya;replace H := ifP H; obtain ⟨yb, H⟩ := H;have yS := eq_true yb;have yT : decide (A ≤ (D.size : Int)) = true := decide_eq_true yb;clear yb;replace H := be H; obtain ⟨zi, yv, H⟩ := H;replace H := ah.mk H;(try go_wp2);replace a := ah.mk (aD a.out);replace HB := ah.mk (dO HB.out);refine jJ (n := 21) (S := fun w' => w'.cell? ⟨l, 0, none⟩ = some (.int .i64 ((aj l0 a1).f0)) ∧ w'.cell? ⟨l, 1, none⟩ = some (.string ((aj l0 a1).f1)) ∧ w'.cell? ⟨l, 2, none⟩ = some (.int .i64 ((aj l0 a1).f2)) ∧ w'.cell? ⟨l, 3, none⟩ = some (.int .i64 ((aj l0 a1).f3))) (ds := []) #[F,F,F,F,F,F,F,F,F,F,F,F,F,F,F,F,F,F,F,F,F] (by kernel_rfl) rfl rfl ⟨(ak a.out 0).trans rfl, (ak a.out 1).trans rfl, (ak a.out 2).trans rfl, (ak a.out 3).trans rfl⟩ (fun hHeld => ?_); refine jF bB.JI bB.IX (fun HT_ HW_ => ?_);generalize wr.drew = xl at a HB hHeld ⊢;refine pS 0 (some 85) #[T,F,F,F,F,F,F,F,F,F,F,F,F,F,F,F,F,F,F,F,F] ?_;refine pS 1 (some 86) #[T,T,F,F,F,F,F,F,F,F,F,F,F,F,F,F,F,F,F,F,F] ?_;refine pS 3 (some 88) #[T,T,F,T,F,F,F,F,F,F,F,F,F,F,F,F,F,F,F,F,F] ?_;refine pS 4 (some 89) #[T,T,F,T,T,F,F,F,F,F,F,F,F,F,F,F,F,F,F,F,F] ?_;refine pS 5 (some 90) #[T,T,F,T,T,T,F,F,F,F,F,F,F,F,F,F,F,F,F,F,F] ?_;refine pS 6 (some 91) #[T,T,F,T,T,T,T,F,F,F,F,F,F,F,F,F,F,F,F,F,F] ?_;refine tS 2 (some 87) #[T,T,T,T,T,T,T,F,F,F,F,F,F,F,F,F,F,F,F,F,F] ?_;refine lg (i := 7) (N := some 92) #[T,T,T,T,T,T,T,T,F,F,F,F,F,F,F,F,F,F,F,F,F] rfl rfl (jO HT_.out (by kernel_rfl)) (by decide) (fun K hK => ?_);refine jq Tryz.func146 #[.slice (some E) l0.length c0, .int .i64 ((aj l0 a1).f3), .string (D.extract (z : Int).toNat (A : Int).toNat)] ?_;replace H := H.out;replace H := ifB H; rcases H with ⟨rfl, H⟩ | ⟨rfl, H⟩
             ·have yU := eq_true (OD : 0 ≤ z);replace H := ifP H; obtain ⟨yc, H⟩ := H;have yV := eq_true yc;have yW : decide (z ≤ (D.size : Int)) = true := decide_eq_true yc;clear yc;replace H := ifP H; obtain ⟨yd, H⟩ := H;have yX := eq_true yd;have yY : decide (0 ≤ A) = true := decide_eq_true yd;clear yd;have yZ := eq_true (OD : A ≤ (D.size : Int));by_cases xL : (D.extract 0 (z : Int).toNat).size + (D.extract (A : Int).toNat D.size).size ≤ 9223372036854775807
              ·rw [if_pos xL] at H;have za := eq_true xL;have ye : decide ((D.extract 0 (z : Int).toNat).size + (D.extract (A : Int).toNat D.size).size ≤ 9223372036854775807) = true := decide_eq_true xL;try have zb : (9223372036854775807 < (D.extract 0 (z : Int).toNat).size + (D.extract (A : Int).toNat D.size).size) = False := eq_false (Nat.not_lt.2 xL)
               have c62b3d : (9223372036854775807 < z.toNat + (D.size - A.toNat)) = False := by
                have hx_ : z ≤ (D.size : Int) := OD;have h_ := of_decide_eq_true ye;simp only [ByteArray.size_extract] at h_;exact eq_false (by omega)
               replace H := be H; obtain ⟨zj, yw, H⟩ := H;replace H := ah.mk H;(with_reducible refine (ih k2 (by have := I.out; have := xf.out; omega) _ _ l0 ((aj l0 a1).f3) (D.extract (z : Int).toNat (A : Int).toNat) true _ ?side1 ?side2 yv.out).mono ?_);(case side1 => exact CB Z);(case side2 => exact xk.out);rintro e xm ⟨rfl, hb⟩;refine ⟨_, rfl, ?_⟩;replace a := KB a hb;replace HB := BS (w := w) hb;(try clear hb);refine hK.out _ _ ⟨(ak a.out 0).trans rfl, (ak a.out 1).trans rfl, (ak a.out 2).trans rfl, (ak a.out 3).trans rfl⟩ (fun hHeld => ?_);clear hK K;refine nrm (some 92) ?_;refine pS 8 (some 93) #[T,T,T,T,T,T,T,T,T,F,F,F,F,F,F,F,F,F,F,F,F] ?_;refine pS 9 (some 94) #[T,T,T,T,T,T,T,T,T,T,F,F,F,F,F,F,F,F,F,F,F] ?_;refine pS 10 (some 95) #[T,T,T,T,T,T,T,T,T,T,T,F,F,F,F,F,F,F,F,F,F] ?_;refine pS 12 (some 97) #[T,T,T,T,T,T,T,T,T,T,T,F,T,F,F,F,F,F,F,F,F] ?_;refine pS 13 (some 98) #[T,T,T,T,T,T,T,T,T,T,T,F,T,T,F,F,F,F,F,F,F] ?_;refine pS 14 (some 99) #[T,T,T,T,T,T,T,T,T,T,T,F,T,T,T,F,F,F,F,F,F] ?_;refine pS 15 (some 100) #[T,T,T,T,T,T,T,T,T,T,T,F,T,T,T,T,F,F,F,F,F] ?_;refine pS 16 (some 101) #[T,T,T,T,T,T,T,T,T,T,T,F,T,T,T,T,T,F,F,F,F] ?_;refine pS 17 (some 102) #[T,T,T,T,T,T,T,T,T,T,T,F,T,T,T,T,T,T,F,F,F] ?_;refine pS 18 (some 103) #[T,T,T,T,T,T,T,T,T,T,T,F,T,T,T,T,T,T,T,F,F] ?_;refine tS 11 (some 96) #[T,T,T,T,T,T,T,T,T,T,T,T,T,T,T,T,T,T,T,F,F] ?_;refine lg (i := 19) (N := some 104) #[T,T,T,T,T,T,T,T,T,T,T,T,T,T,T,T,T,T,T,T,F] rfl rfl (jO HT_.out (by kernel_rfl)) (by decide) (fun K hK => ?_);refine jq Tryz.func146 #[.slice (some E) l0.length c0, .int .i64 ((aj l0 a1).f2), .string ((D.extract 0 (z : Int).toNat) ++ (D.extract (A : Int).toNat D.size))] ?_;replace H := H.out;replace H := ifB H; rcases H with ⟨rfl, H⟩ | ⟨rfl, H⟩
               ·obtain rfl := Option.some.inj H;(with_reducible refine (ih k2 (by have := I.out; have := xf.out; omega) _ _ l0 ((aj l0 a1).f2) ((D.extract 0 (z : Int).toNat) ++ (D.extract (A : Int).toNat D.size)) true _ ?side1 ?side2 yw.out).mono ?_);(case side1 => exact CB Z);(case side2 => exact xk.out);rintro e xn ⟨rfl, hb⟩;refine ⟨_, rfl, ?_⟩;replace a := KB a hb;replace HB := BS (w := w) hb;(try clear hb);refine hK.out _ _ ⟨(ak a.out 0).trans rfl, (ak a.out 1).trans rfl, (ak a.out 2).trans rfl, (ak a.out 3).trans rfl⟩ (fun hHeld => ?_);clear hK K;refine nrm (some 104) ?_;refine pS 20 (some 105) #[T,T,T,T,T,T,T,T,T,T,T,T,T,T,T,T,T,T,T,T,T] ?_;refine je (iJ HT_.out (by kernel_rfl)) ?_;(try go_wp2);go_ret;exact ⟨EWW, BL⟩
               ·have H' := ah.mk H;clear H;(with_reducible refine (ih k2 (by have := I.out; have := xf.out; omega) _ _ l0 ((aj l0 a1).f2) ((D.extract 0 (z : Int).toNat) ++ (D.extract (A : Int).toNat D.size)) false _ ?side1 ?side2 yw.out).mono ?_);(case side1 => exact CB Z);(case side2 => exact xk.out);rintro e xn ⟨rfl, hb⟩;refine ⟨_, rfl, ?_⟩;replace a := KB a hb;replace HB := BS (w := w) hb;(try clear hb);refine hK.out _ _ ⟨(ak a.out 0).trans rfl, (ak a.out 1).trans rfl, (ak a.out 2).trans rfl, (ak a.out 3).trans rfl⟩ (fun hHeld => ?_);clear hK K;refine nrm (some 104) ?_;refine pS 20 (some 105) #[T,T,T,T,T,T,T,T,T,T,T,T,T,T,T,T,T,T,T,T,T] ?_;refine je (iJ HT_.out (by kernel_rfl)) ?_;(try go_wp2);go_roundg k2;case measure => have := I.out; have := xf.out; omega
                case rel => exact ⟨_, EQ, H', ⟨by have := I.out; have := xf.out; omega⟩, ⟨BK⟩, ⟨BL⟩⟩
              ·rw [if_neg xL] at H;exact absurd H (by simp)
             ·have H' := ah.mk H;clear H;(with_reducible refine (ih k2 (by have := I.out; have := xf.out; omega) _ _ l0 ((aj l0 a1).f3) (D.extract (z : Int).toNat (A : Int).toNat) false _ ?side1 ?side2 yv.out).mono ?_);(case side1 => exact CB Z);(case side2 => exact xk.out);rintro e xm ⟨rfl, hb⟩;refine ⟨_, rfl, ?_⟩;replace a := KB a hb;replace HB := BS (w := w) hb;(try clear hb);refine hK.out _ _ ⟨(ak a.out 0).trans rfl, (ak a.out 1).trans rfl, (ak a.out 2).trans rfl, (ak a.out 3).trans rfl⟩ (fun hHeld => ?_);clear hK K;refine nrm (some 92) ?_;refine pS 8 (some 93) #[T,T,T,T,T,T,T,T,T,F,F,F,F,F,F,F,F,F,F,F,F] ?_;refine pU 9 (some 94) #[T,T,T,T,T,T,T,T,T,T,F,F,F,F,F,F,F,F,F,F,F] ?_;refine pU 10 (some 95) #[T,T,T,T,T,T,T,T,T,T,T,F,F,F,F,F,F,F,F,F,F] ?_;refine pU 11 (some 96) #[T,T,T,T,T,T,T,T,T,T,T,T,F,F,F,F,F,F,F,F,F] ?_;refine pU 12 (some 97) #[T,T,T,T,T,T,T,T,T,T,T,T,T,F,F,F,F,F,F,F,F] ?_;refine pU 13 (some 98) #[T,T,T,T,T,T,T,T,T,T,T,T,T,T,F,F,F,F,F,F,F] ?_;refine pU 14 (some 99) #[T,T,T,T,T,T,T,T,T,T,T,T,T,T,T,F,F,F,F,F,F] ?_;refine pU 15 (some 100) #[T,T,T,T,T,T,T,T,T,T,T,T,T,T,T,T,F,F,F,F,F] ?_;refine pU 16 (some 101) #[T,T,T,T,T,T,T,T,T,T,T,T,T,T,T,T,T,F,F,F,F] ?_;refine pU 17 (some 102) #[T,T,T,T,T,T,T,T,T,T,T,T,T,T,T,T,T,T,F,F,F] ?_;refine pU 18 (some 103) #[T,T,T,T,T,T,T,T,T,T,T,T,T,T,T,T,T,T,T,F,F] ?_;refine pU 19 (some 104) #[T,T,T,T,T,T,T,T,T,T,T,T,T,T,T,T,T,T,T,T,F] ?_;refine pS 20 (some 105) #[T,T,T,T,T,T,T,T,T,T,T,T,T,T,T,T,T,T,T,T,T] ?_;refine je (iJ HT_.out (by kernel_rfl)) ?_;(try go_wp2);go_roundg k2;case measure => have := I.out; have := xf.out; omega
              case rel => exact ⟨_, EQ, H', ⟨by have := I.out; have := xf.out; omega⟩, ⟨BK⟩, ⟨BL⟩⟩
            ·have H' := ah.mk H;clear H;go_wp2;go_roundg k2;case measure => have := I.out; have := xf.out; omega
             case rel => exact ⟨_, EQ, H', ⟨by have := I.out; have := xf.out; omega⟩, ⟨BK⟩, ⟨BL⟩⟩
         ·obtain rfl := Option.some.inj H;go_wp2;go_ret;exact ⟨EWW, BL⟩
      ·replace H := ifE H; rcases H with ⟨yf, yg, H⟩ | ⟨zm, yf, yg, H⟩
       ·replace H := be H; obtain ⟨xw, zc, H⟩ := H;obtain rfl := Option.some.inj H;(try go_wp2_with (first | ((with_reducible refine aA (f := 193) rfl ?_); refine aY (some 110) Tryz.func193 #[.string ((aj l0 ((aj l0 a1).f2)).f1)] ?_; (with_reducible refine (lu.calls k ((aj l0 ((aj l0 a1).f2)).f1) xw _ zc.out).mono ?_); rintro e w' ⟨rfl, ⟨nd, rfl⟩⟩; refine ⟨_, rfl, ?_⟩)));go_ret;exact ⟨EWW, BL⟩
       ·replace H := ifE H; rcases H with ⟨yh, yi, H⟩ | ⟨zn, yh, yi, H⟩
        ·replace H := be H; obtain ⟨xx, zd, H⟩ := H;obtain rfl := Option.some.inj H;(try go_wp2_with (first | ((with_reducible refine aA (f := 194) rfl ?_); refine aY (some 116) Tryz.func194 #[.string ((aj l0 ((aj l0 a1).f2)).f1)] ?_; (with_reducible refine (ji.calls k ((aj l0 ((aj l0 a1).f2)).f1) xx _ zd.out).mono ?_); rintro e w' ⟨rfl, ⟨nd, rfl⟩⟩; refine ⟨_, rfl, ?_⟩)));go_ret;exact ⟨EWW, BL⟩
        ·replace H := ifE H; rcases H with ⟨yj, yk, H⟩ | ⟨zo, yj, yk, H⟩
         ·replace H := be H; obtain ⟨xy, ze, H⟩ := H;obtain rfl := Option.some.inj H;(try go_wp2_with (first | ((with_reducible refine aA (f := 195) rfl ?_); refine aY (some 122) Tryz.func195 #[.string ((aj l0 ((aj l0 a1).f2)).f1)] ?_; (with_reducible refine (jk.calls k ((aj l0 ((aj l0 a1).f2)).f1) xy _ ze.out).mono ?_); rintro e w' ⟨rfl, ⟨nd, rfl⟩⟩; refine ⟨_, rfl, ?_⟩)));go_ret;exact ⟨EWW, BL⟩
         ·replace H := ifE H; rcases H with ⟨yl, ym, H⟩ | ⟨zp, yl, ym, H⟩
          ·replace H := be H; obtain ⟨xz, zf, H⟩ := H;obtain rfl := Option.some.inj H;(try go_wp2_with (first | ((with_reducible refine aA (f := 196) rfl ?_); refine aY (some 128) Tryz.func196 #[.string D, .string ((aj l0 ((aj l0 a1).f2)).f1)] ?_; (with_reducible refine (dP.calls k D ((aj l0 ((aj l0 a1).f2)).f1) xz _ zf.out).mono ?_); rintro e w' ⟨rfl, ⟨nd, rfl⟩⟩; refine ⟨_, rfl, ?_⟩)));go_ret;exact ⟨EWW, BL⟩
          ·obtain rfl := Option.some.inj H;(try go_wp2);go_ret;exact ⟨EWW, BL⟩
end Go.Proofs.YtikmdgmnhbodjaaGreat.PFnExactClueDomains
