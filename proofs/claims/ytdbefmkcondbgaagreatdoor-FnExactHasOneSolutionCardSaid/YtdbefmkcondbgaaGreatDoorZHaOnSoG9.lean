/- Walks of functions: what each computes. -/
import Derived.Test.YtdbefmkcondbgaaGreatDoorZHaOnSoG0
import Derived.Test.YtdbefmkcondbgaaGreatDoorZHaOnSoG7
import Derived.Test.YtdbefmkcondbgaaGreatDoorZHaOnSoG8
namespace Go.Proofs.YtdbefmkcondbgaaGreatDoor.PFnExactHasOneSolution
open Go.RowKit Go.Proofs.Yw.PrintWords Go.Proofs.Yw.PrintLast Go.Proofs.Yw.PrintMore Go.Proofs.YtdbefmkcondbgaaGreatDoor.Sq
attribute [local go_sem] kT kV mF mG jO jP kU kW
set_option maxHeartbeats 8000000
set_option maxRecDepth 100000
set_option linter.unusedVariables false
set_option linter.unusedSimpArgs false
attribute [local go_sem high] LC
mutual
def aM.j0 : Nat → aj → aj → Bool → Option (Bool)
 | 0, _, _, _ => none
 | k + 1, a, b, c => if c = true then some false else aM.l0 k a b (a.size : Int) 0
def aM.l0 : Nat → aj → aj → Int → Int → Option (Bool)
 | 0, _, _, _, _ => none
 | k + 1, a, b, c, d => if d < c then if 0 ≤ d then if d < (a.size : Int) then if (bt a d) = 63 then aM.l0 k a b c (wrap64 (d + 1)) else if d < (b.size : Int) then if (bt a d) = (bt b d) then aM.l0 k a b c (wrap64 (d + 1)) else some false else none else none else none else some true
end
def aM.f (k : Nat) (a0 a1 : aj) : Option (Bool) := (dh.f k a0).bind fun t613 => if t613 = true then (bQ.f k a1).bind fun t614 => if t614 = true then aM.j0 k a0 a1 ((a0.size : Int) != (a1.size : Int)) else aM.j0 k a0 a1 true else aM.j0 k a0 a1 true
theorem aM.calls (k : Nat) (m u : aj) (r : Bool) (w : World) (h : aM.f k m u = some r) :
  Calls Tryz.prog 67 #[.string m, .string u] w fun e w' => e = .returned (.bool r) ∧ dQ w w' := by
 unfold aM.f at h;have H := h;clear h;have A := ah.mk H;clear H;go_enter Tryz.func67, Tryz.ntmps67;go_upto_region 1 with (fail)
 repeat (go_quiet (fail); go_upto_region 1 with (fail))
 go_cut [20] (fun M wc => ∃ (kq : Nat) (o : Bool), M = .bool o ∧ ah (aM.j0 kq m u o = some r) ∧ ah (kq ≤ k) ∧ dQ w wc)
 case first =>
  have H := A.out;clear A;replace H := be H; obtain ⟨Z, x, H⟩ := H;replace H := ifB H; rcases H with ⟨rfl, H⟩ | ⟨rfl, H⟩
  ·replace H := be H; obtain ⟨xa, J, H⟩ := H;replace H := ifB H; rcases H with ⟨rfl, H⟩ | ⟨rfl, H⟩
   ·have H' := ah.mk H;clear H
    repeat (go_wp2_with (first | (go_at_call 100; (with_reducible refine (dh.calls k m _ _ x.out).mono ?_); rintro e w' ⟨rfl, ⟨nd, rfl⟩⟩; (try first | exact da | exact DD)) | (go_at_call 101; (with_reducible refine (bQ.calls k u _ _ J.out).mono ?_); rintro e w' ⟨rfl, ⟨nd, rfl⟩⟩; (try first | exact da | exact DD))); go_quiet (first | (go_at_call 100; (with_reducible refine (dh.calls k m _ _ x.out).mono ?_); rintro e w' ⟨rfl, ⟨nd, rfl⟩⟩; (try first | exact da | exact DD)) | (go_at_call 101; (with_reducible refine (bQ.calls k u _ _ J.out).mono ?_); rintro e w' ⟨rfl, ⟨nd, rfl⟩⟩; (try first | exact da | exact DD))))
    go_wp2_with (first | (go_at_call 100; (with_reducible refine (dh.calls k m _ _ x.out).mono ?_); rintro e w' ⟨rfl, ⟨nd, rfl⟩⟩; (try first | exact da | exact DD)) | (go_at_call 101; (with_reducible refine (bQ.calls k u _ _ J.out).mono ?_); rintro e w' ⟨rfl, ⟨nd, rfl⟩⟩; (try first | exact da | exact DD)));go_meet;case rel => exact ⟨_, _, EQ, H', ⟨by first | omega | exact nR _⟩, DR⟩
   ·have H' := ah.mk H;clear H
    repeat (go_wp2_with (first | (go_at_call 100; (with_reducible refine (dh.calls k m _ _ x.out).mono ?_); rintro e w' ⟨rfl, ⟨nd, rfl⟩⟩; (try first | exact da | exact DD)) | (go_at_call 101; (with_reducible refine (bQ.calls k u _ _ J.out).mono ?_); rintro e w' ⟨rfl, ⟨nd, rfl⟩⟩; (try first | exact da | exact DD))); go_quiet (first | (go_at_call 100; (with_reducible refine (dh.calls k m _ _ x.out).mono ?_); rintro e w' ⟨rfl, ⟨nd, rfl⟩⟩; (try first | exact da | exact DD)) | (go_at_call 101; (with_reducible refine (bQ.calls k u _ _ J.out).mono ?_); rintro e w' ⟨rfl, ⟨nd, rfl⟩⟩; (try first | exact da | exact DD))))
    go_wp2_with (first | (go_at_call 100; (with_reducible refine (dh.calls k m _ _ x.out).mono ?_); rintro e w' ⟨rfl, ⟨nd, rfl⟩⟩; (try first | exact da | exact DD)) | (go_at_call 101; (with_reducible refine (bQ.calls k u _ _ J.out).mono ?_); rintro e w' ⟨rfl, ⟨nd, rfl⟩⟩; (try first | exact da | exact DD)));go_meet;case rel => exact ⟨_, _, EQ, H', ⟨by first | omega | exact nR _⟩, DR⟩
  ·have H' := ah.mk H;clear H
   repeat (go_wp2_with (first | (go_at_call 100; (with_reducible refine (dh.calls k m _ _ x.out).mono ?_); rintro e w' ⟨rfl, ⟨nd, rfl⟩⟩; (try first | exact da | exact DD))); go_quiet (first | (go_at_call 100; (with_reducible refine (dh.calls k m _ _ x.out).mono ?_); rintro e w' ⟨rfl, ⟨nd, rfl⟩⟩; (try first | exact da | exact DD))))
   go_wp2_with (first | (go_at_call 100; (with_reducible refine (dh.calls k m _ _ x.out).mono ?_); rintro e w' ⟨rfl, ⟨nd, rfl⟩⟩; (try first | exact da | exact DD)));go_meet;case rel => exact ⟨_, _, EQ, H', ⟨by first | omega | exact nR _⟩, DR⟩
 case rest =>
  clear A;obtain ⟨kq, o, rfl, HA, y, ⟨mc2, rfl⟩⟩ := hcut
  cases kq with
  | zero => exact absurd HA.out (by simp [aM.j0])
  | succ K =>
   have H := HA.out;clear HA;simp only [aM.j0] at H;replace H := ifB H; rcases H with ⟨rfl, H⟩ | ⟨rfl, H⟩
   ·obtain rfl := sI H;go_wp2
    repeat (go_quiet (fail); try go_wp2)
    go_ret;exact ⟨EQ, DR⟩
   ·have H' := ah.mk H;clear H;go_wp2
    repeat (go_quiet (fail); try go_wp2)
    go_loopg [23] K (fun kq O w' => ∃ (a : Int), O = .int .i64 a ∧ ah (aM.l0 kq m u (m.size : Int) a = some r) ∧ ah (kq ≤ K) ∧ dQ w w')
    case atStart => exact ⟨_, EQ, H', ⟨nR _⟩, DR⟩
    case round =>
     clear H';obtain ⟨a, rfl, HA, z, ⟨m2, rfl⟩⟩ := hrel
     cases gk with
     | zero => exact absurd HA.out (by simp [aM.l0])
     | succ k2 =>
      have H := HA.out;clear HA;simp only [aM.l0] at H;replace H := ifD H; rcases H with ⟨L, H⟩ | ⟨L, H⟩
      ·replace H := ifN H; obtain ⟨P, H⟩ := H;replace H := ifN H; obtain ⟨U, H⟩ := H;have xb : (0 ≤ (a : Int)) = True := OT;have xc : (a < (m.size : Int)) = True := OT;have hx12 := gN m a;replace H := ifE H; rcases H with ⟨D, E, H⟩ | ⟨xd, D, E, H⟩
       ·have H' := ah.mk H;clear H;go_wp2
        repeat (go_quiet (fail); try go_wp2)
        go_roundg k2;case measure => have := y.out; have := z.out; omega
        case rel => exact ⟨_, EQ, H', ⟨by have := y.out; have := z.out; omega⟩, DR⟩
       ·replace H := ifN H; obtain ⟨Y, H⟩ := H;have xe : (0 ≤ (a : Int)) = True := OT;have xf : (a < (m.size : Int)) = True := OT;have hx14 := gN m a;have xg : (0 ≤ (a : Int)) = True := OT;have xh : (a < (u.size : Int)) = True := OT;have hx16 := gN u a;replace H := ifE H; rcases H with ⟨G, I, H⟩ | ⟨xi, G, I, H⟩
        ·have H' := ah.mk H;clear H;go_wp2
         repeat (go_quiet (fail); try go_wp2)
         go_roundg k2;case measure => have := y.out; have := z.out; omega
         case rel => exact ⟨_, EQ, H', ⟨by have := y.out; have := z.out; omega⟩, DR⟩
        ·obtain rfl := sI H;go_wp2
         repeat (go_quiet (fail); try go_wp2)
         go_ret;exact ⟨EQ, DR⟩
      ·obtain rfl := sI H;go_wp2
       repeat (go_quiet (fail); try go_wp2)
       go_ret;exact ⟨EQ, DR⟩
def bN.l0 : Nat → List aj → aj → Int → Int → Option (Int)
 | 0, _, _, _, _ => none
 | k + 1, a, b, c, d => if d < c then if 0 ≤ d then if d < (a.length : Int) then if b.toList = (gq ByteArray.empty a d).toList then some d else bN.l0 k a b c (wrap64 (d + 1)) else none else none else some (-1)
def bN.f (k : Nat) (l0 : List aj) (a1 : aj) : Option (Int) := bN.l0 k l0 a1 (l0.length : Int) 0
theorem bN.calls (k : Nat) (L : Option Addr) (M : Nat) (l0 : List aj) (I : aj) (r : Int) (w : World) (u : Kd.C Kd.string w L l0.length l0) (x : l0.length ≤ M) (h : bN.f k l0 I = some r) :
  Calls Tryz.prog 102 #[.slice L l0.length M, .string I] w fun e w' => e = .returned (.int .i64 r) ∧ dQ w w' := by
 have J := ah.mk u;have U := ah.mk x;clear u x;unfold bN.f at h;have H := h;clear h;have H' := ah.mk H;clear H;go_enter Tryz.func102, Tryz.ntmps102;go_wp2
 go_loopg [8] k (fun kq Y w' => ∃ (a : Int), Y = .int .i64 a ∧ ah (bN.l0 kq l0 I (l0.length : Int) a = some r) ∧ ah (kq ≤ k) ∧ dQ w w')
 case atStart => exact ⟨_, EQ, H', ⟨nR _⟩, DR⟩
 case round =>
  clear H';obtain ⟨a, rfl, HA, y, ⟨m1, rfl⟩⟩ := hrel
  cases gk with
  | zero => exact absurd HA.out (by simp [bN.l0])
  | succ k1 =>
   have H := HA.out;clear HA;simp only [bN.l0] at H;replace H := ifD H; rcases H with ⟨z, H⟩ | ⟨z, H⟩
   ·replace H := ifN H; obtain ⟨O, H⟩ := H;replace H := ifN H; obtain ⟨P, H⟩ := H;have m : 0 ≤ (a : Int) := OD;have o : a < (l0.length : Int) := OD;obtain ⟨K, A, D⟩ := Kd.jF J.out a m o
    cases A
    replace m := eq_true m;replace o := eq_true o;replace H := ifE H; rcases H with ⟨E, G, H⟩ | ⟨c6, E, G, H⟩
    ·obtain rfl := sI H;go_wp2;go_ret;exact ⟨EQ, DR⟩
    ·have H' := ah.mk H;clear H;go_wp2;go_roundg k1;case measure => have := y.out; omega
     case rel => exact ⟨_, EQ, H', ks y, DR⟩
   ·obtain rfl := sI H;go_wp2;go_ret;exact ⟨EQ, DR⟩
def fH.f (k : Nat) (l0 : List aj) (a1 : aj) : Option (Bool) := (bN.f k l0 a1).bind fun t616 => some (decide (t616 ≥ 0))
theorem fH.calls (k : Nat) (x : Option Addr) (y : Nat) (l0 : List aj) (u : aj) (r : Bool) (w : World) (a : Kd.C Kd.string w x l0.length l0) (m : l0.length ≤ y) (h : fH.f k l0 u = some r) :
  Calls Tryz.prog 68 #[.slice x l0.length y, .string u] w fun e w' => e = .returned (.bool r) ∧ dQ w w' := by
 have z := ah.mk a;have A := ah.mk m;clear a m;unfold fH.f at h;have H := h;clear h;replace H := be H; obtain ⟨o, D, H⟩ := H;obtain rfl := sI H;go_enter Tryz.func68, Tryz.ntmps68;go_wp2_with (first | ((with_reducible refine aA (f := 102) rfl ?_); refine bg (some 7) Tryz.func102 #[.slice x l0.length y, .string u] ?_; (with_reducible refine (bN.calls k _ _ l0 u o _ ?s1_ ?s2_ D.out).mono ?_); (case s1_ => repeat (first | exact z.out | (with_reducible refine Kd.ig ?_ _) | (with_reducible refine Kd.iq ?_ _) | (with_reducible refine Kd.jh ?_))); (case s2_ => exact A.out); rintro e w' ⟨rfl, ⟨nd, rfl⟩⟩; refine ⟨_, rfl, ?_⟩));go_ret;exact ⟨EQ, DR⟩
def iC.l0 : Nat → List aj → List aj → Int → Int → Option (List aj)
 | 0, _, _, _, _ => none
 | k + 1, a, b, c, d => if d < c then if 0 ≤ d then if d < (b.length : Int) then (fH.f k a (gq ByteArray.empty b d)).bind fun e => if e = true then iC.l0 k a b c (wrap64 (d + 1)) else if a.length < 8796093022208 then iC.l0 k (a ++ [gq ByteArray.empty b d]) b c (wrap64 (d + 1)) else none else none else none else some a
def iC.f (k : Nat) (l0 : List aj) : Option (List aj) := iC.l0 k ([] : List aj) l0 (l0.length : Int) 0
theorem iC.calls (k : Nat) (A0 : Option Addr) (c0 : Nat) (l0 r : List aj) (w : World) (K : Kd.C Kd.string w A0 l0.length l0) (L : l0.length ≤ c0) (h : iC.f k l0 = some r) :
  Calls Tryz.prog 93 #[.slice A0 l0.length c0] w fun e w' => ∃ v0_ : Value, e = .returned (v0_) ∧ Kd.R Kd.string 9 w' w.heap.size (fun _ => True) v0_ r ∧ Below w.heap.size w w' := by
 have Y := ah.mk K;have xh := ah.mk L;clear K L;have HB := ah.mk (bR w.heap.size w);unfold iC.f at h;have H := h;clear h;have H' := ah.mk H;clear H;go_enter Tryz.func93, Tryz.ntmps93;go_wp2
 go_loopg [3, 8] k (fun kq v3 v8 w' => ∃ (m : List aj) (a : Int), v8 = .int .i64 a ∧ ah (iC.l0 kq m l0 (l0.length : Int) a = some r) ∧ ah (kq ≤ k) ∧ ah (Kd.R Kd.string 9 w' w.heap.size (fun _ => True) v3 m) ∧ ah (Below w.heap.size w w'))
 case atStart => exact ⟨_, _, EQ, H', ⟨nR _⟩, ⟨by first | exact Kd.mK _ _ _ _ _ | exact Kd.qO _ _ _ _ _ | exact Kd.qR _ _ _ _ _ | exact Kd.qP _ _ _ _ _ | exact Kd.qQ _ _ _ _ _⟩, ⟨BL⟩⟩
 case round =>
  clear H';obtain ⟨m, a, rfl, HA, E, o, HB⟩ := hrel
  cases gk with
  | zero => exact absurd HA.out (by simp [iC.l0])
  | succ k1 =>
   have H := HA.out;clear HA;simp only [iC.l0] at H;replace H := ifD H; rcases H with ⟨M, H⟩ | ⟨M, H⟩
   ·replace H := ifN H; obtain ⟨xd, H⟩ := H;replace H := ifN H; obtain ⟨xe, H⟩ := H;replace H := be H; obtain ⟨xf, A5, H⟩ := H;have A : 0 ≤ (a : Int) := OD;have D : a < (l0.length : Int) := OD;obtain ⟨Z, O, u⟩ := Kd.jF Y.out a A D
    cases O
    (try replace u := (HB.out.cell (wB w _ u)).trans u);replace A := eq_true A;replace D := eq_true D;obtain ⟨y, z, G⟩ := Kd.dI o.out;subst G;replace H := ah.mk H;go_wp2_with (first | ((with_reducible refine aA (f := 68) rfl ?_); refine bg (some 14) Tryz.func68 #[.slice y m.length z, .string (gq ByteArray.empty l0 a)] ?_; (with_reducible refine (fH.calls k1 _ _ m (gq ByteArray.empty l0 a) _ _ ?s1_ ?s2_ A5.out).mono ?_); (case s1_ => exact CR2 o); (case s2_ => exact (Kd.bY o.out).2.1); rintro e w' ⟨rfl, ⟨nd, rfl⟩⟩; refine ⟨_, rfl, ?_⟩; refine dx ?_));refine Hide.mk ?_;replace H := H.out;replace H := ifB H; rcases H with ⟨rfl, H⟩ | ⟨rfl, H⟩
    ·have H' := ah.mk H;clear H;(try go_wp2);go_roundg k1;case measure => have := E.out; omega
     case rel => exact ⟨_, _, EQ, H', ks E, ⟨(RR o)⟩, ⟨BL⟩⟩
    ·replace H := ifP H; obtain ⟨c8, H⟩ := H;have P := ah.mk c8;clear c8;obtain ⟨U, x⟩ : ∃ y_ : List aj, y_ = (m ++ [gq ByteArray.empty l0 a]) := ⟨_, rfl⟩;replace H : (iC.l0 k1 U l0 (l0.length : Int) (wrap64 (a + 1))) = some r := cW x H
     have I := ah.mk x;clear x;have H' := ah.mk H;clear H;(try go_wp2_with (first | ((with_reducible refine dR (b := .append) (xs := #[.tmp 16, .tmp 18]) rfl ?_); at_builtin; refine Kd.gY Kd.string (w0 := w) w.heap.size rfl (.tmp 16) (.tmp 18) 29 9 (.string ⟨#[]⟩) 16 rfl Tryz.underlying29 wL rfl (by decide) (by omega) (.slice y m.length z) m (gq ByteArray.empty l0 a) [.string (gq ByteArray.empty l0 a)] (fun _ => True) (fun _ => False) rfl rfl ?aP (fun _ hk => hk.elim) ?aF ?aO ?aB ?aS ?aL ?_; (case aP => exact rfl); (case aB => exact BL); (case aF => exact (fun _ _ => trivial)); (case aO => exact (RR o)); (case aS => exact (aH BL)); (case aL => have := P.out; omega); intro xg xa ho hb hg hat; rw [← I.out] at ho; replace HB := ah.mk (hb); have J := ah.mk (ho); clear o; clear ho hb hg hat)));go_roundg k1;case measure => have := E.out; omega
     case rel => exact ⟨_, _, EQ, H', ks E, ⟨(RR J)⟩, ⟨BL⟩⟩
   ·obtain rfl := sI H;go_wp2;go_ret;exact ⟨_, EWW, (RR o), BL⟩
def fO.l0 : Nat → (Nat → aj → Option Bool) → List aj → List aj → Int → Int → Option (List aj)
 | 0, _, _, _, _, _ => none
 | k + 1, a, b, c, d, e => if e < d then if 0 ≤ e then if e < (c.length : Int) then (a k (gq ByteArray.empty c e)).bind fun f => if f = true then if b.length < 8796093022208 then fO.l0 k a (b ++ [gq ByteArray.empty c e]) c d (wrap64 (e + 1)) else none else fO.l0 k a b c d (wrap64 (e + 1)) else none else none else some b
def fO.f (k : Nat) (l0 : List aj) (a1 : (Nat → aj → Option Bool)) : Option (List aj) := fO.l0 k a1 ([] : List aj) l0 (l0.length : Int) 0
theorem fO.calls (k : Nat) (A0 : Option Addr) (c0 : Nat) (l0 : List aj) (P : (Nat → aj → Option Bool)) (r : List aj) (w : World) (I : Kd.C Kd.string w A0 l0.length l0) (J : l0.length ≤ c0) (h : fO.f k l0 P = some r) (g : FuncId) (lb : Array Value) (eg : ∀ args w, (callFunc g args).run Tryz.prog w = .ok (.enter g args) w) (hp : ∀ (j : Nat) (s : aj) (b : Bool) (W : World), Below w.heap.size w W → P j s = some b → Calls Tryz.prog g (#[.string s] ++ lb) W fun e w' => e = .returned (.bool b) ∧ Below W.heap.size W w') :
  Calls Tryz.prog 94 #[.slice A0 l0.length c0, .func (.func g) #[] lb] w fun e w' => ∃ v0_ : Value, e = .returned (v0_) ∧ Kd.R Kd.string 9 w' w.heap.size (fun _ => True) v0_ r ∧ Below w.heap.size w w' := by
 have U := ah.mk I;have xi := ah.mk J;clear I J;have HB := ah.mk (bR w.heap.size w);have HPP := ah.mk hp;clear hp;unfold fO.f at h;have H := h;clear h;have H' := ah.mk H;clear H;go_enter Tryz.func94, Tryz.ntmps94;go_wp2
 go_loopg [5, 10] k (fun kq v5 Y w' => ∃ (x : List aj) (a : Int), Y = .int .i64 a ∧ ah (fO.l0 kq P x l0 (l0.length : Int) a = some r) ∧ ah (kq ≤ k) ∧ ah (Kd.R Kd.string 9 w' w.heap.size (fun _ => True) v5 x) ∧ ah (Below w.heap.size w w'))
 case atStart => exact ⟨_, _, EQ, H', ⟨nR _⟩, ⟨by first | exact Kd.mK _ _ _ _ _ | exact Kd.qO _ _ _ _ _ | exact Kd.qR _ _ _ _ _ | exact Kd.qP _ _ _ _ _ | exact Kd.qQ _ _ _ _ _⟩, ⟨BL⟩⟩
 case round =>
  clear H';obtain ⟨x, a, rfl, HA, A, m, HB⟩ := hrel
  cases gk with
  | zero => exact absurd HA.out (by simp [fO.l0])
  | succ k1 =>
   have H := HA.out;clear HA;simp only [fO.l0] at H;replace H := ifD H; rcases H with ⟨K, H⟩ | ⟨K, H⟩
   ·replace H := ifN H; obtain ⟨xd, H⟩ := H;replace H := ifN H; obtain ⟨xe, H⟩ := H;replace H := be H; obtain ⟨xf, A6, H⟩ := H;have y : 0 ≤ (a : Int) := OD;have z : a < (l0.length : Int) := OD;obtain ⟨Z, L, o⟩ := Kd.jF U.out a y z
    cases L
    (try replace o := (HB.out.cell (wB w _ o)).trans o);replace y := eq_true y;replace z := eq_true z;replace H := ifB H; rcases H with ⟨rfl, H⟩ | ⟨rfl, H⟩
    ·replace H := ifP H; obtain ⟨c8, H⟩ := H;have M := ah.mk c8;clear c8;obtain ⟨O, u⟩ : ∃ y_ : List aj, y_ = (x ++ [gq ByteArray.empty l0 a]) := ⟨_, rfl⟩;replace H : (fO.l0 k1 P O l0 (l0.length : Int) (wrap64 (a + 1))) = some r := cW u H
     have D := ah.mk u;clear u;have H' := ah.mk H;clear H;go_wp2_with (first | (refine (HPP.out k1 (gq ByteArray.empty l0 a) true _ BL A6.out).mono ?_; rintro e E ⟨rfl, hb⟩; replace m := RB m hb; replace HB := BS (w := w) hb; (try clear hb)) | ((with_reducible refine dR (b := .append) (xs := #[.tmp 17, .tmp 19]) rfl ?_); at_builtin; refine Kd.gY Kd.string (w0 := w) w.heap.size rfl (.tmp 17) (.tmp 19) 29 9 (.string ⟨#[]⟩) 16 rfl Tryz.underlying29 wL rfl (by decide) (by omega) u5 x (gq ByteArray.empty l0 a) [.string (gq ByteArray.empty l0 a)] (fun _ => True) (fun _ => False) rfl rfl ?aP (fun _ hk => hk.elim) ?aF ?aO ?aB ?aS ?aL ?_; (case aP => exact rfl); (case aB => exact BL); (case aF => exact (fun _ _ => trivial)); (case aO => exact (RR m)); (case aS => exact (aH BL)); (case aL => have := M.out; omega); intro xh xa ho hb hg hat; rw [← D.out] at ho; replace HB := ah.mk (hb); have G := ah.mk (ho); clear m; clear ho hb hg hat));go_roundg k1;case measure => have := A.out; omega
     case rel => exact ⟨_, _, EQ, H', ks A, ⟨(RR G)⟩, ⟨BL⟩⟩
    ·have H' := ah.mk H;clear H;go_wp2_with (first | (refine (HPP.out k1 (gq ByteArray.empty l0 a) false _ BL A6.out).mono ?_; rintro e E ⟨rfl, hb⟩; replace m := RB m hb; replace HB := BS (w := w) hb; (try clear hb); (try clear hk)));go_roundg k1;case measure => have := A.out; omega
     case rel => exact ⟨_, _, EQ, H', ks A, ⟨(RR m)⟩, ⟨BL⟩⟩
   ·obtain rfl := sI H;go_wp2;go_ret;exact ⟨_, EWW, (RR m), BL⟩
def fq.l0 : Nat → List S57 → Int → Int → aj → Int → Option (Int)
 | 0, _, _, _, _, _ => none
 | k + 1, a, b, c, d, e => if c < b then if 0 ≤ c then if c < (a.length : Int) then if (d.toList == (((gP a c).f0).toList) && (e == ((gP a c).f1))) = true then some c else fq.l0 k a b (wrap64 (c + 1)) d e else none else none else some (-1)
def fq.f (k : Nat) (l0 : List S57) (a1_0 : aj) (a1_1 : Int) : Option (Int) := fq.l0 k l0 (l0.length : Int) 0 a1_0 a1_1
theorem fq.calls (k : Nat) (A0 : Option Addr) (c0 : Nat) (l0 : List S57) (m : aj) (o r : Int) (w : World) (M : Kd.C k57 w A0 l0.length l0) (O : l0.length ≤ c0) (h : fq.f k l0 m o = some r) :
  Calls Tryz.prog 148 #[.slice A0 l0.length c0, .agg #[.string m, .int .i64 o]] w fun e w' => e = .returned (.int .i64 r) ∧ Below w.heap.size w w' := by
 have xg := Tryz.underlying57;have xc := ah.mk M;have xl := ah.mk O;clear M O;have HB := ah.mk (bR w.heap.size w);unfold fq.f at h;have H := h;clear h;have H' := ah.mk H;clear H;go_enter Tryz.func148, Tryz.ntmps148
 repeat (go_wp2_with (first | ((with_reducible refine aI (N := 3) rfl ?_); refine aZ (N := 3) (cs := #[.string m, .int .i64 o]) (t := 57) ?_; intro A hg w3 hbox hb; have z := ah.mk hbox; have u := SZ (w := w) hg; have D := u; replace HB := BS (w := w) hb; clear hb hbox hg)); go_quiet (first | ((with_reducible refine aI (N := 3) rfl ?_); refine aZ (N := 3) (cs := #[.string m, .int .i64 o]) (t := 57) ?_; intro A hg w3 hbox hb; have z := ah.mk hbox; have u := SZ (w := w) hg; have D := u; replace HB := BS (w := w) hb; clear hb hbox hg)))
 go_wp2_with (first | ((with_reducible refine aI (N := 3) rfl ?_); refine aZ (N := 3) (cs := #[.string m, .int .i64 o]) (t := 57) ?_; intro A hg w3 hbox hb; have z := ah.mk hbox; have u := SZ (w := w) hg; have D := u; replace HB := BS (w := w) hb; clear hb hbox hg))
 go_loopg [8] k (fun kq v8 w' => ∃ (a : Int), v8 = .int .i64 a ∧ ah (fq.l0 kq l0 (l0.length : Int) a m o = some r) ∧ ah (kq ≤ k) ∧ ah (w'.heap[A]? = some (.cells #[.string m, .int .i64 o] 57 (0, 0))) ∧ ah (Below w.heap.size w w'))
 case atStart => exact ⟨_, EQ, H', ⟨nR _⟩, ⟨BK⟩, ⟨BL⟩⟩
 case round =>
  clear H';obtain ⟨a, rfl, HA, P, z, HB⟩ := hrel
  cases gk with
  | zero => exact absurd HA.out (by simp [fq.l0])
  | succ k1 =>
   have H := HA.out;clear HA;simp only [fq.l0] at H;replace H := ifD H; rcases H with ⟨U, H⟩ | ⟨U, H⟩
   ·replace H := ifN H; obtain ⟨xi, H⟩ := H;replace H := ifN H; obtain ⟨xj, H⟩ := H;obtain ⟨I, J, K, L⟩ := cz2 z.out;have E : 0 ≤ (a : Int) := OD;have G : a < (l0.length : Int) := OD;obtain ⟨xd, Y, x, y⟩ := Aw xc.out a E G
    cases Y
    (try replace x := (HB.out.cell (wB w _ x)).trans x);(try replace y := (HB.out.cell (wB w _ y)).trans y);replace E := eq_true E;replace G := eq_true G;by_cases c7 : (m.toList == (((gP l0 a).f0).toList) && (o == ((gP l0 a).f1))) = true
    ·rw [if_pos c7] at H;have Z : (m.toList == (((gP l0 a).f0).toList) && (o == ((gP l0 a).f1))) = true := c7;(try (have xa : decide (m.toList = (((gP l0 a).f0).toList) && (o == ((gP l0 a).f1))) = true := by simpa using c7));(try (have xb : (m.toList == (((gP l0 a).f0).toList) && (o == ((gP l0 a).f1))) = true := by simpa using c7));clear c7;obtain rfl := sI H;go_wp2
     repeat (go_quiet (fail); try go_wp2)
     go_ret;exact ⟨EWW, BL⟩
    ·rw [if_neg c7] at H;have Z : (m.toList == (((gP l0 a).f0).toList) && (o == ((gP l0 a).f1))) = false := by simpa using c7
     (try (have xa : decide (m.toList = (((gP l0 a).f0).toList) && (o == ((gP l0 a).f1))) = false := by simpa using c7));(try (have xb : (m.toList == (((gP l0 a).f0).toList) && (o == ((gP l0 a).f1))) = false := by simpa using c7));(try (have xk : ¬ (m.toList = (((gP l0 a).f0).toList) && (o == ((gP l0 a).f1))) := by simpa using c7));clear c7;have H' := ah.mk H;clear H;go_wp2
     repeat (go_quiet (fail); try go_wp2)
     go_roundg k1;case measure => have := P.out; omega
     case rel => exact ⟨_, EQ, H', ks P, ⟨BK⟩, ⟨BL⟩⟩
   ·obtain rfl := sI H;go_wp2
    repeat (go_quiet (fail); try go_wp2)
    go_ret;exact ⟨EWW, BL⟩
def jw.f (k : Nat) (l0 : List S57) (a1_0 : aj) (a1_1 : Int) : Option (Bool) := (fq.f k l0 a1_0 a1_1).bind fun t630 => some (decide (t630 ≥ 0))
theorem jw.calls (k : Nat) (I : Option Addr) (J : Nat) (l0 : List S57) (a : aj) (m : Int) (r : Bool) (w : World) (x : Kd.C k57 w I l0.length l0) (y : l0.length ≤ J) (h : jw.f k l0 a m = some r) :
  Calls Tryz.prog 125 #[.slice I l0.length J, .agg #[.string a, .int .i64 m]] w fun e w' => e = .returned (.bool r) ∧ Below w.heap.size w w' := by
 have P := Tryz.underlying57;have K := ah.mk x;have L := ah.mk y;clear x y;have HB := ah.mk (bR w.heap.size w);unfold jw.f at h;have H := h;clear h;replace H := be H; obtain ⟨z, U, H⟩ := H;obtain rfl := sI H;go_enter Tryz.func125, Tryz.ntmps125;go_wp2_with (first | ((with_reducible refine aI (N := 3) rfl ?_); refine aZ (N := 3) (cs := #[.string a, .int .i64 m]) (t := 57) ?_; intro M hg Y hbox hb; have o := ah.mk hbox; have u := SZ (w := w) hg; have O := u; replace HB := BS (w := w) hb; clear hb hbox hg; obtain ⟨A, D, E, G⟩ := cz2 o.out) | ((with_reducible refine aA (f := 148) rfl ?_); refine bg (some 7) Tryz.func148 #[.slice I l0.length J, .agg #[.string a, .int .i64 m]] ?_; (with_reducible refine (fq.calls k _ _ l0 a m z _ ?s1_ ?s2_ U.out).mono ?_); (case s1_ => exact CB K); (case s2_ => exact L.out); rintro e Z ⟨rfl, hb⟩; refine ⟨_, rfl, ?_⟩; replace o := KB o hb; replace HB := BS (w := w) hb; (try clear hb)));go_ret;exact ⟨EWW, BL⟩
def iB.f (k : Nat) (l0 : List S57) (a1 : aj) (a2 : Int) : Option (Bool) := (jw.f k l0 a1 a2).bind fun t631 => some t631
theorem iB.calls (k : Nat) (y : Option Addr) (z : Nat) (l0 : List S57) (u : aj) (x : Int) (r : Bool) (w : World) (a : Kd.C k57 w y l0.length l0) (m : l0.length ≤ z) (h : iB.f k l0 u x = some r) :
  Calls Tryz.prog 96 #[.slice y l0.length z, .string u, .int .i64 x] w fun e w' => e = .returned (.bool r) ∧ Below w.heap.size w w' := by
 have E := Tryz.underlying57;have A := ah.mk a;have D := ah.mk m;clear a m;have HB := ah.mk (bR w.heap.size w);unfold iB.f at h;have H := h;clear h;replace H := be H; obtain ⟨o, G, H⟩ := H;obtain rfl := sI H;go_enter Tryz.func96, Tryz.ntmps96;go_wp2_with (first | ((with_reducible refine aA (f := 125) rfl ?_); refine bg (some 11) Tryz.func125 #[.slice y l0.length z, .agg #[.string u, .int .i64 x]] ?_; (with_reducible refine (jw.calls k _ _ l0 u x o _ ?s1_ ?s2_ G.out).mono ?_); (case s1_ => repeat (first | exact A.out | (with_reducible refine Kd.ig ?_ _) | (with_reducible refine Kd.iq ?_ _) | (with_reducible refine Kd.jh ?_))); (case s2_ => exact D.out); rintro e I ⟨rfl, hb⟩; refine ⟨_, rfl, ?_⟩; replace HB := BS (w := w) hb; (try clear hb)));go_ret;exact ⟨EWW, BL⟩
def iZ.f (k : Nat) (a0 : aj) : Option (aj) := (bQ.f k a0).bind fun t => if t = true then if a0.size ≤ 12 then some (strOfNums (Go.Proofs.YtdbefmkcondbgaaGreatDoor.HandSort.sorted a0)) else none else none
theorem iZ.calls (k : Nat) (a r : aj) (w : World) (h : iZ.f k a = some r) :
  Calls Tryz.prog 163 #[.string a] w fun e w' => e = .returned (.string r) ∧ Below w.heap.size w w' := by
 obtain ⟨t, h1, h2⟩ := bM h
 cases t with
 | false => simp at h2
 | true =>
  rw [if_pos rfl] at h2;by_cases h3 : a.size ≤ 12
  ·rw [if_pos h3] at h2;obtain rfl := sI h2;exact Go.Proofs.YtdbefmkcondbgaaGreatDoor.HandSort.BD a w h3 ((bQ.calls k a true w h1).mono fun e w' hq => ⟨hq.1, hq.2.out⟩)
  ·rw [if_neg h3] at h2
   cases h2
def iT.f (k : Nat) (a0 a1 : aj) : Option (Bool) := (bQ.f k a0).bind fun t632 => if t632 = true then (bQ.f k a1).bind fun t633 => if t633 = true then if a0.toList = a1.toList then some false else (iZ.f k a0).bind fun t634 => (iZ.f k a1).bind fun t635 => some (t634.toList == t635.toList) else some false else some false
theorem iT.calls (k : Nat) (a y : aj) (r : Bool) (w : World) (h : iT.f k a y = some r) :
  Calls Tryz.prog 149 #[.string a, .string y] w fun e w' => e = .returned (.bool r) ∧ Below w.heap.size w w' := by
 have HB := ah.mk (bR w.heap.size w);unfold iT.f at h;have H := h;clear h;replace H := be H; obtain ⟨D, G, H⟩ := H;replace H := ah.mk H;go_enter Tryz.func149, Tryz.ntmps149;go_wp2_with (first | ((with_reducible refine aA (f := 101) rfl ?_); refine bg (some 6) Tryz.func101 #[.string a] ?_; (with_reducible refine (bQ.calls k a _ _ G.out).mono ?_); rintro e w' ⟨rfl, ⟨nd, rfl⟩⟩; refine ⟨_, rfl, ?_⟩; refine dx ?_));refine Hide.mk ?_;replace H := H.out;replace H := ifB H; rcases H with ⟨rfl, H⟩ | ⟨rfl, H⟩
 ·replace H := be H; obtain ⟨E, I, H⟩ := H;replace H := ah.mk H;go_wp2_with (first | (go_at_call 101; (with_reducible refine (bQ.calls k y _ _ I.out).mono ?_); rintro e w' ⟨rfl, ⟨nd, rfl⟩⟩; refine dx ?_));refine Hide.mk ?_;replace H := H.out;replace H := ifB H; rcases H with ⟨rfl, H⟩ | ⟨rfl, H⟩
  ·replace H := ifE H; rcases H with ⟨m, o, H⟩ | ⟨c7, m, o, H⟩
   ·obtain rfl := sI H;(try go_wp2);go_ret;exact ⟨EWW, BL⟩
   ·replace H := be H; obtain ⟨u, J, H⟩ := H;replace H := be H; obtain ⟨x, K, H⟩ := H;obtain rfl := sI H;(try go_wp2_with (first | (go_at_call 163; (with_reducible refine (iZ.calls k a u _ J.out).mono ?_); rintro e z ⟨rfl, hb⟩; replace HB := BS (w := w) hb; (try clear hb)) | (go_at_call 163; (with_reducible refine (iZ.calls k y x _ K.out).mono ?_); rintro e A ⟨rfl, hb⟩; replace HB := BS (w := w) hb; (try clear hb))));go_ret;exact ⟨EWW, BL⟩
  ·obtain rfl := sI H;(try go_wp2);go_ret;exact ⟨EWW, BL⟩
 ·obtain rfl := sI H;(try go_wp2);go_ret;exact ⟨EWW, BL⟩
def kY.f (k : Nat) (a0 : aj) : Option (aj) := (bQ.f k a0).bind fun t636 => if t636 = true then if 0 ≤ 1 then if 1 ≤ (a0.size : Int) then some (a0.extract 0 1) else none else none else some (⟨#[]⟩ : aj)
theorem kY.calls (k : Nat) (a r : aj) (w : World) (h : kY.f k a = some r) :
  Calls Tryz.prog 150 #[.string a] w fun e w' => e = .returned (.string r) ∧ dQ w w' := by
 unfold kY.f at h;have H := h;clear h;replace H := be H; obtain ⟨m, A2, H⟩ := H;replace H := ah.mk H;go_enter Tryz.func150, Tryz.ntmps150;go_wp2_with (first | ((with_reducible refine aA (f := 101) rfl ?_); refine bg (some 4) Tryz.func101 #[.string a] ?_; (with_reducible refine (bQ.calls k a _ _ A2.out).mono ?_); rintro e w' ⟨rfl, ⟨nd, rfl⟩⟩; refine ⟨_, rfl, ?_⟩; refine dx ?_));refine Hide.mk ?_;replace H := H.out;replace H := ifB H; rcases H with ⟨rfl, H⟩ | ⟨rfl, H⟩
 ·replace H := ifP H; obtain ⟨c4, H⟩ := H;have o := eq_true c4;have u : decide (0 ≤ 1) = true := dT c4;clear c4;replace H := ifP H; obtain ⟨c5, H⟩ := H;have x := eq_true c5;have y : decide (1 ≤ (a.size : Int)) = true := dT c5;clear c5;obtain rfl := sI H;(try go_wp2);go_ret;exact ⟨EQ, DR⟩
 ·obtain rfl := sI H;(try go_wp2);go_ret;exact ⟨EQ, DR⟩
def jc.f (k : Nat) (a0 : aj) : Option (aj) := (bQ.f k a0).bind fun t637 => if t637 = true then if 1 ≤ (a0.size : Int) then some (a0.extract 1 a0.size) else none else some (⟨#[]⟩ : aj)
theorem jc.calls (k : Nat) (a r : aj) (w : World) (h : jc.f k a = some r) :
  Calls Tryz.prog 151 #[.string a] w fun e w' => e = .returned (.string r) ∧ dQ w w' := by
 unfold jc.f at h;have H := h;clear h;replace H := be H; obtain ⟨m, A2, H⟩ := H;replace H := ah.mk H;go_enter Tryz.func151, Tryz.ntmps151;go_wp2_with (first | ((with_reducible refine aA (f := 101) rfl ?_); refine bg (some 4) Tryz.func101 #[.string a] ?_; (with_reducible refine (bQ.calls k a _ _ A2.out).mono ?_); rintro e w' ⟨rfl, ⟨nd, rfl⟩⟩; refine ⟨_, rfl, ?_⟩; refine dx ?_));refine Hide.mk ?_;replace H := H.out;replace H := ifB H; rcases H with ⟨rfl, H⟩ | ⟨rfl, H⟩
 ·replace H := ifP H; obtain ⟨c4, H⟩ := H;have o := eq_true c4;have u : decide (1 ≤ (a.size : Int)) = true := dT c4;clear c4;obtain rfl := sI H;(try go_wp2);go_ret;exact ⟨EQ, DR⟩
 ·obtain rfl := sI H;(try go_wp2);go_ret;exact ⟨EQ, DR⟩
def jd.f (k : Nat) (a0 : aj) : Option (aj) := (bQ.f k a0).bind fun t638 => (if t638 = true then (if 0 ≤ (wrap64 ((a0.size : Int) - 1)) then (if (wrap64 ((a0.size : Int) - 1)) ≤ (a0.size : Int) then (some (a0.extract 0 ((wrap64 ((a0.size : Int) - 1)) : Int).toNat)) else none) else none) else some (⟨#[]⟩ : aj))
theorem jd.calls (k : Nat) (a r : aj) (w : World) (h : jd.f k a = some r) :
  Calls Tryz.prog 152 #[.string a] w fun e w' => e = .returned (.string r) ∧ dQ w w' := by
 unfold jd.f at h;have H := h;clear h;replace H := be H; obtain ⟨m, A2, H⟩ := H;replace H := ah.mk H;go_enter Tryz.func152, Tryz.ntmps152;go_wp2_with (first | ((with_reducible refine aA (f := 101) rfl ?_); refine bg (some 4) Tryz.func101 #[.string a] ?_; (with_reducible refine (bQ.calls k a _ _ A2.out).mono ?_); rintro e w' ⟨rfl, ⟨nd, rfl⟩⟩; refine ⟨_, rfl, ?_⟩; refine dx ?_));refine Hide.mk ?_;replace H := H.out;replace H := ifB H; rcases H with ⟨rfl, H⟩ | ⟨rfl, H⟩
 ·obtain ⟨ji4, hji4⟩ : ∃ j_ : Int, (wrap64 ((a.size : Int) - 1)) = j_ := ⟨_, rfl⟩;replace H : (if 0 ≤ (ji4) then (if (ji4) ≤ (a.size : Int) then (some (a.extract 0 ((ji4) : Int).toNat)) else (none)) else (none)) = some r := by first | (rw [hji4] at H; exact H) | (simp only [hji4] at H ⊢; exact H)
  (try rw [hji4] at A2);have hji4w : (IntKind.i64.wrap ((a.size : Int) - 1)) = ji4 := (iJ _).trans hji4;replace H := ifP H; obtain ⟨c5, H⟩ := H;have o := eq_true c5;have u : decide (0 ≤ (ji4)) = true := dT c5;clear c5;replace H := ifP H; obtain ⟨c6, H⟩ := H;have x := eq_true c6;have y : decide ((ji4) ≤ (a.size : Int)) = true := dT c6;clear c6;obtain rfl := sI H;(try go_wp2);go_ret;exact ⟨by first | rfl | (simp; done) | (simp only [← hji4] <;> (first | rfl | simp)) | (simp [*]; done), DR⟩
 ·obtain rfl := sI H;(try go_wp2);go_ret;exact ⟨EQ, DR⟩
mutual
def dO.j0 : Nat → aj → aj → Bool → Option (Bool)
 | 0, _, _, _ => none
 | k + 1, a, b, c => if c = true then some false else dO.l0 k a b 1
def dO.l0 : Nat → aj → aj → Int → Option (Bool)
 | 0, _, _, _ => none
 | k + 1, a, b, c => if (wrap64 (c + (a.size : Int))) < (b.size : Int) then (if 0 ≤ c then (if c ≤ (wrap64 (c + (a.size : Int))) then (if (wrap64 (c + (a.size : Int))) ≤ (b.size : Int) then (if (b.extract (c : Int).toNat ((wrap64 (c + (a.size : Int))) : Int).toNat).toList = a.toList then some true else dO.l0 k a b (wrap64 (c + 1))) else none) else none) else none) else some false
end
def dO.f (k : Nat) (a0 a1 : aj) : Option (Bool) := (bQ.f k a0).bind fun t639 => if t639 = true then (bQ.f k a1).bind fun t640 => dO.j0 k a0 a1 (!t640) else dO.j0 k a0 a1 true
theorem dO.calls (k : Nat) (o z : aj) (r : Bool) (w : World) (h : dO.f k o z = some r) :
  Calls Tryz.prog 153 #[.string o, .string z] w fun e w' => e = .returned (.bool r) ∧ dQ w w' := by
 unfold dO.f at h;have H := h;clear h;have u := ah.mk H;clear H;go_enter Tryz.func153, Tryz.ntmps153;go_upto_region 1 with (fail)
 go_cut [13] (fun K wc => ∃ (kq : Nat) (m : Bool), K = .bool m ∧ ah (dO.j0 kq o z m = some r) ∧ ah (kq ≤ k) ∧ dQ w wc)
 case first =>
  have H := u.out;clear u;replace H := be H; obtain ⟨U, A4, H⟩ := H;replace H := ah.mk H;go_wp2_with (first | ((with_reducible refine aA (f := 101) rfl ?_); refine bg (some 7) Tryz.func101 #[.string o] ?_; (with_reducible refine (bQ.calls k o _ _ A4.out).mono ?_); rintro e w' ⟨rfl, ⟨nd, rfl⟩⟩; refine ⟨_, rfl, ?_⟩; refine dx ?_));refine Hide.mk ?_;replace H := H.out;replace H := ifB H; rcases H with ⟨rfl, H⟩ | ⟨rfl, H⟩
  ·replace H := be H; obtain ⟨A, A6, H⟩ := H;have H' := ah.mk H;clear H;(try go_wp2_with (first | (go_at_call 101; (with_reducible refine (bQ.calls k z A _ A6.out).mono ?_); rintro e w' ⟨rfl, ⟨nd, rfl⟩⟩)));go_meet;case rel => exact ⟨_, _, EQ, H', ⟨by first | omega | exact nR _⟩, DR⟩
  ·have H' := ah.mk H;clear H;(try go_wp2);go_meet;case rel => exact ⟨_, _, EQ, H', ⟨by first | omega | exact nR _⟩, DR⟩
 case rest =>
  clear u;obtain ⟨kq, m, rfl, HA, D, ⟨mc2, rfl⟩⟩ := hcut
  cases kq with
  | zero => exact absurd HA.out (by simp [dO.j0])
  | succ E =>
   have H := HA.out;clear HA;simp only [dO.j0] at H;replace H := ifB H; rcases H with ⟨rfl, H⟩ | ⟨rfl, H⟩
   ·obtain rfl := sI H;go_wp2;go_ret;exact ⟨EQ, DR⟩
   ·have H' := ah.mk H;clear H;go_wp2
    go_loopg [5] E (fun kq v5 w' => ∃ (a : Int), v5 = .int .i64 a ∧ ah (dO.l0 kq o z a = some r) ∧ ah (kq ≤ E) ∧ dQ w w')
    case atStart => exact ⟨_, EQ, H', ⟨nR _⟩, DR⟩
    case round =>
     clear H';obtain ⟨a, rfl, HA, G, ⟨m2, rfl⟩⟩ := hrel
     cases gk with
     | zero => exact absurd HA.out (by simp [dO.l0])
     | succ k2 =>
      have H := HA.out;clear HA;simp only [dO.l0] at H;replace H := ifD H; rcases H with ⟨I, H⟩ | ⟨I, H⟩
      ·replace H := ifP H; obtain ⟨c9, H⟩ := H;have Y := eq_true c9;have Z : decide (0 ≤ a) = true := dT c9;clear c9;replace H := ifP H; obtain ⟨c10, H⟩ := H;have L := eq_true c10;have M : decide (a ≤ (wrap64 (a + (o.size : Int)))) = true := dT c10;replace H := ifP H; obtain ⟨J, H⟩ := H;have O := eq_true J;have P : decide ((wrap64 (a + (o.size : Int))) ≤ (z.size : Int)) = true := dT J;replace H := ifE H; rcases H with ⟨x, y, H⟩ | ⟨xd, x, y, H⟩
       ·obtain rfl := sI H;go_wp2;go_ret;exact ⟨EQ, DR⟩
       ·have H' := ah.mk H;clear H;go_wp2;go_roundg k2;case measure => have := D.out; have := G.out; omega
        case rel => exact ⟨_, EQ, H', ⟨by have := D.out; have := G.out; omega⟩, DR⟩
      ·obtain rfl := sI H;go_wp2;go_ret;exact ⟨EQ, DR⟩
mutual
def bA.l0 : Nat → List dU → aj → Int → Int → aj → Int → Int → Option (Bool)
 | 0, _, _, _, _, _, _, _ => none
 | k + 1, a, b, c, d, e, f, g => if c < (b.size : Int) then if 0 ≤ c then if c ≤ (b.size : Int) then (bA.f k a f (b.extract 0 (c : Int).toNat)).bind fun h => if h = true then (bA.f k a g (b.extract (c : Int).toNat b.size)).bind fun i => if i = true then some true else bA.l0 k a b (wrap64 (c + 1)) d e f g else bA.l0 k a b (wrap64 (c + 1)) d e f g else none else none else some false
def bA.l1 : Nat → List dU → aj → Int → Int → aj → Int → Int → Option (Bool)
 | 0, _, _, _, _, _, _, _ => none
 | k + 1, a, b, c, d, e, f, g => if c < (b.size : Int) then bA.l2 k a b c (wrap64 (c + 1)) d e f g else some false
def bA.l2 : Nat → List dU → aj → Int → Int → Int → aj → Int → Int → Option (Bool)
 | 0, _, _, _, _, _, _, _, _ => none
 | k + 1, a, b, c, d, e, f, g, h => if d < (b.size : Int) then if 0 ≤ c then if c ≤ d then if d ≤ (b.size : Int) then (bA.f k a h (b.extract (c : Int).toNat (d : Int).toNat)).bind fun i => if i = true then if c ≤ (b.size : Int) then if 0 ≤ d then if (b.extract 0 (c : Int).toNat).size + (b.extract (d : Int).toNat b.size).size ≤ 9223372036854775807 then (bA.f k a g ((b.extract 0 (c : Int).toNat) ++ (b.extract (d : Int).toNat b.size))).bind fun j => if j = true then some true else bA.l2 k a b c (wrap64 (d + 1)) e f g h else none else none else none else bA.l2 k a b c (wrap64 (d + 1)) e f g h else none else none else none else bA.l1 k a b (wrap64 (c + 1)) e f g h
def bA.f : Nat → List dU → Int → aj → Option (Bool)
 | 0, _, _, _ => none
 | k + 1, a, b, c => if 0 ≤ b then if b < (a.length : Int) then if c.toList = ([] : List UInt8) then some false else if 0 ≤ ((au a b).f2) then if ((au a b).f2) < (a.length : Int) then if ((au a b).f0) = 1 then some (c.toList == ((au a b).f1).toList) else if ((au a b).f0) = 2 then (iK.f c).bind fun d => (bA.f k a ((au a b).f2) d).bind fun e => some e else if ((au a b).f0) = 3 then (iT.f k ((au a ((au a b).f2)).f1) c).bind fun f => some f else if ((au a b).f0) = 4 then bA.l0 k a c 1 ((au a b).f0) ((au a b).f1) ((au a b).f2) ((au a b).f3) else if ((au a b).f0) = 5 then bA.l1 k a c 1 ((au a b).f0) ((au a b).f1) ((au a b).f2) ((au a b).f3) else if ((au a b).f0) = 6 then (kY.f k ((au a ((au a b).f2)).f1)).bind fun g => some (c.toList == g.toList) else if ((au a b).f0) = 7 then (jc.f k ((au a ((au a b).f2)).f1)).bind fun h => some (c.toList == h.toList) else if ((au a b).f0) = 8 then (jd.f k ((au a ((au a b).f2)).f1)).bind fun i => some (c.toList == i.toList) else if ((au a b).f0) = 9 then (dO.f k c ((au a ((au a b).f2)).f1)).bind fun j => some j else some false else none else none else none else none
end
def bA.T16 : Bool × List (List Nat × List Nat) := (true, [([], []), ([], []), ([1], [1]), ([], []), ([], []), ([3, 4], [3, 4]), ([0, 2, 5], [0, 2, 5]), ([6, 6], [6]), ([7], [7]), ([7], [7]), ([9, 7], [7, 9]), ([7], [7]), ([7], [7]), ([11, 12, 7], [7, 11, 12]), ([8, 10, 13, 7, 7], [7, 8, 10, 13]), ([7, 14], [7, 14])])
def bA.B16 : List Nat := [0, 0, 2, 0, 0, 24, 63, 127, 255, 255, 767, 255, 255, 6399, 16383, 32767]
theorem bA.LM : kX .any (opsOf Tryz.f126 16) = bA.T16 := by kernel_rfl
theorem bA.KP : jg bA.T16.2 bA.B16 = true := by kernel_rfl
def bA.T25 : Bool × List (List Nat × List Nat) := (true, [([], []), ([], []), ([1], [1]), ([], []), ([], []), ([], []), ([3, 4, 5], [3, 4, 5]), ([0, 2, 6], [0, 2, 6]), ([7, 7], [7]), ([8], [8]), ([8], [8]), ([10, 8], [8, 10]), ([8], [8]), ([8], [8]), ([12, 13, 8], [8, 12, 13]), ([8], [8]), ([8], [8]), ([15, 16, 8], [8, 15, 16]), ([14, 17, 8], [8, 14, 17]), ([9, 11, 18, 8, 8], [8, 9, 11, 18]), ([8, 19], [8, 19])])
def bA.B25 : List Nat := [0, 0, 2, 0, 0, 0, 56, 127, 255, 511, 511, 1535, 511, 511, 12799, 511, 511, 98815, 258559, 524287, 1048575]
theorem bA.LP : kX .any (opsOf Tryz.f126 25) = bA.T25 := by kernel_rfl
theorem bA.KQ : jg bA.T25.2 bA.B25 = true := by kernel_rfl
theorem bA.calls (k : Nat) : ∀ (A0 : Option Addr) (c0 : Nat) (l0 : List dU) (u : Int) (G : aj) (r : Bool) (w : World) (xS : Kd.C jV w A0 l0.length l0) (xT : l0.length ≤ c0) (h : bA.f k l0 u G = some r),
  Calls Tryz.prog 126 #[.slice A0 l0.length c0, .int .i64 u, .string G] w fun e w' => e = .returned (.bool r) ∧ Below w.heap.size w w' := by
 induction k using Nat.strongRecOn with
 | _ k ih =>
 intro A0 c0 l0 u G r w xS xT h
 cases k with
 | zero => exact absurd h (by simp [bA.f])
 | succ k =>
 simp only [bA.f] at h;have yA := Tryz.underlying116;have xc := ah.mk xS;have xn := ah.mk xT;clear xS xT;have HB := ah.mk (bR w.heap.size w);have H : (if 0 ≤ u then (if u < (l0.length : Int) then (if G.toList = ([] : List UInt8) then (some false) else (if 0 ≤ ((au l0 u).f2) then (if ((au l0 u).f2) < (l0.length : Int) then (if ((au l0 u).f0) = 1 then (some (G.toList == ((au l0 u).f1).toList)) else (if ((au l0 u).f0) = 2 then ((iK.f G).bind fun xt => ((bA.f k l0 ((au l0 u).f2) xt).bind fun xx => (some xx))) else (if ((au l0 u).f0) = 3 then ((iT.f k ((au l0 ((au l0 u).f2)).f1) G).bind fun xy => (some xy)) else (if ((au l0 u).f0) = 4 then (bA.l0 k l0 G 1 ((au l0 u).f0) ((au l0 u).f1) ((au l0 u).f2) ((au l0 u).f3)) else (if ((au l0 u).f0) = 5 then (bA.l1 k l0 G 1 ((au l0 u).f0) ((au l0 u).f1) ((au l0 u).f2) ((au l0 u).f3)) else (if ((au l0 u).f0) = 6 then ((kY.f k ((au l0 ((au l0 u).f2)).f1)).bind fun xz => (some (G.toList == xz.toList))) else (if ((au l0 u).f0) = 7 then ((jc.f k ((au l0 ((au l0 u).f2)).f1)).bind fun xA => (some (G.toList == xA.toList))) else (if ((au l0 u).f0) = 8 then ((jd.f k ((au l0 ((au l0 u).f2)).f1)).bind fun xB => (some (G.toList == xB.toList))) else (if ((au l0 u).f0) = 9 then ((dO.f k G ((au l0 ((au l0 u).f2)).f1)).bind fun xC => (some xC)) else (some false)))))))))) else (none)) else (none))) else (none)) else (none)) = some r := h;clear h;replace H := ifN H; obtain ⟨yp, H⟩ := H;replace H := ifN H; obtain ⟨yq, H⟩ := H;have xj : 0 ≤ (u : Int) := OD;have xk : u < (l0.length : Int) := OD;obtain ⟨I, yr, xd, xe, xf, xg⟩ := kM xc.out u xj xk
 cases yr
 replace xj := eq_true xj;replace xk := eq_true xk;replace H := ah.mk H;go_enter Tryz.func126, Tryz.ntmps126;go_wp2_with (first | ((with_reducible refine aI (N := 7) rfl ?_); refine aZ (N := 7) (cs := #[.int .i64 0, .string (⟨#[]⟩ : aj), .int .i64 0, .int .i64 0]) (t := 116) ?_; intro m hg xu hbox hb; have a := ah.mk hbox; have xh := SZ (w := w) hg; have yB := xh; replace HB := BS (w := w) hb; clear hb hbox hg; obtain ⟨M, O, P, U, Y, Z, xa, xb⟩ := cz4 a.out; refine dx ?_));refine Hide.mk ?_;replace H := H.out;replace H := ifE H; rcases H with ⟨xQ, xR, H⟩ | ⟨c6, xQ, xR, H⟩
 ·obtain rfl := sI H;(try go_wp2);go_ret;exact ⟨EWW, BL⟩
 ·replace H := ifN H; obtain ⟨ys, H⟩ := H;replace H := ifN H; obtain ⟨xU, H⟩ := H;replace H := ah.mk H;have xl : 0 ≤ (((au l0 u).f2) : Int) := OD;have xm : ((au l0 u).f2) < (l0.length : Int) := OD;obtain ⟨xV, yt, x, y, z, A⟩ := kM xc.out ((au l0 u).f2) xl xm;obtain rfl : I = xV := (by injection yt);have xD : I.block ≠ m := Nat.ne_of_lt (Nat.lt_of_lt_of_le (by have := wB _ _ x; first | rwa [add_block] at this | exact this) xh.out);have xE : I.block ≠ m := Nat.ne_of_lt (Nat.lt_of_lt_of_le (by have := wB _ _ x; first | rwa [add_block] at this | exact this) xh.out);have xF : I.block ≠ m := Nat.ne_of_lt (Nat.lt_of_lt_of_le (by have := wB _ _ x; first | rwa [add_block] at this | exact this) xh.out);have xG : I.block ≠ m := Nat.ne_of_lt (Nat.lt_of_lt_of_le (by have := wB _ _ x; first | rwa [add_block] at this | exact this) xh.out);replace x := (HB.out.cell (wB w _ x)).trans x;replace y := (HB.out.cell (wB w _ y)).trans y;replace z := (HB.out.cell (wB w _ z)).trans z;replace A := (HB.out.cell (wB w _ A)).trans A;replace x := (cell_far (p := ⟨m, 0, none⟩) AB (.int .i64 ((au l0 u).f0))).trans x;replace y := (cell_far (p := ⟨m, 0, none⟩) AB (.int .i64 ((au l0 u).f0))).trans y;replace z := (cell_far (p := ⟨m, 0, none⟩) AB (.int .i64 ((au l0 u).f0))).trans z;replace A := (cell_far (p := ⟨m, 0, none⟩) AB (.int .i64 ((au l0 u).f0))).trans A;replace x := (cell_far (p := ⟨m, 1, none⟩) AB (.string ((au l0 u).f1))).trans x;replace y := (cell_far (p := ⟨m, 1, none⟩) AB (.string ((au l0 u).f1))).trans y;replace z := (cell_far (p := ⟨m, 1, none⟩) AB (.string ((au l0 u).f1))).trans z;replace A := (cell_far (p := ⟨m, 1, none⟩) AB (.string ((au l0 u).f1))).trans A;replace x := (cell_far (p := ⟨m, 2, none⟩) AB (.int .i64 ((au l0 u).f2))).trans x;replace y := (cell_far (p := ⟨m, 2, none⟩) AB (.int .i64 ((au l0 u).f2))).trans y;replace z := (cell_far (p := ⟨m, 2, none⟩) AB (.int .i64 ((au l0 u).f2))).trans z;replace A := (cell_far (p := ⟨m, 2, none⟩) AB (.int .i64 ((au l0 u).f2))).trans A;replace x := (cell_far (p := ⟨m, 3, none⟩) AB (.int .i64 ((au l0 u).f3))).trans x;replace y := (cell_far (p := ⟨m, 3, none⟩) AB (.int .i64 ((au l0 u).f3))).trans y;replace z := (cell_far (p := ⟨m, 3, none⟩) AB (.int .i64 ((au l0 u).f3))).trans z;replace A := (cell_far (p := ⟨m, 3, none⟩) AB (.int .i64 ((au l0 u).f3))).trans A;clear xD xE xF xG;replace xl := eq_true xl;replace xm := eq_true xm;replace H := H.out;replace H := ifE H; rcases H with ⟨xH, xI, H⟩ | ⟨yC, xH, xI, H⟩
  ·obtain rfl := sI H;(try go_wp2);go_ret;exact ⟨EWW, BL⟩
  ·replace H := ifE H; rcases H with ⟨xJ, xK, H⟩ | ⟨yD, xJ, xK, H⟩
   ·replace H := be H; obtain ⟨xt, yE, H⟩ := H;replace H := be H; obtain ⟨xx, yF, H⟩ := H;obtain rfl := sI H;(try go_wp2);have n0_ : ah (((((xu.setCell ⟨m, 0, none⟩ (.int .i64 ((au l0 u).f0))).setCell ⟨m, 1, none⟩ (.string ((au l0 u).f1))).setCell ⟨m, 2, none⟩ (.int .i64 ((au l0 u).f2))).setCell ⟨m, 3, none⟩ (.int .i64 ((au l0 u).f3))).heap[m]? = some (.cells #[.int .i64 ((au l0 u).f0), .string ((au l0 u).f1), .int .i64 ((au l0 u).f2), .int .i64 ((au l0 u).f3)] 116 (0, 0))) := ⟨by (with_reducible repeat (first | refine bf ?_ _ | refine aT ?_ | refine aV ?_ _ | apply fM)); exact a.out; all_goals rfl⟩;have n1_ : ah (Below w.heap.size w ((((xu.setCell ⟨m, 0, none⟩ (.int .i64 ((au l0 u).f0))).setCell ⟨m, 1, none⟩ (.string ((au l0 u).f1))).setCell ⟨m, 2, none⟩ (.int .i64 ((au l0 u).f2))).setCell ⟨m, 3, none⟩ (.int .i64 ((au l0 u).f3)))) := ⟨BL⟩;(try clear a);(try clear HB);generalize ((((xu.setCell ⟨m, 0, none⟩ (.int .i64 ((au l0 u).f0))).setCell ⟨m, 1, none⟩ (.string ((au l0 u).f1))).setCell ⟨m, 2, none⟩ (.int .i64 ((au l0 u).f2))).setCell ⟨m, 3, none⟩ (.int .i64 ((au l0 u).f3))) = xo at n0_ n1_ ⊢;have a := n0_;have HB := n1_;clear n0_ n1_;replace a := ah.mk (aT a.out);replace HB := ah.mk (cK HB.out);refine jA (n := 7) (S := fun w' => w'.cell? ⟨m, 0, none⟩ = some (.int .i64 ((au l0 u).f0)) ∧ w'.cell? ⟨m, 1, none⟩ = some (.string ((au l0 u).f1)) ∧ w'.cell? ⟨m, 2, none⟩ = some (.int .i64 ((au l0 u).f2)) ∧ w'.cell? ⟨m, 3, none⟩ = some (.int .i64 ((au l0 u).f3))) (ds := []) #[F,F,F,F,F,F,F] (by kernel_rfl) rfl rfl ⟨(ak a.out 0).trans rfl, (ak a.out 1).trans rfl, (ak a.out 2).trans rfl, (ak a.out 3).trans rfl⟩ (fun hHeld => ?_);generalize xo.drew = xp at a HB hHeld ⊢;refine puS (i := 0) (N := some 34) #[T,F,F,F,F,F,F] (by kernel_rfl) ?_;refine puS (i := 1) (N := some 35) #[T,T,F,F,F,F,F] (by kernel_rfl) ?_;refine puS (i := 3) (N := some 37) #[T,T,F,T,F,F,F] (by kernel_rfl) ?_;refine taS (i := 2) (N := some 36) #[T,T,T,T,F,F,F] (by kernel_rfl) hHeld ?_;refine ko (i := 4) (N := some 38) #[T,T,T,T,T,F,F] rfl rfl (by kernel_rfl) (by decide) (fun K hK => ?_);refine iX Tryz.func145 #[.string G] ?_;(with_reducible refine (iK.calls G xt _ yE.out).mono ?_);rintro e xq ⟨rfl, hb⟩;refine ⟨_, rfl, ?_⟩;replace a := KB a hb;replace HB := BS (w := w) hb;(try clear hb);refine hK.out _ _ ⟨(ak a.out 0).trans rfl, (ak a.out 1).trans rfl, (ak a.out 2).trans rfl, (ak a.out 3).trans rfl⟩ (fun hHeld => ?_);clear hK K;refine nrm (some 38) ?_;refine ko (i := 5) (N := some 39) #[T,T,T,T,T,T,F] rfl rfl (by kernel_rfl) (by decide) (fun K hK => ?_);refine iX Tryz.func126 #[.slice (some I) l0.length c0, .int .i64 ((au l0 u).f2), .string xt] ?_;(with_reducible refine (ih k (by omega) _ _ l0 ((au l0 u).f2) xt xx _ ?s1_ ?s2_ yF.out).mono ?_);(case s1_ => exact CB xc);(case s2_ => exact xn.out);rintro e yG ⟨rfl, hb⟩;refine ⟨_, rfl, ?_⟩;replace a := KB a hb;replace HB := BS (w := w) hb;(try clear hb);refine hK.out _ _ ⟨(ak a.out 0).trans rfl, (ak a.out 1).trans rfl, (ak a.out 2).trans rfl, (ak a.out 3).trans rfl⟩ (fun hHeld => ?_);clear hK K;refine nrm (some 39) ?_;refine puS (i := 6) (N := some 6) #[T,T,T,T,T,T,T] (by kernel_rfl) ?_;refine iO (by kernel_rfl) ?_;(try go_wp2);go_ret;exact ⟨EWW, BL⟩
   ·replace H := ifE H; rcases H with ⟨xL, xM, H⟩ | ⟨yH, xL, xM, H⟩
    ·replace H := be H; obtain ⟨xy, yI, H⟩ := H;obtain rfl := sI H;(try go_wp2_with (first | ((with_reducible refine aA (f := 149) rfl ?_); refine bg (some 44) Tryz.func149 #[.string ((au l0 ((au l0 u).f2)).f1), .string G] ?_; (with_reducible refine (iT.calls k ((au l0 ((au l0 u).f2)).f1) G xy _ yI.out).mono ?_); rintro e xo ⟨rfl, hb⟩; refine ⟨_, rfl, ?_⟩; replace a := ah.mk (bT (g := m) (o := .cells #[.int .i64 ((au l0 u).f0), .string ((au l0 u).f1), .int .i64 ((au l0 u).f2), .int .i64 ((au l0 u).f3)] 116 (0, 0)) (by (with_reducible repeat (first | refine bf ?_ _ | refine aT ?_ | refine aV ?_ _ | apply fM)); exact a.out; all_goals rfl) hb); replace HB := BS (w := w) hb; (try clear hb))));go_ret;exact ⟨EWW, BL⟩
    ·replace H := ifE H; rcases H with ⟨xr, xs, H⟩ | ⟨xW, xr, xs, H⟩
     ·have H' := ah.mk H;clear H;try go_wp2
      go_loopg [9] k (fun kq v9 w' => ∃ (J : Int), v9 = .int .i64 J ∧ ah (bA.l0 kq l0 G J ((au l0 u).f0) ((au l0 u).f1) ((au l0 u).f2) ((au l0 u).f3) = some r) ∧ ah (kq ≤ k) ∧ ah (w'.heap[m]? = some (.cells #[.int .i64 ((au l0 u).f0), .string ((au l0 u).f1), .int .i64 ((au l0 u).f2), .int .i64 ((au l0 u).f3)] 116 (0, 0))) ∧ ah (Below w.heap.size w w'))
      case atStart => exact ⟨_, EQ, H', ⟨nR _⟩, ⟨by (with_reducible repeat (first | refine bf ?_ _ | refine aT ?_ | refine aV ?_ _ | apply fM)); exact a.out; all_goals rfl⟩, ⟨BL⟩⟩
      case round =>
       clear H';(try clear yp);(try clear yq);(try clear c6);(try clear xQ);(try clear xR);(try clear ys);(try clear xU);(try clear yC);(try clear xH);(try clear xI);(try clear yD);(try clear xJ);(try clear xK);(try clear yH);(try clear xL);(try clear xM);(try clear xW);(try clear xr);(try clear xs);(try clear M O P U Y Z xa xb);(try clear xd);(try clear xe);(try clear xf);(try clear xg);(try clear x);(try clear y);(try clear z);(try clear A);(try clear xj);(try clear xl);(try clear xk);(try clear xm);obtain ⟨J, rfl, HA, L, a, HB⟩ := hrel
       cases gk with
       | zero => exact absurd HA.out (by simp [bA.l0])
       | succ k1 =>
        have H := HA.out;clear HA;simp only [bA.l0] at H;replace H := ifD H; rcases H with ⟨xX, H⟩ | ⟨xX, H⟩
        ·replace H := ifP H; obtain ⟨xY, H⟩ := H;have yJ := eq_true xY;have yK : decide (0 ≤ J) = true := dT xY;clear xY;replace H := ifP H; obtain ⟨xZ, H⟩ := H;have yL := eq_true xZ;have yM : decide (J ≤ (G.size : Int)) = true := dT xZ;clear xZ;replace H := be H; obtain ⟨zj, yu, H⟩ := H;replace H := ah.mk H;(try go_wp2);replace a := ah.mk (aT a.out);replace HB := ah.mk (cK HB.out);refine jA (n := 16) (S := fun w' => w'.cell? ⟨m, 0, none⟩ = some (.int .i64 ((au l0 u).f0)) ∧ w'.cell? ⟨m, 1, none⟩ = some (.string ((au l0 u).f1)) ∧ w'.cell? ⟨m, 2, none⟩ = some (.int .i64 ((au l0 u).f2)) ∧ w'.cell? ⟨m, 3, none⟩ = some (.int .i64 ((au l0 u).f3))) (ds := []) #[F,F,F,F,F,F,F,F,F,F,F,F,F,F,F,F] (by kernel_rfl) rfl rfl ⟨(ak a.out 0).trans rfl, (ak a.out 1).trans rfl, (ak a.out 2).trans rfl, (ak a.out 3).trans rfl⟩ (fun hHeld => ?_); refine iG bA.LM bA.KP (fun HT_ HW_ => ?_);generalize wr.drew = xo at a HB hHeld ⊢;refine pS 0 (some 53) #[T,F,F,F,F,F,F,F,F,F,F,F,F,F,F,F] ?_;refine pS 1 (some 54) #[T,T,F,F,F,F,F,F,F,F,F,F,F,F,F,F] ?_;refine pS 3 (some 56) #[T,T,F,T,F,F,F,F,F,F,F,F,F,F,F,F] ?_;refine pS 4 (some 57) #[T,T,F,T,T,F,F,F,F,F,F,F,F,F,F,F] ?_;refine pS 5 (some 58) #[T,T,F,T,T,T,F,F,F,F,F,F,F,F,F,F] ?_;refine tS 2 (some 55) #[T,T,T,T,T,T,F,F,F,F,F,F,F,F,F,F] ?_;refine ko (i := 6) (N := some 59) #[T,T,T,T,T,T,T,F,F,F,F,F,F,F,F,F] rfl rfl (iM HT_.out (by kernel_rfl)) (by decide) (fun K hK => ?_);refine iX Tryz.func126 #[.slice (some I) l0.length c0, .int .i64 ((au l0 u).f2), .string (G.extract 0 (J : Int).toNat)] ?_;replace H := H.out;replace H := ifB H; rcases H with ⟨rfl, H⟩ | ⟨rfl, H⟩
         ·have yN := eq_true (OD : 0 ≤ J);have yO := eq_true (OD : J ≤ (G.size : Int));replace H := be H; obtain ⟨zk, yv, H⟩ := H;replace H := ah.mk H;(with_reducible refine (ih k1 (by have := L.out; omega) _ _ l0 ((au l0 u).f2) (G.extract 0 (J : Int).toNat) true _ ?s1_ ?s2_ yu.out).mono ?_);(case s1_ => exact CB xc);(case s2_ => exact xn.out);rintro e xp ⟨rfl, hb⟩;refine ⟨_, rfl, ?_⟩;replace a := KB a hb;replace HB := BS (w := w) hb;(try clear hb);refine hK.out _ _ ⟨(ak a.out 0).trans rfl, (ak a.out 1).trans rfl, (ak a.out 2).trans rfl, (ak a.out 3).trans rfl⟩ (fun hHeld => ?_);clear hK K;refine nrm (some 59) ?_;refine pS 7 (some 60) #[T,T,T,T,T,T,T,T,F,F,F,F,F,F,F,F] ?_;refine pS 8 (some 61) #[T,T,T,T,T,T,T,T,T,F,F,F,F,F,F,F] ?_;refine pS 9 (some 62) #[T,T,T,T,T,T,T,T,T,T,F,F,F,F,F,F] ?_;refine pS 11 (some 64) #[T,T,T,T,T,T,T,T,T,T,F,T,F,F,F,F] ?_;refine pS 12 (some 65) #[T,T,T,T,T,T,T,T,T,T,F,T,T,F,F,F] ?_;refine pS 13 (some 66) #[T,T,T,T,T,T,T,T,T,T,F,T,T,T,F,F] ?_;refine tS 10 (some 63) #[T,T,T,T,T,T,T,T,T,T,T,T,T,T,F,F] ?_;refine ko (i := 14) (N := some 67) #[T,T,T,T,T,T,T,T,T,T,T,T,T,T,T,F] rfl rfl (iM HT_.out (by kernel_rfl)) (by decide) (fun K hK => ?_);refine iX Tryz.func126 #[.slice (some I) l0.length c0, .int .i64 ((au l0 u).f3), .string (G.extract (J : Int).toNat G.size)] ?_;replace H := H.out;replace H := ifB H; rcases H with ⟨rfl, H⟩ | ⟨rfl, H⟩
          ·obtain rfl := sI H;(with_reducible refine (ih k1 (by have := L.out; omega) _ _ l0 ((au l0 u).f3) (G.extract (J : Int).toNat G.size) true _ ?s1_ ?s2_ yv.out).mono ?_);(case s1_ => exact CB xc);(case s2_ => exact xn.out);rintro e xq ⟨rfl, hb⟩;refine ⟨_, rfl, ?_⟩;replace a := KB a hb;replace HB := BS (w := w) hb;(try clear hb);refine hK.out _ _ ⟨(ak a.out 0).trans rfl, (ak a.out 1).trans rfl, (ak a.out 2).trans rfl, (ak a.out 3).trans rfl⟩ (fun hHeld => ?_);clear hK K;refine nrm (some 67) ?_;refine pS 15 (some 68) #[T,T,T,T,T,T,T,T,T,T,T,T,T,T,T,T] ?_;refine iO (gG HT_.out (by kernel_rfl)) ?_;(try go_wp2);go_ret;exact ⟨EWW, BL⟩
          ·have H' := ah.mk H;clear H;(with_reducible refine (ih k1 (by have := L.out; omega) _ _ l0 ((au l0 u).f3) (G.extract (J : Int).toNat G.size) false _ ?s1_ ?s2_ yv.out).mono ?_);(case s1_ => exact CB xc);(case s2_ => exact xn.out);rintro e xq ⟨rfl, hb⟩;refine ⟨_, rfl, ?_⟩;replace a := KB a hb;replace HB := BS (w := w) hb;(try clear hb);refine hK.out _ _ ⟨(ak a.out 0).trans rfl, (ak a.out 1).trans rfl, (ak a.out 2).trans rfl, (ak a.out 3).trans rfl⟩ (fun hHeld => ?_);clear hK K;refine nrm (some 67) ?_;refine pS 15 (some 68) #[T,T,T,T,T,T,T,T,T,T,T,T,T,T,T,T] ?_;refine iO (gG HT_.out (by kernel_rfl)) ?_;(try go_wp2);go_roundg k1;case measure => have := L.out; omega
           case rel => exact ⟨_, EQ, H', ks L, ⟨BK⟩, ⟨BL⟩⟩
         ·have H' := ah.mk H;clear H;(with_reducible refine (ih k1 (by have := L.out; omega) _ _ l0 ((au l0 u).f2) (G.extract 0 (J : Int).toNat) false _ ?s1_ ?s2_ yu.out).mono ?_);(case s1_ => exact CB xc);(case s2_ => exact xn.out);rintro e xp ⟨rfl, hb⟩;refine ⟨_, rfl, ?_⟩;replace a := KB a hb;replace HB := BS (w := w) hb;(try clear hb);refine hK.out _ _ ⟨(ak a.out 0).trans rfl, (ak a.out 1).trans rfl, (ak a.out 2).trans rfl, (ak a.out 3).trans rfl⟩ (fun hHeld => ?_);clear hK K;refine nrm (some 59) ?_;refine pS 7 (some 60) #[T,T,T,T,T,T,T,T,F,F,F,F,F,F,F,F] ?_;refine pU 8 (some 61) #[T,T,T,T,T,T,T,T,T,F,F,F,F,F,F,F] ?_;refine pU 9 (some 62) #[T,T,T,T,T,T,T,T,T,T,F,F,F,F,F,F] ?_;refine pU 10 (some 63) #[T,T,T,T,T,T,T,T,T,T,T,F,F,F,F,F] ?_;refine pU 11 (some 64) #[T,T,T,T,T,T,T,T,T,T,T,T,F,F,F,F] ?_;refine pU 12 (some 65) #[T,T,T,T,T,T,T,T,T,T,T,T,T,F,F,F] ?_;refine pU 13 (some 66) #[T,T,T,T,T,T,T,T,T,T,T,T,T,T,F,F] ?_;refine pU 14 (some 67) #[T,T,T,T,T,T,T,T,T,T,T,T,T,T,T,F] ?_;refine pS 15 (some 68) #[T,T,T,T,T,T,T,T,T,T,T,T,T,T,T,T] ?_;refine iO (gG HT_.out (by kernel_rfl)) ?_;(try go_wp2);go_roundg k1;case measure => have := L.out; omega
          case rel => exact ⟨_, EQ, H', ks L, ⟨BK⟩, ⟨BL⟩⟩
        ·obtain rfl := sI H;go_wp2;go_ret;exact ⟨EWW, BL⟩
     ·replace H := ifE H; rcases H with ⟨xv, xw, H⟩ | ⟨yw, xv, xw, H⟩
      ·have H' := ah.mk H;clear H;try go_wp2
       go_loopg [10] k (fun kq yP w' => ∃ (D : Int), yP = .int .i64 D ∧ ah (bA.l1 kq l0 G D ((au l0 u).f0) ((au l0 u).f1) ((au l0 u).f2) ((au l0 u).f3) = some r) ∧ ah (kq ≤ k) ∧ ah (w'.heap[m]? = some (.cells #[.int .i64 ((au l0 u).f0), .string ((au l0 u).f1), .int .i64 ((au l0 u).f2), .int .i64 ((au l0 u).f3)] 116 (0, 0))) ∧ ah (Below w.heap.size w w'))
       case atStart => exact ⟨_, EQ, H', ⟨nR _⟩, ⟨by (with_reducible repeat (first | refine bf ?_ _ | refine aT ?_ | refine aV ?_ _ | apply fM)); exact a.out; all_goals rfl⟩, ⟨BL⟩⟩
       case round =>
        clear H';(try clear xW);(try clear xr);(try clear xs);(try clear yw);(try clear xv);(try clear xw);(try clear M O P U Y Z xa xb);(try clear xd);(try clear xe);(try clear xf);(try clear xg);(try clear x);(try clear y);(try clear z);(try clear A);(try clear xj);(try clear xl);(try clear xk);(try clear xm);obtain ⟨D, rfl, HA, L, a, HB⟩ := hrel
        cases gk with
        | zero => exact absurd HA.out (by simp [bA.l1])
        | succ k1 =>
         have H := HA.out;clear HA;simp only [bA.l1] at H;replace H := ifD H; rcases H with ⟨xN, H⟩ | ⟨xN, H⟩
         ·have H' := ah.mk H;clear H;go_wp2
          go_loopg [11] k1 (fun kq yQ w' => ∃ (E : Int), yQ = .int .i64 E ∧ ah (bA.l2 kq l0 G D E ((au l0 u).f0) ((au l0 u).f1) ((au l0 u).f2) ((au l0 u).f3) = some r) ∧ ah (kq ≤ k1) ∧ ah (w'.heap[m]? = some (.cells #[.int .i64 ((au l0 u).f0), .string ((au l0 u).f1), .int .i64 ((au l0 u).f2), .int .i64 ((au l0 u).f3)] 116 (0, 0))) ∧ ah (Below w.heap.size w w'))
          case atStart => exact ⟨_, EQ, H', ⟨nR _⟩, ⟨BK⟩, ⟨BL⟩⟩
          case round =>
           clear H';(try clear xW);(try clear xr);(try clear xs);(try clear yw);(try clear xv);(try clear xw);(try clear xN);(try clear M O P U Y Z xa xb);(try clear xd);(try clear xe);(try clear xf);(try clear xg);(try clear x);(try clear y);(try clear z);(try clear A);(try clear xj);(try clear xl);(try clear xk);(try clear xm);obtain ⟨E, rfl, HA, xi, a, HB⟩ := hrel
           cases gk with
           | zero => exact absurd HA.out (by simp [bA.l2])
           | succ k2 =>
            have H := HA.out;clear HA;simp only [bA.l2] at H;replace H := ifD H; rcases H with ⟨ya, H⟩ | ⟨ya, H⟩
            ·replace H := ifP H; obtain ⟨yb, H⟩ := H;have yR := eq_true yb;have yS : decide (0 ≤ D) = true := dT yb;clear yb;replace H := ifP H; obtain ⟨yc, H⟩ := H;have yT := eq_true yc;have yU : decide (D ≤ E) = true := dT yc;clear yc;replace H := ifP H; obtain ⟨yd, H⟩ := H;have yV := eq_true yd;have yW : decide (E ≤ (G.size : Int)) = true := dT yd;clear yd;replace H := be H; obtain ⟨zl, yx, H⟩ := H;replace H := ah.mk H;(try go_wp2);replace a := ah.mk (aT a.out);replace HB := ah.mk (cK HB.out);refine jA (n := 21) (S := fun w' => w'.cell? ⟨m, 0, none⟩ = some (.int .i64 ((au l0 u).f0)) ∧ w'.cell? ⟨m, 1, none⟩ = some (.string ((au l0 u).f1)) ∧ w'.cell? ⟨m, 2, none⟩ = some (.int .i64 ((au l0 u).f2)) ∧ w'.cell? ⟨m, 3, none⟩ = some (.int .i64 ((au l0 u).f3))) (ds := []) #[F,F,F,F,F,F,F,F,F,F,F,F,F,F,F,F,F,F,F,F,F] (by kernel_rfl) rfl rfl ⟨(ak a.out 0).trans rfl, (ak a.out 1).trans rfl, (ak a.out 2).trans rfl, (ak a.out 3).trans rfl⟩ (fun hHeld => ?_); refine iG bA.LP bA.KQ (fun HT_ HW_ => ?_);generalize wr.drew = xo at a HB hHeld ⊢;refine pS 0 (some 85) #[T,F,F,F,F,F,F,F,F,F,F,F,F,F,F,F,F,F,F,F,F] ?_;refine pS 1 (some 86) #[T,T,F,F,F,F,F,F,F,F,F,F,F,F,F,F,F,F,F,F,F] ?_;refine pS 3 (some 88) #[T,T,F,T,F,F,F,F,F,F,F,F,F,F,F,F,F,F,F,F,F] ?_;refine pS 4 (some 89) #[T,T,F,T,T,F,F,F,F,F,F,F,F,F,F,F,F,F,F,F,F] ?_;refine pS 5 (some 90) #[T,T,F,T,T,T,F,F,F,F,F,F,F,F,F,F,F,F,F,F,F] ?_;refine pS 6 (some 91) #[T,T,F,T,T,T,T,F,F,F,F,F,F,F,F,F,F,F,F,F,F] ?_;refine tS 2 (some 87) #[T,T,T,T,T,T,T,F,F,F,F,F,F,F,F,F,F,F,F,F,F] ?_;refine ko (i := 7) (N := some 92) #[T,T,T,T,T,T,T,T,F,F,F,F,F,F,F,F,F,F,F,F,F] rfl rfl (iM HT_.out (by kernel_rfl)) (by decide) (fun K hK => ?_);refine iX Tryz.func126 #[.slice (some I) l0.length c0, .int .i64 ((au l0 u).f3), .string (G.extract (D : Int).toNat (E : Int).toNat)] ?_;replace H := H.out;replace H := ifB H; rcases H with ⟨rfl, H⟩ | ⟨rfl, H⟩
             ·have yX := eq_true (OD : 0 ≤ D);replace H := ifP H; obtain ⟨ye, H⟩ := H;have yY := eq_true ye;have yZ : decide (D ≤ (G.size : Int)) = true := dT ye;clear ye;replace H := ifP H; obtain ⟨yf, H⟩ := H;have za := eq_true yf;have zb : decide (0 ≤ E) = true := dT yf;clear yf;have zc := eq_true (OD : E ≤ (G.size : Int));by_cases xO : (G.extract 0 (D : Int).toNat).size + (G.extract (E : Int).toNat G.size).size ≤ 9223372036854775807
              ·rw [if_pos xO] at H;have zd := eq_true xO;have yg : decide ((G.extract 0 (D : Int).toNat).size + (G.extract (E : Int).toNat G.size).size ≤ 9223372036854775807) = true := dT xO;try have ze : (9223372036854775807 < (G.extract 0 (D : Int).toNat).size + (G.extract (E : Int).toNat G.size).size) = False := eq_false (Nat.not_lt.2 xO)
               have c62b3d : (9223372036854775807 < D.toNat + (G.size - E.toNat)) = False := by
                have hx_ : D ≤ (G.size : Int) := OD;have h_ := of_decide_eq_true yg;simp only [ByteArray.size_extract] at h_;exact eq_false (by omega)
               replace H := be H; obtain ⟨zm, yy, H⟩ := H;replace H := ah.mk H;(with_reducible refine (ih k2 (by have := L.out; have := xi.out; omega) _ _ l0 ((au l0 u).f3) (G.extract (D : Int).toNat (E : Int).toNat) true _ ?s1_ ?s2_ yx.out).mono ?_);(case s1_ => exact CB xc);(case s2_ => exact xn.out);rintro e xp ⟨rfl, hb⟩;refine ⟨_, rfl, ?_⟩;replace a := KB a hb;replace HB := BS (w := w) hb;(try clear hb);refine hK.out _ _ ⟨(ak a.out 0).trans rfl, (ak a.out 1).trans rfl, (ak a.out 2).trans rfl, (ak a.out 3).trans rfl⟩ (fun hHeld => ?_);clear hK K;refine nrm (some 92) ?_;refine pS 8 (some 93) #[T,T,T,T,T,T,T,T,T,F,F,F,F,F,F,F,F,F,F,F,F] ?_;refine pS 9 (some 94) #[T,T,T,T,T,T,T,T,T,T,F,F,F,F,F,F,F,F,F,F,F] ?_;refine pS 10 (some 95) #[T,T,T,T,T,T,T,T,T,T,T,F,F,F,F,F,F,F,F,F,F] ?_;refine pS 12 (some 97) #[T,T,T,T,T,T,T,T,T,T,T,F,T,F,F,F,F,F,F,F,F] ?_;refine pS 13 (some 98) #[T,T,T,T,T,T,T,T,T,T,T,F,T,T,F,F,F,F,F,F,F] ?_;refine pS 14 (some 99) #[T,T,T,T,T,T,T,T,T,T,T,F,T,T,T,F,F,F,F,F,F] ?_;refine pS 15 (some 100) #[T,T,T,T,T,T,T,T,T,T,T,F,T,T,T,T,F,F,F,F,F] ?_;refine pS 16 (some 101) #[T,T,T,T,T,T,T,T,T,T,T,F,T,T,T,T,T,F,F,F,F] ?_;refine pS 17 (some 102) #[T,T,T,T,T,T,T,T,T,T,T,F,T,T,T,T,T,T,F,F,F] ?_;refine pS 18 (some 103) #[T,T,T,T,T,T,T,T,T,T,T,F,T,T,T,T,T,T,T,F,F] ?_;refine tS 11 (some 96) #[T,T,T,T,T,T,T,T,T,T,T,T,T,T,T,T,T,T,T,F,F] ?_;refine ko (i := 19) (N := some 104) #[T,T,T,T,T,T,T,T,T,T,T,T,T,T,T,T,T,T,T,T,F] rfl rfl (iM HT_.out (by kernel_rfl)) (by decide) (fun K hK => ?_);refine iX Tryz.func126 #[.slice (some I) l0.length c0, .int .i64 ((au l0 u).f2), .string ((G.extract 0 (D : Int).toNat) ++ (G.extract (E : Int).toNat G.size))] ?_;replace H := H.out;replace H := ifB H; rcases H with ⟨rfl, H⟩ | ⟨rfl, H⟩
               ·obtain rfl := sI H;(with_reducible refine (ih k2 (by have := L.out; have := xi.out; omega) _ _ l0 ((au l0 u).f2) ((G.extract 0 (D : Int).toNat) ++ (G.extract (E : Int).toNat G.size)) true _ ?s1_ ?s2_ yy.out).mono ?_);(case s1_ => exact CB xc);(case s2_ => exact xn.out);rintro e xq ⟨rfl, hb⟩;refine ⟨_, rfl, ?_⟩;replace a := KB a hb;replace HB := BS (w := w) hb;(try clear hb);refine hK.out _ _ ⟨(ak a.out 0).trans rfl, (ak a.out 1).trans rfl, (ak a.out 2).trans rfl, (ak a.out 3).trans rfl⟩ (fun hHeld => ?_);clear hK K;refine nrm (some 104) ?_;refine pS 20 (some 105) #[T,T,T,T,T,T,T,T,T,T,T,T,T,T,T,T,T,T,T,T,T] ?_;refine iO (gG HT_.out (by kernel_rfl)) ?_;(try go_wp2);go_ret;exact ⟨EWW, BL⟩
               ·have H' := ah.mk H;clear H;(with_reducible refine (ih k2 (by have := L.out; have := xi.out; omega) _ _ l0 ((au l0 u).f2) ((G.extract 0 (D : Int).toNat) ++ (G.extract (E : Int).toNat G.size)) false _ ?s1_ ?s2_ yy.out).mono ?_);(case s1_ => exact CB xc);(case s2_ => exact xn.out);rintro e xq ⟨rfl, hb⟩;refine ⟨_, rfl, ?_⟩;replace a := KB a hb;replace HB := BS (w := w) hb;(try clear hb);refine hK.out _ _ ⟨(ak a.out 0).trans rfl, (ak a.out 1).trans rfl, (ak a.out 2).trans rfl, (ak a.out 3).trans rfl⟩ (fun hHeld => ?_);clear hK K;refine nrm (some 104) ?_;refine pS 20 (some 105) #[T,T,T,T,T,T,T,T,T,T,T,T,T,T,T,T,T,T,T,T,T] ?_;refine iO (gG HT_.out (by kernel_rfl)) ?_;(try go_wp2);go_roundg k2;case measure => have := L.out; have := xi.out; omega
                case rel => exact ⟨_, EQ, H', ⟨by have := L.out; have := xi.out; omega⟩, ⟨BK⟩, ⟨BL⟩⟩
              ·rw [if_neg xO] at H;exact absurd H (by simp)
             ·have H' := ah.mk H;clear H;(with_reducible refine (ih k2 (by have := L.out; have := xi.out; omega) _ _ l0 ((au l0 u).f3) (G.extract (D : Int).toNat (E : Int).toNat) false _ ?s1_ ?s2_ yx.out).mono ?_);(case s1_ => exact CB xc);(case s2_ => exact xn.out);rintro e xp ⟨rfl, hb⟩;refine ⟨_, rfl, ?_⟩;replace a := KB a hb;replace HB := BS (w := w) hb;(try clear hb);refine hK.out _ _ ⟨(ak a.out 0).trans rfl, (ak a.out 1).trans rfl, (ak a.out 2).trans rfl, (ak a.out 3).trans rfl⟩ (fun hHeld => ?_);clear hK K;refine nrm (some 92) ?_;refine pS 8 (some 93) #[T,T,T,T,T,T,T,T,T,F,F,F,F,F,F,F,F,F,F,F,F] ?_;refine pU 9 (some 94) #[T,T,T,T,T,T,T,T,T,T,F,F,F,F,F,F,F,F,F,F,F] ?_;refine pU 10 (some 95) #[T,T,T,T,T,T,T,T,T,T,T,F,F,F,F,F,F,F,F,F,F] ?_;refine pU 11 (some 96) #[T,T,T,T,T,T,T,T,T,T,T,T,F,F,F,F,F,F,F,F,F] ?_;refine pU 12 (some 97) #[T,T,T,T,T,T,T,T,T,T,T,T,T,F,F,F,F,F,F,F,F] ?_;refine pU 13 (some 98) #[T,T,T,T,T,T,T,T,T,T,T,T,T,T,F,F,F,F,F,F,F] ?_;refine pU 14 (some 99) #[T,T,T,T,T,T,T,T,T,T,T,T,T,T,T,F,F,F,F,F,F] ?_;refine pU 15 (some 100) #[T,T,T,T,T,T,T,T,T,T,T,T,T,T,T,T,F,F,F,F,F] ?_;refine pU 16 (some 101) #[T,T,T,T,T,T,T,T,T,T,T,T,T,T,T,T,T,F,F,F,F] ?_;refine pU 17 (some 102) #[T,T,T,T,T,T,T,T,T,T,T,T,T,T,T,T,T,T,F,F,F] ?_;refine pU 18 (some 103) #[T,T,T,T,T,T,T,T,T,T,T,T,T,T,T,T,T,T,T,F,F] ?_;refine pU 19 (some 104) #[T,T,T,T,T,T,T,T,T,T,T,T,T,T,T,T,T,T,T,T,F] ?_;refine pS 20 (some 105) #[T,T,T,T,T,T,T,T,T,T,T,T,T,T,T,T,T,T,T,T,T] ?_;refine iO (gG HT_.out (by kernel_rfl)) ?_;(try go_wp2);go_roundg k2;case measure => have := L.out; have := xi.out; omega
              case rel => exact ⟨_, EQ, H', ⟨by have := L.out; have := xi.out; omega⟩, ⟨BK⟩, ⟨BL⟩⟩
            ·have H' := ah.mk H;clear H;go_wp2;go_roundg k2;case measure => have := L.out; have := xi.out; omega
             case rel => exact ⟨_, EQ, H', ⟨by have := L.out; have := xi.out; omega⟩, ⟨BK⟩, ⟨BL⟩⟩
         ·obtain rfl := sI H;go_wp2;go_ret;exact ⟨EWW, BL⟩
      ·replace H := ifE H; rcases H with ⟨yh, yi, H⟩ | ⟨zp, yh, yi, H⟩
       ·replace H := be H; obtain ⟨xz, zf, H⟩ := H;obtain rfl := sI H;(try go_wp2_with (first | ((with_reducible refine aA (f := 150) rfl ?_); refine bg (some 110) Tryz.func150 #[.string ((au l0 ((au l0 u).f2)).f1)] ?_; (with_reducible refine (kY.calls k ((au l0 ((au l0 u).f2)).f1) xz _ zf.out).mono ?_); rintro e w' ⟨rfl, ⟨nd, rfl⟩⟩; refine ⟨_, rfl, ?_⟩)));go_ret;exact ⟨EWW, BL⟩
       ·replace H := ifE H; rcases H with ⟨yj, yk, H⟩ | ⟨zq, yj, yk, H⟩
        ·replace H := be H; obtain ⟨xA, zg, H⟩ := H;obtain rfl := sI H;(try go_wp2_with (first | ((with_reducible refine aA (f := 151) rfl ?_); refine bg (some 116) Tryz.func151 #[.string ((au l0 ((au l0 u).f2)).f1)] ?_; (with_reducible refine (jc.calls k ((au l0 ((au l0 u).f2)).f1) xA _ zg.out).mono ?_); rintro e w' ⟨rfl, ⟨nd, rfl⟩⟩; refine ⟨_, rfl, ?_⟩)));go_ret;exact ⟨EWW, BL⟩
        ·replace H := ifE H; rcases H with ⟨yl, ym, H⟩ | ⟨zr, yl, ym, H⟩
         ·replace H := be H; obtain ⟨xB, zh, H⟩ := H;obtain rfl := sI H;(try go_wp2_with (first | ((with_reducible refine aA (f := 152) rfl ?_); refine bg (some 122) Tryz.func152 #[.string ((au l0 ((au l0 u).f2)).f1)] ?_; (with_reducible refine (jd.calls k ((au l0 ((au l0 u).f2)).f1) xB _ zh.out).mono ?_); rintro e w' ⟨rfl, ⟨nd, rfl⟩⟩; refine ⟨_, rfl, ?_⟩)));go_ret;exact ⟨EWW, BL⟩
         ·replace H := ifE H; rcases H with ⟨yn, yo, H⟩ | ⟨zs, yn, yo, H⟩
          ·replace H := be H; obtain ⟨xC, zi, H⟩ := H;obtain rfl := sI H;(try go_wp2_with (first | ((with_reducible refine aA (f := 153) rfl ?_); refine bg (some 128) Tryz.func153 #[.string G, .string ((au l0 ((au l0 u).f2)).f1)] ?_; (with_reducible refine (dO.calls k G ((au l0 ((au l0 u).f2)).f1) xC _ zi.out).mono ?_); rintro e w' ⟨rfl, ⟨nd, rfl⟩⟩; refine ⟨_, rfl, ?_⟩)));go_ret;exact ⟨EWW, BL⟩
          ·obtain rfl := sI H;(try go_wp2);go_ret;exact ⟨EWW, BL⟩
end Go.Proofs.YtdbefmkcondbgaaGreatDoor.PFnExactHasOneSolution
