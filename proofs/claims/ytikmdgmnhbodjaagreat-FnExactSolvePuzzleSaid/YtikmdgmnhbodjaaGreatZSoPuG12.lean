/- Walks of functions: what each computes. -/
import Derived.Test.YtikmdgmnhbodjaaGreatZSoPuG0
import Derived.Test.YtikmdgmnhbodjaaGreatZSoPuG2
import Derived.Test.YtikmdgmnhbodjaaGreatZSoPuG8
import Derived.Test.YtikmdgmnhbodjaaGreatZSoPuG10
import Derived.Test.YtikmdgmnhbodjaaGreatZSoPuG11
namespace Go.Proofs.YtikmdgmnhbodjaaGreat.PFnExactSolvePuzzle
open Go.RowKit Go.Proofs.Yw.PrintWords Go.Proofs.Yw.PrintLast Go.Proofs.Yw.PrintMore Go.Proofs.YtikmdgmnhbodjaaGreat.Sq
attribute [local go_sem] jk jm jP jQ iP iQ jl jo
set_option maxHeartbeats 8000000
set_option maxRecDepth 100000
set_option linter.unusedVariables false
set_option linter.unusedSimpArgs false
def ji.f (k : Nat) (l0 : List bY) (a1 : Oo) : Option (Bool) := (dG.f k l0).bind fun t693 => if t693 = true then (bH.f k a1).bind fun t694 => if t694 = true then (aZ.f k l0 (wrap64 ((l0.length : Int) - 1)) a1).bind fun t695 => some t695 else some false else some false
theorem ji.calls (k : Nat) (y : Option Addr) (z : Nat) (l0 : List bY) (a1 : Oo) (r : Bool) (w : World) (a : Kd.C gV w y l0.length l0) (m : l0.length ≤ z) (h : ji.f k l0 a1 = some r) :
  Calls Tryz.prog 94 #[.slice y l0.length z, .string a1] w fun e w' => e = .returned (.bool r) ∧ Below w.heap.size w w' := by
 have o := ah.mk a;have u := ah.mk m;clear a m;have HB := ah.mk (bR w.heap.size w);unfold ji.f at h;have H := h;clear h;replace H := be H; obtain ⟨E, A3, H⟩ := H;replace H := ah.mk H;go_enter Tryz.func94, Tryz.ntmps94;go_wp2_with (first | ((with_reducible refine au (f := 143) rfl ?_); refine aK (some 6) Tryz.func143 #[.slice y l0.length z] ?_; (with_reducible refine (dG.calls k _ _ l0 _ _ ?s1_ ?s2_ A3.out).mono ?_); (case s1_ => repeat (first | exact o.out | (with_reducible refine Kd.fU ?_ _) | (with_reducible refine Kd.fV ?_ _) | (with_reducible refine Kd.iy ?_))); (case s2_ => exact u.out); rintro e A ⟨rfl, hb⟩; refine ⟨_, rfl, ?_⟩; replace HB := BS (w := w) hb; (try clear hb); refine bI ?_));refine Hide.mk ?_;replace H := H.out;replace H := ifB H; rcases H with ⟨rfl, H⟩ | ⟨rfl, H⟩
 ·replace H := be H; obtain ⟨G, I, H⟩ := H;replace H := ah.mk H;go_wp2_with (first | (go_at_call 102; (with_reducible refine (bH.calls k a1 _ _ I.out).mono ?_); rintro e w' ⟨rfl, ⟨nd, rfl⟩⟩; refine bI ?_));refine Hide.mk ?_;replace H := H.out;replace H := ifB H; rcases H with ⟨rfl, H⟩ | ⟨rfl, H⟩
  ·replace H := be H; obtain ⟨x, J, H⟩ := H;obtain rfl := sI H;(try go_wp2_with (first | (go_at_call 146; (with_reducible refine (aZ.calls k _ _ l0 (wrap64 ((l0.length : Int) - 1)) a1 x _ ?s1_ ?s2_ J.out).mono ?_); (case s1_ => repeat (first | exact (Kd.dz o.out BL) | (with_reducible refine Kd.fU ?_ _) | (with_reducible refine Kd.fV ?_ _) | (with_reducible refine Kd.iy ?_))); (case s2_ => exact u.out); rintro e D ⟨rfl, hb⟩; replace HB := BS (w := w) hb; (try clear hb))));go_ret;exact ⟨EWW, BL⟩
  ·obtain rfl := sI H;(try go_wp2);go_ret;exact ⟨EWW, BL⟩
 ·obtain rfl := sI H;(try go_wp2);go_ret;exact ⟨EWW, BL⟩
def aR.g0 (j : Nat) (Dp : Int) (l0_1 : List bY) (l1 : List S73) (a3 s : Oo) : Option Bool := (aJ.f j a3 s).bind fun p => if p = true then (some true) else some false
def aR.g1 (j : Nat) (Dp : Int) (l0_1 : List bY) (l1 : List S73) (a3 s : Oo) : Option Bool := (aJ.f j a3 s).bind fun p => if p = true then (((ig.f j l1 s Dp).bind fun h => if h = true then (some true) else some false)) else some false
def aR.g2 (j : Nat) (Dp : Int) (l0_1 : List bY) (l1 : List S73) (a3 s : Oo) : Option Bool := (aJ.f j a3 s).bind fun p => if p = true then ((ji.f j l0_1 s).bind fun m => some m) else some false
def aR.g3 (j : Nat) (Dp : Int) (l0_1 : List bY) (l1 : List S73) (a3 s : Oo) : Option Bool := (aJ.f j a3 s).bind fun p => if p = true then (((ig.f j l1 s Dp).bind fun h => if h = true then ((ji.f j l0_1 s).bind fun m => some m) else some false)) else some false
def aR.g (how : Int) (j : Nat) (Dp : Int) (l0_1 : List bY) (l1 : List S73) (a3 s : Oo) : Option Bool := if how = 0 then aR.g0 j Dp l0_1 l1 a3 s else if how = 1 then aR.g1 j Dp l0_1 l1 a3 s else if how = 2 then aR.g2 j Dp l0_1 l1 a3 s else aR.g3 j Dp l0_1 l1 a3 s
def aR.f (k : Nat) (Dp : Int) (l0_1 : List bY) (l1 : List S73) (l2 : List Oo) (a3 : Oo) (a4 : Int) : Option (List Oo) := (cK.f a4 0 3).bind fun q => if q = true then (fK.f k l2 (fun j s => aR.g a4 j Dp l0_1 l1 a3 s)).bind fun t => iJ.f k t else some []
theorem Ak (P : Program) (fn : Fn) (first cap : Array Value) (w : World) : (Instr.makeFunc fn first cap).run P w = .ok (.func fn first cap) w := rfl
attribute [local go_sem] Ak
theorem aR.wK (j : Nat) (Dp : Int) (y : Option Addr) (z : Nat) (m : List bY) (A1 : Option Addr) (c1 : Nat) (l1 : List S73) (P s : Oo) (b : Bool) (W : World) (g0 g1 : Nat) (g2 g3 : Nat) (h0 : W.heap[g0]? = some (.cells #[.string P] 9 (0, 0))) (h1 : W.heap[g1]? = some (.cells #[.int .i64 0] 3 (0, 0))) (h2 : W.heap[g2]? = some (.cells #[.slice A1 l1.length c1] 40 (0, 0))) (h3 : W.heap[g3]? = some (.cells #[.int .i64 Dp, .slice y m.length z] 70 (0, 0))) (U : Kd.C gV W y m.length m) (X : m.length ≤ z) (xk : Kd.C k73 W A1 l1.length l1) (xl : l1.length ≤ c1) (h : aR.g0 j Dp m l1 P s = some b) :
  Calls Tryz.prog 91 #[.string s, .pointer (some ⟨g0, 0, none⟩), .pointer (some ⟨g1, 0, none⟩), .pointer (some ⟨g2, 0, none⟩), .pointer (some ⟨g3, 0, none⟩)] W fun e w' => e = .returned (.bool b) ∧ Below W.heap.size W w' := by
 have o := ah.mk h0;have u := ah.mk h1;have x := ah.mk h2;have a := ah.mk h3;have HB := ah.mk (bR W.heap.size W);have xm := ah.mk U;have xn := ah.mk X;have xo := ah.mk xk;have xp := ah.mk xl;clear h0 h1 h2 h3 U X xk xl;have fpc : ∀ (p : Bool) (V : World), aJ.f j P s = some p → Calls Tryz.prog 92 #[.string P, .string s] V fun e w' => e = .returned (.bool p) ∧ Below V.heap.size V w' := fun p V q => by first | exact aJ.calls j P s p V q | exact (aJ.calls j P s p V q).mono (fun e w' hq => ⟨hq.1, hq.2.below⟩)
 have FPC := ah.mk fpc;clear fpc;unfold aR.g0 at h;obtain ⟨p, hp1, h⟩ := bM h;have HP1 := ah.mk hp1;clear hp1
 cases p with
 | false =>
  rw [if_neg (by decide)] at h;obtain rfl := sI h;clear h;have Y : W.cell? ⟨g0, 0, none⟩ = some (.string P) := (ak o.out 0).trans rfl;have Z := aA o.out 0;have xa : W.cell? ⟨g1, 0, none⟩ = some (.int .i64 0) := (ak u.out 0).trans rfl;have xb := aA u.out 0;have xc : W.cell? ⟨g2, 0, none⟩ = some (.slice A1 l1.length c1) := (ak x.out 0).trans rfl;have xd := aA x.out 0;have xe : W.cell? ⟨g3, 0, none⟩ = some (.int .i64 Dp) := (ak a.out 0).trans rfl;have xf := aA a.out 0;have xg : W.cell? ⟨g3, 1, none⟩ = some (.slice y m.length z) := (ak a.out 1).trans rfl;have xh := aA a.out 1;go_enter Tryz.func91, Tryz.ntmps91;go_wp2_with (first | ((with_reducible refine au (f := 92) rfl ?_); refine aK _ Tryz.func92 #[.string P, .string s] ?_; refine (FPC.out false _ HP1.out).mono ?_; rintro e w_ ⟨rfl, hb⟩; refine ⟨_, rfl, ?_⟩; replace HB := BS (w := W) hb; replace o := KB o hb; replace u := KB u hb; replace x := KB x hb; replace a := KB a hb; have A : w_.cell? ⟨g0, 0, none⟩ = some (.string P) := (ak o.out 0).trans rfl; have D := aA o.out 0; have E : w_.cell? ⟨g1, 0, none⟩ = some (.int .i64 0) := (ak u.out 0).trans rfl; have G := aA u.out 0; have I : w_.cell? ⟨g2, 0, none⟩ = some (.slice A1 l1.length c1) := (ak x.out 0).trans rfl; have J := aA x.out 0; have K : w_.cell? ⟨g3, 0, none⟩ = some (.int .i64 Dp) := (ak a.out 0).trans rfl; have L := aA a.out 0; have M : w_.cell? ⟨g3, 1, none⟩ = some (.slice y m.length z) := (ak a.out 1).trans rfl; have O := aA a.out 1; clear hb));go_ret;exact ⟨rfl, BL⟩
 | true =>
  rw [if_pos rfl] at h;obtain rfl := sI h;clear h;have Y : W.cell? ⟨g0, 0, none⟩ = some (.string P) := (ak o.out 0).trans rfl;have Z := aA o.out 0;have xa : W.cell? ⟨g1, 0, none⟩ = some (.int .i64 0) := (ak u.out 0).trans rfl;have xb := aA u.out 0;have xc : W.cell? ⟨g2, 0, none⟩ = some (.slice A1 l1.length c1) := (ak x.out 0).trans rfl;have xd := aA x.out 0;have xe : W.cell? ⟨g3, 0, none⟩ = some (.int .i64 Dp) := (ak a.out 0).trans rfl;have xf := aA a.out 0;have xg : W.cell? ⟨g3, 1, none⟩ = some (.slice y m.length z) := (ak a.out 1).trans rfl;have xh := aA a.out 1;go_enter Tryz.func91, Tryz.ntmps91;go_wp2_with (first | ((with_reducible refine au (f := 92) rfl ?_); refine aK _ Tryz.func92 #[.string P, .string s] ?_; refine (FPC.out true _ HP1.out).mono ?_; rintro e w_ ⟨rfl, hb⟩; refine ⟨_, rfl, ?_⟩; replace HB := BS (w := W) hb; replace o := KB o hb; replace u := KB u hb; replace x := KB x hb; replace a := KB a hb; have A : w_.cell? ⟨g0, 0, none⟩ = some (.string P) := (ak o.out 0).trans rfl; have D := aA o.out 0; have E : w_.cell? ⟨g1, 0, none⟩ = some (.int .i64 0) := (ak u.out 0).trans rfl; have G := aA u.out 0; have I : w_.cell? ⟨g2, 0, none⟩ = some (.slice A1 l1.length c1) := (ak x.out 0).trans rfl; have J := aA x.out 0; have K : w_.cell? ⟨g3, 0, none⟩ = some (.int .i64 Dp) := (ak a.out 0).trans rfl; have L := aA a.out 0; have M : w_.cell? ⟨g3, 1, none⟩ = some (.slice y m.length z) := (ak a.out 1).trans rfl; have O := aA a.out 1; clear hb));go_ret;exact ⟨rfl, BL⟩
theorem aR.wL (j : Nat) (Dp : Int) (y : Option Addr) (z : Nat) (x : List bY) (A1 : Option Addr) (c1 : Nat) (l1 : List S73) (P s : Oo) (b : Bool) (W : World) (g0 g1 : Nat) (g2 g3 : Nat) (h0 : W.heap[g0]? = some (.cells #[.string P] 9 (0, 0))) (h1 : W.heap[g1]? = some (.cells #[.int .i64 1] 3 (0, 0))) (h2 : W.heap[g2]? = some (.cells #[.slice A1 l1.length c1] 40 (0, 0))) (h3 : W.heap[g3]? = some (.cells #[.int .i64 Dp, .slice y x.length z] 70 (0, 0))) (xs : Kd.C gV W y x.length x) (xt : x.length ≤ z) (xu : Kd.C k73 W A1 l1.length l1) (xv : l1.length ≤ c1) (h : aR.g1 j Dp x l1 P s = some b) :
  Calls Tryz.prog 91 #[.string s, .pointer (some ⟨g0, 0, none⟩), .pointer (some ⟨g1, 0, none⟩), .pointer (some ⟨g2, 0, none⟩), .pointer (some ⟨g3, 0, none⟩)] W fun e w' => e = .returned (.bool b) ∧ Below W.heap.size W w' := by
 have m := ah.mk h0;have o := ah.mk h1;have u := ah.mk h2;have a := ah.mk h3;have HB := ah.mk (bR W.heap.size W);have xy := ah.mk xs;have xz := ah.mk xt;have xw := ah.mk xu;have xx := ah.mk xv;clear h0 h1 h2 h3 xs xt xu xv;have fpc : ∀ (p : Bool) (V : World), aJ.f j P s = some p → Calls Tryz.prog 92 #[.string P, .string s] V fun e w' => e = .returned (.bool p) ∧ Below V.heap.size V w' := fun p V q => by first | exact aJ.calls j P s p V q | exact (aJ.calls j P s p V q).mono (fun e w' hq => ⟨hq.1, hq.2.below⟩)
 have hsc : ∀ (p : Bool) (V : World), Below W.heap.size W V → ig.f j l1 s Dp = some p → Calls Tryz.prog 93 #[.slice A1 l1.length c1, .string s, .int .i64 Dp] V fun e w' => e = .returned (.bool p) ∧ Below V.heap.size V w' := fun p V hv q => by first | exact ig.calls j _ _ l1 s Dp p V (Kd.dz xw.out hv) xx.out q | exact (ig.calls j _ _ l1 s Dp p V (Kd.dz xw.out hv) xx.out q).mono (fun e w' hq => ⟨hq.1, hq.2.below⟩)
 have FPC := ah.mk fpc;clear fpc;have HSC := ah.mk hsc;clear hsc;unfold aR.g1 at h;obtain ⟨p, hp1, h⟩ := bM h;have HP1 := ah.mk hp1;clear hp1
 cases p with
 | false =>
  rw [if_neg (by decide)] at h;obtain rfl := sI h;clear h;have U : W.cell? ⟨g0, 0, none⟩ = some (.string P) := (ak m.out 0).trans rfl;have X := aA m.out 0;have Y : W.cell? ⟨g1, 0, none⟩ = some (.int .i64 1) := (ak o.out 0).trans rfl;have Z := aA o.out 0;have xa : W.cell? ⟨g2, 0, none⟩ = some (.slice A1 l1.length c1) := (ak u.out 0).trans rfl;have xb := aA u.out 0;have xc : W.cell? ⟨g3, 0, none⟩ = some (.int .i64 Dp) := (ak a.out 0).trans rfl;have xd := aA a.out 0;have xe : W.cell? ⟨g3, 1, none⟩ = some (.slice y x.length z) := (ak a.out 1).trans rfl;have xf := aA a.out 1;go_enter Tryz.func91, Tryz.ntmps91;go_wp2_with (first | ((with_reducible refine au (f := 92) rfl ?_); refine aK _ Tryz.func92 #[.string P, .string s] ?_; refine (FPC.out false _ HP1.out).mono ?_; rintro e w_ ⟨rfl, hb⟩; refine ⟨_, rfl, ?_⟩; replace HB := BS (w := W) hb; replace m := KB m hb; replace o := KB o hb; replace u := KB u hb; replace a := KB a hb; have A : w_.cell? ⟨g0, 0, none⟩ = some (.string P) := (ak m.out 0).trans rfl; have D := aA m.out 0; have E : w_.cell? ⟨g1, 0, none⟩ = some (.int .i64 1) := (ak o.out 0).trans rfl; have G := aA o.out 0; have I : w_.cell? ⟨g2, 0, none⟩ = some (.slice A1 l1.length c1) := (ak u.out 0).trans rfl; have J := aA u.out 0; have K : w_.cell? ⟨g3, 0, none⟩ = some (.int .i64 Dp) := (ak a.out 0).trans rfl; have L := aA a.out 0; have M : w_.cell? ⟨g3, 1, none⟩ = some (.slice y x.length z) := (ak a.out 1).trans rfl; have O := aA a.out 1; clear hb));go_ret;exact ⟨rfl, BL⟩
 | true =>
  rw [if_pos rfl] at h;obtain ⟨v, hp2, h⟩ := bM h;have HP2 := ah.mk hp2;clear hp2
  cases v with
  | false =>
   rw [if_neg (by decide)] at h;obtain rfl := sI h;clear h;have U : W.cell? ⟨g0, 0, none⟩ = some (.string P) := (ak m.out 0).trans rfl;have X := aA m.out 0;have Y : W.cell? ⟨g1, 0, none⟩ = some (.int .i64 1) := (ak o.out 0).trans rfl;have Z := aA o.out 0;have xa : W.cell? ⟨g2, 0, none⟩ = some (.slice A1 l1.length c1) := (ak u.out 0).trans rfl;have xb := aA u.out 0;have xc : W.cell? ⟨g3, 0, none⟩ = some (.int .i64 Dp) := (ak a.out 0).trans rfl;have xd := aA a.out 0;have xe : W.cell? ⟨g3, 1, none⟩ = some (.slice y x.length z) := (ak a.out 1).trans rfl;have xf := aA a.out 1;go_enter Tryz.func91, Tryz.ntmps91;go_wp2_with (first | ((with_reducible refine au (f := 92) rfl ?_); refine aK _ Tryz.func92 #[.string P, .string s] ?_; refine (FPC.out true _ HP1.out).mono ?_; rintro e w_ ⟨rfl, hb⟩; refine ⟨_, rfl, ?_⟩; replace HB := BS (w := W) hb; replace m := KB m hb; replace o := KB o hb; replace u := KB u hb; replace a := KB a hb; have A : w_.cell? ⟨g0, 0, none⟩ = some (.string P) := (ak m.out 0).trans rfl; have D := aA m.out 0; have E : w_.cell? ⟨g1, 0, none⟩ = some (.int .i64 1) := (ak o.out 0).trans rfl; have G := aA o.out 0; have I : w_.cell? ⟨g2, 0, none⟩ = some (.slice A1 l1.length c1) := (ak u.out 0).trans rfl; have J := aA u.out 0; have K : w_.cell? ⟨g3, 0, none⟩ = some (.int .i64 Dp) := (ak a.out 0).trans rfl; have L := aA a.out 0; have M : w_.cell? ⟨g3, 1, none⟩ = some (.slice y x.length z) := (ak a.out 1).trans rfl; have O := aA a.out 1; clear hb) | (go_at_call 93; refine (HSC.out false _ BL HP2.out).mono ?_; rintro e w_ ⟨rfl, hb⟩; replace HB := BS (w := W) hb; replace m := KB m hb; replace o := KB o hb; replace u := KB u hb; replace a := KB a hb; have xg : w_.cell? ⟨g0, 0, none⟩ = some (.string P) := (ak m.out 0).trans rfl; have xh := aA m.out 0; have xi : w_.cell? ⟨g1, 0, none⟩ = some (.int .i64 1) := (ak o.out 0).trans rfl; have xj := aA o.out 0; have xk : w_.cell? ⟨g2, 0, none⟩ = some (.slice A1 l1.length c1) := (ak u.out 0).trans rfl; have xl := aA u.out 0; have xm : w_.cell? ⟨g3, 0, none⟩ = some (.int .i64 Dp) := (ak a.out 0).trans rfl; have xn := aA a.out 0; have xo : w_.cell? ⟨g3, 1, none⟩ = some (.slice y x.length z) := (ak a.out 1).trans rfl; have xp := aA a.out 1; clear hb));go_ret;exact ⟨rfl, BL⟩
  | true =>
   rw [if_pos rfl] at h;obtain rfl := sI h;clear h;have U : W.cell? ⟨g0, 0, none⟩ = some (.string P) := (ak m.out 0).trans rfl;have X := aA m.out 0;have Y : W.cell? ⟨g1, 0, none⟩ = some (.int .i64 1) := (ak o.out 0).trans rfl;have Z := aA o.out 0;have xa : W.cell? ⟨g2, 0, none⟩ = some (.slice A1 l1.length c1) := (ak u.out 0).trans rfl;have xb := aA u.out 0;have xc : W.cell? ⟨g3, 0, none⟩ = some (.int .i64 Dp) := (ak a.out 0).trans rfl;have xd := aA a.out 0;have xe : W.cell? ⟨g3, 1, none⟩ = some (.slice y x.length z) := (ak a.out 1).trans rfl;have xf := aA a.out 1;go_enter Tryz.func91, Tryz.ntmps91;go_wp2_with (first | ((with_reducible refine au (f := 92) rfl ?_); refine aK _ Tryz.func92 #[.string P, .string s] ?_; refine (FPC.out true _ HP1.out).mono ?_; rintro e w_ ⟨rfl, hb⟩; refine ⟨_, rfl, ?_⟩; replace HB := BS (w := W) hb; replace m := KB m hb; replace o := KB o hb; replace u := KB u hb; replace a := KB a hb; have A : w_.cell? ⟨g0, 0, none⟩ = some (.string P) := (ak m.out 0).trans rfl; have D := aA m.out 0; have E : w_.cell? ⟨g1, 0, none⟩ = some (.int .i64 1) := (ak o.out 0).trans rfl; have G := aA o.out 0; have I : w_.cell? ⟨g2, 0, none⟩ = some (.slice A1 l1.length c1) := (ak u.out 0).trans rfl; have J := aA u.out 0; have K : w_.cell? ⟨g3, 0, none⟩ = some (.int .i64 Dp) := (ak a.out 0).trans rfl; have L := aA a.out 0; have M : w_.cell? ⟨g3, 1, none⟩ = some (.slice y x.length z) := (ak a.out 1).trans rfl; have O := aA a.out 1; clear hb) | (go_at_call 93; refine (HSC.out true _ BL HP2.out).mono ?_; rintro e w_ ⟨rfl, hb⟩; replace HB := BS (w := W) hb; replace m := KB m hb; replace o := KB o hb; replace u := KB u hb; replace a := KB a hb; have xg : w_.cell? ⟨g0, 0, none⟩ = some (.string P) := (ak m.out 0).trans rfl; have xh := aA m.out 0; have xi : w_.cell? ⟨g1, 0, none⟩ = some (.int .i64 1) := (ak o.out 0).trans rfl; have xj := aA o.out 0; have xk : w_.cell? ⟨g2, 0, none⟩ = some (.slice A1 l1.length c1) := (ak u.out 0).trans rfl; have xl := aA u.out 0; have xm : w_.cell? ⟨g3, 0, none⟩ = some (.int .i64 Dp) := (ak a.out 0).trans rfl; have xn := aA a.out 0; have xo : w_.cell? ⟨g3, 1, none⟩ = some (.slice y x.length z) := (ak a.out 1).trans rfl; have xp := aA a.out 1; clear hb));go_ret;exact ⟨rfl, BL⟩
theorem aR.wM (j : Nat) (Dp : Int) (z : Option Addr) (A : Nat) (o : List bY) (A1 : Option Addr) (c1 : Nat) (l1 : List S73) (D s : Oo) (b : Bool) (W : World) (g0 g1 : Nat) (g2 g3 : Nat) (h0 : W.heap[g0]? = some (.cells #[.string D] 9 (0, 0))) (h1 : W.heap[g1]? = some (.cells #[.int .i64 2] 3 (0, 0))) (h2 : W.heap[g2]? = some (.cells #[.slice A1 l1.length c1] 40 (0, 0))) (h3 : W.heap[g3]? = some (.cells #[.int .i64 Dp, .slice z o.length A] 70 (0, 0))) (X : Kd.C gV W z o.length o) (Y : o.length ≤ A) (xv : Kd.C k73 W A1 l1.length l1) (xw : l1.length ≤ c1) (h : aR.g2 j Dp o l1 D s = some b) :
  Calls Tryz.prog 91 #[.string s, .pointer (some ⟨g0, 0, none⟩), .pointer (some ⟨g1, 0, none⟩), .pointer (some ⟨g2, 0, none⟩), .pointer (some ⟨g3, 0, none⟩)] W fun e w' => e = .returned (.bool b) ∧ Below W.heap.size W w' := by
 have u := ah.mk h0;have x := ah.mk h1;have y := ah.mk h2;have a := ah.mk h3;have HB := ah.mk (bR W.heap.size W);have xx := ah.mk X;have xy := ah.mk Y;have xz := ah.mk xv;have xA := ah.mk xw;clear h0 h1 h2 h3 X Y xv xw;have fpc : ∀ (p : Bool) (V : World), aJ.f j D s = some p → Calls Tryz.prog 92 #[.string D, .string s] V fun e w' => e = .returned (.bool p) ∧ Below V.heap.size V w' := fun p V q => by first | exact aJ.calls j D s p V q | exact (aJ.calls j D s p V q).mono (fun e w' hq => ⟨hq.1, hq.2.below⟩)
 have mkc : ∀ (p : Bool) (V : World), Below W.heap.size W V → ji.f j o s = some p → Calls Tryz.prog 94 #[.slice z o.length A, .string s] V fun e w' => e = .returned (.bool p) ∧ Below V.heap.size V w' := fun p V hv q => by first | exact ji.calls j _ _ o s p V (Kd.dz xx.out hv) xy.out q | exact (ji.calls j _ _ o s p V (Kd.dz xx.out hv) xy.out q).mono (fun e w' hq => ⟨hq.1, hq.2.below⟩)
 have FPC := ah.mk fpc;clear fpc;have MKC := ah.mk mkc;clear mkc;unfold aR.g2 at h;obtain ⟨p, hp1, h⟩ := bM h;have HP1 := ah.mk hp1;clear hp1
 cases p with
 | false =>
  rw [if_neg (by decide)] at h;obtain rfl := sI h;clear h;have Z : W.cell? ⟨g0, 0, none⟩ = some (.string D) := (ak u.out 0).trans rfl;have xa := aA u.out 0;have xb : W.cell? ⟨g1, 0, none⟩ = some (.int .i64 2) := (ak x.out 0).trans rfl;have xc := aA x.out 0;have xd : W.cell? ⟨g2, 0, none⟩ = some (.slice A1 l1.length c1) := (ak y.out 0).trans rfl;have xe := aA y.out 0;have xf : W.cell? ⟨g3, 0, none⟩ = some (.int .i64 Dp) := (ak a.out 0).trans rfl;have xg := aA a.out 0;have xh : W.cell? ⟨g3, 1, none⟩ = some (.slice z o.length A) := (ak a.out 1).trans rfl;have xi := aA a.out 1;go_enter Tryz.func91, Tryz.ntmps91;go_wp2_with (first | ((with_reducible refine au (f := 92) rfl ?_); refine aK _ Tryz.func92 #[.string D, .string s] ?_; refine (FPC.out false _ HP1.out).mono ?_; rintro e w_ ⟨rfl, hb⟩; refine ⟨_, rfl, ?_⟩; replace HB := BS (w := W) hb; replace u := KB u hb; replace x := KB x hb; replace y := KB y hb; replace a := KB a hb; have E : w_.cell? ⟨g0, 0, none⟩ = some (.string D) := (ak u.out 0).trans rfl; have G := aA u.out 0; have I : w_.cell? ⟨g1, 0, none⟩ = some (.int .i64 2) := (ak x.out 0).trans rfl; have J := aA x.out 0; have K : w_.cell? ⟨g2, 0, none⟩ = some (.slice A1 l1.length c1) := (ak y.out 0).trans rfl; have L := aA y.out 0; have M : w_.cell? ⟨g3, 0, none⟩ = some (.int .i64 Dp) := (ak a.out 0).trans rfl; have O := aA a.out 0; have P : w_.cell? ⟨g3, 1, none⟩ = some (.slice z o.length A) := (ak a.out 1).trans rfl; have U := aA a.out 1; clear hb));go_ret;exact ⟨rfl, BL⟩
 | true =>
  rw [if_pos rfl] at h;obtain ⟨m, hp3, h⟩ := bM h;obtain rfl := sI h;have HP3 := ah.mk hp3;clear h hp3;have Z : W.cell? ⟨g0, 0, none⟩ = some (.string D) := (ak u.out 0).trans rfl;have xa := aA u.out 0;have xb : W.cell? ⟨g1, 0, none⟩ = some (.int .i64 2) := (ak x.out 0).trans rfl;have xc := aA x.out 0;have xd : W.cell? ⟨g2, 0, none⟩ = some (.slice A1 l1.length c1) := (ak y.out 0).trans rfl;have xe := aA y.out 0;have xf : W.cell? ⟨g3, 0, none⟩ = some (.int .i64 Dp) := (ak a.out 0).trans rfl;have xg := aA a.out 0;have xh : W.cell? ⟨g3, 1, none⟩ = some (.slice z o.length A) := (ak a.out 1).trans rfl;have xi := aA a.out 1;go_enter Tryz.func91, Tryz.ntmps91;go_wp2_with (first | ((with_reducible refine au (f := 92) rfl ?_); refine aK _ Tryz.func92 #[.string D, .string s] ?_; refine (FPC.out true _ HP1.out).mono ?_; rintro e w_ ⟨rfl, hb⟩; refine ⟨_, rfl, ?_⟩; replace HB := BS (w := W) hb; replace u := KB u hb; replace x := KB x hb; replace y := KB y hb; replace a := KB a hb; have E : w_.cell? ⟨g0, 0, none⟩ = some (.string D) := (ak u.out 0).trans rfl; have G := aA u.out 0; have I : w_.cell? ⟨g1, 0, none⟩ = some (.int .i64 2) := (ak x.out 0).trans rfl; have J := aA x.out 0; have K : w_.cell? ⟨g2, 0, none⟩ = some (.slice A1 l1.length c1) := (ak y.out 0).trans rfl; have L := aA y.out 0; have M : w_.cell? ⟨g3, 0, none⟩ = some (.int .i64 Dp) := (ak a.out 0).trans rfl; have O := aA a.out 0; have P : w_.cell? ⟨g3, 1, none⟩ = some (.slice z o.length A) := (ak a.out 1).trans rfl; have U := aA a.out 1; clear hb) | (go_at_call 94; refine (MKC.out m _ BL HP3.out).mono ?_; rintro e w_ ⟨rfl, hb⟩; replace HB := BS (w := W) hb; replace u := KB u hb; replace x := KB x hb; replace y := KB y hb; replace a := KB a hb; have xl : w_.cell? ⟨g0, 0, none⟩ = some (.string D) := (ak u.out 0).trans rfl; have xm := aA u.out 0; have xn : w_.cell? ⟨g1, 0, none⟩ = some (.int .i64 2) := (ak x.out 0).trans rfl; have xo := aA x.out 0; have xp : w_.cell? ⟨g2, 0, none⟩ = some (.slice A1 l1.length c1) := (ak y.out 0).trans rfl; have xq := aA y.out 0; have xr : w_.cell? ⟨g3, 0, none⟩ = some (.int .i64 Dp) := (ak a.out 0).trans rfl; have xs := aA a.out 0; have xt : w_.cell? ⟨g3, 1, none⟩ = some (.slice z o.length A) := (ak a.out 1).trans rfl; have xu := aA a.out 1; clear hb));go_ret;exact ⟨rfl, BL⟩
theorem aR.wN (j : Nat) (Dp : Int) (z : Option Addr) (A : Nat) (y : List bY) (A1 : Option Addr) (c1 : Nat) (l1 : List S73) (U s : Oo) (b : Bool) (W : World) (g0 g1 : Nat) (g2 g3 : Nat) (h0 : W.heap[g0]? = some (.cells #[.string U] 9 (0, 0))) (h1 : W.heap[g1]? = some (.cells #[.int .i64 3] 3 (0, 0))) (h2 : W.heap[g2]? = some (.cells #[.slice A1 l1.length c1] 40 (0, 0))) (h3 : W.heap[g3]? = some (.cells #[.int .i64 Dp, .slice z y.length A] 70 (0, 0))) (xt : Kd.C gV W z y.length y) (xu : y.length ≤ A) (xF : Kd.C k73 W A1 l1.length l1) (xG : l1.length ≤ c1) (h : aR.g3 j Dp y l1 U s = some b) :
  Calls Tryz.prog 91 #[.string s, .pointer (some ⟨g0, 0, none⟩), .pointer (some ⟨g1, 0, none⟩), .pointer (some ⟨g2, 0, none⟩), .pointer (some ⟨g3, 0, none⟩)] W fun e w' => e = .returned (.bool b) ∧ Below W.heap.size W w' := by
 have o := ah.mk h0;have u := ah.mk h1;have x := ah.mk h2;have a := ah.mk h3;have HB := ah.mk (bR W.heap.size W);have xH := ah.mk xt;have xI := ah.mk xu;have xJ := ah.mk xF;have xK := ah.mk xG;clear h0 h1 h2 h3 xt xu xF xG;have fpc : ∀ (p : Bool) (V : World), aJ.f j U s = some p → Calls Tryz.prog 92 #[.string U, .string s] V fun e w' => e = .returned (.bool p) ∧ Below V.heap.size V w' := fun p V q => by first | exact aJ.calls j U s p V q | exact (aJ.calls j U s p V q).mono (fun e w' hq => ⟨hq.1, hq.2.below⟩)
 have hsc : ∀ (p : Bool) (V : World), Below W.heap.size W V → ig.f j l1 s Dp = some p → Calls Tryz.prog 93 #[.slice A1 l1.length c1, .string s, .int .i64 Dp] V fun e w' => e = .returned (.bool p) ∧ Below V.heap.size V w' := fun p V hv q => by first | exact ig.calls j _ _ l1 s Dp p V (Kd.dz xJ.out hv) xK.out q | exact (ig.calls j _ _ l1 s Dp p V (Kd.dz xJ.out hv) xK.out q).mono (fun e w' hq => ⟨hq.1, hq.2.below⟩)
 have mkc : ∀ (p : Bool) (V : World), Below W.heap.size W V → ji.f j y s = some p → Calls Tryz.prog 94 #[.slice z y.length A, .string s] V fun e w' => e = .returned (.bool p) ∧ Below V.heap.size V w' := fun p V hv q => by first | exact ji.calls j _ _ y s p V (Kd.dz xH.out hv) xI.out q | exact (ji.calls j _ _ y s p V (Kd.dz xH.out hv) xI.out q).mono (fun e w' hq => ⟨hq.1, hq.2.below⟩)
 have FPC := ah.mk fpc;clear fpc;have HSC := ah.mk hsc;clear hsc;have MKC := ah.mk mkc;clear mkc;unfold aR.g3 at h;obtain ⟨p, hp1, h⟩ := bM h;have HP1 := ah.mk hp1;clear hp1
 cases p with
 | false =>
  rw [if_neg (by decide)] at h;obtain rfl := sI h;clear h;have X : W.cell? ⟨g0, 0, none⟩ = some (.string U) := (ak o.out 0).trans rfl;have Y := aA o.out 0;have Z : W.cell? ⟨g1, 0, none⟩ = some (.int .i64 3) := (ak u.out 0).trans rfl;have xa := aA u.out 0;have xb : W.cell? ⟨g2, 0, none⟩ = some (.slice A1 l1.length c1) := (ak x.out 0).trans rfl;have xc := aA x.out 0;have xd : W.cell? ⟨g3, 0, none⟩ = some (.int .i64 Dp) := (ak a.out 0).trans rfl;have xe := aA a.out 0;have xf : W.cell? ⟨g3, 1, none⟩ = some (.slice z y.length A) := (ak a.out 1).trans rfl;have xg := aA a.out 1;go_enter Tryz.func91, Tryz.ntmps91;go_wp2_with (first | ((with_reducible refine au (f := 92) rfl ?_); refine aK _ Tryz.func92 #[.string U, .string s] ?_; refine (FPC.out false _ HP1.out).mono ?_; rintro e w_ ⟨rfl, hb⟩; refine ⟨_, rfl, ?_⟩; replace HB := BS (w := W) hb; replace o := KB o hb; replace u := KB u hb; replace x := KB x hb; replace a := KB a hb; have D : w_.cell? ⟨g0, 0, none⟩ = some (.string U) := (ak o.out 0).trans rfl; have E := aA o.out 0; have G : w_.cell? ⟨g1, 0, none⟩ = some (.int .i64 3) := (ak u.out 0).trans rfl; have I := aA u.out 0; have J : w_.cell? ⟨g2, 0, none⟩ = some (.slice A1 l1.length c1) := (ak x.out 0).trans rfl; have K := aA x.out 0; have L : w_.cell? ⟨g3, 0, none⟩ = some (.int .i64 Dp) := (ak a.out 0).trans rfl; have M := aA a.out 0; have O : w_.cell? ⟨g3, 1, none⟩ = some (.slice z y.length A) := (ak a.out 1).trans rfl; have P := aA a.out 1; clear hb));go_ret;exact ⟨rfl, BL⟩
 | true =>
  rw [if_pos rfl] at h;obtain ⟨v, hp2, h⟩ := bM h;have HP2 := ah.mk hp2;clear hp2
  cases v with
  | false =>
   rw [if_neg (by decide)] at h;obtain rfl := sI h;clear h;have X : W.cell? ⟨g0, 0, none⟩ = some (.string U) := (ak o.out 0).trans rfl;have Y := aA o.out 0;have Z : W.cell? ⟨g1, 0, none⟩ = some (.int .i64 3) := (ak u.out 0).trans rfl;have xa := aA u.out 0;have xb : W.cell? ⟨g2, 0, none⟩ = some (.slice A1 l1.length c1) := (ak x.out 0).trans rfl;have xc := aA x.out 0;have xd : W.cell? ⟨g3, 0, none⟩ = some (.int .i64 Dp) := (ak a.out 0).trans rfl;have xe := aA a.out 0;have xf : W.cell? ⟨g3, 1, none⟩ = some (.slice z y.length A) := (ak a.out 1).trans rfl;have xg := aA a.out 1;go_enter Tryz.func91, Tryz.ntmps91;go_wp2_with (first | ((with_reducible refine au (f := 92) rfl ?_); refine aK _ Tryz.func92 #[.string U, .string s] ?_; refine (FPC.out true _ HP1.out).mono ?_; rintro e w_ ⟨rfl, hb⟩; refine ⟨_, rfl, ?_⟩; replace HB := BS (w := W) hb; replace o := KB o hb; replace u := KB u hb; replace x := KB x hb; replace a := KB a hb; have D : w_.cell? ⟨g0, 0, none⟩ = some (.string U) := (ak o.out 0).trans rfl; have E := aA o.out 0; have G : w_.cell? ⟨g1, 0, none⟩ = some (.int .i64 3) := (ak u.out 0).trans rfl; have I := aA u.out 0; have J : w_.cell? ⟨g2, 0, none⟩ = some (.slice A1 l1.length c1) := (ak x.out 0).trans rfl; have K := aA x.out 0; have L : w_.cell? ⟨g3, 0, none⟩ = some (.int .i64 Dp) := (ak a.out 0).trans rfl; have M := aA a.out 0; have O : w_.cell? ⟨g3, 1, none⟩ = some (.slice z y.length A) := (ak a.out 1).trans rfl; have P := aA a.out 1; clear hb) | (go_at_call 93; refine (HSC.out false _ BL HP2.out).mono ?_; rintro e w_ ⟨rfl, hb⟩; replace HB := BS (w := W) hb; replace o := KB o hb; replace u := KB u hb; replace x := KB x hb; replace a := KB a hb; have xh : w_.cell? ⟨g0, 0, none⟩ = some (.string U) := (ak o.out 0).trans rfl; have xi := aA o.out 0; have xj : w_.cell? ⟨g1, 0, none⟩ = some (.int .i64 3) := (ak u.out 0).trans rfl; have xk := aA u.out 0; have xl : w_.cell? ⟨g2, 0, none⟩ = some (.slice A1 l1.length c1) := (ak x.out 0).trans rfl; have xm := aA x.out 0; have xn : w_.cell? ⟨g3, 0, none⟩ = some (.int .i64 Dp) := (ak a.out 0).trans rfl; have xo := aA a.out 0; have xp : w_.cell? ⟨g3, 1, none⟩ = some (.slice z y.length A) := (ak a.out 1).trans rfl; have xq := aA a.out 1; clear hb));go_ret;exact ⟨rfl, BL⟩
  | true =>
   rw [if_pos rfl] at h;obtain ⟨m, hp3, h⟩ := bM h;obtain rfl := sI h;have HP3 := ah.mk hp3;clear h hp3;have X : W.cell? ⟨g0, 0, none⟩ = some (.string U) := (ak o.out 0).trans rfl;have Y := aA o.out 0;have Z : W.cell? ⟨g1, 0, none⟩ = some (.int .i64 3) := (ak u.out 0).trans rfl;have xa := aA u.out 0;have xb : W.cell? ⟨g2, 0, none⟩ = some (.slice A1 l1.length c1) := (ak x.out 0).trans rfl;have xc := aA x.out 0;have xd : W.cell? ⟨g3, 0, none⟩ = some (.int .i64 Dp) := (ak a.out 0).trans rfl;have xe := aA a.out 0;have xf : W.cell? ⟨g3, 1, none⟩ = some (.slice z y.length A) := (ak a.out 1).trans rfl;have xg := aA a.out 1;go_enter Tryz.func91, Tryz.ntmps91;go_wp2_with (first | ((with_reducible refine au (f := 92) rfl ?_); refine aK _ Tryz.func92 #[.string U, .string s] ?_; refine (FPC.out true _ HP1.out).mono ?_; rintro e w_ ⟨rfl, hb⟩; refine ⟨_, rfl, ?_⟩; replace HB := BS (w := W) hb; replace o := KB o hb; replace u := KB u hb; replace x := KB x hb; replace a := KB a hb; have D : w_.cell? ⟨g0, 0, none⟩ = some (.string U) := (ak o.out 0).trans rfl; have E := aA o.out 0; have G : w_.cell? ⟨g1, 0, none⟩ = some (.int .i64 3) := (ak u.out 0).trans rfl; have I := aA u.out 0; have J : w_.cell? ⟨g2, 0, none⟩ = some (.slice A1 l1.length c1) := (ak x.out 0).trans rfl; have K := aA x.out 0; have L : w_.cell? ⟨g3, 0, none⟩ = some (.int .i64 Dp) := (ak a.out 0).trans rfl; have M := aA a.out 0; have O : w_.cell? ⟨g3, 1, none⟩ = some (.slice z y.length A) := (ak a.out 1).trans rfl; have P := aA a.out 1; clear hb) | (go_at_call 93; refine (HSC.out true _ BL HP2.out).mono ?_; rintro e w_ ⟨rfl, hb⟩; replace HB := BS (w := W) hb; replace o := KB o hb; replace u := KB u hb; replace x := KB x hb; replace a := KB a hb; have xh : w_.cell? ⟨g0, 0, none⟩ = some (.string U) := (ak o.out 0).trans rfl; have xi := aA o.out 0; have xj : w_.cell? ⟨g1, 0, none⟩ = some (.int .i64 3) := (ak u.out 0).trans rfl; have xk := aA u.out 0; have xl : w_.cell? ⟨g2, 0, none⟩ = some (.slice A1 l1.length c1) := (ak x.out 0).trans rfl; have xm := aA x.out 0; have xn : w_.cell? ⟨g3, 0, none⟩ = some (.int .i64 Dp) := (ak a.out 0).trans rfl; have xo := aA a.out 0; have xp : w_.cell? ⟨g3, 1, none⟩ = some (.slice z y.length A) := (ak a.out 1).trans rfl; have xq := aA a.out 1; clear hb) | (go_at_call 94; refine (MKC.out m _ BL HP3.out).mono ?_; rintro e w_ ⟨rfl, hb⟩; replace HB := BS (w := W) hb; replace o := KB o hb; replace u := KB u hb; replace x := KB x hb; replace a := KB a hb; have xv : w_.cell? ⟨g0, 0, none⟩ = some (.string U) := (ak o.out 0).trans rfl; have xw := aA o.out 0; have xx : w_.cell? ⟨g1, 0, none⟩ = some (.int .i64 3) := (ak u.out 0).trans rfl; have xy := aA u.out 0; have xz : w_.cell? ⟨g2, 0, none⟩ = some (.slice A1 l1.length c1) := (ak x.out 0).trans rfl; have xA := aA x.out 0; have xB : w_.cell? ⟨g3, 0, none⟩ = some (.int .i64 Dp) := (ak a.out 0).trans rfl; have xC := aA a.out 0; have xD : w_.cell? ⟨g3, 1, none⟩ = some (.slice z y.length A) := (ak a.out 1).trans rfl; have xE := aA a.out 1; clear hb));go_ret;exact ⟨rfl, BL⟩
theorem aR.calls (k : Nat) (Dp : Int) (A : Option Addr) (D : Nat) (m : List bY) (M : Option Addr) (O : Nat) (l1 : List S73) (A2 : Option Addr) (c2 : Nat) (l2 : List Oo) (L : Oo) (P : Int) (r : List Oo) (w : World) (Z : Kd.C gV w A m.length m) (xa : m.length ≤ D) (xi : Kd.C k73 w M l1.length l1) (xj : l1.length ≤ O) (hr2 : Kd.C Kd.string w A2 l2.length l2) (hc2 : l2.length ≤ c2) (h : aR.f k Dp m l1 l2 L P = some r) :
  Calls Tryz.prog 48 #[.agg #[.int .i64 Dp, .slice A m.length D], .slice M l1.length O, .slice A2 l2.length c2, .string L, .int .i64 P] w fun e w' => ∃ v0_ : Value, e = .returned (v0_) ∧ Kd.R Kd.string 9 w' w.heap.size (fun _ => True) v0_ r ∧ Below w.heap.size w w' := by
 have xb := ah.mk Z;have xc := ah.mk xa;have xd := ah.mk xi;have xe := ah.mk xj;have xf := ah.mk hr2;have xg := ah.mk hc2;have HB := ah.mk (bR w.heap.size w);clear Z xa xi xj hr2 hc2;unfold aR.f at h;obtain ⟨q, h0, h⟩ := bM h;have irc : ∀ V : World, Calls Tryz.prog 63 #[.int .i64 P, .int .i64 0, .int .i64 3] V fun e w' => e = .returned (.bool q) ∧ Below V.heap.size V w' := fun V => by first | exact cK.calls P 0 3 q V h0 | exact (cK.calls P 0 3 q V h0).mono (fun e w' hq => ⟨hq.1, hq.2.below⟩) | exact (cK.calls P 0 3 q V h0).mono (fun e w' hq => ⟨hq.1, by rw [hq.2]; exact bR _ _⟩)
 have IRC := ah.mk irc;clear irc
 cases q with
 | false =>
  rw [if_neg (by decide)] at h;obtain rfl := sI h;clear h h0;go_enter Tryz.func48, Tryz.ntmps48;go_wp2_with (first | ((with_reducible refine aG (N := 5) rfl ?_); refine aN (N := 5) (cs := #[.int .i64 Dp, .slice A m.length D]) (t := 70) ?_; intro G hg w5 hbox hb; replace HB := BS (w := w) hb; have a := ah.mk (hbox); clear hb hbox hg) | ((with_reducible refine aG (N := 6) rfl ?_); refine aN (N := 6) (cs := #[.slice M l1.length O]) (t := 40) ?_; intro I hg w6 hbox hb; replace HB := BS (w := w) hb; have u := ah.mk (hbox); replace a := KB a hb; clear hb hbox hg) | ((with_reducible refine aG (N := 8) rfl ?_); refine aN (N := 8) (cs := #[.string L]) (t := 9) ?_; intro J hg w8 hbox hb; replace HB := BS (w := w) hb; have y := ah.mk (hbox); replace a := KB a hb; replace u := KB u hb; clear hb hbox hg) | ((with_reducible refine aG (N := 9) rfl ?_); refine aN (N := 9) (cs := #[.int .i64 P]) (t := 3) ?_; intro x hg w9 hbox hb; replace HB := BS (w := w) hb; have z := ah.mk (hbox); replace a := KB a hb; replace u := KB u hb; replace y := KB y hb; clear hb hbox hg; have X : w9.cell? ⟨x, 0, none⟩ = some (.int .i64 P) := (ak z.out 0).trans rfl; have Y := aA z.out 0) | ((with_reducible refine au (f := 63) rfl ?_); refine aK _ Tryz.func63 #[.int .i64 P, .int .i64 0, .int .i64 3] ?_; refine (IRC.out _).mono ?_; rintro e w_ ⟨rfl, hb⟩; refine ⟨_, rfl, ?_⟩; replace HB := BS (w := w) hb; replace a := KB a hb; replace u := KB u hb; replace y := KB y hb; replace z := KB z hb; clear hb));go_ret;exact ⟨_, rfl, Kd.kI _ _ _ _ _, BL⟩
 | true =>
  rw [if_pos rfl] at h;obtain ⟨t, h1, h2⟩ := bM h
  have h4 : P = 0 ∨ P = 1 ∨ P = 2 ∨ P = 3 := by
   unfold cK.f at h0;by_cases x1 : (0 : Int) ≤ P
   ·rw [if_pos x1] at h0;have x2 : P ≤ 3 := of_decide_eq_true (sI h0);omega
   ·rw [if_neg x1] at h0
    cases h0
  clear h h0;rcases h4 with rfl | rfl | rfl | rfl
  ·have h1' : fK.f k l2 (fun j s => aR.g0 j Dp m l1 L s) = some t := by
    rw [← h1];congr 1
   have H1 := ah.mk h1';have H2 := ah.mk h2;clear h1 h1' h2;go_enter Tryz.func48, Tryz.ntmps48;go_wp2_with (first | ((with_reducible refine aG (N := 5) rfl ?_); refine aN (N := 5) (cs := #[.int .i64 Dp, .slice A m.length D]) (t := 70) ?_; intro G hg w5 hbox hb; replace HB := BS (w := w) hb; have a := ah.mk (hbox); clear hb hbox hg) | ((with_reducible refine aG (N := 6) rfl ?_); refine aN (N := 6) (cs := #[.slice M l1.length O]) (t := 40) ?_; intro I hg w6 hbox hb; replace HB := BS (w := w) hb; have u := ah.mk (hbox); replace a := KB a hb; clear hb hbox hg) | ((with_reducible refine aG (N := 8) rfl ?_); refine aN (N := 8) (cs := #[.string L]) (t := 9) ?_; intro J hg w8 hbox hb; replace HB := BS (w := w) hb; have y := ah.mk (hbox); replace a := KB a hb; replace u := KB u hb; clear hb hbox hg) | ((with_reducible refine aG (N := 9) rfl ?_); refine aN (N := 9) (cs := #[.int .i64 0]) (t := 3) ?_; intro x hg w9 hbox hb; replace HB := BS (w := w) hb; have z := ah.mk (hbox); replace a := KB a hb; replace u := KB u hb; replace y := KB y hb; have X : w9.cell? ⟨x, 0, none⟩ = some (.int .i64 0) := (ak z.out 0).trans rfl; have Y := aA z.out 0; clear hb hbox hg) | ((with_reducible refine au (f := 63) rfl ?_); refine aK _ Tryz.func63 #[.int .i64 0, .int .i64 0, .int .i64 3] ?_; refine (IRC.out _).mono ?_; rintro e w_ ⟨rfl, hb⟩; refine ⟨_, rfl, ?_⟩; replace HB := BS (w := w) hb; replace a := KB a hb; replace u := KB u hb; replace y := KB y hb; replace z := KB z hb; clear hb) | ((with_reducible refine au (f := 90) rfl ?_); refine aK _ Tryz.func90 #[.slice A2 l2.length c2, .func (.func 91) #[] #[.pointer (some ⟨J, 0, none⟩), .pointer (some ⟨x, 0, none⟩), .pointer (some ⟨I, 0, none⟩), .pointer (some ⟨G, 0, none⟩)]] ?_; refine (fK.calls k _ _ l2 (fun j s => aR.g0 j Dp m l1 L s) t _ (Kd.dz xf.out BL) xg.out H1.out 91 #[.pointer (some ⟨J, 0, none⟩), .pointer (some ⟨x, 0, none⟩), .pointer (some ⟨I, 0, none⟩), .pointer (some ⟨G, 0, none⟩)] (fun args w => mH Tryz.func91 (by kernel_rfl) rfl args w) (fun j s b W hb_ h_ => aR.wK j Dp A D m M O l1 L s b W J x I G (bA (g := J) (o := .cells #[.string L] 9 (0, 0)) BK hb_) (bA (g := x) (o := .cells #[.int .i64 0] 3 (0, 0)) BK hb_) (bA (g := I) (o := .cells #[.slice M l1.length O] 40 (0, 0)) BK hb_) (bA (g := G) (o := .cells #[.int .i64 Dp, .slice A m.length D] 70 (0, 0)) BK hb_) (Kd.dz xb.out (eO BL hb_)) xc.out (Kd.dz xd.out (eO BL hb_)) xe.out h_)).mono ?_; rintro e w_ ⟨v_, rfl, E, hb⟩; refine ⟨_, rfl, ?_⟩; have K := ah.mk (Kd.bD E (aD BL)); replace HB := BS (w := w) hb; clear hb E; obtain ⟨Ao, co, eo⟩ := Kd.bE K.out; subst eo) | ((with_reducible refine au (f := 89) rfl ?_); refine aK _ Tryz.func89 #[.slice Ao t.length co] ?_; refine (iJ.calls k _ _ t r _ ((Kd.aQ (RR K)).2.2) ((Kd.aQ K.out).2.1) H2.out).mono ?_; rintro e w_ ⟨v_, rfl, E, hb⟩; refine ⟨_, rfl, ?_⟩; have U := ah.mk (Kd.bD E (aD BL)); replace HB := BS (w := w) hb; clear K; clear hb E));go_ret;exact ⟨_, rfl, (RR U), BL⟩
  ·have h1' : fK.f k l2 (fun j s => aR.g1 j Dp m l1 L s) = some t := by
    rw [← h1];congr 1
   have H1 := ah.mk h1';have H2 := ah.mk h2;clear h1 h1' h2;go_enter Tryz.func48, Tryz.ntmps48;go_wp2_with (first | ((with_reducible refine aG (N := 5) rfl ?_); refine aN (N := 5) (cs := #[.int .i64 Dp, .slice A m.length D]) (t := 70) ?_; intro G hg w5 hbox hb; replace HB := BS (w := w) hb; have a := ah.mk (hbox); clear hb hbox hg) | ((with_reducible refine aG (N := 6) rfl ?_); refine aN (N := 6) (cs := #[.slice M l1.length O]) (t := 40) ?_; intro I hg w6 hbox hb; replace HB := BS (w := w) hb; have u := ah.mk (hbox); replace a := KB a hb; clear hb hbox hg) | ((with_reducible refine aG (N := 8) rfl ?_); refine aN (N := 8) (cs := #[.string L]) (t := 9) ?_; intro J hg w8 hbox hb; replace HB := BS (w := w) hb; have y := ah.mk (hbox); replace a := KB a hb; replace u := KB u hb; clear hb hbox hg) | ((with_reducible refine aG (N := 9) rfl ?_); refine aN (N := 9) (cs := #[.int .i64 1]) (t := 3) ?_; intro x hg w9 hbox hb; replace HB := BS (w := w) hb; have z := ah.mk (hbox); replace a := KB a hb; replace u := KB u hb; replace y := KB y hb; have X : w9.cell? ⟨x, 0, none⟩ = some (.int .i64 1) := (ak z.out 0).trans rfl; have Y := aA z.out 0; clear hb hbox hg) | ((with_reducible refine au (f := 63) rfl ?_); refine aK _ Tryz.func63 #[.int .i64 1, .int .i64 0, .int .i64 3] ?_; refine (IRC.out _).mono ?_; rintro e w_ ⟨rfl, hb⟩; refine ⟨_, rfl, ?_⟩; replace HB := BS (w := w) hb; replace a := KB a hb; replace u := KB u hb; replace y := KB y hb; replace z := KB z hb; clear hb) | ((with_reducible refine au (f := 90) rfl ?_); refine aK _ Tryz.func90 #[.slice A2 l2.length c2, .func (.func 91) #[] #[.pointer (some ⟨J, 0, none⟩), .pointer (some ⟨x, 0, none⟩), .pointer (some ⟨I, 0, none⟩), .pointer (some ⟨G, 0, none⟩)]] ?_; refine (fK.calls k _ _ l2 (fun j s => aR.g1 j Dp m l1 L s) t _ (Kd.dz xf.out BL) xg.out H1.out 91 #[.pointer (some ⟨J, 0, none⟩), .pointer (some ⟨x, 0, none⟩), .pointer (some ⟨I, 0, none⟩), .pointer (some ⟨G, 0, none⟩)] (fun args w => mH Tryz.func91 (by kernel_rfl) rfl args w) (fun j s b W hb_ h_ => aR.wL j Dp A D m M O l1 L s b W J x I G (bA (g := J) (o := .cells #[.string L] 9 (0, 0)) BK hb_) (bA (g := x) (o := .cells #[.int .i64 1] 3 (0, 0)) BK hb_) (bA (g := I) (o := .cells #[.slice M l1.length O] 40 (0, 0)) BK hb_) (bA (g := G) (o := .cells #[.int .i64 Dp, .slice A m.length D] 70 (0, 0)) BK hb_) (Kd.dz xb.out (eO BL hb_)) xc.out (Kd.dz xd.out (eO BL hb_)) xe.out h_)).mono ?_; rintro e w_ ⟨v_, rfl, E, hb⟩; refine ⟨_, rfl, ?_⟩; have K := ah.mk (Kd.bD E (aD BL)); replace HB := BS (w := w) hb; clear hb E; obtain ⟨Ao, co, eo⟩ := Kd.bE K.out; subst eo) | ((with_reducible refine au (f := 89) rfl ?_); refine aK _ Tryz.func89 #[.slice Ao t.length co] ?_; refine (iJ.calls k _ _ t r _ ((Kd.aQ (RR K)).2.2) ((Kd.aQ K.out).2.1) H2.out).mono ?_; rintro e w_ ⟨v_, rfl, E, hb⟩; refine ⟨_, rfl, ?_⟩; have U := ah.mk (Kd.bD E (aD BL)); replace HB := BS (w := w) hb; clear K; clear hb E));go_ret;exact ⟨_, rfl, (RR U), BL⟩
  ·have h1' : fK.f k l2 (fun j s => aR.g2 j Dp m l1 L s) = some t := by
    rw [← h1];congr 1
   have H1 := ah.mk h1';have H2 := ah.mk h2;clear h1 h1' h2;go_enter Tryz.func48, Tryz.ntmps48;go_wp2_with (first | ((with_reducible refine aG (N := 5) rfl ?_); refine aN (N := 5) (cs := #[.int .i64 Dp, .slice A m.length D]) (t := 70) ?_; intro G hg w5 hbox hb; replace HB := BS (w := w) hb; have a := ah.mk (hbox); clear hb hbox hg) | ((with_reducible refine aG (N := 6) rfl ?_); refine aN (N := 6) (cs := #[.slice M l1.length O]) (t := 40) ?_; intro I hg w6 hbox hb; replace HB := BS (w := w) hb; have u := ah.mk (hbox); replace a := KB a hb; clear hb hbox hg) | ((with_reducible refine aG (N := 8) rfl ?_); refine aN (N := 8) (cs := #[.string L]) (t := 9) ?_; intro J hg w8 hbox hb; replace HB := BS (w := w) hb; have y := ah.mk (hbox); replace a := KB a hb; replace u := KB u hb; clear hb hbox hg) | ((with_reducible refine aG (N := 9) rfl ?_); refine aN (N := 9) (cs := #[.int .i64 2]) (t := 3) ?_; intro x hg w9 hbox hb; replace HB := BS (w := w) hb; have z := ah.mk (hbox); replace a := KB a hb; replace u := KB u hb; replace y := KB y hb; have X : w9.cell? ⟨x, 0, none⟩ = some (.int .i64 2) := (ak z.out 0).trans rfl; have Y := aA z.out 0; clear hb hbox hg) | ((with_reducible refine au (f := 63) rfl ?_); refine aK _ Tryz.func63 #[.int .i64 2, .int .i64 0, .int .i64 3] ?_; refine (IRC.out _).mono ?_; rintro e w_ ⟨rfl, hb⟩; refine ⟨_, rfl, ?_⟩; replace HB := BS (w := w) hb; replace a := KB a hb; replace u := KB u hb; replace y := KB y hb; replace z := KB z hb; clear hb) | ((with_reducible refine au (f := 90) rfl ?_); refine aK _ Tryz.func90 #[.slice A2 l2.length c2, .func (.func 91) #[] #[.pointer (some ⟨J, 0, none⟩), .pointer (some ⟨x, 0, none⟩), .pointer (some ⟨I, 0, none⟩), .pointer (some ⟨G, 0, none⟩)]] ?_; refine (fK.calls k _ _ l2 (fun j s => aR.g2 j Dp m l1 L s) t _ (Kd.dz xf.out BL) xg.out H1.out 91 #[.pointer (some ⟨J, 0, none⟩), .pointer (some ⟨x, 0, none⟩), .pointer (some ⟨I, 0, none⟩), .pointer (some ⟨G, 0, none⟩)] (fun args w => mH Tryz.func91 (by kernel_rfl) rfl args w) (fun j s b W hb_ h_ => aR.wM j Dp A D m M O l1 L s b W J x I G (bA (g := J) (o := .cells #[.string L] 9 (0, 0)) BK hb_) (bA (g := x) (o := .cells #[.int .i64 2] 3 (0, 0)) BK hb_) (bA (g := I) (o := .cells #[.slice M l1.length O] 40 (0, 0)) BK hb_) (bA (g := G) (o := .cells #[.int .i64 Dp, .slice A m.length D] 70 (0, 0)) BK hb_) (Kd.dz xb.out (eO BL hb_)) xc.out (Kd.dz xd.out (eO BL hb_)) xe.out h_)).mono ?_; rintro e w_ ⟨v_, rfl, E, hb⟩; refine ⟨_, rfl, ?_⟩; have K := ah.mk (Kd.bD E (aD BL)); replace HB := BS (w := w) hb; clear hb E; obtain ⟨Ao, co, eo⟩ := Kd.bE K.out; subst eo) | ((with_reducible refine au (f := 89) rfl ?_); refine aK _ Tryz.func89 #[.slice Ao t.length co] ?_; refine (iJ.calls k _ _ t r _ ((Kd.aQ (RR K)).2.2) ((Kd.aQ K.out).2.1) H2.out).mono ?_; rintro e w_ ⟨v_, rfl, E, hb⟩; refine ⟨_, rfl, ?_⟩; have U := ah.mk (Kd.bD E (aD BL)); replace HB := BS (w := w) hb; clear K; clear hb E));go_ret;exact ⟨_, rfl, (RR U), BL⟩
  ·have h1' : fK.f k l2 (fun j s => aR.g3 j Dp m l1 L s) = some t := by
    rw [← h1];congr 1
   have H1 := ah.mk h1';have H2 := ah.mk h2;clear h1 h1' h2;go_enter Tryz.func48, Tryz.ntmps48;go_wp2_with (first | ((with_reducible refine aG (N := 5) rfl ?_); refine aN (N := 5) (cs := #[.int .i64 Dp, .slice A m.length D]) (t := 70) ?_; intro G hg w5 hbox hb; replace HB := BS (w := w) hb; have a := ah.mk (hbox); clear hb hbox hg) | ((with_reducible refine aG (N := 6) rfl ?_); refine aN (N := 6) (cs := #[.slice M l1.length O]) (t := 40) ?_; intro I hg w6 hbox hb; replace HB := BS (w := w) hb; have u := ah.mk (hbox); replace a := KB a hb; clear hb hbox hg) | ((with_reducible refine aG (N := 8) rfl ?_); refine aN (N := 8) (cs := #[.string L]) (t := 9) ?_; intro J hg w8 hbox hb; replace HB := BS (w := w) hb; have y := ah.mk (hbox); replace a := KB a hb; replace u := KB u hb; clear hb hbox hg) | ((with_reducible refine aG (N := 9) rfl ?_); refine aN (N := 9) (cs := #[.int .i64 3]) (t := 3) ?_; intro x hg w9 hbox hb; replace HB := BS (w := w) hb; have z := ah.mk (hbox); replace a := KB a hb; replace u := KB u hb; replace y := KB y hb; have X : w9.cell? ⟨x, 0, none⟩ = some (.int .i64 3) := (ak z.out 0).trans rfl; have Y := aA z.out 0; clear hb hbox hg) | ((with_reducible refine au (f := 63) rfl ?_); refine aK _ Tryz.func63 #[.int .i64 3, .int .i64 0, .int .i64 3] ?_; refine (IRC.out _).mono ?_; rintro e w_ ⟨rfl, hb⟩; refine ⟨_, rfl, ?_⟩; replace HB := BS (w := w) hb; replace a := KB a hb; replace u := KB u hb; replace y := KB y hb; replace z := KB z hb; clear hb) | ((with_reducible refine au (f := 90) rfl ?_); refine aK _ Tryz.func90 #[.slice A2 l2.length c2, .func (.func 91) #[] #[.pointer (some ⟨J, 0, none⟩), .pointer (some ⟨x, 0, none⟩), .pointer (some ⟨I, 0, none⟩), .pointer (some ⟨G, 0, none⟩)]] ?_; refine (fK.calls k _ _ l2 (fun j s => aR.g3 j Dp m l1 L s) t _ (Kd.dz xf.out BL) xg.out H1.out 91 #[.pointer (some ⟨J, 0, none⟩), .pointer (some ⟨x, 0, none⟩), .pointer (some ⟨I, 0, none⟩), .pointer (some ⟨G, 0, none⟩)] (fun args w => mH Tryz.func91 (by kernel_rfl) rfl args w) (fun j s b W hb_ h_ => aR.wN j Dp A D m M O l1 L s b W J x I G (bA (g := J) (o := .cells #[.string L] 9 (0, 0)) BK hb_) (bA (g := x) (o := .cells #[.int .i64 3] 3 (0, 0)) BK hb_) (bA (g := I) (o := .cells #[.slice M l1.length O] 40 (0, 0)) BK hb_) (bA (g := G) (o := .cells #[.int .i64 Dp, .slice A m.length D] 70 (0, 0)) BK hb_) (Kd.dz xb.out (eO BL hb_)) xc.out (Kd.dz xd.out (eO BL hb_)) xe.out h_)).mono ?_; rintro e w_ ⟨v_, rfl, E, hb⟩; refine ⟨_, rfl, ?_⟩; have K := ah.mk (Kd.bD E (aD BL)); replace HB := BS (w := w) hb; clear hb E; obtain ⟨Ao, co, eo⟩ := Kd.bE K.out; subst eo) | ((with_reducible refine au (f := 89) rfl ?_); refine aK _ Tryz.func89 #[.slice Ao t.length co] ?_; refine (iJ.calls k _ _ t r _ ((Kd.aQ (RR K)).2.2) ((Kd.aQ K.out).2.1) H2.out).mono ?_; rintro e w_ ⟨v_, rfl, E, hb⟩; refine ⟨_, rfl, ?_⟩; have U := ah.mk (Kd.bD E (aD BL)); replace HB := BS (w := w) hb; clear K; clear hb E));go_ret;exact ⟨_, rfl, (RR U), BL⟩
def eY.l0 : Nat → List S73 → List Oo → List (List Oo) → List Oo → Int → Int → Int → Int → Oo → List S70 → List Int → Int → Option ((List (List Oo)))
 | 0, _, _, _, _, _, _, _, _, _, _, _, _ => none
 | k + 1, a, b, c, d, e, f, g, h, i, j, l, m => if f < e then if 0 ≤ f then if f < (d.length : Int) then if f < (j.length : Int) then (aR.f k ((Oh j f).f0) ((Oh j f).f1) a b (fB ByteArray.empty d f) 3).bind fun n => if c.length < 5864062014805 then eY.l0 k a b (c ++ [n]) d e (wrap64 (f + 1)) g h i j l m else none else none else none else none else some c
def eY.f (k : Nat) (Dp Dq : Int) (Dr : Oo) (Dt : List S70) (Du : List Int) (Dv : Int) (a1 : Oo) (l2 : List S73) (l3 : List Oo) : Option ((List (List Oo))) := (jB.f k Dp Dq Dr Dt Du Dv).bind fun t697 => (if t697 = true then ((gK.f k Dp Dq Dr a1).bind fun t698 => (eY.l0 k l2 l3 ([] : List (List Oo)) t698 (t698.length : Int) 0 Dp Dq Dr Dt Du Dv)) else (some ([] : List (List Oo))))
theorem eY.calls (k : Nat) (Dp Dq : Int) (Dr : Oo) (A0_3 : Option Addr) (c0_3 : Nat) (Dt : List S70) (A0_4 : Option Addr) (c0_4 : Nat) (Du : List Int) (Dv : Int) (a1 : Oo) (A2 : Option Addr) (c2 : Nat) (l2 : List S73) (A3 : Option Addr) (c3 : Nat) (l3 : List Oo) (r : List (List Oo)) (w : World) (hr0_3 : Kd.C k70 w A0_3 Dt.length Dt) (hc0_3 : Dt.length ≤ c0_3) (hr0_4 : Kd.C (Kd.int .i64) w A0_4 Du.length Du) (hc0_4 : Du.length ≤ c0_4) (hr2 : Kd.C k73 w A2 l2.length l2) (hc2 : l2.length ≤ c2) (hr3 : Kd.C Kd.string w A3 l3.length l3) (hc3 : l3.length ≤ c3) (h : eY.f k Dp Dq Dr Dt Du Dv a1 l2 l3 = some r) :
  Calls Tryz.prog 14 #[.agg #[.int .i64 Dp, .int .i64 Dq, .string Dr, .slice A0_3 Dt.length c0_3, .slice A0_4 Du.length c0_4, .int .i64 Dv], .string a1, .slice A2 l2.length c2, .slice A3 l3.length c3] w fun e w' => ∃ v0_ : Value, e = .returned (v0_) ∧ Kd.S (Kd.slice 9 Kd.string) 29 w' w.heap.size (fun _ => True) v0_ r ∧ Below w.heap.size w w' := by
 have yy := Tryz.underlying38;have yz := Tryz.underlying35;have yA := Tryz.underlying70;have xv := ah.mk hr0_3;have xI := ah.mk hc0_3;clear hr0_3 hc0_3;have xJ := ah.mk hr0_4;have xK := ah.mk hc0_4;clear hr0_4 hc0_4;have yj := ah.mk hr2;have yk := ah.mk hc2;clear hr2 hc2;have yl := ah.mk hr3;have ym := ah.mk hc3;clear hr3 hc3;have HB := ah.mk (bR w.heap.size w);unfold eY.f at h;have H := h;clear h;replace H := be H; obtain ⟨yB, A5, H⟩ := H;replace H := ah.mk H;go_enter Tryz.func14, Tryz.ntmps14;go_wp2_with (first | ((with_reducible refine aG (N := 4) rfl ?_); refine aN (N := 4) (cs := #[.int .i64 Dp, .int .i64 Dq, .string Dr, .slice A0_3 Dt.length c0_3, .slice A0_4 Du.length c0_4, .int .i64 Dv]) (t := 38) ?_; intro xw hg yn hbox hb; have m := ah.mk hbox; have xL := SZ (w := w) hg; have yo := xL; replace HB := BS (w := w) hb; clear hb hbox hg; obtain ⟨K, L, M, O, P, U, X, Y, Z, xa, xb, xc⟩ := cz6 m.out) | ((with_reducible refine au (f := 46) rfl ?_); refine aK (some 13) Tryz.func46 #[.agg #[.int .i64 Dp, .int .i64 Dq, .string Dr, .slice A0_3 Dt.length c0_3, .slice A0_4 Du.length c0_4, .int .i64 Dv]] ?_; (with_reducible refine (jB.calls k Dp Dq Dr _ _ Dt _ _ Du Dv _ _ ?s1_ ?s2_ ?s3_ ?s4_ A5.out).mono ?_); (case s1_ => exact CB xv); (case s2_ => exact xI.out); (case s3_ => exact CB xJ); (case s4_ => exact xK.out); rintro e yp ⟨rfl, hb⟩; refine ⟨_, rfl, ?_⟩; replace m := KB m hb; replace HB := BS (w := w) hb; (try clear hb); obtain ⟨xd, xe, xf, xg, xh, xi, xj, xk, xl, xm, xn, xo⟩ := cz6 m.out; refine bI ?_));refine Hide.mk ?_;replace H := H.out;replace H := ifB H; rcases H with ⟨rfl, H⟩ | ⟨rfl, H⟩
 ·replace H := be H; obtain ⟨u, A7, H⟩ := H;have H' := ah.mk H;clear H;try go_wp2_with (first | ((with_reducible refine au (f := 47) rfl ?_); refine aK (some 18) Tryz.func47 #[.agg #[.int .i64 Dp, .int .i64 Dq, .string Dr], .string a1] ?_; (with_reducible refine (gK.calls k Dp Dq Dr a1 u _ A7.out).mono ?_); rintro e yq ⟨yC, rfl, xp, hb⟩; refine ⟨_, rfl, ?_⟩; replace m := KB m hb; have xx := ah.mk (Kd.bD xp (aD BL)); replace HB := BS (w := w) hb; (try clear hb); (try clear xp); obtain ⟨xr, y, xE⟩ := Kd.bE xx.out; subst xE))
  go_loopg [9, 20] k (fun kq v9 yr w' => ∃ (I : List (List Oo)) (a : Int), yr = .int .i64 a ∧ ah (eY.l0 kq l2 l3 I u (u.length : Int) a Dp Dq Dr Dt Du Dv = some r) ∧ ah (kq ≤ k) ∧ ah (Kd.S (Kd.slice 9 Kd.string) 29 w' w.heap.size (fun k_ => some k_ ≠ ((.slice xr u.length y) : Value).ownBlock) v9 I) ∧ ah (Kd.R Kd.string 9 w' w.heap.size (fun _ => True) (.slice xr u.length y) u) ∧ ah (w'.heap[xw]? = some (.cells #[.int .i64 Dp, .int .i64 Dq, .string Dr, (.slice A0_3 Dt.length c0_3), (.slice A0_4 Du.length c0_4), .int .i64 Dv] 38 (0, 0))) ∧ ah (Below w.heap.size w w'))
  case atStart => exact ⟨_, _, EQ, H', ⟨nR _⟩, ⟨by first | exact Kd.nJ _ _ _ _ _ | exact Kd.nG _ _ _ _ _ | exact Kd.nK _ _ _ _ _ | exact Kd.nH _ _ _ _ _ | exact Kd.kI _ _ _ _ _⟩, ⟨(RR xx)⟩, ⟨BK⟩, ⟨BL⟩⟩
  case round =>
   clear H';(try clear c2);(try clear c3);(try clear xd xe xf xg xh xi);(try clear K L M O P U);(try clear xj xk xl xm xn xo);(try clear X Y Z xa xb xc);obtain ⟨I, a, rfl, HA, yd, z, x, m, HB⟩ := hrel
   cases gk with
   | zero => exact absurd HA.out (by simp [eY.l0])
   | succ k1 =>
    have H := HA.out;clear HA;simp only [eY.l0] at H;replace H := ifD H; rcases H with ⟨xM, H⟩ | ⟨xM, H⟩
    ·replace H := ifN H; obtain ⟨ys, H⟩ := H;replace H := ifN H; obtain ⟨yt, H⟩ := H;replace H := ifN H; obtain ⟨yu, H⟩ := H;replace H := be H; obtain ⟨J, yv, H⟩ := H;replace H := ifP H; obtain ⟨ye, H⟩ := H;have xN := ah.mk ye;clear ye;obtain ⟨yf, A⟩ : ∃ y_ : List (List Oo), y_ = (I ++ [J]) := ⟨_, rfl⟩;replace H : (eY.l0 k1 l2 l3 yf u (u.length : Int) (wrap64 (a + 1)) Dp Dq Dr Dt Du Dv) = some r := cW A H
     have xO := ah.mk A;clear A;have H' := ah.mk H;clear H;have xy : 0 ≤ (a : Int) := OD;have xz : a < (u.length : Int) := OD;obtain ⟨xq, yg, yh⟩ := Kd.iN (Kd.aQ x.out).2.2 a xy xz
     cases yg
     replace xy := eq_true xy;replace xz := eq_true xz;obtain ⟨xP, xQ, xR, xS, xT, xU, xV, xW, xX, xY, xZ, ya⟩ := cz6 m.out;have xA : 0 ≤ (a : Int) := OD;have xB : a < (Dt.length : Int) := OD;obtain ⟨yb, xF, xG, yi, D, E, hl702_1, hi702_1⟩ := pE xv.out a xA xB
     cases yi
     (try replace D := (HB.out.cell (wB w _ D)).trans D);(try replace E := (HB.out.cell (wB w _ E)).trans E);have xC := ah.mk hi702_1;have xD := ah.mk hl702_1;clear hi702_1 hl702_1;replace xA := eq_true xA;replace xB := eq_true xB;go_wp2_with (first | ((with_reducible refine au (f := 48) rfl ?_); refine aK (some 34) Tryz.func48 #[.agg #[.int .i64 ((Oh Dt a).f0), .slice xF ((Oh Dt a).f1).length xG], .slice A2 l2.length c2, .slice A3 l3.length c3, .string (fB ByteArray.empty u a), .int .i64 3] ?_; (with_reducible refine (aR.calls k1 ((Oh Dt a).f0) _ _ ((Oh Dt a).f1) _ _ l2 _ _ l3 (fB ByteArray.empty u a) 3 J _ ?s1_ ?s2_ ?s3_ ?s4_ ?s5_ ?s6_ yv.out).mono ?_); (case s1_ => exact CB xC); (case s2_ => exact xD.out); (case s3_ => exact CB yj); (case s4_ => exact yk.out); (case s5_ => exact CB yl); (case s6_ => exact ym.out); rintro e yw ⟨yD, rfl, xp, hb⟩; refine ⟨_, rfl, ?_⟩; replace m := KB m hb; replace z := ah.mk (Kd.lM (SR z) (Kd.gX xp) hb); have G := ah.mk (Kd.bD (Kd.iW xp (Kd.kR (RR x))) (aD BL)); replace HB := BS (w := w) hb; replace x := ah.mk (Kd.fP (RR x) (Kd.gX xp) hb); (try clear hb); (try clear xp); obtain ⟨xt, xu, xH⟩ := Kd.bE G.out; subst xH) | ((with_reducible refine bV (b := .append) (xs := #[.tmp 25, .tmp 35]) rfl ?_); at_builtin; refine Kd.rM (Kd.slice 9 Kd.string) (w0 := w) w.heap.size rfl (.tmp 25) (.tmp 35) 33 29 (.slice none 0 0) 24 rfl Tryz.underlying33 wQ rfl (by decide) (by omega) u9 I J [.slice xt J.length xu] (fun k_ => some k_ ≠ (.slice (some xq) u.length y : Value).ownBlock) (fun k_ => some k_ = (.slice xt J.length xu : Value).ownBlock) rfl rfl ?aP (fun k_ hk_ => ((Kd.aU (ok' := fun k_ => ((fun k_ => some k_ ≠ (.slice (some xq) u.length y : Value).ownBlock)) k_ ∧ some k_ ≠ (u9 : Value).ownBlock) (Kd.eH (G.out) (Kd.lI z.out) (by decide)) (fun k_ hk => ⟨hk.1.2, hk.2⟩))).1 k_ hk_.symm) ?aF ?aO ?aB ?aS ?aL ?_; (case aP => exact Kd.wm (Kd.aU (Kd.jO rfl (Kd.aU (ok' := fun k_ => ((fun k_ => some k_ ≠ (.slice (some xq) u.length y : Value).ownBlock)) k_ ∧ some k_ ≠ (u9 : Value).ownBlock) (Kd.eH (G.out) (Kd.lI z.out) (by decide)) (fun k_ hk => ⟨hk.1.2, hk.2⟩))) (fun _ h_ => h_))); (case aB => exact BL); (case aF => exact (fun k_ hk => Kd.fresh' (Kd.kR (RR x)) k_ hk)); (case aO => exact (by (with_reducible repeat (first | apply Kd.fZ | apply Kd.dJ | apply Kd.gY)); exact Kd.jh z.out (fun k_ hk => ⟨hk.1, fun e_ => hk.2 e_⟩))); (case aS => exact (aD BL)); (case aL => have := xN.out; omega); intro yE yx ho hb hg hat; rw [← xO.out] at ho; replace x := ah.mk (Kd.kZ (RR x) (Kd.lI (SR z)) (by decide) hg); replace m := ah.mk (cZ (g := xw) (o := .cells #[.int .i64 Dp, .int .i64 Dq, .string Dr, .slice (some yb) Dt.length c0_3, .slice A0_4 Du.length c0_4, .int .i64 Dv] 38 (0, 0)) BK hg (Kd.AQ z.out m.out (by decide))); replace HB := ah.mk (hb); have yc := ah.mk (ho); clear z G; clear ho hb hg hat));go_roundg k1;case measure => have := yd.out; omega
     case rel => exact ⟨_, _, EQ, H', ks yd, ⟨by (with_reducible repeat (first | apply Kd.fZ | apply Kd.dJ | apply Kd.gY)); exact yc.out⟩, ⟨by (with_reducible repeat (first | apply Kd.bL | apply Kd.bn | apply Kd.bJ)); exact Kd.aU x.out (fun _ hk => trivial)⟩, ⟨BK⟩, ⟨BL⟩⟩
    ·obtain rfl := sI H;go_wp2;go_ret;exact ⟨_, EWW, by (with_reducible repeat (first | apply Kd.fZ | apply Kd.dJ | apply Kd.gY)); exact Kd.jh z.out (fun _ hk => trivial), BL⟩
 ·obtain rfl := sI H;(try go_wp2);go_ret;exact ⟨_, EWW, by first | exact Kd.nJ _ _ _ _ _ | exact Kd.nG _ _ _ _ _ | exact Kd.nK _ _ _ _ _ | exact Kd.nH _ _ _ _ _ | exact Kd.kI _ _ _ _ _, BL⟩
def bF.l0 : Nat → List Oo → (Nat → Oo → Option Bool) → Int → Int → Option (Int)
 | 0, _, _, _, _ => none
 | k + 1, a, b, c, d => if d < c then if 0 ≤ d then if d < (a.length : Int) then (b k (fB ByteArray.empty a d)).bind fun e => if e = true then some d else bF.l0 k a b c (wrap64 (d + 1)) else none else none else some (-1)
def bF.f (k : Nat) (l0 : List Oo) (a1 : (Nat → Oo → Option Bool)) : Option (Int) := bF.l0 k l0 a1 (l0.length : Int) 0
theorem bF.calls (k : Nat) (J : Option Addr) (K : Nat) (l0 : List Oo) (a1 : (Nat → Oo → Option Bool)) (r : Int) (w : World) (y : Kd.C Kd.string w J l0.length l0) (z : l0.length ≤ K) (h : bF.f k l0 a1 = some r) (g : FuncId) (lb : Array Value) (eg : ∀ args w, (callFunc g args).run Tryz.prog w = .ok (.enter g args) w) (hp : ∀ (j : Nat) (s : Oo) (b : Bool) (W : World), Below w.heap.size w W → a1 j s = some b → Calls Tryz.prog g (#[.string s] ++ lb) W fun e w' => e = .returned (.bool b) ∧ Below W.heap.size W w') :
  Calls Tryz.prog 198 #[.slice J l0.length K, .func (.func g) #[] lb] w fun e w' => e = .returned (.int .i64 r) ∧ Below w.heap.size w w' := by
 have G := ah.mk y;have U := ah.mk z;clear y z;have HB := ah.mk (bR w.heap.size w);have HPP := ah.mk hp;clear hp;unfold bF.f at h;have H := h;clear h;have H' := ah.mk H;clear H;go_enter Tryz.func198, Tryz.ntmps198;go_wp2
 go_loopg [8] k (fun kq X w' => ∃ (a : Int), X = .int .i64 a ∧ ah (bF.l0 kq l0 a1 (l0.length : Int) a = some r) ∧ ah (kq ≤ k) ∧ ah (Below w.heap.size w w'))
 case atStart => exact ⟨_, EQ, H', ⟨nR _⟩, ⟨BL⟩⟩
 case round =>
  clear H';obtain ⟨a, rfl, HA, A, HB⟩ := hrel
  cases gk with
  | zero => exact absurd HA.out (by simp [bF.l0])
  | succ k1 =>
   have H := HA.out;clear HA;simp only [bF.l0] at H;replace H := ifD H; rcases H with ⟨D, H⟩ | ⟨D, H⟩
   ·replace H := ifN H; obtain ⟨L, H⟩ := H;replace H := ifN H; obtain ⟨M, H⟩ := H;replace H := be H; obtain ⟨O, P, H⟩ := H;have o : 0 ≤ (a : Int) := OD;have u : a < (l0.length : Int) := OD;obtain ⟨I, E, m⟩ := Kd.iN G.out a o u
    cases E
    (try replace m := (HB.out.cell (wB w _ m)).trans m);replace o := eq_true o;replace u := eq_true u;replace H := ifB H; rcases H with ⟨rfl, H⟩ | ⟨rfl, H⟩
    ·obtain rfl := sI H;go_wp2_with (first | (refine (HPP.out k1 (fB ByteArray.empty l0 a) true _ BL P.out).mono ?_; rintro e x ⟨rfl, hb⟩; replace HB := BS (w := w) hb; (try clear hb)));go_ret;exact ⟨EWW, BL⟩
    ·have H' := ah.mk H;clear H;go_wp2_with (first | (refine (HPP.out k1 (fB ByteArray.empty l0 a) false _ BL P.out).mono ?_; rintro e x ⟨rfl, hb⟩; replace HB := BS (w := w) hb; (try clear hb)));go_roundg k1;case measure => have := A.out; omega
     case rel => exact ⟨_, EQ, H', ks A, ⟨BL⟩⟩
   ·obtain rfl := sI H;go_wp2;go_ret;exact ⟨EWW, BL⟩
def eX.f (k : Nat) (l0 : List Oo) (a1 : (Nat → Oo → Option Bool)) : Option (Bool) := (bF.f k l0 a1).bind fun t711 => some (decide (t711 ≥ 0))
theorem eX.calls (k : Nat) (u : Option Addr) (x : Nat) (l0 : List Oo) (a1 : (Nat → Oo → Option Bool)) (r : Bool) (w : World) (a : Kd.C Kd.string w u l0.length l0) (m : l0.length ≤ x) (h : eX.f k l0 a1 = some r) (g : FuncId) (lb : Array Value) (eg : ∀ args w, (callFunc g args).run Tryz.prog w = .ok (.enter g args) w) (hp : ∀ (j : Nat) (s : Oo) (b : Bool) (W : World), Below w.heap.size w W → a1 j s = some b → Calls Tryz.prog g (#[.string s] ++ lb) W fun e w' => e = .returned (.bool b) ∧ Below W.heap.size W w') :
  Calls Tryz.prog 151 #[.slice u l0.length x, .func (.func g) #[] lb] w fun e w' => e = .returned (.bool r) ∧ Below w.heap.size w w' := by
 have y := ah.mk a;have z := ah.mk m;clear a m;have HB := ah.mk (bR w.heap.size w);have HPP := ah.mk hp;clear hp;unfold eX.f at h;have H := h;clear h;replace H := be H; obtain ⟨o, A3, H⟩ := H;obtain rfl := sI H;go_enter Tryz.func151, Tryz.ntmps151;go_wp2_with (first | ((with_reducible refine au (f := 198) rfl ?_); refine aK (some 7) Tryz.func198 #[.slice u l0.length x, .func (.func g) #[] lb] ?_; (with_reducible refine (bF.calls k _ _ l0 a1 o _ ?s1_ ?s2_ A3.out g lb eg (fun j s b W' hb_ h_ => HPP.out j s b W' (eO BL hb_) h_)).mono ?_); (case s1_ => repeat (first | exact y.out | (with_reducible refine Kd.fU ?_ _) | (with_reducible refine Kd.fV ?_ _) | (with_reducible refine Kd.iy ?_))); (case s2_ => exact z.out); rintro e A ⟨rfl, hb⟩; refine ⟨_, rfl, ?_⟩; replace HB := BS (w := w) hb; (try clear hb)));go_ret;exact ⟨EWW, BL⟩
theorem qQ (P : Program) (fn : Fn) (first cap : Array Value) (w : World) : (Instr.makeFunc fn first cap).run P w = .ok (.func fn first cap) w := rfl
attribute [local go_sem] qQ
theorem hB_ {P : Prop} (h : P := by repeat (first | (with_reducible first | exact HB.out | apply fA | apply dM | apply bG) | exact HB.out)) : P := h
theorem hK_ {P : Prop} (h : P := by repeat (first | (with_reducible first | exact HK.out | apply Kept.alloc | apply Kept.drewN | apply Kept.drew) | exact HK.out)) : P := h
theorem hO_ {P : Prop} (h : P := by (with_reducible repeat (first | apply Kd.bL | apply Kd.bn | apply Kd.bJ)); exact HO.out) : P := h
theorem hG_ {P : Prop} (h : P := by (with_reducible repeat (first | refine ay ?_ _ | refine aC ?_ | refine av ?_ _)); exact HG.out) : P := h
theorem hA_ {P : Prop} (h : P := by (try simp only [List.map_toArray, List.map_cons, List.map_nil]); first | done | rfl | (simp only [List.length_drop, List.length_take]; rfl)) : P := h
theorem h4_ {P : Prop} (h : P := by (with_reducible repeat (first | refine ay ?_ _ | refine aC ?_ | refine av ?_ _)); exact BK4.out) : P := h
theorem h5_ {P : Prop} (h : P := by (with_reducible repeat (first | refine ay ?_ _ | refine aC ?_ | refine av ?_ _)); with_reducible exact BK4.out) : P := h
theorem hL_ {P : Prop} (h : P := by (with_reducible repeat (first | apply Kd.fZ | apply Kd.dJ | apply Kd.gY)); exact HL.out) : P := h
theorem hR_ {P : Prop} (h : P := by repeat (first | (with_reducible first | exact HBr.out | apply fA | apply dM | apply bG) | exact HBr.out)) : P := h
theorem h8_ {P : Prop} (h : P := by (with_reducible repeat (first | refine ay ?_ _ | refine aC ?_ | refine av ?_ _)); exact BK8.out) : P := h
theorem hC_ {P : Prop} (h : P := by (with_reducible repeat (first | apply Kd.bL | apply Kd.bn | apply Kd.bJ)); exact HC.out) : P := h
theorem hU_ {P : Prop} (h : P := by (with_reducible repeat (first | apply Kd.bL | apply Kd.bn | apply Kd.bJ)); exact HU2.out) : P := h
theorem cq_ {w : World} {g t : Nat} {a b c d e f : Value} (h : w.heap[g]? = some (.cells #[a, b, c, d, e, f] t (0, 0))) : w.cell? ⟨g, 0, none⟩ = some a ∧ w.cell? ⟨g, 1, none⟩ = some b ∧ w.cell? ⟨g, 2, none⟩ = some c ∧ w.cell? ⟨g, 3, none⟩ = some d ∧ w.cell? ⟨g, 4, none⟩ = some e ∧ w.cell? ⟨g, 5, none⟩ = some f := ⟨ak h 0, ak h 1, ak h 2, ak h 3, ak h 4, ak h 5⟩
theorem kb_ {w0 W w : World} {g : Nat} {ob : Obj} (h0 : ah (w0.heap[g]? = some ob)) (hb : Below W.heap.size W w) (hw : W.heap[g]? = some ob := by (with_reducible repeat (first | refine ay ?_ _ | refine aC ?_ | refine av ?_ _)); exact ah.out (by assumption)) : ah (w.heap[g]? = some ob) := ⟨bA hw hb⟩
theorem bs_ {w W W2 : World} (hb : Below W.heap.size W W2) (h : Below w.heap.size w W := by repeat (first | (with_reducible first | exact HB.out | apply fA | apply dM | apply bG) | exact HB.out)) : ah (Below w.heap.size w W2) := ⟨eO h hb⟩
theorem ks_ {w W W2 : World} {S : Nat → Prop} (hb : Below W.heap.size W W2) (h : Kept w W S := by repeat (first | (with_reducible first | exact HK.out | apply Kept.alloc | apply Kept.drewN | apply Kept.drew) | exact HK.out)) : ah (Kept w W2 S) := ⟨Kept.below h hb⟩
theorem ro_ {d : Kd Oo} {e base : Nat} {ok : Nat → Prop} {v : Value} {xs : List Oo} {W0 W W2 : World} (h0 : ah (d.R e W0 base ok v xs)) (hb : Below W.heap.size W W2) (h : d.R e W base ok v xs := by (with_reducible repeat (first | apply Kd.bL | apply Kd.bn | apply Kd.bJ)); exact HO.out) : ah (d.R e W2 base ok v xs) := ⟨Kd.iK h hb⟩
def cO.l0 : Nat → List (List Int) → List (List Oo) → Oo → Int → Option Bool
 | 0, _, _, _, _ => none
 | k + 1, ls, ld, fill, i => if i < (ls.length : Int) then (if 0 ≤ i then ((dY.f k fill (ls.getD i.toNat [])).bind fun p => if i < (ld.length : Int) then ((eX.f k (ld.getD i.toNat []) (fun j s => aJ.f j p s)).bind fun b => if b = true then cO.l0 k ls ld fill (wrap64 (i + 1)) else some true) else none) else none) else some false
def cO.f (k : Nat) (ls : List (List Int)) (ld : List (List Oo)) (fill : Oo) (n : Int) : Option Bool := cO.l0 k ls ld fill n
attribute [local go_sem] qQ
set_option maxHeartbeats 8000000 in
set_option maxRecDepth 100000 in
theorem cO.closure (j : Nat) (a2 : Oo) (s : Oo) (b : Bool) (W : World) (g0 : Nat) (h0 : W.heap[g0]? = some (.cells #[.string a2] 9 (0, 0))) (h : aJ.f j a2 s = some b) :
  Calls Tryz.prog 169 #[.string s, .pointer (some ⟨g0, 0, none⟩)] W fun e w' => e = .returned (.bool b) ∧ Below W.heap.size W w' := by
 have hcz0_0 : W.cell? ⟨g0, 0, none⟩ = some (.string a2) := (ak h0 0).trans rfl
 have hfz0_0 := aA h0 0
 go_enter Tryz.func169, Tryz.ntmps169
 go_wp2_with (first | ((with_reducible refine au (f := 92) rfl ?_); refine oG _ rfl rfl Tryz.func92 (by kernel_rfl) rfl #[.string a2, .string s] rfl hA_ ?_; refine (aJ.calls j a2 s b _ h).mono ?_; rintro e w_ ⟨rfl, hb⟩; refine ⟨_, rfl, ?_⟩; skip))
 go_ret
 exact ⟨rfl, hb.below⟩
set_option maxHeartbeats 8000000 in
set_option maxRecDepth 100000 in
theorem cO.calls (k : Nat) (g : Nat) (As : Option Addr) (cs : Nat) (ls : List (List Int)) (Ad : Option Addr) (cd : Nat) (ld : List (List Oo)) (ap : Bool) (mo : Int) (vf : Value) (fill : Oo) (n : Int) (r : Bool) (w : World) (hg : w.heap[g]? = some (.cells #[.slice As ls.length cs, .slice Ad ld.length cd, .bool ap, .int .i64 mo, vf] 96 (0, 0))) (hs : Kd.C (Kd.slice 3 (Kd.int .i64)) w As ls.length ls) (hcs : ls.length ≤ cs) (hd : Kd.C (Kd.slice 9 Kd.string) w Ad ld.length ld) (hcd : ld.length ≤ cd) (h : cO.f k ls ld fill n = some r) :
  Calls Tryz.prog 125 #[.pointer (some ⟨g, 0, none⟩), .string fill, .int .i64 n] w fun e w' => e = .returned (.bool r) ∧ Below w.heap.size w w' := by
 have HG := ah.mk hg
 have HS := ah.mk hs
 have HD := ah.mk hd
 have HCS := ah.mk hcs
 have HCD := ah.mk hcd
 have HB := ah.mk (Below.refl w.heap.size w)
 clear hg hs hd hcs hcd
 have H : cO.l0 k ls ld fill n = some r := h
 clear h
 have H' := ah.mk H
 clear H
 have hcg0 : w.cell? ⟨g, 0, none⟩ = some (.slice As ls.length cs) := (ak HG.out 0).trans rfl
 have hcg1 : w.cell? ⟨g, 1, none⟩ = some (.slice Ad ld.length cd) := (ak HG.out 1).trans rfl
 go_enter Tryz.func125, Tryz.ntmps125
 go_wp2
 go_loopg [7] k (fun kq v7 w' => ∃ (x7_1 : Int), v7 = .int .i64 x7_1 ∧ ah (cO.l0 kq ls ld fill x7_1 = some r) ∧ ah (kq ≤ k) ∧ ah (Below w.heap.size w w'))
 case atStart => exact ⟨n, (by first | rfl | (simp; done) | (simp [*]; done)), H', ⟨Nat.le_refl _⟩, ⟨hB_⟩⟩
 case round =>
  clear H' hcg0 hcg1
  obtain ⟨x7_1, rfl, HA, HK1, HB⟩ := hrel
  have HBr := ah.mk (Below.refl wr.heap.size wr)
  have HGr := ah.mk (bA HG.out HB.out)
  have hcg0 : wr.cell? ⟨g, 0, none⟩ = some (.slice As ls.length cs) := (ak HGr.out 0).trans rfl
  have hcg1 : wr.cell? ⟨g, 1, none⟩ = some (.slice Ad ld.length cd) := (ak HGr.out 1).trans rfl
  cases gk with
  | zero => exact absurd HA.out (by simp [cO.l0])
  | succ k1 =>
   have H := HA.out
   clear HA
   simp only [cO.l0] at H
   by_cases c3 : x7_1 < (ls.length : Int)
   ·rw [if_pos c3] at H
    have c3b0 : decide (x7_1 < (ls.length : Int)) = true := decide_eq_true c3
    by_cases c4 : 0 ≤ x7_1
    ·rw [if_pos c4] at H
     have c4b0 : decide (0 ≤ x7_1) = true := decide_eq_true c4
     obtain ⟨p, A10, H⟩ := Option.bind_eq_some_iff.mp H
     by_cases c5 : x7_1 < (ld.length : Int)
     ·rw [if_pos c5] at H
      have c5b0 : decide (x7_1 < (ld.length : Int)) = true := decide_eq_true c5
      obtain ⟨b, A20, H⟩ := Option.bind_eq_some_iff.mp H
      obtain ⟨ads, _, eAs, _, hK5, hc5⟩ := Kd.mQ (Kd.dz HS.out HB.out) ([] : List Int) x7_1 c4 c3
      obtain ⟨A5, c5_, rfl, l5, g5⟩ := hK5
      obtain ⟨add_, _, eAd, _, hK6, hc6⟩ := Kd.mQ (Kd.dz HD.out HB.out) ([] : List Oo) x7_1 c4 c5
      obtain ⟨A6, c6_, rfl, l6, g6⟩ := hK6
      subst eAs eAd
      have hx5 : wr.cell? (ads.add x7_1.toNat) = some (.slice A5 (ls.getD x7_1.toNat []).length c5_) := by have hq := hc5 0 _ rfl; rwa [show (Kd.slice 3 (Kd.int .i64)).sz = 1 from rfl, Nat.mul_one, Nat.add_zero] at hq
      have hx6 : wr.cell? (add_.add x7_1.toNat) = some (.slice A6 (ld.getD x7_1.toNat []).length c6_) := by have hq := hc6 0 _ rfl; rwa [show (Kd.slice 9 Kd.string).sz = 1 from rfl, Nat.mul_one, Nat.add_zero] at hq
      generalize ls.getD x7_1.toNat [] = li at A10 hx5 g5 l5
      generalize ld.getD x7_1.toNat [] = di at A20 hx6 g6 l6
      have A1 := ah.mk A10
      have A2 := ah.mk A20
      have HX6 := ah.mk hx6
      have G5 := ah.mk g5
      have L5 := ah.mk l5
      have G6 := ah.mk g6
      have L6 := ah.mk l6
      clear hc5 hc6 g5 g6 l5 l6 A10 A20 hx6
      replace c3 := eq_true c3
      replace c4 := eq_true c4
      replace c5 := eq_true c5
      have H' := ah.mk H
      clear H
      rcases b with _ | _
      all_goals go_wp2_with (first | ((with_reducible refine au (f := 88) rfl ?_); refine oG _ rfl rfl Tryz.func88 (by kernel_rfl) rfl #[.string fill, .slice A5 li.length c5_] rfl hA_ ?_; refine (dY.calls k1 fill A5 c5_ li p _ (Kd.dz G5.out hR_) L5.out A1.out).mono ?_; rintro e w8 ⟨rfl, hb⟩; refine ⟨_, rfl, ?_⟩; have n0_ := ah.mk (eO hB_ hb); have n1_ := ah.mk (eO hR_ hb); clear HB HBr; have HB := n0_; have HBr := n1_; clear n0_ n1_ hb) | ((with_reducible refine aG (N := 8) rfl ?_); refine lH ?hg (N := 8) ?hd (cs := #[.string ⟨#[]⟩]) (t := 9) ?hr ?_; (case hd => rfl); (case hg => rfl); (case hr => first | (go_simp; done) | (go_simp; rfl)); intro g8 hg8 w9 hbox hb; have n0_ := ah.mk (eO hB_ hb); have n1_ := ah.mk hbox; have n2_ := ah.mk (eO hR_ hb); have n3_ := ah.mk (show w.heap.size ≤ g8 from by rw [hg8]; exact (aD hB_)); have n4_ := ah.mk (show wr.heap.size ≤ g8 from by rw [hg8]; exact (aD hR_)); clear HB HBr; have HB := n0_; have BK8 := n1_; have HBr := n2_; have GW8 := n3_; have GR8 := n4_; clear n0_ n1_ n2_ n3_ n4_ hb hbox hg8; have hcz8 : w9.cell? ⟨g8, 0, none⟩ = some (.string ⟨#[]⟩) := (ak BK8.out 0).trans rfl; have hfz8 := aA BK8.out 0) | ((with_reducible refine fI (t := 9) (p := 8) rfl ?_); refine eU (t := 9) (p := 8) (v := ?vo_w10) (w1 := (w9.setCell ⟨g8, 0, none⟩ (.string p))) ?hg ?ho ?hn ?hr ?_; (case ho => rfl); (case hg => rfl); (case hn => rfl); (case hr => first | (go_simp; done) | (go_simp; rfl)); intro w10 hw; have n0_ := ah.mk ((by rw [hw]; exact dx HB.out GW8.out : Below w.heap.size w w10)); have n1_ := ah.mk ((by rw [hw]; exact dx HBr.out GR8.out : Below wr.heap.size wr w10)); have n2_ := ah.mk ((by rw [hw]; exact aI BK8.out 0 _ rfl : w10.heap[g8]? = some (.cells #[.string p] 9 (0, 0)))); clear HB HBr BK8 hcz8 hfz8 hw; have HB := n0_; have HBr := n1_; have BK8 := n2_; clear n0_ n1_ n2_; have hcg1 : w10.cell? ⟨g, 1, none⟩ = some (.slice (some add_) ld.length cd) := (ak (bA HG.out HB.out) 1).trans rfl; have hx6 : w10.cell? (add_.add x7_1.toNat) = some (.slice A6 di.length c6_) := (HBr.out.cell (World.block_lt_of_cell? wr _ HX6.out)).trans HX6.out) | ((with_reducible refine au (f := 151) rfl ?_); refine oG _ rfl rfl Tryz.func151 (by kernel_rfl) rfl #[.slice A6 di.length c6_, .func (.func 169) #[] #[.pointer (some ⟨g8, 0, none⟩)]] rfl hA_ ?_; refine (eX.calls k1 A6 c6_ di (fun j s => aJ.f j p s) _ _ (Kd.dz G6.out hR_) L6.out A2.out 169 #[.pointer (some ⟨g8, 0, none⟩)] (fun args w => mH Tryz.func169 (by kernel_rfl) rfl args w) (fun j s b W hb_ h_ => cO.closure j p s b W g8 (bA h8_ hb_) h_)).mono ?_; rintro e w11 ⟨rfl, hb⟩; refine ⟨_, rfl, ?_⟩; have n0_ := ah.mk (eO hB_ hb); clear HB HBr BK8; have HB := n0_; clear n0_ hb))
      ·have H := H'.out
       simp only [Bool.false_eq_true, if_false, Option.some.injEq] at H
       subst H
       go_ret
       exact ⟨by first | rfl | (simp [*]), hB_⟩
      ·have H := H'.out
       simp only [if_true] at H
       have H' := ah.mk H
       clear H
       go_roundg k1
       case measure => have := HK1.out; omega
       case rel => exact ⟨(wrap64 (x7_1 + 1)), (by first | rfl | (simp; done) | (simp [*]; done)), H', ⟨by have := HK1.out; omega⟩, ⟨hB_⟩⟩
     ·rw [if_neg c5] at H
      exact absurd H (by simp)
    ·rw [if_neg c4] at H
     exact absurd H (by simp)
   ·rw [if_neg c3] at H
    have c3b0 : decide (x7_1 < (ls.length : Int)) = false := decide_eq_false c3
    clear c3
    simp only [Option.some.injEq] at H
    subst H
    go_wp2
    go_ret
    exact ⟨by first | rfl | (simp [*]), hB_⟩
def jT.f (a0 : Oo) (l1 : List Int) (a2 : Oo) : Option (Oo) := if a0.size ≤ 1000 ∧ l1.length ≤ a2.size ∧ a2.size ≤ 1000 ∧ (∀ x ∈ l1, 0 ≤ x ∧ x < a0.size) then some (strOfNums (Go.Proofs.YtikmdgmnhbodjaaGreat.HandPut.wrA l1 a2 (Go.Proofs.YtikmdgmnhbodjaaGreat.HandSort.nums a0).toArray l1.length).toList) else none
theorem jT.calls (a : Oo) (o : Option Addr) (u : Nat) (l1 : List Int) (m r : Oo) (w : World) (y : Kd.C (Kd.int .i64) w o l1.length l1) (z : l1.length ≤ u) (h : jT.f a l1 m = some r) :
  Calls Tryz.prog 127 #[.string a, .slice o l1.length u, .string m] w fun e w' => e = .returned (.string r) ∧ Below w.heap.size w w' := by
 unfold jT.f at h;by_cases h1 : a.size ≤ 1000 ∧ l1.length ≤ m.size ∧ m.size ≤ 1000 ∧ (∀ x ∈ l1, 0 ≤ x ∧ x < a.size)
 ·rw [if_pos h1] at h;obtain rfl := sI h;exact Go.Proofs.YtikmdgmnhbodjaaGreat.HandPut.rG a m o u l1 w y z h1.1 h1.2.1 h1.2.2.1 h1.2.2.2
 ·rw [if_neg h1] at h
  cases h
def eP.f (l0 : List Oo) : Option (List Oo) := if l0.length ≤ 8796093022208 then (some l0) else (none)
theorem eP.info : (Tryz.prog.info? 9).map (fun i => (i.zero, i.size, i.bytes)) = some (some (.string ⟨#[]⟩), 1, 16) := by kernel_rfl
set_option maxHeartbeats 4000000 in
set_option maxRecDepth 100000 in
theorem eP.calls (A0 : Option Addr) (c0 : Nat) (l0 : List Oo) (r : List Oo) (w : World) (hr0 : Kd.C Kd.string w A0 l0.length l0) (hc0 : l0.length ≤ c0) (h : eP.f l0 = some r) :
  Calls Tryz.prog 128 #[.slice A0 l0.length c0] w fun e w' => ∃ v0_ : Value, e = .returned (v0_) ∧ Kd.R Kd.string 9 w' w.heap.size (fun _ => True) v0_ r ∧ Below w.heap.size w w' := by
 unfold eP.f at h
 split at h
 ·rename_i hbig
  obtain rfl := Option.some.inj h
  clear h
  have huL := Tryz.underlying29
  obtain ⟨i0, hi0, hz0, hz1, hz2⟩ := info_parts eP.info
  have q22 : ∀ (w : World) (a : Option Addr) (n c n' c' : Nat), (binOp .eql 29 (.slice a n c) (.slice none n' c')).run Tryz.prog w = .ok (.bool a.isNone) w := fun w a n c n' c' => Go.Lib.run_eql_slice_nil w _ _ a n c n' c' huL
  cases A0 with
  | none =>
   have hn : l0.length = 0 := by
    rcases Nat.eq_zero_or_pos l0.length with hn | hn
    ·exact hn
    ·obtain ⟨ad, e, _⟩ := hr0.2.2 hn
     cases e
   obtain rfl := List.length_eq_zero_iff.1 hn
   clear hi0 hz0 hz1 hz2 hr0 hn hbig hc0
   go_enter Tryz.func128, Tryz.ntmps128
   go_wp2
   go_ret
   exact ⟨_, rfl, Kd.kI _ _ _ _ _, Below.refl _ _⟩
  | some a =>
   have hcs : ∀ j v, (l0.map Value.string)[j]? = some v → w.cell? (a.add j) = some v := by
    intro j v hj
    rw [List.getElem?_map] at hj
    obtain ⟨x, hx, rfl⟩ := Option.map_eq_some_iff.1 hj
    have hlt : j < l0.length := (List.getElem?_eq_some_iff.1 hx).1
    obtain ⟨ad, e, hcx⟩ := Kd.iN hr0 (j : Int) (by omega) (by omega)
    cases e
    rw [Int.toNat_natCast] at hcx
    rw [hcx, fB, Int.toNat_natCast, List.getD_eq_getElem?_getD, hx]
    rfl
   have A : ah (∀ j v, (l0.map Value.string)[j]? = some v → w.cell? (a.add j) = some v) := ⟨hcs⟩
   have HL : ah ((l0.map Value.string).length = l0.length * 1) := ⟨by rw [List.length_map, Nat.mul_one]⟩
   clear hcs hr0
   go_enter Tryz.func128, Tryz.ntmps128
   go_wp2_with (at_builtin; refine wpList_append_own _ rfl _ _ 29 rfl w.heap.size 9 i0 (.string ⟨#[]⟩) 1 16 huL hi0 hz0 hz1 hz2 rfl (by decide) _ _ _ rfl (World.ownsRow_made w #[] 0 (Nat.le_refl _) (Nat.zero_le _) rfl) a l0.length c0 (l0.map Value.string) rfl ?qc1 ?qc2 ?qc3 ?qc4 ?qc5 ?qc6 ?_)
   case qc1 => exact HL.out
   case qc2 =>
    intro j u hj
    refine Lib.cell?_alloc_some _ ?_
    exact A.out j u hj
   case qc3 =>
    intro u hu
    obtain ⟨x, _, rfl⟩ := List.mem_map.1 hu
    rfl
   case qc4 => unfold maxLen; omega
   case qc5 => omega
   case qc6 => simp
   intro v' w1 hown hgrow hnil
   go_wp2
   go_ret
   exact ⟨v', rfl, Kd.rJ (by simpa [encs] using hown) (fun _ _ => trivial), ((Below.refl _ w).alloc (Nat.le_refl _) _).grown hgrow (by simp) (by intro k hk; simp [Value.ownBlock] at hk; omega)⟩
 ·cases h
mutual
def Oe.f : Nat → List (List Int) → List (List Oo) → Int → Oo → Int → List Oo → Option (List Oo)
 | 0, _, _, _, _, _, _ => none
 | k + 1, ls, ld, mo, fill, u, found => if u = (ls.length : Int) then (if found.length < 8796093022208 then (some (found ++ [fill])) else none) else ((cO.f k ls ld fill u).bind fun h => if h = true then (some found) else (if 0 ≤ u then (if u < (ls.length : Int) then ((dY.f k fill (ls.getD u.toNat [])).bind fun p => if u < (ld.length : Int) then Oe.l0 k ls ld mo fill u p (ld.getD u.toNat []) 0 found else none) else none) else none))
def Oe.l0 : Nat → List (List Int) → List (List Oo) → Int → Oo → Int → Oo → List Oo → Int → List Oo → Option (List Oo)
 | 0, _, _, _, _, _, _, _, _, _ => none
 | k + 1, ls, ld, mo, fill, u, p, ws, i, found => if i < (ws.length : Int) then (if 0 ≤ i then (if (found.length : Int) = mo then (some found) else ((aJ.f k p (fB ByteArray.empty ws i)).bind fun b => if b = true then ((jT.f fill (ls.getD u.toNat []) (fB ByteArray.empty ws i)).bind fun t => if u < 8796093022208 then ((Oe.f k ls ld mo t (u + 1) found).bind fun q => Oe.l0 k ls ld mo fill u p ws (wrap64 (i + 1)) q) else none) else Oe.l0 k ls ld mo fill u p ws (wrap64 (i + 1)) found)) else none) else some found
end
/-- A row of one's own, beside which a block and the rows of another are written. -/
theorem Oe.apart {w1 w2 : World} {d : Kd Oo} {A : Option Addr} {n c : Nat} {xs : List Oo} {base : Nat} {S : Nat → Prop} (h : d.R 9 w1 base (fun k_ => ¬ S k_) (.slice A n c) xs) (hk : Kept w1 w2 S) : d.C w2 A n xs := Kd.nu h (fun _ hk_ => hk_) w2 hk
/-- An inner row, for whatever world the rows are kept in. -/
theorem Oe.inner {α : Type} {d : Kd α} {e : Nat} {w : World} {A : Option Addr} {S : Nat → Prop} {xs : List (List α)} (h : ∀ W', Kept w W' S → (Kd.slice e d).C W' A xs.length xs) (i : Int) (h0 : 0 ≤ i) (h1 : i < (xs.length : Int)) :
  ∃ ad B c, A = some ad ∧ (∀ W', Kept w W' S → W'.cell? (ad.add i.toNat) = some (.slice B (xs.getD i.toNat []).length c)) ∧ (xs.getD i.toNat []).length ≤ c ∧ ∀ W', Kept w W' S → d.C W' B (xs.getD i.toNat []).length (xs.getD i.toNat []) := by
 obtain ⟨ad, cs, eA, _, hK, hc⟩ := Kd.mQ (h w (Kept.refl w S)) ([] : List α) i h0 h1
 obtain ⟨B, c, rfl, hl, hC⟩ := hK
 subst eA
 have hn : ¬ S ad.block := Kd.wP h (by omega) (by show 0 < 1; omega)
 have hx : w.cell? (ad.add i.toNat) = some (.slice B (xs.getD i.toNat []).length c) := by have hq := hc 0 _ rfl; rwa [show (Kd.slice e d).sz = 1 from rfl, Nat.mul_one, Nat.add_zero] at hq
 refine ⟨ad, B, c, rfl, fun W' hk => cell_kept hx hk (by rw [add_block]; exact hn), hl, fun W' hk => ?_⟩
 obtain ⟨ad', cs', eA', _, hK', hc'⟩ := Kd.mQ (h W' hk) ([] : List α) i h0 h1
 obtain ⟨B', c', rfl, hl', hC'⟩ := hK'
 cases eA'
 have hq := hc' 0 _ rfl
 rw [show (Kd.slice e d).sz = 1 from rfl, Nat.mul_one, Nat.add_zero, cell_kept hx hk (by rw [add_block]; exact hn)] at hq
 injection hq with hq
 injection hq with hq _ _
 rw [hq]
 exact hC'
set_option maxHeartbeats 8000000 in
set_option maxRecDepth 100000 in
theorem Oe.calls (k : Nat) : ∀ (g : Nat) (As : Option Addr) (cs : Nat) (ls : List (List Int)) (Ad : Option Addr) (cd : Nat) (ld : List (List Oo)) (mo : Int) (vf : Value) (fill : Oo) (Au : Option Addr) (cu : Nat) (us : List Oo) (P0_ : Nat → Prop) (found r : List Oo) (w0 w : World) (hB : Below w0.heap.size w0 w) (hg : w.heap[g]? = some (.cells #[.slice As ls.length cs, .slice Ad ld.length cd, .bool false, .int .i64 mo, vf] 96 (0, 0))) (hg0 : w0.heap.size ≤ g) (hs : ∀ W_, Kept w W_ (fun k_ => k_ = g ∨ P0_ k_) → Kd.C (Kd.slice 3 (Kd.int .i64)) W_ As ls.length ls) (hcs : ls.length ≤ cs) (hd : ∀ W_, Kept w W_ (fun k_ => k_ = g ∨ P0_ k_) → Kd.C (Kd.slice 9 Kd.string) W_ Ad ld.length ld) (hcd : ld.length ≤ cd) (hu : ∀ W_, Kept w W_ (fun k_ => k_ = g ∨ P0_ k_) → Kd.C Kd.string W_ Au us.length us) (hcu : us.length ≤ cu) (hf : Kd.R Kd.string 9 w w0.heap.size P0_ vf found) (h : Oe.f k ls ld mo fill (us.length : Int) found = some r),
  Calls Tryz.prog 73 #[.pointer (some ⟨g, 0, none⟩), .string fill, .slice Au us.length cu] w fun e w' => e = .returned (.tuple #[]) ∧ ∃ v_ : Value, w'.heap[g]? = some (.cells #[.slice As ls.length cs, .slice Ad ld.length cd, .bool false, .int .i64 mo, v_] 96 (0, 0)) ∧ Kd.R Kd.string 9 w' w0.heap.size (fun k_ => (P0_ k_ ∨ w.heap.size ≤ k_)) v_ r ∧ Below w0.heap.size w0 w' ∧ Kept w w' (fun k_ => k_ = g ∨ P0_ k_) := by
 induction k using Nat.strongRecOn with
 | _ k ih =>
 intro g As cs ls Ad cd ld mo vf fill Au cu us P0_ found r w0 w hB hg hg0 hs hcs hd hcd hu hcu hf h
 cases k with
 | zero => exact absurd h (by simp [Oe.f])
 | succ k =>
 have IH := ah.mk ih
 clear ih
 have H := h
 clear h
 simp only [Oe.f] at H
 have HS := ah.mk hs
 have HD := ah.mk hd
 have HU := ah.mk hu
 have HCS := ah.mk hcs
 have HCD := ah.mk hcd
 have HCU := ah.mk hcu
 have HG0 := ah.mk hg0
 have HG := ah.mk hg
 have HO := ah.mk (show Kd.R Kd.string 9 w w0.heap.size (fun k_ => (P0_ k_ ∨ w.heap.size ≤ k_)) vf found from Kd.aU hf (fun k_ hk => (.inl hk)))
 have HK := ah.mk (Kept.refl w (fun k_ => k_ = g ∨ P0_ k_))
 have HB := ah.mk hB
 clear hs hd hu hcs hcd hcu hg0 hg hf hB
 obtain ⟨Af, cf, ef⟩ := Kd.bE HO.out
 subst ef
 have hcg0 : w.cell? ⟨g, 0, none⟩ = some (.slice As ls.length cs) := (ak HG.out 0).trans rfl
 have hcg4 : w.cell? ⟨g, 4, none⟩ = some (.slice Af found.length cf) := (ak HG.out 4).trans rfl
 by_cases c1 : (us.length : Int) = (ls.length : Int)
 ·rw [if_pos c1] at H
  have c1b : ((us.length : Int) == (ls.length : Int)) = true := beq_iff_eq.mpr c1
  have c1n : us.length = ls.length := by omega
  clear c1
  by_cases c2 : found.length < 8796093022208
  ·rw [if_pos c2] at H
   have C2 := ah.mk c2
   clear c2
   obtain ⟨y1, hy1⟩ : ∃ y_ : List Oo, y_ = (found ++ [fill]) := ⟨_, rfl⟩
   rw [← hy1] at H
   have NY := ah.mk hy1
   clear hy1
   obtain rfl := Option.some.inj H
   clear H
   go_enter Tryz.func73, Tryz.ntmps73
   go_wp2_with (first | ((with_reducible refine bV (b := .append) (xs := #[.tmp 23, .tmp 25]) rfl ?_); at_builtin; refine Kd.fO Kd.string (w0 := w0) w0.heap.size rfl (.tmp 23) (.tmp 25) 29 9 (.string ⟨#[]⟩) 16 rfl Tryz.underlying29 pQ rfl (by decide) (by omega) (.slice Af found.length cf) found fill [.string fill] (fun k_ => (P0_ k_ ∨ w.heap.size ≤ k_)) (fun _ => False) rfl rfl ?aP (fun _ hk => hk.elim) ?aF ?aO ?aB ?aS ?aL ?_; (case aP => exact rfl); (case aB => exact hB_); (case aF => exact (fun k_ hk => .inr hk)); (case aO => exact hO_); (case aS => exact (aD hB_)); (case aL => have := C2.out; omega); intro v1 w1 ho hb hgr hat; rw [← NY.out] at ho; have n0_ := ah.mk (cZ (g := g) (o := .cells #[.slice As ls.length cs, .slice Ad ld.length cd, .bool false, .int .i64 mo, .slice Af found.length cf] 96 (0, 0)) hG_ hgr (Kd.jv HO.out HG.out (by decide))); have n1_ := ah.mk hb; have n2_ := ah.mk (Kept.jK (S := (fun k_ => k_ = g ∨ P0_ k_)) hgr hK_ (fun k_ e_ => (HO.out.1 k_ e_).elim (fun h_ => .inl (.inr h_)) .inr)); have n3_ := ah.mk ho; clear HG HB HK HO hcg0 hcg4; have HG := n0_; have HB := n1_; have HK := n2_; have HO := n3_; clear n0_ n1_ n2_ n3_ ho hb hgr hat; have hcg4 : w1.cell? ⟨g, 4, none⟩ = some (.slice Af found.length cf) := (ak HG.out 4).trans rfl; have hfg4 := aA HG.out 4) | ((with_reducible refine fI (t := 29) (p := 28) rfl ?_); refine eU (t := 29) (p := 28) (v := ?vo_w2) (w1 := (w1.setCell ⟨g, 4, none⟩ v1)) ?hg ?ho ?hn ?hr ?_; (case ho => rfl); (case hg => rfl); (case hn => rfl); (case hr => (obtain ⟨Av, cv, ev⟩ := Kd.bE HO.out; subst ev; first | (go_simp; done) | (go_simp; rfl))); intro w2 hw; have n0_ := ah.mk ((by rw [hw]; exact dx HB.out HG0.out : Below w0.heap.size w0 w2)); have n1_ := ah.mk ((by rw [hw]; exact Kept.setCell HK.out (.inl (.inl rfl)) _ : Kept w w2 (fun k_ => k_ = g ∨ P0_ k_))); have n2_ := ah.mk ((by rw [hw]; exact aI HG.out 4 _ rfl : w2.heap[g]? = some (.cells #[.slice As ls.length cs, .slice Ad ld.length cd, .bool false, .int .i64 mo, v1] 96 (0, 0)))); have n3_ := ah.mk ((by rw [hw]; exact Kd.CK HO.out HG.out (by decide) 4 v1 : Kd.R Kd.string 9 w2 w0.heap.size (fun k_ => (P0_ k_ ∨ w.heap.size ≤ k_)) v1 y1)); clear HB HK HG HO hcg4 hfg4 hw; have HB := n0_; have HK := n1_; have HG := n2_; have HO := n3_; clear n0_ n1_ n2_ n3_))
   (try simp only [Exit.inBlock, Exit.then]); first | refine bodyPost_ret (results_none rfl _ _ _) rfl ?_ | refine bodyPost_end (results_none rfl _ _ _) rfl ?_
   exact ⟨rfl, v1, hG_, hO_, hB_, hK_⟩
  ·rw [if_neg c2] at H
   exact absurd H (by simp)
 ·rw [if_neg c1] at H
  have c1b : ((us.length : Int) == (ls.length : Int)) = false := beq_eq_false_iff_ne.mpr c1
  have c1n : (us.length == ls.length) = false := beq_eq_false_iff_ne.mpr (by omega)
  clear c1
  obtain ⟨u, hu_⟩ : ∃ u : Int, u = (us.length : Int) := ⟨_, rfl⟩
  rw [← hu_] at H c1b
  have NU := ah.mk hu_
  clear hu_ c1n
  obtain ⟨h1, A10, H⟩ := Option.bind_eq_some_iff.mp H
  have A1 := ah.mk A10
  clear A10
  by_cases c2 : h1 = true
  ·subst c2
   simp only [if_true, Option.some.injEq] at H
   subst H
   go_enter Tryz.func73, Tryz.ntmps73
   go_upto_region 1 with (fail)
   rw [← NU.out]
   go_wp2_with (first | ((with_reducible refine au (f := 125) rfl ?_); refine oG _ rfl rfl Tryz.func125 (by kernel_rfl) rfl #[.pointer (some ⟨g, 0, none⟩), .string fill, .int .i64 u] rfl hA_ ?_; refine (cO.calls k g As cs ls Ad cd ld false mo (.slice Af found.length cf) fill u true _ hG_ (HS.out _ hK_) HCS.out (HD.out _ hK_) HCD.out A1.out).mono ?_; rintro e w4 ⟨rfl, hb⟩; refine ⟨_, rfl, ?_⟩; replace HG := kb_ HG hb; replace HB := bs_ (w := w0) hb; replace HK := ks_ (w := w) hb; replace HO := ro_ HO hb; clear hb hcg0 hcg4))
   (try simp only [Exit.inBlock, Exit.then]); first | refine bodyPost_ret (results_none rfl _ _ _) rfl ?_ | refine bodyPost_end (results_none rfl _ _ _) rfl ?_
   exact ⟨rfl, _, hG_, hO_, hB_, hK_⟩
  ·replace c2 := Bool.eq_false_iff.mpr c2
   subst c2
   simp only [Bool.false_eq_true, if_false] at H
   by_cases c3 : 0 ≤ u
   ·rw [if_pos c3] at H
    by_cases c4 : u < (ls.length : Int)
    ·rw [if_pos c4] at H
     obtain ⟨p, A20, H⟩ := Option.bind_eq_some_iff.mp H
     have A2 := ah.mk A20
     clear A20
     by_cases c5 : u < (ld.length : Int)
     ·rw [if_pos c5] at H
      have H' := ah.mk H
      clear H
      obtain ⟨ads, A5, c5_, eAs, x5, l5, g5⟩ := Oe.inner HS.out u c3 c4
      obtain ⟨add_, A6, c6_, eAd, x6, l6, g6⟩ := Oe.inner HD.out u c3 c5
      subst eAs eAd
      have L5 := ah.mk l5
      have L6 := ah.mk l6
      have X5 := ah.mk x5
      have X6 := ah.mk x6
      have G5 := ah.mk g5
      have G6 := ah.mk g6
      clear l5 l6 x5 x6 g5 g6
      obtain ⟨li, hl5⟩ : ∃ li, li = ls.getD u.toNat [] := ⟨_, rfl⟩
      rw [← hl5] at A2 L5 X5 G5
      have NL5 := ah.mk hl5
      clear hl5
      generalize ld.getD u.toNat [] = di at L6 X6 G6 H'
      replace c3 := eq_true c3
      replace c4 := eq_true c4
      replace c5 := eq_true c5
      have c3b : decide (0 ≤ u) = true := by simp [c3]
      have c4b : decide (u < (ls.length : Int)) = true := by simp [c4]
      have c5b : decide (u < (ld.length : Int)) = true := by simp [c5]
      go_enter Tryz.func73, Tryz.ntmps73
      go_upto_region 1 with (fail)
      rw [← NU.out]
      go_wp2_with (first | ((with_reducible refine au (f := 125) rfl ?_); refine oG _ rfl rfl Tryz.func125 (by kernel_rfl) rfl #[.pointer (some ⟨g, 0, none⟩), .string fill, .int .i64 u] rfl hA_ ?_; refine (cO.calls k g (some ads) cs ls (some add_) cd ld false mo (.slice Af found.length cf) fill u false _ hG_ (HS.out _ hK_) HCS.out (HD.out _ hK_) HCD.out A1.out).mono ?_; rintro e w4 ⟨rfl, hb⟩; refine ⟨_, rfl, ?_⟩; replace HG := kb_ HG hb; replace HB := bs_ (w := w0) hb; replace HK := ks_ (w := w) hb; replace HO := ro_ HO hb; clear hb hcg0 hcg4; have hcg0 : w4.cell? ⟨g, 0, none⟩ = some (.slice (some ads) ls.length cs) := (ak HG.out 0).trans rfl; have hx5 := X5.out w4 HK.out) | ((with_reducible refine au (f := 88) rfl ?_); refine oG _ rfl rfl Tryz.func88 (by kernel_rfl) rfl #[.string fill, .slice A5 li.length c5_] rfl hA_ ?_; refine (dY.calls k fill A5 c5_ li p _ (G5.out _ hK_) L5.out A2.out).mono ?_; rintro e w5 ⟨rfl, hb⟩; refine ⟨_, rfl, ?_⟩; replace HG := kb_ HG hb; replace HB := bs_ (w := w0) hb; replace HK := ks_ (w := w) hb; replace HO := ro_ HO hb; clear hb hcg0 hx5; have hcg1 : w5.cell? ⟨g, 1, none⟩ = some (.slice (some add_) ld.length cd) := (ak HG.out 1).trans rfl; have hx6 := X6.out w5 HK.out))
      go_loopg [50] k (fun kq v50 w' => ∃ (i : Int) (fd : List Oo) (v : Value), v50 = .int .i64 i ∧ ah (Oe.l0 kq ls ld mo fill u p di i fd = some r) ∧ ah (kq ≤ k) ∧ ah (w'.heap[g]? = some (.cells #[.slice (some ads) ls.length cs, .slice (some add_) ld.length cd, .bool false, .int .i64 mo, v] 96 (0, 0))) ∧ ah (Kd.R Kd.string 9 w' w0.heap.size (fun k_ => (P0_ k_ ∨ w.heap.size ≤ k_)) v fd) ∧ ah (Below w0.heap.size w0 w') ∧ ah (Kept w w' (fun k_ => k_ = g ∨ P0_ k_)))
      case atStart => exact ⟨0, found, _, (by first | rfl | (simp; done) | (simp [*]; done)), H', ⟨Nat.le_refl _⟩, ⟨hG_⟩, ⟨hO_⟩, ⟨hB_⟩, ⟨hK_⟩⟩
      case round =>
       clear H' hcg1 hx6
       obtain ⟨i, fd, v, rfl, HA, HK1, HG, HO, HB, HK⟩ := hrel
       cases gk with
       | zero => exact absurd HA.out (by simp [Oe.l0])
       | succ k1 =>
        have H := HA.out
        clear HA
        simp only [Oe.l0] at H
        obtain ⟨Ag, cg, eg⟩ := Kd.bE HO.out
        subst eg
        have hcg3 : wr.cell? ⟨g, 3, none⟩ = some (.int .i64 mo) := (ak HG.out 3).trans rfl
        have hcg4 : wr.cell? ⟨g, 4, none⟩ = some (.slice Ag fd.length cg) := (ak HG.out 4).trans rfl
        by_cases c6 : i < (di.length : Int)
        ·rw [if_pos c6] at H
         have c6b : decide (i < (di.length : Int)) = true := decide_eq_true c6
         by_cases c7 : 0 ≤ i
         ·rw [if_pos c7] at H
          obtain ⟨ad6, e6, hx7⟩ := Kd.iN (G6.out wr HK.out) i c7 c6
          subst e6
          generalize fB ByteArray.empty di i = s at H hx7
          replace c6 := eq_true c6
          replace c7 := eq_true c7
          by_cases c8 : (fd.length : Int) = mo
          ·rw [if_pos c8] at H
           obtain rfl := Option.some.inj H
           clear H
           have c8b : ((fd.length : Int) == mo) = true := beq_iff_eq.mpr c8
           clear c8
           go_upto_region 8 with (fail)
           go_region_held3 (fun w' => w'.cell? ⟨g, 4, none⟩ = some (.slice Ag fd.length cg) ∧ w'.cell? ⟨g, 3, none⟩ = some (.int .i64 mo)) (go_keep) (fail)
           go_wp2
           (try simp only [Exit.inBlock, Exit.then]); first | refine bodyPost_ret (results_none rfl _ _ _) rfl ?_ | refine bodyPost_end (results_none rfl _ _ _) rfl ?_
           exact ⟨rfl, _, hG_, hO_, hB_, hK_⟩
          ·rw [if_neg c8] at H
           have c8b : ((fd.length : Int) == mo) = false := beq_eq_false_iff_ne.mpr c8
           clear c8
           have hcg0 : wr.drew.cell? ⟨g, 0, none⟩ = some (.slice (some ads) ls.length cs) := (ak (aC HG.out) 0).trans rfl
           have hcg2 : wr.drew.cell? ⟨g, 2, none⟩ = some (.bool false) := (ak (aC HG.out) 2).trans rfl
           obtain ⟨b, A30, H⟩ := Option.bind_eq_some_iff.mp H
           have A3 := ah.mk A30
           clear A30
           by_cases c9 : b = true
           ·subst c9
            rw [if_pos rfl] at H
            obtain ⟨t, A40, H⟩ := Option.bind_eq_some_iff.mp H
            have A4 := ah.mk A40
            clear A40
            rw [← NL5.out] at A4
            by_cases c10 : u < 8796093022208
            ·rw [if_pos c10] at H
             have C10 := ah.mk c10
             clear c10
             obtain ⟨q, A50, H⟩ := Option.bind_eq_some_iff.mp H
             have A5_ := ah.mk A50
             clear A50
             obtain ⟨us2, hus2⟩ : ∃ y_ : List Oo, y_ = (us ++ [s]) := ⟨_, rfl⟩
             have NU2 := ah.mk hus2
             clear hus2
             have H' := ah.mk H
             clear H
             go_upto_region 8 with (fail)
             go_region_held3 (fun w' => w'.cell? ⟨g, 4, none⟩ = some (.slice Ag fd.length cg) ∧ w'.cell? ⟨g, 3, none⟩ = some (.int .i64 mo)) (go_keep) (fail)
             clear hcg3 hcg4
             go_wp2_with (first | ((with_reducible refine au (f := 92) rfl ?_); refine oG _ rfl rfl Tryz.func92 (by kernel_rfl) rfl #[.string p, .string s] rfl hA_ ?_; refine (aJ.calls k1 p s true _ A3.out).mono ?_; rintro e w9 ⟨rfl, hb⟩; refine ⟨_, rfl, ?_⟩; replace HG := kb_ HG (hb.below); replace HO := ro_ HO (hb.below); replace HB := bs_ (w := w0) (hb.below); replace HK := ks_ (w := w) (hb.below); clear hb hcg0 hcg2; have hcg0 : w9.cell? ⟨g, 0, none⟩ = some (.slice (some ads) ls.length cs) := (ak HG.out 0).trans rfl; have hcg2 : w9.cell? ⟨g, 2, none⟩ = some (.bool false) := (ak HG.out 2).trans rfl; have hx5 := X5.out w9 HK.out) | ((with_reducible refine au (f := 127) rfl ?_); refine oG _ rfl rfl Tryz.func127 (by kernel_rfl) rfl #[.string fill, .slice A5 li.length c5_, .string s] rfl hA_ ?_; refine (jT.calls fill A5 c5_ li s t _ (G5.out _ hK_) L5.out A4.out).mono ?_; rintro e w10 ⟨rfl, hb⟩; refine ⟨_, rfl, ?_⟩; replace HG := kb_ HG (hb); replace HO := ro_ HO (hb); replace HB := bs_ (w := w0) (hb); replace HK := ks_ (w := w) (hb); clear hb hcg0 hcg2 hx5) | ((with_reducible refine au (f := 128) rfl ?_); refine oG _ rfl rfl Tryz.func128 (by kernel_rfl) rfl #[.slice Au us.length cu] rfl hA_ ?_; refine (eP.calls _ _ us us _ (HU.out _ hK_) HCU.out (by have h1_ := NU.out; have h2_ := C10.out; unfold eP.f; rw [if_pos (by omega)])).mono ?_; rintro e w11 ⟨vc, rfl, hoc, hb⟩; refine ⟨_, rfl, ?_⟩; have n4_ := ah.mk (Kd.bD hoc (aD hB_)); have n5_ : ah (∀ k_, vc.ownBlock = some k_ → w.heap.size ≤ k_) := ⟨fun k_ e_ => Nat.le_trans (hK_ : Kept w _ (fun k_ => k_ = g ∨ P0_ k_)).1 (Kd.gX hoc k_ e_)⟩; replace HG := kb_ HG (hb); replace HO := ah.mk (Kd.fP hO_ (Kd.gX hoc) hb); replace HB := bs_ (w := w0) (hb); replace HK := ks_ (w := w) (hb); clear hb ; have HC := n4_; have HVB := n5_; clear n4_ n5_ hoc) | ((with_reducible refine bV (b := .append) (xs := #[.tmp 91, .tmp 93]) rfl ?_); at_builtin; refine Kd.fO Kd.string (w0 := w0) w0.heap.size rfl (.tmp 91) (.tmp 93) 29 9 (.string ⟨#[]⟩) 16 rfl Tryz.underlying29 pQ rfl (by decide) (by omega) vc us s [.string s] (fun _ => True) (fun _ => False) rfl rfl ?aP (fun _ hk => hk.elim) ?aF ?aO ?aB ?aS ?aL ?_; (case aP => exact rfl); (case aB => exact hB_); (case aF => exact (fun k_ hk => trivial)); (case aO => exact hC_); (case aS => exact (aD hB_)); (case aL => have h1_ := NU.out; have h2_ := C10.out; omega); intro vu w12 ho hb hgr hat; rw [← NU2.out] at ho; have n0_ := ah.mk (cZ (g := g) (o := (.cells #[.slice (some ads) ls.length cs, .slice (some add_) ld.length cd, .bool false, .int .i64 mo, .slice Ag fd.length cg] 96 (0, 0))) hG_ hgr (Kd.jv HC.out HG.out (by decide))); have n1_ := ah.mk hb; have n2_ := ah.mk (Kept.jK (S := (fun k_ => k_ = g ∨ P0_ k_)) hgr hK_ (fun k_ e_ => .inr (HVB.out k_ e_))); have n3_ := ah.mk (Kd.ny hO_ hgr hat); have n4_ := ah.mk ho; clear HG HB HK HO HC HVB; have HG := n0_; have HB := n1_; have HK := n2_; have HO := n3_; have HU2 := n4_; clear n0_ n1_ n2_ n3_ n4_ ho hb hgr hat; obtain ⟨Av, cv, ev⟩ := Kd.bE HU2.out; subst ev) | ((with_reducible refine au (f := 73) rfl ?_); refine oG _ rfl rfl Tryz.func73 (by kernel_rfl) rfl #[.pointer (some ⟨g, 0, none⟩), .string t, (.slice Av us2.length cv)] rfl hA_ ?_; refine (IH.out k1 (by have := HK1.out; omega) g _ cs ls _ cd ld mo _ t Av cv us2 (fun k_ => (P0_ k_ ∨ w.heap.size ≤ k_) ∧ some k_ ≠ ((.slice Av us2.length cv) : Value).ownBlock) fd q w0 _ hB_ hG_ HG0.out (Kd.nN HS.out hK_ (fun k_ hk_ => hk_.elim (fun e_ => .inl (.inl e_)) (fun h_ => h_.1.elim (fun a_ => .inl (.inr a_)) .inr))) HCS.out (Kd.nN HD.out hK_ (fun k_ hk_ => hk_.elim (fun e_ => .inl (.inl e_)) (fun h_ => h_.1.elim (fun a_ => .inl (.inr a_)) .inr))) HCD.out (fun W_ hk_ => Oe.apart (Kd.aU (Kd.jO rfl hU_) (fun k_ e_ h2_ => h2_.elim (fun e2_ => Kd.jv HU2.out HG.out (by decide) (e2_ ▸ e_)) (fun h_ => h_.2 e_))) hk_) ((Kd.aQ HU2.out).2.1) hO_ (by have h_ := A5_.out; rw [NU.out] at h_; rw [NU2.out, List.length_append, List.length_singleton]; exact h_)).mono ?_; rintro e w13 ⟨rfl, v3, hG, hO, hb, hK⟩; refine ⟨_, rfl, ?_⟩; have n0_ := ah.mk hG; have n1_ := ah.mk hb; have n2_ := ah.mk (Kept.then_ (S := (fun k_ => k_ = g ∨ P0_ k_)) hK_ hK (fun k_ hk_ => hk_.elim (fun e_ => .inl (.inl e_)) (fun h_ => h_.1.elim (fun a_ => .inl (.inr a_)) .inr))); have n3_ := ah.mk (Kd.aU (ok' := (fun k_ => (P0_ k_ ∨ w.heap.size ≤ k_))) hO (fun k_ hk_ => hk_.elim (fun h_ => h_.1) (fun h_ => .inr (Nat.le_trans (hK_ : Kept w _ (fun k_ => k_ = g ∨ P0_ k_)).1 h_)))); clear HG HB HK HO HU2; have HG := n0_; have HB := n1_; have HK := n2_; have HO := n3_; clear n0_ n1_ n2_ n3_ hG hO hb hK))
             go_roundg k1
             case measure => have := HK1.out; omega
             case rel => exact ⟨(wrap64 (i + 1)), q, _, (by first | rfl | (simp; done) | (simp [*]; done)), H', ⟨by have := HK1.out; omega⟩, ⟨hG_⟩, ⟨hO_⟩, ⟨hB_⟩, ⟨hK_⟩⟩
            ·rw [if_neg c10] at H
             exact absurd H (by simp)
           ·replace c9 := Bool.eq_false_iff.mpr c9
            subst c9
            simp only [Bool.false_eq_true, if_false] at H
            have H' := ah.mk H
            clear H
            go_upto_region 8 with (fail)
            go_region_held3 (fun w' => w'.cell? ⟨g, 4, none⟩ = some (.slice Ag fd.length cg) ∧ w'.cell? ⟨g, 3, none⟩ = some (.int .i64 mo)) (go_keep) (fail)
            clear hcg3 hcg4 hcg0
            go_wp2_with (first | ((with_reducible refine au (f := 92) rfl ?_); refine oG _ rfl rfl Tryz.func92 (by kernel_rfl) rfl #[.string p, .string s] rfl hA_ ?_; refine (aJ.calls k1 p s false _ A3.out).mono ?_; rintro e w9 ⟨rfl, hb⟩; refine ⟨_, rfl, ?_⟩; replace HG := kb_ HG (hb.below); replace HO := ro_ HO (hb.below); replace HB := bs_ (w := w0) (hb.below); replace HK := ks_ (w := w) (hb.below); clear hb hcg2; have hcg2 : w9.cell? ⟨g, 2, none⟩ = some (.bool false) := (ak HG.out 2).trans rfl))
            go_roundg k1
            case measure => have := HK1.out; omega
            case rel => exact ⟨(wrap64 (i + 1)), fd, _, (by first | rfl | (simp; done) | (simp [*]; done)), H', ⟨by have := HK1.out; omega⟩, ⟨hG_⟩, ⟨hO_⟩, ⟨hB_⟩, ⟨hK_⟩⟩
         ·rw [if_neg c7] at H
          exact absurd H (by simp)
        ·rw [if_neg c6] at H
         have c6b : decide (i < (di.length : Int)) = false := decide_eq_false c6
         clear c6
         obtain rfl := Option.some.inj H
         clear H
         go_wp2
         (try simp only [Exit.inBlock, Exit.then]); first | refine bodyPost_ret (results_none rfl _ _ _) rfl ?_ | refine bodyPost_end (results_none rfl _ _ _) rfl ?_
         exact ⟨rfl, _, hG_, hO_, hB_, hK_⟩
     ·rw [if_neg c5] at H
      exact absurd H (by simp)
    ·rw [if_neg c4] at H
     exact absurd H (by simp)
   ·rw [if_neg c3] at H
    exact absurd H (by simp)
def eZ.f (k : Nat) (Dp : Int) (Dq : Int) (Dr : Oo) (Dt : List (S70)) (Du : List Int) (Dv : Int) (a1 : Oo) (l2 : List (S73)) (l3 : List Oo) : Option (List Oo) := (jB.f k Dp Dq Dr Dt Du Dv).bind fun p => if p = true then ((eu.f k Dp Dq Dr a1).bind fun q => if q = true then ((eT.f k Dp Dq Dr).bind fun ls => (eY.f k Dp Dq Dr Dt Du Dv a1 l2 l3).bind fun ld => Oe.f k ls ld 30 a1 0 []) else some []) else some []
theorem eZ.far {W : World} {g gb t : Nat} {cs : Array Value} (hb : W.heap[gb]? = some (.cells cs t (0, 0))) (hne : gb ≠ g) (v0 v1 v2 v3 v4 : Value) : (((((W.setCell ⟨g, 0, none⟩ v0).setCell ⟨g, 1, none⟩ v1).setCell ⟨g, 2, none⟩ v2).setCell ⟨g, 3, none⟩ v3).setCell ⟨g, 4, none⟩ v4).heap[gb]? = some (.cells cs t (0, 0)) :=
 bX (bX (bX (bX (bX hb (p := ⟨g, 0, none⟩) hne v0) (p := ⟨g, 1, none⟩) hne v1) (p := ⟨g, 2, none⟩) hne v2) (p := ⟨g, 3, none⟩) hne v3) (p := ⟨g, 4, none⟩) hne v4
theorem eZ.fin {w W : World} {g : Nat} {v0 v1 v2 v3 v4 : Value} {ls : List (List Int)} {ld : List (List Oo)} (h1 : W.heap[g]? = some (.cells #[.slice none 0 0, .slice none 0 0, .bool false, .int .i64 0, .slice none 0 0] 96 (0, 0))) (h2 : w.heap.size ≤ g) (h3 : Kd.S (Kd.slice 3 (Kd.int .i64)) 25 W w.heap.size (fun _ => True) v0 ls) (h4 : Kd.S (Kd.slice 9 Kd.string) 29 W w.heap.size (fun _ => True) v1 ld) (h5 : Below w.heap.size w W) :
  (((((W.setCell ⟨g, 0, none⟩ v0).setCell ⟨g, 1, none⟩ v1).setCell ⟨g, 2, none⟩ v2).setCell ⟨g, 3, none⟩ v3).setCell ⟨g, 4, none⟩ v4).heap[g]? = some (.cells #[v0, v1, v2, v3, v4] 96 (0, 0)) ∧ Kd.S (Kd.slice 3 (Kd.int .i64)) 25 (((((W.setCell ⟨g, 0, none⟩ v0).setCell ⟨g, 1, none⟩ v1).setCell ⟨g, 2, none⟩ v2).setCell ⟨g, 3, none⟩ v3).setCell ⟨g, 4, none⟩ v4) w.heap.size (fun _ => True) v0 ls ∧ Kd.S (Kd.slice 9 Kd.string) 29 (((((W.setCell ⟨g, 0, none⟩ v0).setCell ⟨g, 1, none⟩ v1).setCell ⟨g, 2, none⟩ v2).setCell ⟨g, 3, none⟩ v3).setCell ⟨g, 4, none⟩ v4) w.heap.size (fun _ => True) v1 ld ∧ Below w.heap.size w (((((W.setCell ⟨g, 0, none⟩ v0).setCell ⟨g, 1, none⟩ v1).setCell ⟨g, 2, none⟩ v2).setCell ⟨g, 3, none⟩ v3).setCell ⟨g, 4, none⟩ v4) := by
 have q0 := aI h1 0 v0 rfl
 have q1 := aI q0 1 v1 rfl
 have q2 := aI q1 2 v2 rfl
 have q3 := aI q2 3 v3 rfl
 have q4 := aI q3 4 v4 rfl
 exact ⟨q4, Kd.oo (Kd.oo (Kd.oo (Kd.oo (Kd.oo h3 h1 (by decide) 0 v0) q0 (by decide) 1 v1) q1 (by decide) 2 v2) q2 (by decide) 3 v3) q3 (by decide) 4 v4, Kd.oo (Kd.oo (Kd.oo (Kd.oo (Kd.oo h4 h1 (by decide) 0 v0) q0 (by decide) 1 v1) q1 (by decide) 2 v2) q2 (by decide) 3 v3) q3 (by decide) 4 v4, dx (dx (dx (dx (dx h5 h2) h2) h2) h2) h2⟩
set_option maxHeartbeats 8000000 in
set_option maxRecDepth 100000 in
theorem eZ.calls (k : Nat) (Dp : Int) (Dq : Int) (Dr : Oo) (A0_3 : Option Addr) (c0_3 : Nat) (Dt : List (S70)) (A0_4 : Option Addr) (c0_4 : Nat) (Du : List Int) (Dv : Int) (a1 : Oo) (A2 : Option Addr) (c2 : Nat) (l2 : List (S73)) (A3 : Option Addr) (c3 : Nat) (l3 : List Oo) (r : List Oo) (w : World) (hr0_3 : Kd.C k70 w A0_3 Dt.length Dt) (hc0_3 : Dt.length ≤ c0_3) (hr0_4 : Kd.C (Kd.int .i64) w A0_4 Du.length Du) (hc0_4 : Du.length ≤ c0_4) (hr2 : Kd.C k73 w A2 l2.length l2) (hc2 : l2.length ≤ c2) (hr3 : Kd.C Kd.string w A3 l3.length l3) (hc3 : l3.length ≤ c3) (h : eZ.f k Dp Dq Dr Dt Du Dv a1 l2 l3 = some r) :
  Calls Tryz.prog 36 #[.agg #[.int .i64 Dp, .int .i64 Dq, .string Dr, .slice A0_3 Dt.length c0_3, .slice A0_4 Du.length c0_4, .int .i64 Dv], .string a1, .slice A2 l2.length c2, .slice A3 l3.length c3] w fun e w' => ∃ v0_ : Value, e = .returned (v0_) ∧ Kd.R Kd.string 9 w' w.heap.size (fun _ => True) v0_ r ∧ Below w.heap.size w w' := by
 have hu38 := Tryz.underlying38
 have hu35 := Tryz.underlying35
 have HR0_3 := ah.mk hr0_3
 have HC0_3 := ah.mk hc0_3
 have HR0_4 := ah.mk hr0_4
 have HC0_4 := ah.mk hc0_4
 have HR2 := ah.mk hr2
 have HC2 := ah.mk hc2
 have HR3 := ah.mk hr3
 have HC3 := ah.mk hc3
 have HB := ah.mk (Below.refl w.heap.size w)
 clear hr0_3 hc0_3 hr0_4 hc0_4 hr2 hc2 hr3 hc3
 unfold eZ.f at h
 obtain ⟨p, h1, h⟩ := Option.bind_eq_some_iff.mp h
 have A1 := ah.mk h1
 clear h1
 by_cases c1 : p = true
 ·subst c1
  rw [if_pos rfl] at h
  obtain ⟨q, h2, h⟩ := Option.bind_eq_some_iff.mp h
  have A2_ := ah.mk h2
  clear h2
  by_cases c2_ : q = true
  ·subst c2_
   rw [if_pos rfl] at h
   obtain ⟨ls, h3, h⟩ := Option.bind_eq_some_iff.mp h
   obtain ⟨ld, h4, h⟩ := Option.bind_eq_some_iff.mp h
   have A3_ := ah.mk h3
   have A4_ := ah.mk h4
   have A5_ := ah.mk h
   clear h h3 h4
   go_enter Tryz.func36, Tryz.ntmps36
   go_upto_region 3 with (first | ((with_reducible refine aG (N := 4) rfl ?_); refine lH ?hg (N := 4) ?hd (cs := #[.int .i64 Dp, .int .i64 Dq, .string Dr, .slice A0_3 Dt.length c0_3, .slice A0_4 Du.length c0_4, .int .i64 Dv]) (t := 38) ?hr ?_; (case hd => rfl); (case hg => rfl); (case hr => first | (go_simp; done) | (go_simp; rfl)); intro gb4 hg w6 hbox hb; have n0_ := ah.mk hbox; have n1_ := ah.mk (eO hB_ hb); clear HB; have BK4 := n0_; have HB := n1_; clear n0_ n1_ hb hbox hg; obtain ⟨hcz0, hcz1, hcz2, hcz3, hcz4, hcz5⟩ := cq_ BK4.out) | ((with_reducible refine au (f := 46) rfl ?_); refine oG _ rfl rfl Tryz.func46 (by kernel_rfl) rfl #[.agg #[.int .i64 Dp, .int .i64 Dq, .string Dr, .slice A0_3 Dt.length c0_3, .slice A0_4 Du.length c0_4, .int .i64 Dv]] rfl hA_ ?_; refine (jB.calls k Dp Dq Dr _ _ Dt _ _ Du Dv true _ (Kd.dz HR0_3.out hB_) HC0_3.out (Kd.dz HR0_4.out hB_) HC0_4.out A1.out).mono ?_; rintro e w7 ⟨rfl, hb⟩; refine ⟨_, rfl, ?_⟩; clear hcz0 hcz1 hcz2 hcz3 hcz4 hcz5; replace BK4 := kb_ BK4 hb; replace HB := bs_ (w := w) hb; clear hb; obtain ⟨hcz0, hcz1, hcz2, hcz3, hcz4, hcz5⟩ := cq_ BK4.out) | (go_at_call 71; refine (eu.calls k Dp Dq Dr a1 true _ A2_.out).mono ?_; rintro e w8 ⟨rfl, hb⟩; clear hcz0 hcz1 hcz2 hcz3 hcz4 hcz5; replace BK4 := kb_ BK4 hb; replace HB := bs_ (w := w) hb; clear hb; obtain ⟨hcz0, hcz1, hcz2, hcz3, hcz4, hcz5⟩ := cq_ BK4.out))
   go_cut [9] (fun v9 wc => ∃ (g : Nat) (vl vd : Value), v9 = .pointer (some ⟨g, 0, none⟩) ∧ ah (w.heap.size ≤ g) ∧ ah (wc.heap[g]? = some (.cells #[vl, vd, .bool false, .int .i64 30, .slice none 0 0] 96 (0, 0))) ∧ ah (Kd.S (Kd.slice 3 (Kd.int .i64)) 25 wc w.heap.size (fun _ => True) vl ls) ∧ ah (Kd.S (Kd.slice 9 Kd.string) 29 wc w.heap.size (fun _ => True) vd ld) ∧ ah (Below w.heap.size w wc))
   case first =>
    go_region_held3 (fun w' => w'.cell? ⟨gb4, 0, none⟩ = some (.int .i64 Dp) ∧ w'.cell? ⟨gb4, 1, none⟩ = some (.int .i64 Dq) ∧ w'.cell? ⟨gb4, 2, none⟩ = some (.string Dr) ∧ w'.cell? ⟨gb4, 3, none⟩ = some (.slice A0_3 Dt.length c0_3) ∧ w'.cell? ⟨gb4, 4, none⟩ = some (.slice A0_4 Du.length c0_4) ∧ w'.cell? ⟨gb4, 5, none⟩ = some (.int .i64 Dv)) (first | exact cq_ h5_ | exact cq_ (eZ.far BK4.out (Ce BK4.out HGA.out (by decide)) (.slice Al ls.length cl_) (.slice Ad ld.length cd_) (.bool false) (.int .i64 30) (.slice none 0 0)) | go_keep) (first | (go_at_call 72; refine (eT.calls k Dp Dq Dr ls _ A3_.out).mono ?_; rintro e w9 ⟨vl, rfl, hol, hb⟩; have n2_ := ah.mk (Kd.ko hol (aD hB_)); (try (have HGA : ah (w9.heap[w8.heap.size]? = some (.cells #[.slice none 0 0, .slice none 0 0, .bool false, .int .i64 0, .slice none 0 0] 96 (0, 0))) := ⟨bA (heap_alloc_new w8.drew _) hb⟩; have HBA := HB)); replace BK4 := kb_ BK4 hb; replace HB := bs_ (w := w) hb; clear hb; have HL := n2_; clear n2_ hol; obtain ⟨Al, cl_, el⟩ := Kd.jE HL.out; subst el) | (go_at_call 14; refine (eY.calls k Dp Dq Dr _ _ Dt _ _ Du Dv a1 _ _ l2 _ _ l3 ld _ (Kd.dz HR0_3.out hB_) HC0_3.out (Kd.dz HR0_4.out hB_) HC0_4.out (Kd.dz HR2.out hB_) HC2.out (Kd.dz HR3.out hB_) HC3.out A4_.out).mono ?_; rintro e w10 ⟨vd, rfl, hod, hb⟩; have n2_ := ah.mk (Kd.ko hod (aD hB_)); have n3_ := ah.mk (Kd.eG hL_ hb); (first | (have n4_ := ah.mk (bA HGA.out hb); clear HGA; have HGA := n4_; clear n4_) | (have HGA := ah.mk (bA (heap_alloc_new _ _) hb); have HBA := HB) | skip); (try (have hga0 := (ak HGA.out 0).trans (rfl : _ = some _); have hga1 := (ak HGA.out 1).trans (rfl : _ = some _); have hga2 := (ak HGA.out 2).trans (rfl : _ = some _); have hga3 := (ak HGA.out 3).trans (rfl : _ = some _); have hga4 := (ak HGA.out 4).trans (rfl : _ = some _); have hgf0 := aA HGA.out 0; have hgf1 := aA HGA.out 1; have hgf2 := aA HGA.out 2; have hgf3 := aA HGA.out 3; have hgf4 := aA HGA.out 4)); clear HL; replace BK4 := kb_ BK4 hb; replace HB := bs_ (w := w) hb; clear hb; have HL := n3_; have HD := n2_; clear n2_ n3_ hod; obtain ⟨Ad, cd_, ed⟩ := Kd.jE HD.out; subst ed))
    ·go_wp2
     go_meet
     case rel =>
      have hl := Kd.fZ HL.out (.cells #[.slice Al ls.length cl_, .slice Ad ld.length cd_, .bool false, .int .i64 30, .slice none 0 0] 96)
      have hd := Kd.fZ HD.out (.cells #[.slice Al ls.length cl_, .slice Ad ld.length cd_, .bool false, .int .i64 30, .slice none 0 0] 96)
      exact ⟨_, _, _, rfl, ⟨aD HB.out⟩, ⟨sV _ _⟩, ⟨hl⟩, ⟨hd⟩, ⟨fA HB.out _⟩⟩
    ·go_wp2
     go_meet
     case rel =>
      have hf := eZ.fin (v2 := .bool false) (v3 := .int .i64 30) (v4 := .slice none 0 0) HGA.out (Nat.le_trans (aD HBA.out) (Nat.le_refl _)) HL.out HD.out HB.out
      exact ⟨_, _, _, rfl, ⟨aD HBA.out⟩, ⟨hf.1⟩, ⟨hf.2.1⟩, ⟨hf.2.2.1⟩, ⟨hf.2.2.2⟩⟩
    ·go_wp2
     go_meet
     case rel =>
      have hf := eZ.fin (v2 := .bool false) (v3 := .int .i64 30) (v4 := .slice none 0 0) HGA.out (Nat.le_trans (aD HBA.out) (Nat.le_refl _)) HL.out HD.out HB.out
      exact ⟨_, _, _, rfl, ⟨aD HBA.out⟩, ⟨hf.1⟩, ⟨hf.2.1⟩, ⟨hf.2.2.1⟩, ⟨hf.2.2.2⟩⟩
   case rest =>
    obtain ⟨g, vl, vd, rfl, HGE, HG, HL, HD, HB⟩ := hcut
    obtain ⟨Al, cl_, el⟩ := Kd.jE HL.out
    obtain ⟨Ad, cd_, ed⟩ := Kd.jE HD.out
    subst el ed
    go_wp2_with (first | ((with_reducible refine au (f := 73) rfl ?_); refine oG _ rfl rfl Tryz.func73 (by kernel_rfl) rfl #[.pointer (some ⟨g, 0, none⟩), .string a1, .slice none 0 0] rfl hA_ ?_; refine (Oe.calls k g _ _ ls _ _ ld 30 _ a1 none 0 [] (fun _ => False) [] r w _ HB.out HG.out HGE.out (Kd.nu (ok := fun k_ => True ∧ k_ ≠ g) (Kd.kg (Kd.S_R HL.out) HG.out (by decide)) (fun k_ hk_ hs_ => hs_.elim hk_.2 (fun h_ => h_))) ((Kd.gU HL.out).2.1) (Kd.nu (ok := fun k_ => True ∧ k_ ≠ g) (Kd.kg (Kd.S_R HD.out) HG.out (by decide)) (fun k_ hk_ hs_ => hs_.elim hk_.2 (fun h_ => h_))) ((Kd.gU HD.out).2.1) (fun W_ hk_ => Kd.Bv _ _) (Nat.le_refl _) (Kd.kI _ _ _ _ _) A5_.out).mono ?_; rintro e w20 ⟨rfl, v_, hG, hO, hb, hK⟩; refine ⟨_, rfl, ?_⟩; have n0_ := ah.mk hb; have n1_ := ah.mk (Kd.aU (ok' := fun _ => True) hO (fun _ _ => trivial)); clear HB HG HL HD; have HB := n0_; have HO := n1_; clear n0_ n1_ hb hO hK; obtain ⟨Av, cv, ev⟩ := Kd.bE HO.out; subst ev; have hcg4 : w20.cell? ⟨g, 4, none⟩ = some (.slice Av r.length cv) := (ak hG 4).trans rfl; clear hG))
    go_ret
    exact ⟨_, rfl, hO_, hB_⟩
  ·replace c2_ := Bool.eq_false_iff.mpr c2_
   subst c2_
   simp only [Bool.false_eq_true, if_false, Option.some.injEq] at h
   subst h
   go_enter Tryz.func36, Tryz.ntmps36
   go_wp2_with (first | ((with_reducible refine aG (N := 4) rfl ?_); refine lH ?hg (N := 4) ?hd (cs := #[.int .i64 Dp, .int .i64 Dq, .string Dr, .slice A0_3 Dt.length c0_3, .slice A0_4 Du.length c0_4, .int .i64 Dv]) (t := 38) ?hr ?_; (case hd => rfl); (case hg => rfl); (case hr => first | (go_simp; done) | (go_simp; rfl)); intro gb4 hg w6 hbox hb; have n0_ := ah.mk hbox; have n1_ := ah.mk (eO hB_ hb); clear HB; have BK4 := n0_; have HB := n1_; clear n0_ n1_ hb hbox hg; obtain ⟨hcz0, hcz1, hcz2, hcz3, hcz4, hcz5⟩ := cq_ BK4.out) | ((with_reducible refine au (f := 46) rfl ?_); refine oG _ rfl rfl Tryz.func46 (by kernel_rfl) rfl #[.agg #[.int .i64 Dp, .int .i64 Dq, .string Dr, .slice A0_3 Dt.length c0_3, .slice A0_4 Du.length c0_4, .int .i64 Dv]] rfl hA_ ?_; refine (jB.calls k Dp Dq Dr _ _ Dt _ _ Du Dv true _ (Kd.dz HR0_3.out hB_) HC0_3.out (Kd.dz HR0_4.out hB_) HC0_4.out A1.out).mono ?_; rintro e w7 ⟨rfl, hb⟩; refine ⟨_, rfl, ?_⟩; clear hcz0 hcz1 hcz2 hcz3 hcz4 hcz5; replace BK4 := kb_ BK4 hb; replace HB := bs_ (w := w) hb; clear hb; obtain ⟨hcz0, hcz1, hcz2, hcz3, hcz4, hcz5⟩ := cq_ BK4.out) | (go_at_call 71; refine (eu.calls k Dp Dq Dr a1 false _ A2_.out).mono ?_; rintro e w8 ⟨rfl, hb⟩; clear hcz0 hcz1 hcz2 hcz3 hcz4 hcz5; replace BK4 := kb_ BK4 hb; replace HB := bs_ (w := w) hb; clear hb; obtain ⟨hcz0, hcz1, hcz2, hcz3, hcz4, hcz5⟩ := cq_ BK4.out))
   go_ret
   exact ⟨_, rfl, Kd.kI _ _ _ _ _, hB_⟩
 ·replace c1 := Bool.eq_false_iff.mpr c1
  subst c1
  simp only [Bool.false_eq_true, if_false, Option.some.injEq] at h
  subst h
  go_enter Tryz.func36, Tryz.ntmps36
  go_wp2_with (first | ((with_reducible refine aG (N := 4) rfl ?_); refine lH ?hg (N := 4) ?hd (cs := #[.int .i64 Dp, .int .i64 Dq, .string Dr, .slice A0_3 Dt.length c0_3, .slice A0_4 Du.length c0_4, .int .i64 Dv]) (t := 38) ?hr ?_; (case hd => rfl); (case hg => rfl); (case hr => first | (go_simp; done) | (go_simp; rfl)); intro gb4 hg w6 hbox hb; have n0_ := ah.mk hbox; have n1_ := ah.mk (eO hB_ hb); clear HB; have BK4 := n0_; have HB := n1_; clear n0_ n1_ hb hbox hg; obtain ⟨hcz0, hcz1, hcz2, hcz3, hcz4, hcz5⟩ := cq_ BK4.out) | ((with_reducible refine au (f := 46) rfl ?_); refine oG _ rfl rfl Tryz.func46 (by kernel_rfl) rfl #[.agg #[.int .i64 Dp, .int .i64 Dq, .string Dr, .slice A0_3 Dt.length c0_3, .slice A0_4 Du.length c0_4, .int .i64 Dv]] rfl hA_ ?_; refine (jB.calls k Dp Dq Dr _ _ Dt _ _ Du Dv false _ (Kd.dz HR0_3.out hB_) HC0_3.out (Kd.dz HR0_4.out hB_) HC0_4.out A1.out).mono ?_; rintro e w7 ⟨rfl, hb⟩; refine ⟨_, rfl, ?_⟩; clear hcz0 hcz1 hcz2 hcz3 hcz4 hcz5; replace BK4 := kb_ BK4 hb; replace HB := bs_ (w := w) hb; clear hb; obtain ⟨hcz0, hcz1, hcz2, hcz3, hcz4, hcz5⟩ := cq_ BK4.out))
  go_ret
  exact ⟨_, rfl, Kd.kI _ _ _ _ _, hB_⟩
def eD.l0 : Nat → List Oo → Int → Int → Option (Int)
 | 0, _, _, _ => none
 | k + 1, a, b, c => if c < (a.length : Int) then if 0 ≤ c then (dK.f k b).bind fun d => if (fB ByteArray.empty a c).toList = d.toList then eD.l0 k a (wrap64 (b + 1)) (wrap64 (c + 1)) else some (-1) else none else some b
def eD.f (k : Nat) (l0 : List Oo) (a1 : Int) : Option (Int) := eD.l0 k l0 a1 0
theorem eD.calls (k : Nat) (X : Option Addr) (Y : Nat) (l0 : List Oo) (a1 r : Int) (w : World) (A : Kd.C Kd.string w X l0.length l0) (D : l0.length ≤ Y) (h : eD.f k l0 a1 = some r) :
  Calls Tryz.prog 37 #[.slice X l0.length Y, .int .i64 a1] w fun e w' => e = .returned (.int .i64 r) ∧ Below w.heap.size w w' := by
 have O := ah.mk A;have xa := ah.mk D;clear A D;have HB := ah.mk (bR w.heap.size w);have H : (eD.l0 k l0 a1 0) = some r := h;clear h;have H' := ah.mk H;clear H;go_enter Tryz.func37, Tryz.ntmps37;go_wp2
 go_loopg [1, 5] k (fun kq v1 v5 w' => ∃ (u : Int) (o : Int), v1 = .int .i64 u ∧ v5 = .int .i64 o ∧ ah (eD.l0 kq l0 u o = some r) ∧ ah (kq ≤ k) ∧ ah (Below w.heap.size w w'))
 case atStart => exact ⟨_, _, EQ, EQ, H', ⟨nR _⟩, ⟨BL⟩⟩
 case round =>
  clear H';obtain ⟨u, o, rfl, rfl, HA, E, HB⟩ := hrel
  cases gk with
  | zero => exact absurd HA.out (by simp [eD.l0])
  | succ k1 =>
   have H := HA.out;clear HA;simp only [eD.l0] at H;replace H := ifD H; rcases H with ⟨G, H⟩ | ⟨G, H⟩
   ·replace H := ifN H; obtain ⟨Z, H⟩ := H;replace H := be H; obtain ⟨I, A5, H⟩ := H;replace H := ah.mk H;(try go_wp2);replace HB := ah.mk (bG HB.out);have x : 0 ≤ (o : Int) := OD;have y : o < (l0.length : Int) := OD;obtain ⟨z, J, a⟩ := Kd.iN O.out o x y;have m := a
    cases J
    (try replace a := (HB.out.cell (wB w _ a)).trans a);replace x := eq_true x;replace y := eq_true y;refine iT (n := 7) (S := fun w' => w'.cell? (z.add (o).toNat) = some (.string (fB ByteArray.empty l0 o))) (ds := []) #[F,F,F,F,F,F,F] (by kernel_rfl) rfl rfl (((HB.out.cell (wB w _ m)).trans m)) (fun hHeld => ?_);generalize wr.drew = P at HB a hHeld ⊢;refine puS (i := 0) (N := some 12) #[T,F,F,F,F,F,F] (by kernel_rfl) ?_;refine puS (i := 1) (N := some 13) #[T,T,F,F,F,F,F] (by kernel_rfl) ?_;refine puS (i := 2) (N := some 14) #[T,T,T,F,F,F,F] (by kernel_rfl) ?_;refine puS (i := 4) (N := some 16) #[T,T,T,F,T,F,F] (by kernel_rfl) ?_;refine rV (i := 3) (N := some 15) (v := ?_) (a' := ?_) #[T,T,T,T,T,F,F] rfl rfl (by kernel_rfl) (fun _ _ _ h => h) (Or.inl ⟨by rfl, ?_⟩) hHeld ?_ ?_
    rotate_left
    ·intro w' s0;go_simp;with_reducible rfl
    rotate_left
    ·simp only [Act.put, PT, gH, iE];rfl
    refine jD (i := 5) (N := some 17) #[T,T,T,T,T,T,F] rfl rfl (by kernel_rfl) (by decide) (fun K hK => ?_);refine iD Tryz.func53 #[.int .i64 u] ?_;(with_reducible refine (dK.calls k1 u I _ A5.out).mono ?_);rintro e U ⟨rfl, hb⟩;refine ⟨_, rfl, ?_⟩;replace HB := BS (w := w) hb;(try clear hb);refine hK.out _ _ (((HB.out.cell (wB w _ m)).trans m)) (fun hHeld => ?_);clear hK K;refine nrm (some 17) ?_;replace H := H.out;replace H := ifE H; rcases H with ⟨L, M, H⟩ | ⟨c6, L, M, H⟩
    ·have H' := ah.mk H;clear H;refine puS (i := 6) (N := some 18) #[T,T,T,T,T,T,T] (by kernel_rfl) ?_;refine gN (by kernel_rfl) ?_;(try go_wp2);go_roundg k1;case measure => have := E.out; omega
     case rel => exact ⟨_, _, EQ, EQ, H', ks E, ⟨BL⟩⟩
    ·obtain rfl := sI H;refine puS (i := 6) (N := some 18) #[T,T,T,T,T,T,T] (by kernel_rfl) ?_;refine gN (by kernel_rfl) ?_;(try go_wp2);go_ret;exact ⟨EWW, BL⟩
   ·obtain rfl := sI H;go_wp2;go_ret;exact ⟨EWW, BL⟩
end Go.Proofs.YtikmdgmnhbodjaaGreat.PFnExactSolvePuzzle
