/- Walks of functions: what each computes. -/
import Derived.Test.YtdbefmkcondbgaaGreatDoorZHaOnSoG0
import Derived.Test.YtdbefmkcondbgaaGreatDoorZHaOnSoG6
import Derived.Test.YtdbefmkcondbgaaGreatDoorZHaOnSoG8
import Derived.Test.YtdbefmkcondbgaaGreatDoorZHaOnSoG9
namespace Go.Proofs.YtdbefmkcondbgaaGreatDoor.PFnExactHasOneSolution
open Go.RowKit Go.Proofs.Yw.PrintWords Go.Proofs.Yw.PrintLast Go.Proofs.Yw.PrintMore Go.Proofs.YtdbefmkcondbgaaGreatDoor.Sq
attribute [local go_sem] kT kV mF mG jO jP kU kW
set_option maxHeartbeats 8000000
set_option maxRecDepth 100000
set_option linter.unusedVariables false
set_option linter.unusedSimpArgs false
def jv.f (k : Nat) (l0 : List dU) (a1 : aj) : Option (Bool) := (dn.f k l0).bind fun t655 => if t655 = true then (bQ.f k a1).bind fun t656 => if t656 = true then (bA.f k l0 (wrap64 ((l0.length : Int) - 1)) a1).bind fun t657 => some t657 else some false else some false
theorem jv.calls (k : Nat) (z : Option Addr) (A : Nat) (l0 : List dU) (y : aj) (r : Bool) (w : World) (a : Kd.C jV w z l0.length l0) (m : l0.length ≤ A) (h : jv.f k l0 y = some r) :
  Calls Tryz.prog 97 #[.slice z l0.length A, .string y] w fun e w' => e = .returned (.bool r) ∧ Below w.heap.size w w' := by
 have o := ah.mk a;have u := ah.mk m;clear a m;have HB := ah.mk (bR w.heap.size w);unfold jv.f at h;have H := h;clear h;replace H := be H; obtain ⟨G, J, H⟩ := H;replace H := ah.mk H;go_enter Tryz.func97, Tryz.ntmps97;go_wp2_with (first | ((with_reducible refine aA (f := 92) rfl ?_); refine bg (some 6) Tryz.func92 #[.slice z l0.length A] ?_; (with_reducible refine (dn.calls k _ _ l0 _ _ ?s1_ ?s2_ J.out).mono ?_); (case s1_ => repeat (first | exact o.out | (with_reducible refine Kd.ig ?_ _) | (with_reducible refine Kd.iq ?_ _) | (with_reducible refine Kd.jh ?_))); (case s2_ => exact u.out); rintro e D ⟨rfl, hb⟩; refine ⟨_, rfl, ?_⟩; replace HB := BS (w := w) hb; (try clear hb); refine dx ?_));refine Hide.mk ?_;replace H := H.out;replace H := ifB H; rcases H with ⟨rfl, H⟩ | ⟨rfl, H⟩
 ·replace H := be H; obtain ⟨I, K, H⟩ := H;replace H := ah.mk H;go_wp2_with (first | (go_at_call 101; (with_reducible refine (bQ.calls k y _ _ K.out).mono ?_); rintro e w' ⟨rfl, ⟨nd, rfl⟩⟩; refine dx ?_));refine Hide.mk ?_;replace H := H.out;replace H := ifB H; rcases H with ⟨rfl, H⟩ | ⟨rfl, H⟩
  ·replace H := be H; obtain ⟨x, L, H⟩ := H;obtain rfl := sI H;(try go_wp2_with (first | (go_at_call 126; (with_reducible refine (bA.calls k _ _ l0 (wrap64 ((l0.length : Int) - 1)) y x _ ?s1_ ?s2_ L.out).mono ?_); (case s1_ => repeat (first | exact (Kd.eP o.out BL) | (with_reducible refine Kd.ig ?_ _) | (with_reducible refine Kd.iq ?_ _) | (with_reducible refine Kd.jh ?_))); (case s2_ => exact u.out); rintro e E ⟨rfl, hb⟩; replace HB := BS (w := w) hb; (try clear hb))));go_ret;exact ⟨EWW, BL⟩
  ·obtain rfl := sI H;(try go_wp2);go_ret;exact ⟨EWW, BL⟩
 ·obtain rfl := sI H;(try go_wp2);go_ret;exact ⟨EWW, BL⟩
def aQ.g0 (j : Nat) (Mc : Int) (l0_1 : List dU) (l1 : List S57) (a3 s : aj) : Option Bool := (aM.f j a3 s).bind fun p => if p = true then (some true) else some false
def aQ.g1 (j : Nat) (Mc : Int) (l0_1 : List dU) (l1 : List S57) (a3 s : aj) : Option Bool := (aM.f j a3 s).bind fun p => if p = true then (((iB.f j l1 s Mc).bind fun h => if h = true then (some true) else some false)) else some false
def aQ.g2 (j : Nat) (Mc : Int) (l0_1 : List dU) (l1 : List S57) (a3 s : aj) : Option Bool := (aM.f j a3 s).bind fun p => if p = true then ((jv.f j l0_1 s).bind fun m => some m) else some false
def aQ.g3 (j : Nat) (Mc : Int) (l0_1 : List dU) (l1 : List S57) (a3 s : aj) : Option Bool := (aM.f j a3 s).bind fun p => if p = true then (((iB.f j l1 s Mc).bind fun h => if h = true then ((jv.f j l0_1 s).bind fun m => some m) else some false)) else some false
def aQ.g (how : Int) (j : Nat) (Mc : Int) (l0_1 : List dU) (l1 : List S57) (a3 s : aj) : Option Bool := if how = 0 then aQ.g0 j Mc l0_1 l1 a3 s else if how = 1 then aQ.g1 j Mc l0_1 l1 a3 s else if how = 2 then aQ.g2 j Mc l0_1 l1 a3 s else aQ.g3 j Mc l0_1 l1 a3 s
def aQ.f (k : Nat) (Mc : Int) (l0_1 : List dU) (l1 : List S57) (l2 : List aj) (a3 : aj) (a4 : Int) : Option (List aj) := (dJ.f a4 0 3).bind fun q => if q = true then (fO.f k l2 (fun j s => aQ.g a4 j Mc l0_1 l1 a3 s)).bind fun t => iC.f k t else some []
theorem Jk (P : Program) (fn : Fn) (first cap : Array Value) (w : World) : (Instr.makeFunc fn first cap).run P w = .ok (.func fn first cap) w := rfl
attribute [local go_sem] Jk
theorem aQ.Iq (j : Nat) (Mc : Int) (y : Option Addr) (z : Nat) (m : List dU) (A1 : Option Addr) (c1 : Nat) (l1 : List S57) (P s : aj) (b : Bool) (W : World) (g0 g1 : Nat) (g2 g3 : Nat) (h0 : W.heap[g0]? = some (.cells #[.string P] 9 (0, 0))) (h1 : W.heap[g1]? = some (.cells #[.int .i64 0] 3 (0, 0))) (h2 : W.heap[g2]? = some (.cells #[.slice A1 l1.length c1] 39 (0, 0))) (h3 : W.heap[g3]? = some (.cells #[.int .i64 Mc, .slice y m.length z] 75 (0, 0))) (U : Kd.C jV W y m.length m) (Y : m.length ≤ z) (hr1 : Kd.C k57 W A1 l1.length l1) (hc1 : l1.length ≤ c1) (h : aQ.g0 j Mc m l1 P s = some b) :
  Calls Tryz.prog 95 #[.string s, .pointer (some ⟨g0, 0, none⟩), .pointer (some ⟨g1, 0, none⟩), .pointer (some ⟨g2, 0, none⟩), .pointer (some ⟨g3, 0, none⟩)] W fun e w' => e = .returned (.bool b) ∧ Below W.heap.size W w' := by
 have o := ah.mk h0;have u := ah.mk h1;have x := ah.mk h2;have a := ah.mk h3;have HB := ah.mk (bR W.heap.size W);have xj := ah.mk U;have xk := ah.mk Y;have xl := ah.mk hr1;have xm := ah.mk hc1;clear h0 h1 h2 h3 U Y hr1 hc1;have fpc : ∀ (p : Bool) (V : World), aM.f j P s = some p → Calls Tryz.prog 67 #[.string P, .string s] V fun e w' => e = .returned (.bool p) ∧ Below V.heap.size V w' := fun p V q => by first | exact aM.calls j P s p V q | exact (aM.calls j P s p V q).mono (fun e w' hq => ⟨hq.1, hq.2.below⟩)
 have FPC := ah.mk fpc;clear fpc;unfold aQ.g0 at h;obtain ⟨p, hp1, h⟩ := bM h;have HP1 := ah.mk hp1;clear hp1
 cases p with
 | false =>
  rw [if_neg (by decide)] at h;obtain rfl := sI h;clear h;have Z : W.cell? ⟨g0, 0, none⟩ = some (.string P) := (ak o.out 0).trans rfl;have xa := aC o.out 0;have xb : W.cell? ⟨g1, 0, none⟩ = some (.int .i64 0) := (ak u.out 0).trans rfl;have xc := aC u.out 0;have xd : W.cell? ⟨g2, 0, none⟩ = some (.slice A1 l1.length c1) := (ak x.out 0).trans rfl;have xe := aC x.out 0;have xf : W.cell? ⟨g3, 0, none⟩ = some (.int .i64 Mc) := (ak a.out 0).trans rfl;have xg := aC a.out 0;have xh : W.cell? ⟨g3, 1, none⟩ = some (.slice y m.length z) := (ak a.out 1).trans rfl;have xi := aC a.out 1;go_enter Tryz.func95, Tryz.ntmps95;go_wp2_with (first | ((with_reducible refine aA (f := 67) rfl ?_); refine bg _ Tryz.func67 #[.string P, .string s] ?_; refine (FPC.out false _ HP1.out).mono ?_; rintro e w_ ⟨rfl, hb⟩; refine ⟨_, rfl, ?_⟩; replace HB := BS (w := W) hb; replace o := KB o hb; replace u := KB u hb; replace x := KB x hb; replace a := KB a hb; have A : w_.cell? ⟨g0, 0, none⟩ = some (.string P) := (ak o.out 0).trans rfl; have D := aC o.out 0; have E : w_.cell? ⟨g1, 0, none⟩ = some (.int .i64 0) := (ak u.out 0).trans rfl; have G := aC u.out 0; have I : w_.cell? ⟨g2, 0, none⟩ = some (.slice A1 l1.length c1) := (ak x.out 0).trans rfl; have J := aC x.out 0; have K : w_.cell? ⟨g3, 0, none⟩ = some (.int .i64 Mc) := (ak a.out 0).trans rfl; have L := aC a.out 0; have M : w_.cell? ⟨g3, 1, none⟩ = some (.slice y m.length z) := (ak a.out 1).trans rfl; have O := aC a.out 1; clear hb));go_ret;exact ⟨rfl, BL⟩
 | true =>
  rw [if_pos rfl] at h;obtain rfl := sI h;clear h;have Z : W.cell? ⟨g0, 0, none⟩ = some (.string P) := (ak o.out 0).trans rfl;have xa := aC o.out 0;have xb : W.cell? ⟨g1, 0, none⟩ = some (.int .i64 0) := (ak u.out 0).trans rfl;have xc := aC u.out 0;have xd : W.cell? ⟨g2, 0, none⟩ = some (.slice A1 l1.length c1) := (ak x.out 0).trans rfl;have xe := aC x.out 0;have xf : W.cell? ⟨g3, 0, none⟩ = some (.int .i64 Mc) := (ak a.out 0).trans rfl;have xg := aC a.out 0;have xh : W.cell? ⟨g3, 1, none⟩ = some (.slice y m.length z) := (ak a.out 1).trans rfl;have xi := aC a.out 1;go_enter Tryz.func95, Tryz.ntmps95;go_wp2_with (first | ((with_reducible refine aA (f := 67) rfl ?_); refine bg _ Tryz.func67 #[.string P, .string s] ?_; refine (FPC.out true _ HP1.out).mono ?_; rintro e w_ ⟨rfl, hb⟩; refine ⟨_, rfl, ?_⟩; replace HB := BS (w := W) hb; replace o := KB o hb; replace u := KB u hb; replace x := KB x hb; replace a := KB a hb; have A : w_.cell? ⟨g0, 0, none⟩ = some (.string P) := (ak o.out 0).trans rfl; have D := aC o.out 0; have E : w_.cell? ⟨g1, 0, none⟩ = some (.int .i64 0) := (ak u.out 0).trans rfl; have G := aC u.out 0; have I : w_.cell? ⟨g2, 0, none⟩ = some (.slice A1 l1.length c1) := (ak x.out 0).trans rfl; have J := aC x.out 0; have K : w_.cell? ⟨g3, 0, none⟩ = some (.int .i64 Mc) := (ak a.out 0).trans rfl; have L := aC a.out 0; have M : w_.cell? ⟨g3, 1, none⟩ = some (.slice y m.length z) := (ak a.out 1).trans rfl; have O := aC a.out 1; clear hb));go_ret;exact ⟨rfl, BL⟩
theorem aQ.Ir (j : Nat) (Mc : Int) (y : Option Addr) (z : Nat) (x : List dU) (A1 : Option Addr) (c1 : Nat) (l1 : List S57) (P s : aj) (b : Bool) (W : World) (g0 g1 : Nat) (g2 g3 : Nat) (h0 : W.heap[g0]? = some (.cells #[.string P] 9 (0, 0))) (h1 : W.heap[g1]? = some (.cells #[.int .i64 1] 3 (0, 0))) (h2 : W.heap[g2]? = some (.cells #[.slice A1 l1.length c1] 39 (0, 0))) (h3 : W.heap[g3]? = some (.cells #[.int .i64 Mc, .slice y x.length z] 75 (0, 0))) (xr : Kd.C jV W y x.length x) (xs : x.length ≤ z) (hr1 : Kd.C k57 W A1 l1.length l1) (hc1 : l1.length ≤ c1) (h : aQ.g1 j Mc x l1 P s = some b) :
  Calls Tryz.prog 95 #[.string s, .pointer (some ⟨g0, 0, none⟩), .pointer (some ⟨g1, 0, none⟩), .pointer (some ⟨g2, 0, none⟩), .pointer (some ⟨g3, 0, none⟩)] W fun e w' => e = .returned (.bool b) ∧ Below W.heap.size W w' := by
 have m := ah.mk h0;have o := ah.mk h1;have u := ah.mk h2;have a := ah.mk h3;have HB := ah.mk (bR W.heap.size W);have xv := ah.mk xr;have xw := ah.mk xs;have xt := ah.mk hr1;have xu := ah.mk hc1;clear h0 h1 h2 h3 xr xs hr1 hc1;have fpc : ∀ (p : Bool) (V : World), aM.f j P s = some p → Calls Tryz.prog 67 #[.string P, .string s] V fun e w' => e = .returned (.bool p) ∧ Below V.heap.size V w' := fun p V q => by first | exact aM.calls j P s p V q | exact (aM.calls j P s p V q).mono (fun e w' hq => ⟨hq.1, hq.2.below⟩)
 have hsc : ∀ (p : Bool) (V : World), Below W.heap.size W V → iB.f j l1 s Mc = some p → Calls Tryz.prog 96 #[.slice A1 l1.length c1, .string s, .int .i64 Mc] V fun e w' => e = .returned (.bool p) ∧ Below V.heap.size V w' := fun p V hv q => by first | exact iB.calls j _ _ l1 s Mc p V (Kd.eP xt.out hv) xu.out q | exact (iB.calls j _ _ l1 s Mc p V (Kd.eP xt.out hv) xu.out q).mono (fun e w' hq => ⟨hq.1, hq.2.below⟩)
 have FPC := ah.mk fpc;clear fpc;have HSC := ah.mk hsc;clear hsc;unfold aQ.g1 at h;obtain ⟨p, hp1, h⟩ := bM h;have HP1 := ah.mk hp1;clear hp1
 cases p with
 | false =>
  rw [if_neg (by decide)] at h;obtain rfl := sI h;clear h;have U : W.cell? ⟨g0, 0, none⟩ = some (.string P) := (ak m.out 0).trans rfl;have Y := aC m.out 0;have Z : W.cell? ⟨g1, 0, none⟩ = some (.int .i64 1) := (ak o.out 0).trans rfl;have xa := aC o.out 0;have xb : W.cell? ⟨g2, 0, none⟩ = some (.slice A1 l1.length c1) := (ak u.out 0).trans rfl;have xc := aC u.out 0;have xd : W.cell? ⟨g3, 0, none⟩ = some (.int .i64 Mc) := (ak a.out 0).trans rfl;have xe := aC a.out 0;have xf : W.cell? ⟨g3, 1, none⟩ = some (.slice y x.length z) := (ak a.out 1).trans rfl;have xg := aC a.out 1;go_enter Tryz.func95, Tryz.ntmps95;go_wp2_with (first | ((with_reducible refine aA (f := 67) rfl ?_); refine bg _ Tryz.func67 #[.string P, .string s] ?_; refine (FPC.out false _ HP1.out).mono ?_; rintro e w_ ⟨rfl, hb⟩; refine ⟨_, rfl, ?_⟩; replace HB := BS (w := W) hb; replace m := KB m hb; replace o := KB o hb; replace u := KB u hb; replace a := KB a hb; have A : w_.cell? ⟨g0, 0, none⟩ = some (.string P) := (ak m.out 0).trans rfl; have D := aC m.out 0; have E : w_.cell? ⟨g1, 0, none⟩ = some (.int .i64 1) := (ak o.out 0).trans rfl; have G := aC o.out 0; have I : w_.cell? ⟨g2, 0, none⟩ = some (.slice A1 l1.length c1) := (ak u.out 0).trans rfl; have J := aC u.out 0; have K : w_.cell? ⟨g3, 0, none⟩ = some (.int .i64 Mc) := (ak a.out 0).trans rfl; have L := aC a.out 0; have M : w_.cell? ⟨g3, 1, none⟩ = some (.slice y x.length z) := (ak a.out 1).trans rfl; have O := aC a.out 1; clear hb));go_ret;exact ⟨rfl, BL⟩
 | true =>
  rw [if_pos rfl] at h;obtain ⟨v, hp2, h⟩ := bM h;have HP2 := ah.mk hp2;clear hp2
  cases v with
  | false =>
   rw [if_neg (by decide)] at h;obtain rfl := sI h;clear h;have U : W.cell? ⟨g0, 0, none⟩ = some (.string P) := (ak m.out 0).trans rfl;have Y := aC m.out 0;have Z : W.cell? ⟨g1, 0, none⟩ = some (.int .i64 1) := (ak o.out 0).trans rfl;have xa := aC o.out 0;have xb : W.cell? ⟨g2, 0, none⟩ = some (.slice A1 l1.length c1) := (ak u.out 0).trans rfl;have xc := aC u.out 0;have xd : W.cell? ⟨g3, 0, none⟩ = some (.int .i64 Mc) := (ak a.out 0).trans rfl;have xe := aC a.out 0;have xf : W.cell? ⟨g3, 1, none⟩ = some (.slice y x.length z) := (ak a.out 1).trans rfl;have xg := aC a.out 1;go_enter Tryz.func95, Tryz.ntmps95;go_wp2_with (first | ((with_reducible refine aA (f := 67) rfl ?_); refine bg _ Tryz.func67 #[.string P, .string s] ?_; refine (FPC.out true _ HP1.out).mono ?_; rintro e w_ ⟨rfl, hb⟩; refine ⟨_, rfl, ?_⟩; replace HB := BS (w := W) hb; replace m := KB m hb; replace o := KB o hb; replace u := KB u hb; replace a := KB a hb; have A : w_.cell? ⟨g0, 0, none⟩ = some (.string P) := (ak m.out 0).trans rfl; have D := aC m.out 0; have E : w_.cell? ⟨g1, 0, none⟩ = some (.int .i64 1) := (ak o.out 0).trans rfl; have G := aC o.out 0; have I : w_.cell? ⟨g2, 0, none⟩ = some (.slice A1 l1.length c1) := (ak u.out 0).trans rfl; have J := aC u.out 0; have K : w_.cell? ⟨g3, 0, none⟩ = some (.int .i64 Mc) := (ak a.out 0).trans rfl; have L := aC a.out 0; have M : w_.cell? ⟨g3, 1, none⟩ = some (.slice y x.length z) := (ak a.out 1).trans rfl; have O := aC a.out 1; clear hb) | (go_at_call 96; refine (HSC.out false _ BL HP2.out).mono ?_; rintro e w_ ⟨rfl, hb⟩; replace HB := BS (w := W) hb; replace m := KB m hb; replace o := KB o hb; replace u := KB u hb; replace a := KB a hb; have xh : w_.cell? ⟨g0, 0, none⟩ = some (.string P) := (ak m.out 0).trans rfl; have xi := aC m.out 0; have xj : w_.cell? ⟨g1, 0, none⟩ = some (.int .i64 1) := (ak o.out 0).trans rfl; have xk := aC o.out 0; have xl : w_.cell? ⟨g2, 0, none⟩ = some (.slice A1 l1.length c1) := (ak u.out 0).trans rfl; have xm := aC u.out 0; have xn : w_.cell? ⟨g3, 0, none⟩ = some (.int .i64 Mc) := (ak a.out 0).trans rfl; have xo := aC a.out 0; have xp : w_.cell? ⟨g3, 1, none⟩ = some (.slice y x.length z) := (ak a.out 1).trans rfl; have xq := aC a.out 1; clear hb));go_ret;exact ⟨rfl, BL⟩
  | true =>
   rw [if_pos rfl] at h;obtain rfl := sI h;clear h;have U : W.cell? ⟨g0, 0, none⟩ = some (.string P) := (ak m.out 0).trans rfl;have Y := aC m.out 0;have Z : W.cell? ⟨g1, 0, none⟩ = some (.int .i64 1) := (ak o.out 0).trans rfl;have xa := aC o.out 0;have xb : W.cell? ⟨g2, 0, none⟩ = some (.slice A1 l1.length c1) := (ak u.out 0).trans rfl;have xc := aC u.out 0;have xd : W.cell? ⟨g3, 0, none⟩ = some (.int .i64 Mc) := (ak a.out 0).trans rfl;have xe := aC a.out 0;have xf : W.cell? ⟨g3, 1, none⟩ = some (.slice y x.length z) := (ak a.out 1).trans rfl;have xg := aC a.out 1;go_enter Tryz.func95, Tryz.ntmps95;go_wp2_with (first | ((with_reducible refine aA (f := 67) rfl ?_); refine bg _ Tryz.func67 #[.string P, .string s] ?_; refine (FPC.out true _ HP1.out).mono ?_; rintro e w_ ⟨rfl, hb⟩; refine ⟨_, rfl, ?_⟩; replace HB := BS (w := W) hb; replace m := KB m hb; replace o := KB o hb; replace u := KB u hb; replace a := KB a hb; have A : w_.cell? ⟨g0, 0, none⟩ = some (.string P) := (ak m.out 0).trans rfl; have D := aC m.out 0; have E : w_.cell? ⟨g1, 0, none⟩ = some (.int .i64 1) := (ak o.out 0).trans rfl; have G := aC o.out 0; have I : w_.cell? ⟨g2, 0, none⟩ = some (.slice A1 l1.length c1) := (ak u.out 0).trans rfl; have J := aC u.out 0; have K : w_.cell? ⟨g3, 0, none⟩ = some (.int .i64 Mc) := (ak a.out 0).trans rfl; have L := aC a.out 0; have M : w_.cell? ⟨g3, 1, none⟩ = some (.slice y x.length z) := (ak a.out 1).trans rfl; have O := aC a.out 1; clear hb) | (go_at_call 96; refine (HSC.out true _ BL HP2.out).mono ?_; rintro e w_ ⟨rfl, hb⟩; replace HB := BS (w := W) hb; replace m := KB m hb; replace o := KB o hb; replace u := KB u hb; replace a := KB a hb; have xh : w_.cell? ⟨g0, 0, none⟩ = some (.string P) := (ak m.out 0).trans rfl; have xi := aC m.out 0; have xj : w_.cell? ⟨g1, 0, none⟩ = some (.int .i64 1) := (ak o.out 0).trans rfl; have xk := aC o.out 0; have xl : w_.cell? ⟨g2, 0, none⟩ = some (.slice A1 l1.length c1) := (ak u.out 0).trans rfl; have xm := aC u.out 0; have xn : w_.cell? ⟨g3, 0, none⟩ = some (.int .i64 Mc) := (ak a.out 0).trans rfl; have xo := aC a.out 0; have xp : w_.cell? ⟨g3, 1, none⟩ = some (.slice y x.length z) := (ak a.out 1).trans rfl; have xq := aC a.out 1; clear hb));go_ret;exact ⟨rfl, BL⟩
theorem aQ.Iu (j : Nat) (Mc : Int) (z : Option Addr) (A : Nat) (o : List dU) (A1 : Option Addr) (c1 : Nat) (l1 : List S57) (D s : aj) (b : Bool) (W : World) (g0 g1 : Nat) (g2 g3 : Nat) (h0 : W.heap[g0]? = some (.cells #[.string D] 9 (0, 0))) (h1 : W.heap[g1]? = some (.cells #[.int .i64 2] 3 (0, 0))) (h2 : W.heap[g2]? = some (.cells #[.slice A1 l1.length c1] 39 (0, 0))) (h3 : W.heap[g3]? = some (.cells #[.int .i64 Mc, .slice z o.length A] 75 (0, 0))) (Y : Kd.C jV W z o.length o) (Z : o.length ≤ A) (hr1 : Kd.C k57 W A1 l1.length l1) (hc1 : l1.length ≤ c1) (h : aQ.g2 j Mc o l1 D s = some b) :
  Calls Tryz.prog 95 #[.string s, .pointer (some ⟨g0, 0, none⟩), .pointer (some ⟨g1, 0, none⟩), .pointer (some ⟨g2, 0, none⟩), .pointer (some ⟨g3, 0, none⟩)] W fun e w' => e = .returned (.bool b) ∧ Below W.heap.size W w' := by
 have u := ah.mk h0;have x := ah.mk h1;have y := ah.mk h2;have a := ah.mk h3;have HB := ah.mk (bR W.heap.size W);have xu := ah.mk Y;have xv := ah.mk Z;have xw := ah.mk hr1;have xx := ah.mk hc1;clear h0 h1 h2 h3 Y Z hr1 hc1;have fpc : ∀ (p : Bool) (V : World), aM.f j D s = some p → Calls Tryz.prog 67 #[.string D, .string s] V fun e w' => e = .returned (.bool p) ∧ Below V.heap.size V w' := fun p V q => by first | exact aM.calls j D s p V q | exact (aM.calls j D s p V q).mono (fun e w' hq => ⟨hq.1, hq.2.below⟩)
 have mkc : ∀ (p : Bool) (V : World), Below W.heap.size W V → jv.f j o s = some p → Calls Tryz.prog 97 #[.slice z o.length A, .string s] V fun e w' => e = .returned (.bool p) ∧ Below V.heap.size V w' := fun p V hv q => by first | exact jv.calls j _ _ o s p V (Kd.eP xu.out hv) xv.out q | exact (jv.calls j _ _ o s p V (Kd.eP xu.out hv) xv.out q).mono (fun e w' hq => ⟨hq.1, hq.2.below⟩)
 have FPC := ah.mk fpc;clear fpc;have MKC := ah.mk mkc;clear mkc;unfold aQ.g2 at h;obtain ⟨p, hp1, h⟩ := bM h;have HP1 := ah.mk hp1;clear hp1
 cases p with
 | false =>
  rw [if_neg (by decide)] at h;obtain rfl := sI h;clear h;have xa : W.cell? ⟨g0, 0, none⟩ = some (.string D) := (ak u.out 0).trans rfl;have xb := aC u.out 0;have xc : W.cell? ⟨g1, 0, none⟩ = some (.int .i64 2) := (ak x.out 0).trans rfl;have xd := aC x.out 0;have xe : W.cell? ⟨g2, 0, none⟩ = some (.slice A1 l1.length c1) := (ak y.out 0).trans rfl;have xf := aC y.out 0;have xg : W.cell? ⟨g3, 0, none⟩ = some (.int .i64 Mc) := (ak a.out 0).trans rfl;have xh := aC a.out 0;have xi : W.cell? ⟨g3, 1, none⟩ = some (.slice z o.length A) := (ak a.out 1).trans rfl;have xj := aC a.out 1;go_enter Tryz.func95, Tryz.ntmps95;go_wp2_with (first | ((with_reducible refine aA (f := 67) rfl ?_); refine bg _ Tryz.func67 #[.string D, .string s] ?_; refine (FPC.out false _ HP1.out).mono ?_; rintro e w_ ⟨rfl, hb⟩; refine ⟨_, rfl, ?_⟩; replace HB := BS (w := W) hb; replace u := KB u hb; replace x := KB x hb; replace y := KB y hb; replace a := KB a hb; have E : w_.cell? ⟨g0, 0, none⟩ = some (.string D) := (ak u.out 0).trans rfl; have G := aC u.out 0; have I : w_.cell? ⟨g1, 0, none⟩ = some (.int .i64 2) := (ak x.out 0).trans rfl; have J := aC x.out 0; have K : w_.cell? ⟨g2, 0, none⟩ = some (.slice A1 l1.length c1) := (ak y.out 0).trans rfl; have L := aC y.out 0; have M : w_.cell? ⟨g3, 0, none⟩ = some (.int .i64 Mc) := (ak a.out 0).trans rfl; have O := aC a.out 0; have P : w_.cell? ⟨g3, 1, none⟩ = some (.slice z o.length A) := (ak a.out 1).trans rfl; have U := aC a.out 1; clear hb));go_ret;exact ⟨rfl, BL⟩
 | true =>
  rw [if_pos rfl] at h;obtain ⟨m, hp3, h⟩ := bM h;obtain rfl := sI h;have HP3 := ah.mk hp3;clear h hp3;have xa : W.cell? ⟨g0, 0, none⟩ = some (.string D) := (ak u.out 0).trans rfl;have xb := aC u.out 0;have xc : W.cell? ⟨g1, 0, none⟩ = some (.int .i64 2) := (ak x.out 0).trans rfl;have xd := aC x.out 0;have xe : W.cell? ⟨g2, 0, none⟩ = some (.slice A1 l1.length c1) := (ak y.out 0).trans rfl;have xf := aC y.out 0;have xg : W.cell? ⟨g3, 0, none⟩ = some (.int .i64 Mc) := (ak a.out 0).trans rfl;have xh := aC a.out 0;have xi : W.cell? ⟨g3, 1, none⟩ = some (.slice z o.length A) := (ak a.out 1).trans rfl;have xj := aC a.out 1;go_enter Tryz.func95, Tryz.ntmps95;go_wp2_with (first | ((with_reducible refine aA (f := 67) rfl ?_); refine bg _ Tryz.func67 #[.string D, .string s] ?_; refine (FPC.out true _ HP1.out).mono ?_; rintro e w_ ⟨rfl, hb⟩; refine ⟨_, rfl, ?_⟩; replace HB := BS (w := W) hb; replace u := KB u hb; replace x := KB x hb; replace y := KB y hb; replace a := KB a hb; have E : w_.cell? ⟨g0, 0, none⟩ = some (.string D) := (ak u.out 0).trans rfl; have G := aC u.out 0; have I : w_.cell? ⟨g1, 0, none⟩ = some (.int .i64 2) := (ak x.out 0).trans rfl; have J := aC x.out 0; have K : w_.cell? ⟨g2, 0, none⟩ = some (.slice A1 l1.length c1) := (ak y.out 0).trans rfl; have L := aC y.out 0; have M : w_.cell? ⟨g3, 0, none⟩ = some (.int .i64 Mc) := (ak a.out 0).trans rfl; have O := aC a.out 0; have P : w_.cell? ⟨g3, 1, none⟩ = some (.slice z o.length A) := (ak a.out 1).trans rfl; have U := aC a.out 1; clear hb) | (go_at_call 97; refine (MKC.out m _ BL HP3.out).mono ?_; rintro e w_ ⟨rfl, hb⟩; replace HB := BS (w := W) hb; replace u := KB u hb; replace x := KB x hb; replace y := KB y hb; replace a := KB a hb; have xk : w_.cell? ⟨g0, 0, none⟩ = some (.string D) := (ak u.out 0).trans rfl; have xl := aC u.out 0; have xm : w_.cell? ⟨g1, 0, none⟩ = some (.int .i64 2) := (ak x.out 0).trans rfl; have xn := aC x.out 0; have xo : w_.cell? ⟨g2, 0, none⟩ = some (.slice A1 l1.length c1) := (ak y.out 0).trans rfl; have xp := aC y.out 0; have xq : w_.cell? ⟨g3, 0, none⟩ = some (.int .i64 Mc) := (ak a.out 0).trans rfl; have xr := aC a.out 0; have xs : w_.cell? ⟨g3, 1, none⟩ = some (.slice z o.length A) := (ak a.out 1).trans rfl; have xt := aC a.out 1; clear hb));go_ret;exact ⟨rfl, BL⟩
theorem aQ.Iw (j : Nat) (Mc : Int) (z : Option Addr) (A : Nat) (y : List dU) (A1 : Option Addr) (c1 : Nat) (l1 : List S57) (U s : aj) (b : Bool) (W : World) (g0 g1 : Nat) (g2 g3 : Nat) (h0 : W.heap[g0]? = some (.cells #[.string U] 9 (0, 0))) (h1 : W.heap[g1]? = some (.cells #[.int .i64 3] 3 (0, 0))) (h2 : W.heap[g2]? = some (.cells #[.slice A1 l1.length c1] 39 (0, 0))) (h3 : W.heap[g3]? = some (.cells #[.int .i64 Mc, .slice z y.length A] 75 (0, 0))) (xs : Kd.C jV W z y.length y) (xt : y.length ≤ A) (hr1 : Kd.C k57 W A1 l1.length l1) (hc1 : l1.length ≤ c1) (h : aQ.g3 j Mc y l1 U s = some b) :
  Calls Tryz.prog 95 #[.string s, .pointer (some ⟨g0, 0, none⟩), .pointer (some ⟨g1, 0, none⟩), .pointer (some ⟨g2, 0, none⟩), .pointer (some ⟨g3, 0, none⟩)] W fun e w' => e = .returned (.bool b) ∧ Below W.heap.size W w' := by
 have o := ah.mk h0;have u := ah.mk h1;have x := ah.mk h2;have a := ah.mk h3;have HB := ah.mk (bR W.heap.size W);have xE := ah.mk xs;have xF := ah.mk xt;have xG := ah.mk hr1;have xH := ah.mk hc1;clear h0 h1 h2 h3 xs xt hr1 hc1;have fpc : ∀ (p : Bool) (V : World), aM.f j U s = some p → Calls Tryz.prog 67 #[.string U, .string s] V fun e w' => e = .returned (.bool p) ∧ Below V.heap.size V w' := fun p V q => by first | exact aM.calls j U s p V q | exact (aM.calls j U s p V q).mono (fun e w' hq => ⟨hq.1, hq.2.below⟩)
 have hsc : ∀ (p : Bool) (V : World), Below W.heap.size W V → iB.f j l1 s Mc = some p → Calls Tryz.prog 96 #[.slice A1 l1.length c1, .string s, .int .i64 Mc] V fun e w' => e = .returned (.bool p) ∧ Below V.heap.size V w' := fun p V hv q => by first | exact iB.calls j _ _ l1 s Mc p V (Kd.eP xG.out hv) xH.out q | exact (iB.calls j _ _ l1 s Mc p V (Kd.eP xG.out hv) xH.out q).mono (fun e w' hq => ⟨hq.1, hq.2.below⟩)
 have mkc : ∀ (p : Bool) (V : World), Below W.heap.size W V → jv.f j y s = some p → Calls Tryz.prog 97 #[.slice z y.length A, .string s] V fun e w' => e = .returned (.bool p) ∧ Below V.heap.size V w' := fun p V hv q => by first | exact jv.calls j _ _ y s p V (Kd.eP xE.out hv) xF.out q | exact (jv.calls j _ _ y s p V (Kd.eP xE.out hv) xF.out q).mono (fun e w' hq => ⟨hq.1, hq.2.below⟩)
 have FPC := ah.mk fpc;clear fpc;have HSC := ah.mk hsc;clear hsc;have MKC := ah.mk mkc;clear mkc;unfold aQ.g3 at h;obtain ⟨p, hp1, h⟩ := bM h;have HP1 := ah.mk hp1;clear hp1
 cases p with
 | false =>
  rw [if_neg (by decide)] at h;obtain rfl := sI h;clear h;have Y : W.cell? ⟨g0, 0, none⟩ = some (.string U) := (ak o.out 0).trans rfl;have Z := aC o.out 0;have xa : W.cell? ⟨g1, 0, none⟩ = some (.int .i64 3) := (ak u.out 0).trans rfl;have xb := aC u.out 0;have xc : W.cell? ⟨g2, 0, none⟩ = some (.slice A1 l1.length c1) := (ak x.out 0).trans rfl;have xd := aC x.out 0;have xe : W.cell? ⟨g3, 0, none⟩ = some (.int .i64 Mc) := (ak a.out 0).trans rfl;have xf := aC a.out 0;have xg : W.cell? ⟨g3, 1, none⟩ = some (.slice z y.length A) := (ak a.out 1).trans rfl;have xh := aC a.out 1;go_enter Tryz.func95, Tryz.ntmps95;go_wp2_with (first | ((with_reducible refine aA (f := 67) rfl ?_); refine bg _ Tryz.func67 #[.string U, .string s] ?_; refine (FPC.out false _ HP1.out).mono ?_; rintro e w_ ⟨rfl, hb⟩; refine ⟨_, rfl, ?_⟩; replace HB := BS (w := W) hb; replace o := KB o hb; replace u := KB u hb; replace x := KB x hb; replace a := KB a hb; have D : w_.cell? ⟨g0, 0, none⟩ = some (.string U) := (ak o.out 0).trans rfl; have E := aC o.out 0; have G : w_.cell? ⟨g1, 0, none⟩ = some (.int .i64 3) := (ak u.out 0).trans rfl; have I := aC u.out 0; have J : w_.cell? ⟨g2, 0, none⟩ = some (.slice A1 l1.length c1) := (ak x.out 0).trans rfl; have K := aC x.out 0; have L : w_.cell? ⟨g3, 0, none⟩ = some (.int .i64 Mc) := (ak a.out 0).trans rfl; have M := aC a.out 0; have O : w_.cell? ⟨g3, 1, none⟩ = some (.slice z y.length A) := (ak a.out 1).trans rfl; have P := aC a.out 1; clear hb));go_ret;exact ⟨rfl, BL⟩
 | true =>
  rw [if_pos rfl] at h;obtain ⟨v, hp2, h⟩ := bM h;have HP2 := ah.mk hp2;clear hp2
  cases v with
  | false =>
   rw [if_neg (by decide)] at h;obtain rfl := sI h;clear h;have Y : W.cell? ⟨g0, 0, none⟩ = some (.string U) := (ak o.out 0).trans rfl;have Z := aC o.out 0;have xa : W.cell? ⟨g1, 0, none⟩ = some (.int .i64 3) := (ak u.out 0).trans rfl;have xb := aC u.out 0;have xc : W.cell? ⟨g2, 0, none⟩ = some (.slice A1 l1.length c1) := (ak x.out 0).trans rfl;have xd := aC x.out 0;have xe : W.cell? ⟨g3, 0, none⟩ = some (.int .i64 Mc) := (ak a.out 0).trans rfl;have xf := aC a.out 0;have xg : W.cell? ⟨g3, 1, none⟩ = some (.slice z y.length A) := (ak a.out 1).trans rfl;have xh := aC a.out 1;go_enter Tryz.func95, Tryz.ntmps95;go_wp2_with (first | ((with_reducible refine aA (f := 67) rfl ?_); refine bg _ Tryz.func67 #[.string U, .string s] ?_; refine (FPC.out true _ HP1.out).mono ?_; rintro e w_ ⟨rfl, hb⟩; refine ⟨_, rfl, ?_⟩; replace HB := BS (w := W) hb; replace o := KB o hb; replace u := KB u hb; replace x := KB x hb; replace a := KB a hb; have D : w_.cell? ⟨g0, 0, none⟩ = some (.string U) := (ak o.out 0).trans rfl; have E := aC o.out 0; have G : w_.cell? ⟨g1, 0, none⟩ = some (.int .i64 3) := (ak u.out 0).trans rfl; have I := aC u.out 0; have J : w_.cell? ⟨g2, 0, none⟩ = some (.slice A1 l1.length c1) := (ak x.out 0).trans rfl; have K := aC x.out 0; have L : w_.cell? ⟨g3, 0, none⟩ = some (.int .i64 Mc) := (ak a.out 0).trans rfl; have M := aC a.out 0; have O : w_.cell? ⟨g3, 1, none⟩ = some (.slice z y.length A) := (ak a.out 1).trans rfl; have P := aC a.out 1; clear hb) | (go_at_call 96; refine (HSC.out false _ BL HP2.out).mono ?_; rintro e w_ ⟨rfl, hb⟩; replace HB := BS (w := W) hb; replace o := KB o hb; replace u := KB u hb; replace x := KB x hb; replace a := KB a hb; have xi : w_.cell? ⟨g0, 0, none⟩ = some (.string U) := (ak o.out 0).trans rfl; have xj := aC o.out 0; have xk : w_.cell? ⟨g1, 0, none⟩ = some (.int .i64 3) := (ak u.out 0).trans rfl; have xl := aC u.out 0; have xm : w_.cell? ⟨g2, 0, none⟩ = some (.slice A1 l1.length c1) := (ak x.out 0).trans rfl; have xn := aC x.out 0; have xo : w_.cell? ⟨g3, 0, none⟩ = some (.int .i64 Mc) := (ak a.out 0).trans rfl; have xp := aC a.out 0; have xq : w_.cell? ⟨g3, 1, none⟩ = some (.slice z y.length A) := (ak a.out 1).trans rfl; have xr := aC a.out 1; clear hb));go_ret;exact ⟨rfl, BL⟩
  | true =>
   rw [if_pos rfl] at h;obtain ⟨m, hp3, h⟩ := bM h;obtain rfl := sI h;have HP3 := ah.mk hp3;clear h hp3;have Y : W.cell? ⟨g0, 0, none⟩ = some (.string U) := (ak o.out 0).trans rfl;have Z := aC o.out 0;have xa : W.cell? ⟨g1, 0, none⟩ = some (.int .i64 3) := (ak u.out 0).trans rfl;have xb := aC u.out 0;have xc : W.cell? ⟨g2, 0, none⟩ = some (.slice A1 l1.length c1) := (ak x.out 0).trans rfl;have xd := aC x.out 0;have xe : W.cell? ⟨g3, 0, none⟩ = some (.int .i64 Mc) := (ak a.out 0).trans rfl;have xf := aC a.out 0;have xg : W.cell? ⟨g3, 1, none⟩ = some (.slice z y.length A) := (ak a.out 1).trans rfl;have xh := aC a.out 1;go_enter Tryz.func95, Tryz.ntmps95;go_wp2_with (first | ((with_reducible refine aA (f := 67) rfl ?_); refine bg _ Tryz.func67 #[.string U, .string s] ?_; refine (FPC.out true _ HP1.out).mono ?_; rintro e w_ ⟨rfl, hb⟩; refine ⟨_, rfl, ?_⟩; replace HB := BS (w := W) hb; replace o := KB o hb; replace u := KB u hb; replace x := KB x hb; replace a := KB a hb; have D : w_.cell? ⟨g0, 0, none⟩ = some (.string U) := (ak o.out 0).trans rfl; have E := aC o.out 0; have G : w_.cell? ⟨g1, 0, none⟩ = some (.int .i64 3) := (ak u.out 0).trans rfl; have I := aC u.out 0; have J : w_.cell? ⟨g2, 0, none⟩ = some (.slice A1 l1.length c1) := (ak x.out 0).trans rfl; have K := aC x.out 0; have L : w_.cell? ⟨g3, 0, none⟩ = some (.int .i64 Mc) := (ak a.out 0).trans rfl; have M := aC a.out 0; have O : w_.cell? ⟨g3, 1, none⟩ = some (.slice z y.length A) := (ak a.out 1).trans rfl; have P := aC a.out 1; clear hb) | (go_at_call 96; refine (HSC.out true _ BL HP2.out).mono ?_; rintro e w_ ⟨rfl, hb⟩; replace HB := BS (w := W) hb; replace o := KB o hb; replace u := KB u hb; replace x := KB x hb; replace a := KB a hb; have xi : w_.cell? ⟨g0, 0, none⟩ = some (.string U) := (ak o.out 0).trans rfl; have xj := aC o.out 0; have xk : w_.cell? ⟨g1, 0, none⟩ = some (.int .i64 3) := (ak u.out 0).trans rfl; have xl := aC u.out 0; have xm : w_.cell? ⟨g2, 0, none⟩ = some (.slice A1 l1.length c1) := (ak x.out 0).trans rfl; have xn := aC x.out 0; have xo : w_.cell? ⟨g3, 0, none⟩ = some (.int .i64 Mc) := (ak a.out 0).trans rfl; have xp := aC a.out 0; have xq : w_.cell? ⟨g3, 1, none⟩ = some (.slice z y.length A) := (ak a.out 1).trans rfl; have xr := aC a.out 1; clear hb) | (go_at_call 97; refine (MKC.out m _ BL HP3.out).mono ?_; rintro e w_ ⟨rfl, hb⟩; replace HB := BS (w := W) hb; replace o := KB o hb; replace u := KB u hb; replace x := KB x hb; replace a := KB a hb; have xu : w_.cell? ⟨g0, 0, none⟩ = some (.string U) := (ak o.out 0).trans rfl; have xv := aC o.out 0; have xw : w_.cell? ⟨g1, 0, none⟩ = some (.int .i64 3) := (ak u.out 0).trans rfl; have xx := aC u.out 0; have xy : w_.cell? ⟨g2, 0, none⟩ = some (.slice A1 l1.length c1) := (ak x.out 0).trans rfl; have xz := aC x.out 0; have xA : w_.cell? ⟨g3, 0, none⟩ = some (.int .i64 Mc) := (ak a.out 0).trans rfl; have xB := aC a.out 0; have xC : w_.cell? ⟨g3, 1, none⟩ = some (.slice z y.length A) := (ak a.out 1).trans rfl; have xD := aC a.out 1; clear hb));go_ret;exact ⟨rfl, BL⟩
theorem aQ.calls (k : Nat) (Mc : Int) (A : Option Addr) (D : Nat) (m : List dU) (A1 : Option Addr) (c1 : Nat) (l1 : List S57) (A2 : Option Addr) (c2 : Nat) (l2 : List aj) (L : aj) (M : Int) (r : List aj) (w : World) (Y : Kd.C jV w A m.length m) (Z : m.length ≤ D) (hr1 : Kd.C k57 w A1 l1.length l1) (hc1 : l1.length ≤ c1) (hr2 : Kd.C Kd.string w A2 l2.length l2) (hc2 : l2.length ≤ c2) (h : aQ.f k Mc m l1 l2 L M = some r) :
  Calls Tryz.prog 64 #[.agg #[.int .i64 Mc, .slice A m.length D], .slice A1 l1.length c1, .slice A2 l2.length c2, .string L, .int .i64 M] w fun e w' => ∃ v0_ : Value, e = .returned (v0_) ∧ Kd.R Kd.string 9 w' w.heap.size (fun _ => True) v0_ r ∧ Below w.heap.size w w' := by
 have xa := ah.mk Y;have xb := ah.mk Z;have xc := ah.mk hr1;have xd := ah.mk hc1;have xe := ah.mk hr2;have xf := ah.mk hc2;have HB := ah.mk (bR w.heap.size w);clear Y Z hr1 hc1 hr2 hc2;unfold aQ.f at h;obtain ⟨q, h0, h⟩ := bM h;have irc : ∀ V : World, Calls Tryz.prog 57 #[.int .i64 M, .int .i64 0, .int .i64 3] V fun e w' => e = .returned (.bool q) ∧ Below V.heap.size V w' := fun V => by first | exact dJ.calls M 0 3 q V h0 | exact (dJ.calls M 0 3 q V h0).mono (fun e w' hq => ⟨hq.1, hq.2.below⟩) | exact (dJ.calls M 0 3 q V h0).mono (fun e w' hq => ⟨hq.1, by rw [hq.2]; exact bR _ _⟩)
 have IRC := ah.mk irc;clear irc
 cases q with
 | false =>
  rw [if_neg (by decide)] at h;obtain rfl := sI h;clear h h0;go_enter Tryz.func64, Tryz.ntmps64;go_wp2_with (first | ((with_reducible refine aI (N := 5) rfl ?_); refine aZ (N := 5) (cs := #[.int .i64 Mc, .slice A m.length D]) (t := 75) ?_; intro G hg w5 hbox hb; replace HB := BS (w := w) hb; have a := ah.mk (hbox); clear hb hbox hg) | ((with_reducible refine aI (N := 6) rfl ?_); refine aZ (N := 6) (cs := #[.slice A1 l1.length c1]) (t := 39) ?_; intro I hg w6 hbox hb; replace HB := BS (w := w) hb; have u := ah.mk (hbox); replace a := KB a hb; clear hb hbox hg) | ((with_reducible refine aI (N := 8) rfl ?_); refine aZ (N := 8) (cs := #[.string L]) (t := 9) ?_; intro J hg w8 hbox hb; replace HB := BS (w := w) hb; have y := ah.mk (hbox); replace a := KB a hb; replace u := KB u hb; clear hb hbox hg) | ((with_reducible refine aI (N := 9) rfl ?_); refine aZ (N := 9) (cs := #[.int .i64 M]) (t := 3) ?_; intro x hg w9 hbox hb; replace HB := BS (w := w) hb; have z := ah.mk (hbox); replace a := KB a hb; replace u := KB u hb; replace y := KB y hb; clear hb hbox hg; have P : w9.cell? ⟨x, 0, none⟩ = some (.int .i64 M) := (ak z.out 0).trans rfl; have U := aC z.out 0) | ((with_reducible refine aA (f := 57) rfl ?_); refine bg _ Tryz.func57 #[.int .i64 M, .int .i64 0, .int .i64 3] ?_; refine (IRC.out _).mono ?_; rintro e w_ ⟨rfl, hb⟩; refine ⟨_, rfl, ?_⟩; replace HB := BS (w := w) hb; replace a := KB a hb; replace u := KB u hb; replace y := KB y hb; replace z := KB z hb; clear hb));go_ret;exact ⟨_, rfl, Kd.mK _ _ _ _ _, BL⟩
 | true =>
  rw [if_pos rfl] at h;obtain ⟨t, h1, h2⟩ := bM h
  have h4 : M = 0 ∨ M = 1 ∨ M = 2 ∨ M = 3 := by
   unfold dJ.f at h0;by_cases x1 : (0 : Int) ≤ M
   ·rw [if_pos x1] at h0;have x2 : M ≤ 3 := of_decide_eq_true (sI h0);omega
   ·rw [if_neg x1] at h0
    cases h0
  clear h h0;rcases h4 with rfl | rfl | rfl | rfl
  ·have h1' : fO.f k l2 (fun j s => aQ.g0 j Mc m l1 L s) = some t := by
    rw [← h1];congr 1
   have H1 := ah.mk h1';have H2 := ah.mk h2;clear h1 h1' h2;go_enter Tryz.func64, Tryz.ntmps64;go_wp2_with (first | ((with_reducible refine aI (N := 5) rfl ?_); refine aZ (N := 5) (cs := #[.int .i64 Mc, .slice A m.length D]) (t := 75) ?_; intro G hg w5 hbox hb; replace HB := BS (w := w) hb; have a := ah.mk (hbox); clear hb hbox hg) | ((with_reducible refine aI (N := 6) rfl ?_); refine aZ (N := 6) (cs := #[.slice A1 l1.length c1]) (t := 39) ?_; intro I hg w6 hbox hb; replace HB := BS (w := w) hb; have u := ah.mk (hbox); replace a := KB a hb; clear hb hbox hg) | ((with_reducible refine aI (N := 8) rfl ?_); refine aZ (N := 8) (cs := #[.string L]) (t := 9) ?_; intro J hg w8 hbox hb; replace HB := BS (w := w) hb; have y := ah.mk (hbox); replace a := KB a hb; replace u := KB u hb; clear hb hbox hg) | ((with_reducible refine aI (N := 9) rfl ?_); refine aZ (N := 9) (cs := #[.int .i64 0]) (t := 3) ?_; intro x hg w9 hbox hb; replace HB := BS (w := w) hb; have z := ah.mk (hbox); replace a := KB a hb; replace u := KB u hb; replace y := KB y hb; have P : w9.cell? ⟨x, 0, none⟩ = some (.int .i64 0) := (ak z.out 0).trans rfl; have U := aC z.out 0; clear hb hbox hg) | ((with_reducible refine aA (f := 57) rfl ?_); refine bg _ Tryz.func57 #[.int .i64 0, .int .i64 0, .int .i64 3] ?_; refine (IRC.out _).mono ?_; rintro e w_ ⟨rfl, hb⟩; refine ⟨_, rfl, ?_⟩; replace HB := BS (w := w) hb; replace a := KB a hb; replace u := KB u hb; replace y := KB y hb; replace z := KB z hb; clear hb) | ((with_reducible refine aA (f := 94) rfl ?_); refine bg _ Tryz.func94 #[.slice A2 l2.length c2, .func (.func 95) #[] #[.pointer (some ⟨J, 0, none⟩), .pointer (some ⟨x, 0, none⟩), .pointer (some ⟨I, 0, none⟩), .pointer (some ⟨G, 0, none⟩)]] ?_; refine (fO.calls k _ _ l2 (fun j s => aQ.g0 j Mc m l1 L s) t _ (Kd.eP xe.out BL) xf.out H1.out 95 #[.pointer (some ⟨J, 0, none⟩), .pointer (some ⟨x, 0, none⟩), .pointer (some ⟨I, 0, none⟩), .pointer (some ⟨G, 0, none⟩)] (fun args w => oU Tryz.func95 (by kernel_rfl) rfl args w) (fun j s b W hb_ h_ => aQ.Iq j Mc A D m A1 c1 l1 L s b W J x I G (bT (g := J) (o := .cells #[.string L] 9 (0, 0)) BK hb_) (bT (g := x) (o := .cells #[.int .i64 0] 3 (0, 0)) BK hb_) (bT (g := I) (o := .cells #[.slice A1 l1.length c1] 39 (0, 0)) BK hb_) (bT (g := G) (o := .cells #[.int .i64 Mc, .slice A m.length D] 75 (0, 0)) BK hb_) (Kd.eP xa.out (fZ BL hb_)) xb.out (Kd.eP xc.out (fZ BL hb_)) xd.out h_)).mono ?_; rintro e w_ ⟨v_, rfl, E, hb⟩; refine ⟨_, rfl, ?_⟩; have K := ah.mk (Kd.cZ E (aH BL)); replace HB := BS (w := w) hb; clear hb E; obtain ⟨Ao, co, eo⟩ := Kd.dI K.out; subst eo) | ((with_reducible refine aA (f := 93) rfl ?_); refine bg _ Tryz.func93 #[.slice Ao t.length co] ?_; refine (iC.calls k _ _ t r _ ((Kd.bY (RR K)).2.2) ((Kd.bY K.out).2.1) H2.out).mono ?_; rintro e w_ ⟨v_, rfl, E, hb⟩; refine ⟨_, rfl, ?_⟩; have O := ah.mk (Kd.cZ E (aH BL)); replace HB := BS (w := w) hb; clear K; clear hb E));go_ret;exact ⟨_, rfl, (RR O), BL⟩
  ·have h1' : fO.f k l2 (fun j s => aQ.g1 j Mc m l1 L s) = some t := by
    rw [← h1];congr 1
   have H1 := ah.mk h1';have H2 := ah.mk h2;clear h1 h1' h2;go_enter Tryz.func64, Tryz.ntmps64;go_wp2_with (first | ((with_reducible refine aI (N := 5) rfl ?_); refine aZ (N := 5) (cs := #[.int .i64 Mc, .slice A m.length D]) (t := 75) ?_; intro G hg w5 hbox hb; replace HB := BS (w := w) hb; have a := ah.mk (hbox); clear hb hbox hg) | ((with_reducible refine aI (N := 6) rfl ?_); refine aZ (N := 6) (cs := #[.slice A1 l1.length c1]) (t := 39) ?_; intro I hg w6 hbox hb; replace HB := BS (w := w) hb; have u := ah.mk (hbox); replace a := KB a hb; clear hb hbox hg) | ((with_reducible refine aI (N := 8) rfl ?_); refine aZ (N := 8) (cs := #[.string L]) (t := 9) ?_; intro J hg w8 hbox hb; replace HB := BS (w := w) hb; have y := ah.mk (hbox); replace a := KB a hb; replace u := KB u hb; clear hb hbox hg) | ((with_reducible refine aI (N := 9) rfl ?_); refine aZ (N := 9) (cs := #[.int .i64 1]) (t := 3) ?_; intro x hg w9 hbox hb; replace HB := BS (w := w) hb; have z := ah.mk (hbox); replace a := KB a hb; replace u := KB u hb; replace y := KB y hb; have P : w9.cell? ⟨x, 0, none⟩ = some (.int .i64 1) := (ak z.out 0).trans rfl; have U := aC z.out 0; clear hb hbox hg) | ((with_reducible refine aA (f := 57) rfl ?_); refine bg _ Tryz.func57 #[.int .i64 1, .int .i64 0, .int .i64 3] ?_; refine (IRC.out _).mono ?_; rintro e w_ ⟨rfl, hb⟩; refine ⟨_, rfl, ?_⟩; replace HB := BS (w := w) hb; replace a := KB a hb; replace u := KB u hb; replace y := KB y hb; replace z := KB z hb; clear hb) | ((with_reducible refine aA (f := 94) rfl ?_); refine bg _ Tryz.func94 #[.slice A2 l2.length c2, .func (.func 95) #[] #[.pointer (some ⟨J, 0, none⟩), .pointer (some ⟨x, 0, none⟩), .pointer (some ⟨I, 0, none⟩), .pointer (some ⟨G, 0, none⟩)]] ?_; refine (fO.calls k _ _ l2 (fun j s => aQ.g1 j Mc m l1 L s) t _ (Kd.eP xe.out BL) xf.out H1.out 95 #[.pointer (some ⟨J, 0, none⟩), .pointer (some ⟨x, 0, none⟩), .pointer (some ⟨I, 0, none⟩), .pointer (some ⟨G, 0, none⟩)] (fun args w => oU Tryz.func95 (by kernel_rfl) rfl args w) (fun j s b W hb_ h_ => aQ.Ir j Mc A D m A1 c1 l1 L s b W J x I G (bT (g := J) (o := .cells #[.string L] 9 (0, 0)) BK hb_) (bT (g := x) (o := .cells #[.int .i64 1] 3 (0, 0)) BK hb_) (bT (g := I) (o := .cells #[.slice A1 l1.length c1] 39 (0, 0)) BK hb_) (bT (g := G) (o := .cells #[.int .i64 Mc, .slice A m.length D] 75 (0, 0)) BK hb_) (Kd.eP xa.out (fZ BL hb_)) xb.out (Kd.eP xc.out (fZ BL hb_)) xd.out h_)).mono ?_; rintro e w_ ⟨v_, rfl, E, hb⟩; refine ⟨_, rfl, ?_⟩; have K := ah.mk (Kd.cZ E (aH BL)); replace HB := BS (w := w) hb; clear hb E; obtain ⟨Ao, co, eo⟩ := Kd.dI K.out; subst eo) | ((with_reducible refine aA (f := 93) rfl ?_); refine bg _ Tryz.func93 #[.slice Ao t.length co] ?_; refine (iC.calls k _ _ t r _ ((Kd.bY (RR K)).2.2) ((Kd.bY K.out).2.1) H2.out).mono ?_; rintro e w_ ⟨v_, rfl, E, hb⟩; refine ⟨_, rfl, ?_⟩; have O := ah.mk (Kd.cZ E (aH BL)); replace HB := BS (w := w) hb; clear K; clear hb E));go_ret;exact ⟨_, rfl, (RR O), BL⟩
  ·have h1' : fO.f k l2 (fun j s => aQ.g2 j Mc m l1 L s) = some t := by
    rw [← h1];congr 1
   have H1 := ah.mk h1';have H2 := ah.mk h2;clear h1 h1' h2;go_enter Tryz.func64, Tryz.ntmps64;go_wp2_with (first | ((with_reducible refine aI (N := 5) rfl ?_); refine aZ (N := 5) (cs := #[.int .i64 Mc, .slice A m.length D]) (t := 75) ?_; intro G hg w5 hbox hb; replace HB := BS (w := w) hb; have a := ah.mk (hbox); clear hb hbox hg) | ((with_reducible refine aI (N := 6) rfl ?_); refine aZ (N := 6) (cs := #[.slice A1 l1.length c1]) (t := 39) ?_; intro I hg w6 hbox hb; replace HB := BS (w := w) hb; have u := ah.mk (hbox); replace a := KB a hb; clear hb hbox hg) | ((with_reducible refine aI (N := 8) rfl ?_); refine aZ (N := 8) (cs := #[.string L]) (t := 9) ?_; intro J hg w8 hbox hb; replace HB := BS (w := w) hb; have y := ah.mk (hbox); replace a := KB a hb; replace u := KB u hb; clear hb hbox hg) | ((with_reducible refine aI (N := 9) rfl ?_); refine aZ (N := 9) (cs := #[.int .i64 2]) (t := 3) ?_; intro x hg w9 hbox hb; replace HB := BS (w := w) hb; have z := ah.mk (hbox); replace a := KB a hb; replace u := KB u hb; replace y := KB y hb; have P : w9.cell? ⟨x, 0, none⟩ = some (.int .i64 2) := (ak z.out 0).trans rfl; have U := aC z.out 0; clear hb hbox hg) | ((with_reducible refine aA (f := 57) rfl ?_); refine bg _ Tryz.func57 #[.int .i64 2, .int .i64 0, .int .i64 3] ?_; refine (IRC.out _).mono ?_; rintro e w_ ⟨rfl, hb⟩; refine ⟨_, rfl, ?_⟩; replace HB := BS (w := w) hb; replace a := KB a hb; replace u := KB u hb; replace y := KB y hb; replace z := KB z hb; clear hb) | ((with_reducible refine aA (f := 94) rfl ?_); refine bg _ Tryz.func94 #[.slice A2 l2.length c2, .func (.func 95) #[] #[.pointer (some ⟨J, 0, none⟩), .pointer (some ⟨x, 0, none⟩), .pointer (some ⟨I, 0, none⟩), .pointer (some ⟨G, 0, none⟩)]] ?_; refine (fO.calls k _ _ l2 (fun j s => aQ.g2 j Mc m l1 L s) t _ (Kd.eP xe.out BL) xf.out H1.out 95 #[.pointer (some ⟨J, 0, none⟩), .pointer (some ⟨x, 0, none⟩), .pointer (some ⟨I, 0, none⟩), .pointer (some ⟨G, 0, none⟩)] (fun args w => oU Tryz.func95 (by kernel_rfl) rfl args w) (fun j s b W hb_ h_ => aQ.Iu j Mc A D m A1 c1 l1 L s b W J x I G (bT (g := J) (o := .cells #[.string L] 9 (0, 0)) BK hb_) (bT (g := x) (o := .cells #[.int .i64 2] 3 (0, 0)) BK hb_) (bT (g := I) (o := .cells #[.slice A1 l1.length c1] 39 (0, 0)) BK hb_) (bT (g := G) (o := .cells #[.int .i64 Mc, .slice A m.length D] 75 (0, 0)) BK hb_) (Kd.eP xa.out (fZ BL hb_)) xb.out (Kd.eP xc.out (fZ BL hb_)) xd.out h_)).mono ?_; rintro e w_ ⟨v_, rfl, E, hb⟩; refine ⟨_, rfl, ?_⟩; have K := ah.mk (Kd.cZ E (aH BL)); replace HB := BS (w := w) hb; clear hb E; obtain ⟨Ao, co, eo⟩ := Kd.dI K.out; subst eo) | ((with_reducible refine aA (f := 93) rfl ?_); refine bg _ Tryz.func93 #[.slice Ao t.length co] ?_; refine (iC.calls k _ _ t r _ ((Kd.bY (RR K)).2.2) ((Kd.bY K.out).2.1) H2.out).mono ?_; rintro e w_ ⟨v_, rfl, E, hb⟩; refine ⟨_, rfl, ?_⟩; have O := ah.mk (Kd.cZ E (aH BL)); replace HB := BS (w := w) hb; clear K; clear hb E));go_ret;exact ⟨_, rfl, (RR O), BL⟩
  ·have h1' : fO.f k l2 (fun j s => aQ.g3 j Mc m l1 L s) = some t := by
    rw [← h1];congr 1
   have H1 := ah.mk h1';have H2 := ah.mk h2;clear h1 h1' h2;go_enter Tryz.func64, Tryz.ntmps64;go_wp2_with (first | ((with_reducible refine aI (N := 5) rfl ?_); refine aZ (N := 5) (cs := #[.int .i64 Mc, .slice A m.length D]) (t := 75) ?_; intro G hg w5 hbox hb; replace HB := BS (w := w) hb; have a := ah.mk (hbox); clear hb hbox hg) | ((with_reducible refine aI (N := 6) rfl ?_); refine aZ (N := 6) (cs := #[.slice A1 l1.length c1]) (t := 39) ?_; intro I hg w6 hbox hb; replace HB := BS (w := w) hb; have u := ah.mk (hbox); replace a := KB a hb; clear hb hbox hg) | ((with_reducible refine aI (N := 8) rfl ?_); refine aZ (N := 8) (cs := #[.string L]) (t := 9) ?_; intro J hg w8 hbox hb; replace HB := BS (w := w) hb; have y := ah.mk (hbox); replace a := KB a hb; replace u := KB u hb; clear hb hbox hg) | ((with_reducible refine aI (N := 9) rfl ?_); refine aZ (N := 9) (cs := #[.int .i64 3]) (t := 3) ?_; intro x hg w9 hbox hb; replace HB := BS (w := w) hb; have z := ah.mk (hbox); replace a := KB a hb; replace u := KB u hb; replace y := KB y hb; have P : w9.cell? ⟨x, 0, none⟩ = some (.int .i64 3) := (ak z.out 0).trans rfl; have U := aC z.out 0; clear hb hbox hg) | ((with_reducible refine aA (f := 57) rfl ?_); refine bg _ Tryz.func57 #[.int .i64 3, .int .i64 0, .int .i64 3] ?_; refine (IRC.out _).mono ?_; rintro e w_ ⟨rfl, hb⟩; refine ⟨_, rfl, ?_⟩; replace HB := BS (w := w) hb; replace a := KB a hb; replace u := KB u hb; replace y := KB y hb; replace z := KB z hb; clear hb) | ((with_reducible refine aA (f := 94) rfl ?_); refine bg _ Tryz.func94 #[.slice A2 l2.length c2, .func (.func 95) #[] #[.pointer (some ⟨J, 0, none⟩), .pointer (some ⟨x, 0, none⟩), .pointer (some ⟨I, 0, none⟩), .pointer (some ⟨G, 0, none⟩)]] ?_; refine (fO.calls k _ _ l2 (fun j s => aQ.g3 j Mc m l1 L s) t _ (Kd.eP xe.out BL) xf.out H1.out 95 #[.pointer (some ⟨J, 0, none⟩), .pointer (some ⟨x, 0, none⟩), .pointer (some ⟨I, 0, none⟩), .pointer (some ⟨G, 0, none⟩)] (fun args w => oU Tryz.func95 (by kernel_rfl) rfl args w) (fun j s b W hb_ h_ => aQ.Iw j Mc A D m A1 c1 l1 L s b W J x I G (bT (g := J) (o := .cells #[.string L] 9 (0, 0)) BK hb_) (bT (g := x) (o := .cells #[.int .i64 3] 3 (0, 0)) BK hb_) (bT (g := I) (o := .cells #[.slice A1 l1.length c1] 39 (0, 0)) BK hb_) (bT (g := G) (o := .cells #[.int .i64 Mc, .slice A m.length D] 75 (0, 0)) BK hb_) (Kd.eP xa.out (fZ BL hb_)) xb.out (Kd.eP xc.out (fZ BL hb_)) xd.out h_)).mono ?_; rintro e w_ ⟨v_, rfl, E, hb⟩; refine ⟨_, rfl, ?_⟩; have K := ah.mk (Kd.cZ E (aH BL)); replace HB := BS (w := w) hb; clear hb E; obtain ⟨Ao, co, eo⟩ := Kd.dI K.out; subst eo) | ((with_reducible refine aA (f := 93) rfl ?_); refine bg _ Tryz.func93 #[.slice Ao t.length co] ?_; refine (iC.calls k _ _ t r _ ((Kd.bY (RR K)).2.2) ((Kd.bY K.out).2.1) H2.out).mono ?_; rintro e w_ ⟨v_, rfl, E, hb⟩; refine ⟨_, rfl, ?_⟩; have O := ah.mk (Kd.cZ E (aH BL)); replace HB := BS (w := w) hb; clear K; clear hb E));go_ret;exact ⟨_, rfl, (RR O), BL⟩
def eu.l0 : Nat → List S57 → List aj → List (List aj) → List aj → Int → Int → Int → Int → aj → List S75 → List Int → Int → Option ((List (List aj)))
 | 0, _, _, _, _, _, _, _, _, _, _, _, _ => none
 | k + 1, a, b, c, d, e, f, g, h, i, j, l, m => if f < e then if 0 ≤ f then if f < (d.length : Int) then if f < (j.length : Int) then (aQ.f k ((fV j f).f0) ((fV j f).f1) a b (gq ByteArray.empty d f) 3).bind fun n => if c.length < 5864062014805 then eu.l0 k a b (c ++ [n]) d e (wrap64 (f + 1)) g h i j l m else none else none else none else none else some c
def eu.f (k : Nat) (Mc Md : Int) (Me : aj) (Mf : List S75) (Mg : List Int) (Mh : Int) (a1 : aj) (l2 : List S57) (l3 : List aj) : Option ((List (List aj))) := (jB.f k Mc Md Me Mf Mg Mh).bind fun t659 => (if t659 = true then ((fP.f k Mc Md Me a1).bind fun t660 => (eu.l0 k l2 l3 ([] : List (List aj)) t660 (t660.length : Int) 0 Mc Md Me Mf Mg Mh)) else (some ([] : List (List aj))))
theorem eu.calls (k : Nat) (Mc Md : Int) (Me : aj) (A0_3 : Option Addr) (c0_3 : Nat) (Mf : List S75) (A0_4 : Option Addr) (c0_4 : Nat) (Mg : List Int) (Mh : Int) (a1 : aj) (A2 : Option Addr) (c2 : Nat) (l2 : List S57) (A3 : Option Addr) (c3 : Nat) (l3 : List aj) (r : List (List aj)) (w : World) (hr0_3 : Kd.C k75 w A0_3 Mf.length Mf) (hc0_3 : Mf.length ≤ c0_3) (hr0_4 : Kd.C (Kd.int .i64) w A0_4 Mg.length Mg) (hc0_4 : Mg.length ≤ c0_4) (hr2 : Kd.C k57 w A2 l2.length l2) (hc2 : l2.length ≤ c2) (ye : Kd.C Kd.string w A3 l3.length l3) (yf : l3.length ≤ c3) (h : eu.f k Mc Md Me Mf Mg Mh a1 l2 l3 = some r) :
  Calls Tryz.prog 41 #[.agg #[.int .i64 Mc, .int .i64 Md, .string Me, .slice A0_3 Mf.length c0_3, .slice A0_4 Mg.length c0_4, .int .i64 Mh], .string a1, .slice A2 l2.length c2, .slice A3 l3.length c3] w fun e w' => ∃ v0_ : Value, e = .returned (v0_) ∧ Kd.S (Kd.slice 9 Kd.string) 29 w' w.heap.size (fun _ => True) v0_ r ∧ Below w.heap.size w w' := by
 have yD := Tryz.underlying37;have yE := Tryz.underlying34;have yF := Tryz.underlying75;have xw := ah.mk hr0_3;have xJ := ah.mk hc0_3;clear hr0_3 hc0_3;have xK := ah.mk hr0_4;have xL := ah.mk hc0_4;clear hr0_4 hc0_4;have yo := ah.mk hr2;have yp := ah.mk hc2;clear hr2 hc2;have yq := ah.mk ye;have yr := ah.mk yf;clear ye yf;have HB := ah.mk (bR w.heap.size w);unfold eu.f at h;have H := h;clear h;replace H := be H; obtain ⟨yG, A5, H⟩ := H;replace H := ah.mk H;go_enter Tryz.func41, Tryz.ntmps41;go_wp2_with (first | ((with_reducible refine aI (N := 4) rfl ?_); refine aZ (N := 4) (cs := #[.int .i64 Mc, .int .i64 Md, .string Me, .slice A0_3 Mf.length c0_3, .slice A0_4 Mg.length c0_4, .int .i64 Mh]) (t := 37) ?_; intro xx hg ys hbox hb; have m := ah.mk hbox; have xM := SZ (w := w) hg; have yt := xM; replace HB := BS (w := w) hb; clear hb hbox hg; obtain ⟨K, L, M, O, P, U, Y, Z, xa, xb, xc, xd⟩ := cz6 m.out) | ((with_reducible refine aA (f := 38) rfl ?_); refine bg (some 13) Tryz.func38 #[.agg #[.int .i64 Mc, .int .i64 Md, .string Me, .slice A0_3 Mf.length c0_3, .slice A0_4 Mg.length c0_4, .int .i64 Mh]] ?_; (with_reducible refine (jB.calls k Mc Md Me _ _ Mf _ _ Mg Mh _ _ ?s1_ ?s2_ ?s3_ ?s4_ A5.out).mono ?_); (case s1_ => exact CB xw); (case s2_ => exact xJ.out); (case s3_ => exact CB xK); (case s4_ => exact xL.out); rintro e yu ⟨rfl, hb⟩; refine ⟨_, rfl, ?_⟩; replace m := KB m hb; replace HB := BS (w := w) hb; (try clear hb); obtain ⟨xe, xf, xg, xh, xi, xj, xk, xl, xm, xn, xo, xp⟩ := cz6 m.out; refine dx ?_));refine Hide.mk ?_;replace H := H.out;replace H := ifB H; rcases H with ⟨rfl, H⟩ | ⟨rfl, H⟩
 ·replace H := be H; obtain ⟨u, A7, H⟩ := H;have H' := ah.mk H;clear H;try go_wp2_with (first | ((with_reducible refine aA (f := 63) rfl ?_); refine bg (some 18) Tryz.func63 #[.agg #[.int .i64 Mc, .int .i64 Md, .string Me], .string a1] ?_; (with_reducible refine (fP.calls k Mc Md Me a1 u _ A7.out).mono ?_); rintro e yv ⟨yH, rfl, xq, hb⟩; refine ⟨_, rfl, ?_⟩; replace m := KB m hb; have xy := ah.mk (Kd.cZ xq (aH BL)); replace HB := BS (w := w) hb; (try clear hb); (try clear xq); obtain ⟨xt, y, xF⟩ := Kd.dI xy.out; subst xF))
  go_loopg [9, 20] k (fun kq v9 yw w' => ∃ (I : List (List aj)) (a : Int), yw = .int .i64 a ∧ ah (eu.l0 kq l2 l3 I u (u.length : Int) a Mc Md Me Mf Mg Mh = some r) ∧ ah (kq ≤ k) ∧ ah (Kd.S (Kd.slice 9 Kd.string) 29 w' w.heap.size (fun k_ => some k_ ≠ ((.slice xt u.length y) : Value).ownBlock) v9 I) ∧ ah (Kd.R Kd.string 9 w' w.heap.size (fun _ => True) (.slice xt u.length y) u) ∧ ah (w'.heap[xx]? = some (.cells #[.int .i64 Mc, .int .i64 Md, .string Me, (.slice A0_3 Mf.length c0_3), (.slice A0_4 Mg.length c0_4), .int .i64 Mh] 37 (0, 0))) ∧ ah (Below w.heap.size w w'))
  case atStart => exact ⟨_, _, EQ, H', ⟨nR _⟩, ⟨by first | exact Kd.qQ _ _ _ _ _ | exact Kd.qO _ _ _ _ _ | exact Kd.qR _ _ _ _ _ | exact Kd.qP _ _ _ _ _ | exact Kd.mK _ _ _ _ _⟩, ⟨(RR xy)⟩, ⟨BK⟩, ⟨BL⟩⟩
  case round =>
   clear H';(try clear c2);(try clear c3);(try clear xe xf xg xh xi xj);(try clear K L M O P U);(try clear xk xl xm xn xo xp);(try clear Y Z xa xb xc xd);obtain ⟨I, a, rfl, HA, yg, z, x, m, HB⟩ := hrel
   cases gk with
   | zero => exact absurd HA.out (by simp [eu.l0])
   | succ k1 =>
    have H := HA.out;clear HA;simp only [eu.l0] at H;replace H := ifD H; rcases H with ⟨xN, H⟩ | ⟨xN, H⟩
    ·replace H := ifN H; obtain ⟨yx, H⟩ := H;replace H := ifN H; obtain ⟨yy, H⟩ := H;replace H := ifN H; obtain ⟨yz, H⟩ := H;replace H := be H; obtain ⟨J, yA, H⟩ := H;replace H := ifP H; obtain ⟨yh, H⟩ := H;have xO := ah.mk yh;clear yh;obtain ⟨yi, A⟩ : ∃ y_ : List (List aj), y_ = (I ++ [J]) := ⟨_, rfl⟩;replace H : (eu.l0 k1 l2 l3 yi u (u.length : Int) (wrap64 (a + 1)) Mc Md Me Mf Mg Mh) = some r := cW A H
     have xP := ah.mk A;clear A;have H' := ah.mk H;clear H;have xz : 0 ≤ (a : Int) := OD;have xA : a < (u.length : Int) := OD;obtain ⟨xr, yj, yk⟩ := Kd.jF (Kd.bY x.out).2.2 a xz xA
     cases yj
     replace xz := eq_true xz;replace xA := eq_true xA;obtain ⟨xQ, xR, xS, xT, xU, xV, xW, xX, xY, xZ, ya, yb⟩ := cz6 m.out;have xB : 0 ≤ (a : Int) := OD;have xC : a < (Mf.length : Int) := OD;obtain ⟨yc, xG, xH, yl, D, E, hl664_1, hi664_1⟩ := uZ xw.out a xB xC
     cases yl
     (try replace D := (HB.out.cell (wB w _ D)).trans D);(try replace E := (HB.out.cell (wB w _ E)).trans E);have xD := ah.mk hi664_1;have xE := ah.mk hl664_1;clear hi664_1 hl664_1;replace xB := eq_true xB;replace xC := eq_true xC;go_wp2_with (first | ((with_reducible refine aA (f := 64) rfl ?_); refine bg (some 34) Tryz.func64 #[.agg #[.int .i64 ((fV Mf a).f0), .slice xG ((fV Mf a).f1).length xH], .slice A2 l2.length c2, .slice A3 l3.length c3, .string (gq ByteArray.empty u a), .int .i64 3] ?_; (with_reducible refine (aQ.calls k1 ((fV Mf a).f0) _ _ ((fV Mf a).f1) _ _ l2 _ _ l3 (gq ByteArray.empty u a) 3 J _ ?s1_ ?s2_ ?s3_ ?s4_ ?s5_ ?s6_ yA.out).mono ?_); (case s1_ => exact CB xD); (case s2_ => exact xE.out); (case s3_ => exact CB yo); (case s4_ => exact yp.out); (case s5_ => exact CB yq); (case s6_ => exact yr.out); rintro e yB ⟨yI, rfl, xq, hb⟩; refine ⟨_, rfl, ?_⟩; replace m := KB m hb; replace z := ah.mk (Kd.oq (SR z) (Kd.kQ xq) hb); have G := ah.mk (Kd.cZ (Kd.nT xq (Kd.qG (RR x))) (aH BL)); replace HB := BS (w := w) hb; replace x := ah.mk (Kd.kr (RR x) (Kd.kQ xq) hb); (try clear hb); (try clear xq); obtain ⟨xu, xv, xI⟩ := Kd.dI G.out; subst xI) | ((with_reducible refine dR (b := .append) (xs := #[.tmp 25, .tmp 35]) rfl ?_); at_builtin; refine Kd.Ec (Kd.slice 9 Kd.string) (w0 := w) w.heap.size rfl (.tmp 25) (.tmp 35) 70 29 (.slice none 0 0) 24 rfl Tryz.underlying70 II rfl (by decide) (by omega) u9 I J [.slice xu J.length xv] (fun k_ => some k_ ≠ (.slice (some xr) u.length y : Value).ownBlock) (fun k_ => some k_ = (.slice xu J.length xv : Value).ownBlock) rfl rfl ?aP (fun k_ hk_ => ((Kd.dN (ok' := fun k_ => ((fun k_ => some k_ ≠ (.slice (some xr) u.length y : Value).ownBlock)) k_ ∧ some k_ ≠ (u9 : Value).ownBlock) (Kd.oo (G.out) (Kd.oh z.out) (by decide)) (fun k_ hk => ⟨hk.1.2, hk.2⟩))).1 k_ hk_.symm) ?aF ?aO ?aB ?aS ?aL ?_; (case aP => exact Kd.Ib (Kd.dN (Kd.pO rfl (Kd.dN (ok' := fun k_ => ((fun k_ => some k_ ≠ (.slice (some xr) u.length y : Value).ownBlock)) k_ ∧ some k_ ≠ (u9 : Value).ownBlock) (Kd.oo (G.out) (Kd.oh z.out) (by decide)) (fun k_ hk => ⟨hk.1.2, hk.2⟩))) (fun _ h_ => h_))); (case aB => exact BL); (case aF => exact (fun k_ hk => Kd.fresh' (Kd.qG (RR x)) k_ hk)); (case aO => exact (by (with_reducible repeat (first | apply Kd.iH | apply Kd.iR | apply Kd.jl)); exact Kd.kE z.out (fun k_ hk => ⟨hk.1, fun e_ => hk.2 e_⟩))); (case aS => exact (aH BL)); (case aL => have := xO.out; omega); intro yJ yC ho hb hg hat; rw [← xP.out] at ho; replace x := ah.mk (Kd.nH (RR x) (Kd.oh (SR z)) (by decide) hg); replace m := ah.mk (dZ (g := xx) (o := .cells #[.int .i64 Mc, .int .i64 Md, .string Me, .slice (some yc) Mf.length c0_3, .slice A0_4 Mg.length c0_4, .int .i64 Mh] 37 (0, 0)) BK hg (Kd.JC z.out m.out (by decide))); replace HB := ah.mk (hb); have yd := ah.mk (ho); clear z G; clear ho hb hg hat));go_roundg k1;case measure => have := yg.out; omega
     case rel => exact ⟨_, _, EQ, H', ks yg, ⟨by (with_reducible repeat (first | apply Kd.iH | apply Kd.iR | apply Kd.jl)); exact yd.out⟩, ⟨by (with_reducible repeat (first | apply Kd.dW | apply Kd.dX | apply Kd.dM)); exact Kd.dN x.out (fun _ hk => trivial)⟩, ⟨BK⟩, ⟨BL⟩⟩
    ·obtain rfl := sI H;go_wp2;go_ret;exact ⟨_, EWW, by (with_reducible repeat (first | apply Kd.iH | apply Kd.iR | apply Kd.jl)); exact Kd.kE z.out (fun _ hk => trivial), BL⟩
 ·obtain rfl := sI H;(try go_wp2);go_ret;exact ⟨_, EWW, by first | exact Kd.qQ _ _ _ _ _ | exact Kd.qO _ _ _ _ _ | exact Kd.qR _ _ _ _ _ | exact Kd.qP _ _ _ _ _ | exact Kd.mK _ _ _ _ _, BL⟩
def bB.l0 : Nat → List aj → (Nat → aj → Option Bool) → Int → Int → Option (Int)
 | 0, _, _, _, _ => none
 | k + 1, a, b, c, d => if d < c then if 0 ≤ d then if d < (a.length : Int) then (b k (gq ByteArray.empty a d)).bind fun e => if e = true then some d else bB.l0 k a b c (wrap64 (d + 1)) else none else none else some (-1)
def bB.f (k : Nat) (l0 : List aj) (a1 : (Nat → aj → Option Bool)) : Option (Int) := bB.l0 k l0 a1 (l0.length : Int) 0
theorem bB.calls (k : Nat) (K : Option Addr) (L : Nat) (l0 : List aj) (G : (Nat → aj → Option Bool)) (r : Int) (w : World) (y : Kd.C Kd.string w K l0.length l0) (z : l0.length ≤ L) (h : bB.f k l0 G = some r) (g : FuncId) (lb : Array Value) (eg : ∀ args w, (callFunc g args).run Tryz.prog w = .ok (.enter g args) w) (hp : ∀ (j : Nat) (s : aj) (b : Bool) (W : World), Below w.heap.size w W → G j s = some b → Calls Tryz.prog g (#[.string s] ++ lb) W fun e w' => e = .returned (.bool b) ∧ Below W.heap.size W w') :
  Calls Tryz.prog 127 #[.slice K l0.length L, .func (.func g) #[] lb] w fun e w' => e = .returned (.int .i64 r) ∧ Below w.heap.size w w' := by
 have I := ah.mk y;have Y := ah.mk z;clear y z;have HB := ah.mk (bR w.heap.size w);have HPP := ah.mk hp;clear hp;unfold bB.f at h;have H := h;clear h;have H' := ah.mk H;clear H;go_enter Tryz.func127, Tryz.ntmps127;go_wp2
 go_loopg [8] k (fun kq Z w' => ∃ (a : Int), Z = .int .i64 a ∧ ah (bB.l0 kq l0 G (l0.length : Int) a = some r) ∧ ah (kq ≤ k) ∧ ah (Below w.heap.size w w'))
 case atStart => exact ⟨_, EQ, H', ⟨nR _⟩, ⟨BL⟩⟩
 case round =>
  clear H';obtain ⟨a, rfl, HA, A, HB⟩ := hrel
  cases gk with
  | zero => exact absurd HA.out (by simp [bB.l0])
  | succ k1 =>
   have H := HA.out;clear HA;simp only [bB.l0] at H;replace H := ifD H; rcases H with ⟨D, H⟩ | ⟨D, H⟩
   ·replace H := ifN H; obtain ⟨M, H⟩ := H;replace H := ifN H; obtain ⟨O, H⟩ := H;replace H := be H; obtain ⟨P, U, H⟩ := H;have o : 0 ≤ (a : Int) := OD;have u : a < (l0.length : Int) := OD;obtain ⟨J, E, m⟩ := Kd.jF I.out a o u
    cases E
    (try replace m := (HB.out.cell (wB w _ m)).trans m);replace o := eq_true o;replace u := eq_true u;replace H := ifB H; rcases H with ⟨rfl, H⟩ | ⟨rfl, H⟩
    ·obtain rfl := sI H;go_wp2_with (first | (refine (HPP.out k1 (gq ByteArray.empty l0 a) true _ BL U.out).mono ?_; rintro e x ⟨rfl, hb⟩; replace HB := BS (w := w) hb; (try clear hb)));go_ret;exact ⟨EWW, BL⟩
    ·have H' := ah.mk H;clear H;go_wp2_with (first | (refine (HPP.out k1 (gq ByteArray.empty l0 a) false _ BL U.out).mono ?_; rintro e x ⟨rfl, hb⟩; replace HB := BS (w := w) hb; (try clear hb)));go_roundg k1;case measure => have := A.out; omega
     case rel => exact ⟨_, EQ, H', ks A, ⟨BL⟩⟩
   ·obtain rfl := sI H;go_wp2;go_ret;exact ⟨EWW, BL⟩
def eT.f (k : Nat) (l0 : List aj) (a1 : (Nat → aj → Option Bool)) : Option (Bool) := (bB.f k l0 a1).bind fun t673 => some (decide (t673 ≥ 0))
theorem eT.calls (k : Nat) (u : Option Addr) (x : Nat) (l0 : List aj) (y : (Nat → aj → Option Bool)) (r : Bool) (w : World) (a : Kd.C Kd.string w u l0.length l0) (m : l0.length ≤ x) (h : eT.f k l0 y = some r) (g : FuncId) (lb : Array Value) (eg : ∀ args w, (callFunc g args).run Tryz.prog w = .ok (.enter g args) w) (hp : ∀ (j : Nat) (s : aj) (b : Bool) (W : World), Below w.heap.size w W → y j s = some b → Calls Tryz.prog g (#[.string s] ++ lb) W fun e w' => e = .returned (.bool b) ∧ Below W.heap.size W w') :
  Calls Tryz.prog 98 #[.slice u l0.length x, .func (.func g) #[] lb] w fun e w' => e = .returned (.bool r) ∧ Below w.heap.size w w' := by
 have z := ah.mk a;have A := ah.mk m;clear a m;have HB := ah.mk (bR w.heap.size w);have HPP := ah.mk hp;clear hp;unfold eT.f at h;have H := h;clear h;replace H := be H; obtain ⟨o, D, H⟩ := H;obtain rfl := sI H;go_enter Tryz.func98, Tryz.ntmps98;go_wp2_with (first | ((with_reducible refine aA (f := 127) rfl ?_); refine bg (some 7) Tryz.func127 #[.slice u l0.length x, .func (.func g) #[] lb] ?_; (with_reducible refine (bB.calls k _ _ l0 y o _ ?s1_ ?s2_ D.out g lb eg (fun j s b W' hb_ h_ => HPP.out j s b W' (fZ BL hb_) h_)).mono ?_); (case s1_ => repeat (first | exact z.out | (with_reducible refine Kd.ig ?_ _) | (with_reducible refine Kd.iq ?_ _) | (with_reducible refine Kd.jh ?_))); (case s2_ => exact A.out); rintro e E ⟨rfl, hb⟩; refine ⟨_, rfl, ?_⟩; replace HB := BS (w := w) hb; (try clear hb)));go_ret;exact ⟨EWW, BL⟩
theorem EI (P : Program) (fn : Fn) (first cap : Array Value) (w : World) : (Instr.makeFunc fn first cap).run P w = .ok (.func fn first cap) w := rfl
attribute [local go_sem] EI
theorem hB_ {P : Prop} (h : P := by repeat (first | (with_reducible first | exact HB.out | apply gZ | apply gL | apply cK) | exact HB.out)) : P := h
theorem hK_ {P : Prop} (h : P := by repeat (first | (with_reducible first | exact HK.out | apply Kept.alloc | apply Kept.drewN | apply Kept.drew) | exact HK.out)) : P := h
theorem hO_ {P : Prop} (h : P := by (with_reducible repeat (first | apply Kd.dW | apply Kd.dX | apply Kd.dM)); exact HO.out) : P := h
theorem hG_ {P : Prop} (h : P := by (with_reducible repeat (first | refine bf ?_ _ | refine aT ?_ | refine aV ?_ _)); exact HG.out) : P := h
theorem hA_ {P : Prop} (h : P := by (try simp only [List.map_toArray, List.map_cons, List.map_nil]); first | done | rfl | (simp only [List.length_drop, List.length_take]; rfl)) : P := h
theorem h4_ {P : Prop} (h : P := by (with_reducible repeat (first | refine bf ?_ _ | refine aT ?_ | refine aV ?_ _)); exact BK4.out) : P := h
theorem h5_ {P : Prop} (h : P := by (with_reducible repeat (first | refine bf ?_ _ | refine aT ?_ | refine aV ?_ _)); with_reducible exact BK4.out) : P := h
theorem hL_ {P : Prop} (h : P := by (with_reducible repeat (first | apply Kd.iH | apply Kd.iR | apply Kd.jl)); exact HL.out) : P := h
theorem hR_ {P : Prop} (h : P := by repeat (first | (with_reducible first | exact HBr.out | apply gZ | apply gL | apply cK) | exact HBr.out)) : P := h
theorem h8_ {P : Prop} (h : P := by (with_reducible repeat (first | refine bf ?_ _ | refine aT ?_ | refine aV ?_ _)); exact BK8.out) : P := h
theorem hC_ {P : Prop} (h : P := by (with_reducible repeat (first | apply Kd.dW | apply Kd.dX | apply Kd.dM)); exact HC.out) : P := h
theorem hU_ {P : Prop} (h : P := by (with_reducible repeat (first | apply Kd.dW | apply Kd.dX | apply Kd.dM)); exact HU2.out) : P := h
theorem cq_ {w : World} {g t : Nat} {a b c d e f : Value} (h : w.heap[g]? = some (.cells #[a, b, c, d, e, f] t (0, 0))) : w.cell? ⟨g, 0, none⟩ = some a ∧ w.cell? ⟨g, 1, none⟩ = some b ∧ w.cell? ⟨g, 2, none⟩ = some c ∧ w.cell? ⟨g, 3, none⟩ = some d ∧ w.cell? ⟨g, 4, none⟩ = some e ∧ w.cell? ⟨g, 5, none⟩ = some f := ⟨ak h 0, ak h 1, ak h 2, ak h 3, ak h 4, ak h 5⟩
theorem kb_ {w0 W w : World} {g : Nat} {ob : Obj} (h0 : ah (w0.heap[g]? = some ob)) (hb : Below W.heap.size W w) (hw : W.heap[g]? = some ob := by (with_reducible repeat (first | refine bf ?_ _ | refine aT ?_ | refine aV ?_ _)); exact ah.out (by assumption)) : ah (w.heap[g]? = some ob) := ⟨bT hw hb⟩
theorem bs_ {w W W2 : World} (hb : Below W.heap.size W W2) (h : Below w.heap.size w W := by repeat (first | (with_reducible first | exact HB.out | apply gZ | apply gL | apply cK) | exact HB.out)) : ah (Below w.heap.size w W2) := ⟨fZ h hb⟩
theorem ks_ {w W W2 : World} {S : Nat → Prop} (hb : Below W.heap.size W W2) (h : Kept w W S := by repeat (first | (with_reducible first | exact HK.out | apply Kept.alloc | apply Kept.drewN | apply Kept.drew) | exact HK.out)) : ah (Kept w W2 S) := ⟨Kept.below h hb⟩
theorem ro_ {d : Kd aj} {e base : Nat} {ok : Nat → Prop} {v : Value} {xs : List aj} {W0 W W2 : World} (h0 : ah (d.R e W0 base ok v xs)) (hb : Below W.heap.size W W2) (h : d.R e W base ok v xs := by (with_reducible repeat (first | apply Kd.dW | apply Kd.dX | apply Kd.dM)); exact HO.out) : ah (d.R e W2 base ok v xs) := ⟨Kd.jE h hb⟩
def bL.l0 : Nat → List (List Int) → List (List aj) → aj → Int → Option Bool
 | 0, _, _, _, _ => none
 | k + 1, ls, ld, fill, i => if i < (ls.length : Int) then (if 0 ≤ i then ((eG.f k fill (ls.getD i.toNat [])).bind fun p => if i < (ld.length : Int) then ((eT.f k (ld.getD i.toNat []) (fun j s => aM.f j p s)).bind fun b => if b = true then bL.l0 k ls ld fill (wrap64 (i + 1)) else some true) else none) else none) else some false
def bL.f (k : Nat) (ls : List (List Int)) (ld : List (List aj)) (fill : aj) (n : Int) : Option Bool := bL.l0 k ls ld fill n
attribute [local go_sem] EI
set_option maxHeartbeats 8000000 in
set_option maxRecDepth 100000 in
theorem bL.closure (j : Nat) (a2 : aj) (s : aj) (b : Bool) (W : World) (g0 : Nat) (h0 : W.heap[g0]? = some (.cells #[.string a2] 9 (0, 0))) (h : aM.f j a2 s = some b) :
  Calls Tryz.prog 99 #[.string s, .pointer (some ⟨g0, 0, none⟩)] W fun e w' => e = .returned (.bool b) ∧ Below W.heap.size W w' := by
 have hcz0_0 : W.cell? ⟨g0, 0, none⟩ = some (.string a2) := (ak h0 0).trans rfl
 have hfz0_0 := aC h0 0
 go_enter Tryz.func99, Tryz.ntmps99
 go_wp2_with (first | ((with_reducible refine aA (f := 67) rfl ?_); refine Dp _ rfl rfl Tryz.func67 (by kernel_rfl) rfl #[.string a2, .string s] rfl hA_ ?_; refine (aM.calls j a2 s b _ h).mono ?_; rintro e w_ ⟨rfl, hb⟩; refine ⟨_, rfl, ?_⟩; skip))
 go_ret
 exact ⟨rfl, hb.below⟩
set_option maxHeartbeats 8000000 in
set_option maxRecDepth 100000 in
theorem bL.calls (k : Nat) (g : Nat) (As : Option Addr) (cs : Nat) (ls : List (List Int)) (Ad : Option Addr) (cd : Nat) (ld : List (List aj)) (ap : Bool) (mo : Int) (vf : Value) (fill : aj) (n : Int) (r : Bool) (w : World) (hg : w.heap[g]? = some (.cells #[.slice As ls.length cs, .slice Ad ld.length cd, .bool ap, .int .i64 mo, vf] 80 (0, 0))) (hs : Kd.C (Kd.slice 3 (Kd.int .i64)) w As ls.length ls) (hcs : ls.length ≤ cs) (hd : Kd.C (Kd.slice 9 Kd.string) w Ad ld.length ld) (hcd : ld.length ≤ cd) (h : bL.f k ls ld fill n = some r) :
  Calls Tryz.prog 65 #[.pointer (some ⟨g, 0, none⟩), .string fill, .int .i64 n] w fun e w' => e = .returned (.bool r) ∧ Below w.heap.size w w' := by
 have HG := ah.mk hg
 have HS := ah.mk hs
 have HD := ah.mk hd
 have HCS := ah.mk hcs
 have HCD := ah.mk hcd
 have HB := ah.mk (Below.refl w.heap.size w)
 clear hg hs hd hcs hcd
 have H : bL.l0 k ls ld fill n = some r := h
 clear h
 have H' := ah.mk H
 clear H
 have hcg0 : w.cell? ⟨g, 0, none⟩ = some (.slice As ls.length cs) := (ak HG.out 0).trans rfl
 have hcg1 : w.cell? ⟨g, 1, none⟩ = some (.slice Ad ld.length cd) := (ak HG.out 1).trans rfl
 go_enter Tryz.func65, Tryz.ntmps65
 go_wp2
 go_loopg [7] k (fun kq v7 w' => ∃ (x7_1 : Int), v7 = .int .i64 x7_1 ∧ ah (bL.l0 kq ls ld fill x7_1 = some r) ∧ ah (kq ≤ k) ∧ ah (Below w.heap.size w w'))
 case atStart => exact ⟨n, (by first | rfl | (simp; done) | (simp [*]; done)), H', ⟨Nat.le_refl _⟩, ⟨hB_⟩⟩
 case round =>
  clear H' hcg0 hcg1
  obtain ⟨x7_1, rfl, HA, HK1, HB⟩ := hrel
  have HBr := ah.mk (Below.refl wr.heap.size wr)
  have HGr := ah.mk (bT HG.out HB.out)
  have hcg0 : wr.cell? ⟨g, 0, none⟩ = some (.slice As ls.length cs) := (ak HGr.out 0).trans rfl
  have hcg1 : wr.cell? ⟨g, 1, none⟩ = some (.slice Ad ld.length cd) := (ak HGr.out 1).trans rfl
  cases gk with
  | zero => exact absurd HA.out (by simp [bL.l0])
  | succ k1 =>
   have H := HA.out
   clear HA
   simp only [bL.l0] at H
   by_cases c3 : x7_1 < (ls.length : Int)
   ·rw [if_pos c3] at H
    have c3b0 : decide (x7_1 < (ls.length : Int)) = true := decide_eq_true c3
    by_cases c4 : 0 ≤ x7_1
    ·rw [if_pos c4] at H
     have c4b0 : decide (0 ≤ x7_1) = true := decide_eq_true c4
     obtain ⟨p, A10, H⟩ := Option.bind_eq_some_iff.mp H
     by_cases c5 : x7_1 < (ld.length : Int)
     ·rw [if_pos c5] at H
      have c5b0 : decide (x7_1 < (ld.length : Int)) = true := decide_eq_true c5
      obtain ⟨b, A20, H⟩ := Option.bind_eq_some_iff.mp H
      obtain ⟨ads, _, eAs, _, hK5, hc5⟩ := Kd.pK (Kd.eP HS.out HB.out) ([] : List Int) x7_1 c4 c3
      obtain ⟨A5, c5_, rfl, l5, g5⟩ := hK5
      obtain ⟨add_, _, eAd, _, hK6, hc6⟩ := Kd.pK (Kd.eP HD.out HB.out) ([] : List aj) x7_1 c4 c5
      obtain ⟨A6, c6_, rfl, l6, g6⟩ := hK6
      subst eAs eAd
      have hx5 : wr.cell? (ads.add x7_1.toNat) = some (.slice A5 (ls.getD x7_1.toNat []).length c5_) := by have hq := hc5 0 _ rfl; rwa [show (Kd.slice 3 (Kd.int .i64)).sz = 1 from rfl, Nat.mul_one, Nat.add_zero] at hq
      have hx6 : wr.cell? (add_.add x7_1.toNat) = some (.slice A6 (ld.getD x7_1.toNat []).length c6_) := by have hq := hc6 0 _ rfl; rwa [show (Kd.slice 9 Kd.string).sz = 1 from rfl, Nat.mul_one, Nat.add_zero] at hq
      generalize ls.getD x7_1.toNat [] = li at A10 hx5 g5 l5
      generalize ld.getD x7_1.toNat [] = di at A20 hx6 g6 l6
      have A1 := ah.mk A10
      have A2 := ah.mk A20
      have HX6 := ah.mk hx6
      have G5 := ah.mk g5
      have L5 := ah.mk l5
      have G6 := ah.mk g6
      have L6 := ah.mk l6
      clear hc5 hc6 g5 g6 l5 l6 A10 A20 hx6
      replace c3 := eq_true c3
      replace c4 := eq_true c4
      replace c5 := eq_true c5
      have H' := ah.mk H
      clear H
      rcases b with _ | _
      all_goals go_wp2_with (first | ((with_reducible refine aA (f := 66) rfl ?_); refine Dp _ rfl rfl Tryz.func66 (by kernel_rfl) rfl #[.string fill, .slice A5 li.length c5_] rfl hA_ ?_; refine (eG.calls k1 fill A5 c5_ li p _ (Kd.eP G5.out hR_) L5.out A1.out).mono ?_; rintro e w8 ⟨rfl, hb⟩; refine ⟨_, rfl, ?_⟩; have n0_ := ah.mk (fZ hB_ hb); have n1_ := ah.mk (fZ hR_ hb); clear HB HBr; have HB := n0_; have HBr := n1_; clear n0_ n1_ hb) | ((with_reducible refine aI (N := 8) rfl ?_); refine nV ?hg (N := 8) ?hd (cs := #[.string ⟨#[]⟩]) (t := 9) ?hr ?_; (case hd => rfl); (case hg => rfl); (case hr => first | (go_simp; done) | (go_simp; rfl)); intro g8 hg8 w9 hbox hb; have n0_ := ah.mk (fZ hB_ hb); have n1_ := ah.mk hbox; have n2_ := ah.mk (fZ hR_ hb); have n3_ := ah.mk (show w.heap.size ≤ g8 from by rw [hg8]; exact (aH hB_)); have n4_ := ah.mk (show wr.heap.size ≤ g8 from by rw [hg8]; exact (aH hR_)); clear HB HBr; have HB := n0_; have BK8 := n1_; have HBr := n2_; have GW8 := n3_; have GR8 := n4_; clear n0_ n1_ n2_ n3_ n4_ hb hbox hg8; have hcz8 : w9.cell? ⟨g8, 0, none⟩ = some (.string ⟨#[]⟩) := (ak BK8.out 0).trans rfl; have hfz8 := aC BK8.out 0) | ((with_reducible refine jQ (t := 9) (p := 8) rfl ?_); refine jD (t := 9) (p := 8) (v := ?vo_w10) (w1 := (w9.setCell ⟨g8, 0, none⟩ (.string p))) ?hg ?ho ?hn ?hr ?_; (case ho => rfl); (case hg => rfl); (case hn => rfl); (case hr => first | (go_simp; done) | (go_simp; rfl)); intro w10 hw; have n0_ := ah.mk ((by rw [hw]; exact fU HB.out GW8.out : Below w.heap.size w w10)); have n1_ := ah.mk ((by rw [hw]; exact fU HBr.out GR8.out : Below wr.heap.size wr w10)); have n2_ := ah.mk ((by rw [hw]; exact fM BK8.out 0 _ rfl : w10.heap[g8]? = some (.cells #[.string p] 9 (0, 0)))); clear HB HBr BK8 hcz8 hfz8 hw; have HB := n0_; have HBr := n1_; have BK8 := n2_; clear n0_ n1_ n2_; have hcg1 : w10.cell? ⟨g, 1, none⟩ = some (.slice (some add_) ld.length cd) := (ak (bT HG.out HB.out) 1).trans rfl; have hx6 : w10.cell? (add_.add x7_1.toNat) = some (.slice A6 di.length c6_) := (HBr.out.cell (World.block_lt_of_cell? wr _ HX6.out)).trans HX6.out) | ((with_reducible refine aA (f := 98) rfl ?_); refine Dp _ rfl rfl Tryz.func98 (by kernel_rfl) rfl #[.slice A6 di.length c6_, .func (.func 99) #[] #[.pointer (some ⟨g8, 0, none⟩)]] rfl hA_ ?_; refine (eT.calls k1 A6 c6_ di (fun j s => aM.f j p s) _ _ (Kd.eP G6.out hR_) L6.out A2.out 99 #[.pointer (some ⟨g8, 0, none⟩)] (fun args w => oU Tryz.func99 (by kernel_rfl) rfl args w) (fun j s b W hb_ h_ => bL.closure j p s b W g8 (bT h8_ hb_) h_)).mono ?_; rintro e w11 ⟨rfl, hb⟩; refine ⟨_, rfl, ?_⟩; have n0_ := ah.mk (fZ hB_ hb); clear HB HBr BK8; have HB := n0_; clear n0_ hb))
      ·have H := H'.out
       simp only [Bool.false_eq_true, if_false, Option.some.injEq] at H
       subst H
       go_ret
       exact ⟨by first | rfl | (simp [*]), hB_⟩
      ·have H := H'.out
       simp only [if_true] at H
       have H' := ah.mk H
       clear H
       go_roundg k1
       case measure => have := HK1.out; omega
       case rel => exact ⟨(wrap64 (x7_1 + 1)), (by first | rfl | (simp; done) | (simp [*]; done)), H', ⟨by have := HK1.out; omega⟩, ⟨hB_⟩⟩
     ·rw [if_neg c5] at H
      exact absurd H (by simp)
    ·rw [if_neg c4] at H
     exact absurd H (by simp)
   ·rw [if_neg c3] at H
    have c3b0 : decide (x7_1 < (ls.length : Int)) = false := decide_eq_false c3
    clear c3
    simp only [Option.some.injEq] at H
    subst H
    go_wp2
    go_ret
    exact ⟨by first | rfl | (simp [*]), hB_⟩
def jI.f (a0 : aj) (l1 : List Int) (a2 : aj) : Option (aj) := if a0.size ≤ 1000 ∧ l1.length ≤ a2.size ∧ a2.size ≤ 1000 ∧ (∀ x ∈ l1, 0 ≤ x ∧ x < a0.size) then some (strOfNums (Go.Proofs.YtdbefmkcondbgaaGreatDoor.HandPut.wrA l1 a2 (Go.Proofs.YtdbefmkcondbgaaGreatDoor.HandSort.nums a0).toArray l1.length).toList) else none
theorem jI.calls (a : aj) (A1 : Option Addr) (c1 : Nat) (l1 : List Int) (m r : aj) (w : World) (hr1 : Kd.C (Kd.int .i64) w A1 l1.length l1) (hc1 : l1.length ≤ c1) (h : jI.f a l1 m = some r) :
  Calls Tryz.prog 69 #[.string a, .slice A1 l1.length c1, .string m] w fun e w' => e = .returned (.string r) ∧ Below w.heap.size w w' := by
 unfold jI.f at h;by_cases h1 : a.size ≤ 1000 ∧ l1.length ≤ m.size ∧ m.size ≤ 1000 ∧ (∀ x ∈ l1, 0 ≤ x ∧ x < a.size)
 ·rw [if_pos h1] at h;obtain rfl := sI h;exact Go.Proofs.YtdbefmkcondbgaaGreatDoor.HandPut.DZ a m A1 c1 l1 w hr1 hc1 h1.1 h1.2.1 h1.2.2.1 h1.2.2.2
 ·rw [if_neg h1] at h
  cases h
def gu.f (l0 : List aj) : Option (List aj) := if l0.length ≤ 8796093022208 then (some l0) else (none)
theorem gu.info : (Tryz.prog.info? 9).map (fun i => (i.zero, i.size, i.bytes)) = some (some (.string ⟨#[]⟩), 1, 16) := by kernel_rfl
set_option maxHeartbeats 4000000 in
set_option maxRecDepth 100000 in
theorem gu.calls (A0 : Option Addr) (c0 : Nat) (l0 : List aj) (r : List aj) (w : World) (hr0 : Kd.C Kd.string w A0 l0.length l0) (hc0 : l0.length ≤ c0) (h : gu.f l0 = some r) :
  Calls Tryz.prog 70 #[.slice A0 l0.length c0] w fun e w' => ∃ v0_ : Value, e = .returned (v0_) ∧ Kd.R Kd.string 9 w' w.heap.size (fun _ => True) v0_ r ∧ Below w.heap.size w w' := by
 unfold gu.f at h
 split at h
 ·rename_i hbig
  obtain rfl := Option.some.inj h
  clear h
  have huL := Tryz.underlying29
  obtain ⟨i0, hi0, hz0, hz1, hz2⟩ := info_parts gu.info
  have q22 : ∀ (w : World) (a : Option Addr) (n c n' c' : Nat), (binOp .eql 29 (.slice a n c) (.slice none n' c')).run Tryz.prog w = .ok (.bool a.isNone) w := fun w a n c n' c' => Go.Lib.run_eql_slice_nil w _ _ a n c n' c' huL
  cases A0 with
  | none =>
   have hn : l0.length = 0 := by
    rcases Nat.eq_zero_or_pos l0.length with hn | hn
    ·exact hn
    ·obtain ⟨ad, e, _⟩ := hr0.2.2 hn
     cases e
   obtain rfl := List.length_eq_zero_iff.1 hn
   clear hi0 hz0 hz1 hz2 hr0 hn hbig hc0
   go_enter Tryz.func70, Tryz.ntmps70
   go_wp2
   go_ret
   exact ⟨_, rfl, Kd.mK _ _ _ _ _, Below.refl _ _⟩
  | some a =>
   have hcs : ∀ j v, (l0.map Value.string)[j]? = some v → w.cell? (a.add j) = some v := by
    intro j v hj
    rw [List.getElem?_map] at hj
    obtain ⟨x, hx, rfl⟩ := Option.map_eq_some_iff.1 hj
    have hlt : j < l0.length := (List.getElem?_eq_some_iff.1 hx).1
    obtain ⟨ad, e, hcx⟩ := Kd.jF hr0 (j : Int) (by omega) (by omega)
    cases e
    rw [Int.toNat_natCast] at hcx
    rw [hcx, gq, Int.toNat_natCast, List.getD_eq_getElem?_getD, hx]
    rfl
   have A : ah (∀ j v, (l0.map Value.string)[j]? = some v → w.cell? (a.add j) = some v) := ⟨hcs⟩
   have HL : ah ((l0.map Value.string).length = l0.length * 1) := ⟨by rw [List.length_map, Nat.mul_one]⟩
   clear hcs hr0
   go_enter Tryz.func70, Tryz.ntmps70
   go_wp2_with (at_builtin; refine wpList_append_own _ rfl _ _ 29 rfl w.heap.size 9 i0 (.string ⟨#[]⟩) 1 16 huL hi0 hz0 hz1 hz2 rfl (by decide) _ _ _ rfl (World.ownsRow_made w #[] 0 (Nat.le_refl _) (Nat.zero_le _) rfl) a l0.length c0 (l0.map Value.string) rfl ?qc1 ?qc2 ?qc3 ?qc4 ?qc5 ?qc6 ?_)
   case qc1 => exact HL.out
   case qc2 =>
    intro j u hj
    refine Lib.cell?_alloc_some _ ?_
    exact A.out j u hj
   case qc3 =>
    intro u hu
    obtain ⟨x, _, rfl⟩ := List.mem_map.1 hu
    rfl
   case qc4 => unfold maxLen; omega
   case qc5 => omega
   case qc6 => simp
   intro v' w1 hown hgrow hnil
   go_wp2
   go_ret
   exact ⟨v', rfl, Kd.Eb (by simpa [encs] using hown) (fun _ _ => trivial), ((Below.refl _ w).alloc (Nat.le_refl _) _).grown hgrow (by simp) (by intro k hk; simp [Value.ownBlock] at hk; omega)⟩
 ·cases h
mutual
def bJ.f : Nat → List (List Int) → List (List aj) → Int → aj → Int → List aj → Option (List aj)
 | 0, _, _, _, _, _, _ => none
 | k + 1, ls, ld, mo, fill, u, found => if u = (ls.length : Int) then (if found.length < 8796093022208 then (some (found ++ [fill])) else none) else ((bL.f k ls ld fill u).bind fun h => if h = true then (some found) else (if 0 ≤ u then (if u < (ls.length : Int) then ((eG.f k fill (ls.getD u.toNat [])).bind fun p => if u < (ld.length : Int) then bJ.l0 k ls ld mo fill u p (ld.getD u.toNat []) 0 found else none) else none) else none))
def bJ.l0 : Nat → List (List Int) → List (List aj) → Int → aj → Int → aj → List aj → Int → List aj → Option (List aj)
 | 0, _, _, _, _, _, _, _, _, _ => none
 | k + 1, ls, ld, mo, fill, u, p, ws, i, found => if i < (ws.length : Int) then (if 0 ≤ i then (if (found.length : Int) = mo then (some found) else ((aM.f k p (gq ByteArray.empty ws i)).bind fun b => if b = true then ((jI.f fill (ls.getD u.toNat []) (gq ByteArray.empty ws i)).bind fun t => if u < 8796093022208 then ((bJ.f k ls ld mo t (u + 1) found).bind fun q => bJ.l0 k ls ld mo fill u p ws (wrap64 (i + 1)) q) else none) else bJ.l0 k ls ld mo fill u p ws (wrap64 (i + 1)) found)) else none) else some found
end
/-- A row of one's own, beside which a block and the rows of another are written. -/
theorem bJ.apart {w1 w2 : World} {d : Kd aj} {A : Option Addr} {n c : Nat} {xs : List aj} {base : Nat} {S : Nat → Prop} (h : d.R 9 w1 base (fun k_ => ¬ S k_) (.slice A n c) xs) (hk : Kept w1 w2 S) : d.C w2 A n xs := Kd.qE h (fun _ hk_ => hk_) w2 hk
/-- An inner row, for whatever world the rows are kept in. -/
theorem bJ.inner {α : Type} {d : Kd α} {e : Nat} {w : World} {A : Option Addr} {S : Nat → Prop} {xs : List (List α)} (h : ∀ W', Kept w W' S → (Kd.slice e d).C W' A xs.length xs) (i : Int) (h0 : 0 ≤ i) (h1 : i < (xs.length : Int)) :
  ∃ ad B c, A = some ad ∧ (∀ W', Kept w W' S → W'.cell? (ad.add i.toNat) = some (.slice B (xs.getD i.toNat []).length c)) ∧ (xs.getD i.toNat []).length ≤ c ∧ ∀ W', Kept w W' S → d.C W' B (xs.getD i.toNat []).length (xs.getD i.toNat []) := by
 obtain ⟨ad, cs, eA, _, hK, hc⟩ := Kd.pK (h w (Kept.refl w S)) ([] : List α) i h0 h1
 obtain ⟨B, c, rfl, hl, hC⟩ := hK
 subst eA
 have hn : ¬ S ad.block := Kd.IE h (by omega) (by show 0 < 1; omega)
 have hx : w.cell? (ad.add i.toNat) = some (.slice B (xs.getD i.toNat []).length c) := by have hq := hc 0 _ rfl; rwa [show (Kd.slice e d).sz = 1 from rfl, Nat.mul_one, Nat.add_zero] at hq
 refine ⟨ad, B, c, rfl, fun W' hk => cell_kept hx hk (by rw [add_block]; exact hn), hl, fun W' hk => ?_⟩
 obtain ⟨ad', cs', eA', _, hK', hc'⟩ := Kd.pK (h W' hk) ([] : List α) i h0 h1
 obtain ⟨B', c', rfl, hl', hC'⟩ := hK'
 cases eA'
 have hq := hc' 0 _ rfl
 rw [show (Kd.slice e d).sz = 1 from rfl, Nat.mul_one, Nat.add_zero, cell_kept hx hk (by rw [add_block]; exact hn)] at hq
 injection hq with hq
 injection hq with hq _ _
 rw [hq]
 exact hC'
set_option maxHeartbeats 8000000 in
set_option maxRecDepth 100000 in
theorem bJ.calls (k : Nat) : ∀ (g : Nat) (As : Option Addr) (cs : Nat) (ls : List (List Int)) (Ad : Option Addr) (cd : Nat) (ld : List (List aj)) (mo : Int) (vf : Value) (fill : aj) (Au : Option Addr) (cu : Nat) (us : List aj) (P0_ : Nat → Prop) (found r : List aj) (w0 w : World) (hB : Below w0.heap.size w0 w) (hg : w.heap[g]? = some (.cells #[.slice As ls.length cs, .slice Ad ld.length cd, .bool false, .int .i64 mo, vf] 80 (0, 0))) (hg0 : w0.heap.size ≤ g) (hs : ∀ W_, Kept w W_ (fun k_ => k_ = g ∨ P0_ k_) → Kd.C (Kd.slice 3 (Kd.int .i64)) W_ As ls.length ls) (hcs : ls.length ≤ cs) (hd : ∀ W_, Kept w W_ (fun k_ => k_ = g ∨ P0_ k_) → Kd.C (Kd.slice 9 Kd.string) W_ Ad ld.length ld) (hcd : ld.length ≤ cd) (hu : ∀ W_, Kept w W_ (fun k_ => k_ = g ∨ P0_ k_) → Kd.C Kd.string W_ Au us.length us) (hcu : us.length ≤ cu) (hf : Kd.R Kd.string 9 w w0.heap.size P0_ vf found) (h : bJ.f k ls ld mo fill (us.length : Int) found = some r),
  Calls Tryz.prog 42 #[.pointer (some ⟨g, 0, none⟩), .string fill, .slice Au us.length cu] w fun e w' => e = .returned (.tuple #[]) ∧ ∃ v_ : Value, w'.heap[g]? = some (.cells #[.slice As ls.length cs, .slice Ad ld.length cd, .bool false, .int .i64 mo, v_] 80 (0, 0)) ∧ Kd.R Kd.string 9 w' w0.heap.size (fun k_ => (P0_ k_ ∨ w.heap.size ≤ k_)) v_ r ∧ Below w0.heap.size w0 w' ∧ Kept w w' (fun k_ => k_ = g ∨ P0_ k_) := by
 induction k using Nat.strongRecOn with
 | _ k ih =>
 intro g As cs ls Ad cd ld mo vf fill Au cu us P0_ found r w0 w hB hg hg0 hs hcs hd hcd hu hcu hf h
 cases k with
 | zero => exact absurd h (by simp [bJ.f])
 | succ k =>
 have IH := ah.mk ih
 clear ih
 have H := h
 clear h
 simp only [bJ.f] at H
 have HS := ah.mk hs
 have HD := ah.mk hd
 have HU := ah.mk hu
 have HCS := ah.mk hcs
 have HCD := ah.mk hcd
 have HCU := ah.mk hcu
 have HG0 := ah.mk hg0
 have HG := ah.mk hg
 have HO := ah.mk (show Kd.R Kd.string 9 w w0.heap.size (fun k_ => (P0_ k_ ∨ w.heap.size ≤ k_)) vf found from Kd.dN hf (fun k_ hk => (.inl hk)))
 have HK := ah.mk (Kept.refl w (fun k_ => k_ = g ∨ P0_ k_))
 have HB := ah.mk hB
 clear hs hd hu hcs hcd hcu hg0 hg hf hB
 obtain ⟨Af, cf, ef⟩ := Kd.dI HO.out
 subst ef
 have hcg0 : w.cell? ⟨g, 0, none⟩ = some (.slice As ls.length cs) := (ak HG.out 0).trans rfl
 have hcg4 : w.cell? ⟨g, 4, none⟩ = some (.slice Af found.length cf) := (ak HG.out 4).trans rfl
 by_cases c1 : (us.length : Int) = (ls.length : Int)
 ·rw [if_pos c1] at H
  have c1b : ((us.length : Int) == (ls.length : Int)) = true := beq_iff_eq.mpr c1
  have c1n : us.length = ls.length := by omega
  clear c1
  by_cases c2 : found.length < 8796093022208
  ·rw [if_pos c2] at H
   have C2 := ah.mk c2
   clear c2
   obtain ⟨y1, hy1⟩ : ∃ y_ : List aj, y_ = (found ++ [fill]) := ⟨_, rfl⟩
   rw [← hy1] at H
   have NY := ah.mk hy1
   clear hy1
   obtain rfl := Option.some.inj H
   clear H
   go_enter Tryz.func42, Tryz.ntmps42
   go_wp2_with (first | ((with_reducible refine dR (b := .append) (xs := #[.tmp 23, .tmp 25]) rfl ?_); at_builtin; refine Kd.gY Kd.string (w0 := w0) w0.heap.size rfl (.tmp 23) (.tmp 25) 29 9 (.string ⟨#[]⟩) 16 rfl Tryz.underlying29 wL rfl (by decide) (by omega) (.slice Af found.length cf) found fill [.string fill] (fun k_ => (P0_ k_ ∨ w.heap.size ≤ k_)) (fun _ => False) rfl rfl ?aP (fun _ hk => hk.elim) ?aF ?aO ?aB ?aS ?aL ?_; (case aP => exact rfl); (case aB => exact hB_); (case aF => exact (fun k_ hk => .inr hk)); (case aO => exact hO_); (case aS => exact (aH hB_)); (case aL => have := C2.out; omega); intro v1 w1 ho hb hgr hat; rw [← NY.out] at ho; have n0_ := ah.mk (dZ (g := g) (o := .cells #[.slice As ls.length cs, .slice Ad ld.length cd, .bool false, .int .i64 mo, .slice Af found.length cf] 80 (0, 0)) hG_ hgr (Kd.lI HO.out HG.out (by decide))); have n1_ := ah.mk hb; have n2_ := ah.mk (Kept.uH (S := (fun k_ => k_ = g ∨ P0_ k_)) hgr hK_ (fun k_ e_ => (HO.out.1 k_ e_).elim (fun h_ => .inl (.inr h_)) .inr)); have n3_ := ah.mk ho; clear HG HB HK HO hcg0 hcg4; have HG := n0_; have HB := n1_; have HK := n2_; have HO := n3_; clear n0_ n1_ n2_ n3_ ho hb hgr hat; have hcg4 : w1.cell? ⟨g, 4, none⟩ = some (.slice Af found.length cf) := (ak HG.out 4).trans rfl; have hfg4 := aC HG.out 4) | ((with_reducible refine jQ (t := 29) (p := 28) rfl ?_); refine jD (t := 29) (p := 28) (v := ?vo_w2) (w1 := (w1.setCell ⟨g, 4, none⟩ v1)) ?hg ?ho ?hn ?hr ?_; (case ho => rfl); (case hg => rfl); (case hn => rfl); (case hr => (obtain ⟨Av, cv, ev⟩ := Kd.dI HO.out; subst ev; first | (go_simp; done) | (go_simp; rfl))); intro w2 hw; have n0_ := ah.mk ((by rw [hw]; exact fU HB.out HG0.out : Below w0.heap.size w0 w2)); have n1_ := ah.mk ((by rw [hw]; exact Kept.setCell HK.out (.inl (.inl rfl)) _ : Kept w w2 (fun k_ => k_ = g ∨ P0_ k_))); have n2_ := ah.mk ((by rw [hw]; exact fM HG.out 4 _ rfl : w2.heap[g]? = some (.cells #[.slice As ls.length cs, .slice Ad ld.length cd, .bool false, .int .i64 mo, v1] 80 (0, 0)))); have n3_ := ah.mk ((by rw [hw]; exact Kd.Lp HO.out HG.out (by decide) 4 v1 : Kd.R Kd.string 9 w2 w0.heap.size (fun k_ => (P0_ k_ ∨ w.heap.size ≤ k_)) v1 y1)); clear HB HK HG HO hcg4 hfg4 hw; have HB := n0_; have HK := n1_; have HG := n2_; have HO := n3_; clear n0_ n1_ n2_ n3_))
   (try simp only [Exit.inBlock, Exit.then]); first | refine bodyPost_ret (results_none rfl _ _ _) rfl ?_ | refine bodyPost_end (results_none rfl _ _ _) rfl ?_
   exact ⟨rfl, v1, hG_, hO_, hB_, hK_⟩
  ·rw [if_neg c2] at H
   exact absurd H (by simp)
 ·rw [if_neg c1] at H
  have c1b : ((us.length : Int) == (ls.length : Int)) = false := beq_eq_false_iff_ne.mpr c1
  have c1n : (us.length == ls.length) = false := beq_eq_false_iff_ne.mpr (by omega)
  clear c1
  obtain ⟨u, hu_⟩ : ∃ u : Int, u = (us.length : Int) := ⟨_, rfl⟩
  rw [← hu_] at H c1b
  have NU := ah.mk hu_
  clear hu_ c1n
  obtain ⟨h1, A10, H⟩ := Option.bind_eq_some_iff.mp H
  have A1 := ah.mk A10
  clear A10
  by_cases c2 : h1 = true
  ·subst c2
   simp only [if_true, Option.some.injEq] at H
   subst H
   go_enter Tryz.func42, Tryz.ntmps42
   go_upto_region 1 with (fail)
   rw [← NU.out]
   go_wp2_with (first | ((with_reducible refine aA (f := 65) rfl ?_); refine Dp _ rfl rfl Tryz.func65 (by kernel_rfl) rfl #[.pointer (some ⟨g, 0, none⟩), .string fill, .int .i64 u] rfl hA_ ?_; refine (bL.calls k g As cs ls Ad cd ld false mo (.slice Af found.length cf) fill u true _ hG_ (HS.out _ hK_) HCS.out (HD.out _ hK_) HCD.out A1.out).mono ?_; rintro e w4 ⟨rfl, hb⟩; refine ⟨_, rfl, ?_⟩; replace HG := kb_ HG hb; replace HB := bs_ (w := w0) hb; replace HK := ks_ (w := w) hb; replace HO := ro_ HO hb; clear hb hcg0 hcg4))
   (try simp only [Exit.inBlock, Exit.then]); first | refine bodyPost_ret (results_none rfl _ _ _) rfl ?_ | refine bodyPost_end (results_none rfl _ _ _) rfl ?_
   exact ⟨rfl, _, hG_, hO_, hB_, hK_⟩
  ·replace c2 := Bool.eq_false_iff.mpr c2
   subst c2
   simp only [Bool.false_eq_true, if_false] at H
   by_cases c3 : 0 ≤ u
   ·rw [if_pos c3] at H
    by_cases c4 : u < (ls.length : Int)
    ·rw [if_pos c4] at H
     obtain ⟨p, A20, H⟩ := Option.bind_eq_some_iff.mp H
     have A2 := ah.mk A20
     clear A20
     by_cases c5 : u < (ld.length : Int)
     ·rw [if_pos c5] at H
      have H' := ah.mk H
      clear H
      obtain ⟨ads, A5, c5_, eAs, x5, l5, g5⟩ := bJ.inner HS.out u c3 c4
      obtain ⟨add_, A6, c6_, eAd, x6, l6, g6⟩ := bJ.inner HD.out u c3 c5
      subst eAs eAd
      have L5 := ah.mk l5
      have L6 := ah.mk l6
      have X5 := ah.mk x5
      have X6 := ah.mk x6
      have G5 := ah.mk g5
      have G6 := ah.mk g6
      clear l5 l6 x5 x6 g5 g6
      obtain ⟨li, hl5⟩ : ∃ li, li = ls.getD u.toNat [] := ⟨_, rfl⟩
      rw [← hl5] at A2 L5 X5 G5
      have NL5 := ah.mk hl5
      clear hl5
      generalize ld.getD u.toNat [] = di at L6 X6 G6 H'
      replace c3 := eq_true c3
      replace c4 := eq_true c4
      replace c5 := eq_true c5
      have c3b : decide (0 ≤ u) = true := by simp [c3]
      have c4b : decide (u < (ls.length : Int)) = true := by simp [c4]
      have c5b : decide (u < (ld.length : Int)) = true := by simp [c5]
      go_enter Tryz.func42, Tryz.ntmps42
      go_upto_region 1 with (fail)
      rw [← NU.out]
      go_wp2_with (first | ((with_reducible refine aA (f := 65) rfl ?_); refine Dp _ rfl rfl Tryz.func65 (by kernel_rfl) rfl #[.pointer (some ⟨g, 0, none⟩), .string fill, .int .i64 u] rfl hA_ ?_; refine (bL.calls k g (some ads) cs ls (some add_) cd ld false mo (.slice Af found.length cf) fill u false _ hG_ (HS.out _ hK_) HCS.out (HD.out _ hK_) HCD.out A1.out).mono ?_; rintro e w4 ⟨rfl, hb⟩; refine ⟨_, rfl, ?_⟩; replace HG := kb_ HG hb; replace HB := bs_ (w := w0) hb; replace HK := ks_ (w := w) hb; replace HO := ro_ HO hb; clear hb hcg0 hcg4; have hcg0 : w4.cell? ⟨g, 0, none⟩ = some (.slice (some ads) ls.length cs) := (ak HG.out 0).trans rfl; have hx5 := X5.out w4 HK.out) | ((with_reducible refine aA (f := 66) rfl ?_); refine Dp _ rfl rfl Tryz.func66 (by kernel_rfl) rfl #[.string fill, .slice A5 li.length c5_] rfl hA_ ?_; refine (eG.calls k fill A5 c5_ li p _ (G5.out _ hK_) L5.out A2.out).mono ?_; rintro e w5 ⟨rfl, hb⟩; refine ⟨_, rfl, ?_⟩; replace HG := kb_ HG hb; replace HB := bs_ (w := w0) hb; replace HK := ks_ (w := w) hb; replace HO := ro_ HO hb; clear hb hcg0 hx5; have hcg1 : w5.cell? ⟨g, 1, none⟩ = some (.slice (some add_) ld.length cd) := (ak HG.out 1).trans rfl; have hx6 := X6.out w5 HK.out))
      go_loopg [50] k (fun kq v50 w' => ∃ (i : Int) (fd : List aj) (v : Value), v50 = .int .i64 i ∧ ah (bJ.l0 kq ls ld mo fill u p di i fd = some r) ∧ ah (kq ≤ k) ∧ ah (w'.heap[g]? = some (.cells #[.slice (some ads) ls.length cs, .slice (some add_) ld.length cd, .bool false, .int .i64 mo, v] 80 (0, 0))) ∧ ah (Kd.R Kd.string 9 w' w0.heap.size (fun k_ => (P0_ k_ ∨ w.heap.size ≤ k_)) v fd) ∧ ah (Below w0.heap.size w0 w') ∧ ah (Kept w w' (fun k_ => k_ = g ∨ P0_ k_)))
      case atStart => exact ⟨0, found, _, (by first | rfl | (simp; done) | (simp [*]; done)), H', ⟨Nat.le_refl _⟩, ⟨hG_⟩, ⟨hO_⟩, ⟨hB_⟩, ⟨hK_⟩⟩
      case round =>
       clear H' hcg1 hx6
       obtain ⟨i, fd, v, rfl, HA, HK1, HG, HO, HB, HK⟩ := hrel
       cases gk with
       | zero => exact absurd HA.out (by simp [bJ.l0])
       | succ k1 =>
        have H := HA.out
        clear HA
        simp only [bJ.l0] at H
        obtain ⟨Ag, cg, eg⟩ := Kd.dI HO.out
        subst eg
        have hcg3 : wr.cell? ⟨g, 3, none⟩ = some (.int .i64 mo) := (ak HG.out 3).trans rfl
        have hcg4 : wr.cell? ⟨g, 4, none⟩ = some (.slice Ag fd.length cg) := (ak HG.out 4).trans rfl
        by_cases c6 : i < (di.length : Int)
        ·rw [if_pos c6] at H
         have c6b : decide (i < (di.length : Int)) = true := decide_eq_true c6
         by_cases c7 : 0 ≤ i
         ·rw [if_pos c7] at H
          obtain ⟨ad6, e6, hx7⟩ := Kd.jF (G6.out wr HK.out) i c7 c6
          subst e6
          generalize gq ByteArray.empty di i = s at H hx7
          replace c6 := eq_true c6
          replace c7 := eq_true c7
          by_cases c8 : (fd.length : Int) = mo
          ·rw [if_pos c8] at H
           obtain rfl := Option.some.inj H
           clear H
           have c8b : ((fd.length : Int) == mo) = true := beq_iff_eq.mpr c8
           clear c8
           go_upto_region 8 with (fail)
           go_region_held3 (fun w' => w'.cell? ⟨g, 4, none⟩ = some (.slice Ag fd.length cg) ∧ w'.cell? ⟨g, 3, none⟩ = some (.int .i64 mo)) (go_keep) (fail)
           go_wp2
           (try simp only [Exit.inBlock, Exit.then]); first | refine bodyPost_ret (results_none rfl _ _ _) rfl ?_ | refine bodyPost_end (results_none rfl _ _ _) rfl ?_
           exact ⟨rfl, _, hG_, hO_, hB_, hK_⟩
          ·rw [if_neg c8] at H
           have c8b : ((fd.length : Int) == mo) = false := beq_eq_false_iff_ne.mpr c8
           clear c8
           have hcg0 : wr.drew.cell? ⟨g, 0, none⟩ = some (.slice (some ads) ls.length cs) := (ak (aT HG.out) 0).trans rfl
           have hcg2 : wr.drew.cell? ⟨g, 2, none⟩ = some (.bool false) := (ak (aT HG.out) 2).trans rfl
           obtain ⟨b, A30, H⟩ := Option.bind_eq_some_iff.mp H
           have A3 := ah.mk A30
           clear A30
           by_cases c9 : b = true
           ·subst c9
            rw [if_pos rfl] at H
            obtain ⟨t, A40, H⟩ := Option.bind_eq_some_iff.mp H
            have A4 := ah.mk A40
            clear A40
            rw [← NL5.out] at A4
            by_cases c10 : u < 8796093022208
            ·rw [if_pos c10] at H
             have C10 := ah.mk c10
             clear c10
             obtain ⟨q, A50, H⟩ := Option.bind_eq_some_iff.mp H
             have A5_ := ah.mk A50
             clear A50
             obtain ⟨us2, hus2⟩ : ∃ y_ : List aj, y_ = (us ++ [s]) := ⟨_, rfl⟩
             have NU2 := ah.mk hus2
             clear hus2
             have H' := ah.mk H
             clear H
             go_upto_region 8 with (fail)
             go_region_held3 (fun w' => w'.cell? ⟨g, 4, none⟩ = some (.slice Ag fd.length cg) ∧ w'.cell? ⟨g, 3, none⟩ = some (.int .i64 mo)) (go_keep) (fail)
             clear hcg3 hcg4
             go_wp2_with (first | ((with_reducible refine aA (f := 67) rfl ?_); refine Dp _ rfl rfl Tryz.func67 (by kernel_rfl) rfl #[.string p, .string s] rfl hA_ ?_; refine (aM.calls k1 p s true _ A3.out).mono ?_; rintro e w9 ⟨rfl, hb⟩; refine ⟨_, rfl, ?_⟩; replace HG := kb_ HG (hb.below); replace HO := ro_ HO (hb.below); replace HB := bs_ (w := w0) (hb.below); replace HK := ks_ (w := w) (hb.below); clear hb hcg0 hcg2; have hcg0 : w9.cell? ⟨g, 0, none⟩ = some (.slice (some ads) ls.length cs) := (ak HG.out 0).trans rfl; have hcg2 : w9.cell? ⟨g, 2, none⟩ = some (.bool false) := (ak HG.out 2).trans rfl; have hx5 := X5.out w9 HK.out) | ((with_reducible refine aA (f := 69) rfl ?_); refine Dp _ rfl rfl Tryz.func69 (by kernel_rfl) rfl #[.string fill, .slice A5 li.length c5_, .string s] rfl hA_ ?_; refine (jI.calls fill A5 c5_ li s t _ (G5.out _ hK_) L5.out A4.out).mono ?_; rintro e w10 ⟨rfl, hb⟩; refine ⟨_, rfl, ?_⟩; replace HG := kb_ HG (hb); replace HO := ro_ HO (hb); replace HB := bs_ (w := w0) (hb); replace HK := ks_ (w := w) (hb); clear hb hcg0 hcg2 hx5) | ((with_reducible refine aA (f := 70) rfl ?_); refine Dp _ rfl rfl Tryz.func70 (by kernel_rfl) rfl #[.slice Au us.length cu] rfl hA_ ?_; refine (gu.calls _ _ us us _ (HU.out _ hK_) HCU.out (by have h1_ := NU.out; have h2_ := C10.out; unfold gu.f; rw [if_pos (by omega)])).mono ?_; rintro e w11 ⟨vc, rfl, hoc, hb⟩; refine ⟨_, rfl, ?_⟩; have n4_ := ah.mk (Kd.cZ hoc (aH hB_)); have n5_ : ah (∀ k_, vc.ownBlock = some k_ → w.heap.size ≤ k_) := ⟨fun k_ e_ => Nat.le_trans (hK_ : Kept w _ (fun k_ => k_ = g ∨ P0_ k_)).1 (Kd.kQ hoc k_ e_)⟩; replace HG := kb_ HG (hb); replace HO := ah.mk (Kd.kr hO_ (Kd.kQ hoc) hb); replace HB := bs_ (w := w0) (hb); replace HK := ks_ (w := w) (hb); clear hb ; have HC := n4_; have HVB := n5_; clear n4_ n5_ hoc) | ((with_reducible refine dR (b := .append) (xs := #[.tmp 91, .tmp 93]) rfl ?_); at_builtin; refine Kd.gY Kd.string (w0 := w0) w0.heap.size rfl (.tmp 91) (.tmp 93) 29 9 (.string ⟨#[]⟩) 16 rfl Tryz.underlying29 wL rfl (by decide) (by omega) vc us s [.string s] (fun _ => True) (fun _ => False) rfl rfl ?aP (fun _ hk => hk.elim) ?aF ?aO ?aB ?aS ?aL ?_; (case aP => exact rfl); (case aB => exact hB_); (case aF => exact (fun k_ hk => trivial)); (case aO => exact hC_); (case aS => exact (aH hB_)); (case aL => have h1_ := NU.out; have h2_ := C10.out; omega); intro vu w12 ho hb hgr hat; rw [← NU2.out] at ho; have n0_ := ah.mk (dZ (g := g) (o := (.cells #[.slice (some ads) ls.length cs, .slice (some add_) ld.length cd, .bool false, .int .i64 mo, .slice Ag fd.length cg] 80 (0, 0))) hG_ hgr (Kd.lI HC.out HG.out (by decide))); have n1_ := ah.mk hb; have n2_ := ah.mk (Kept.uH (S := (fun k_ => k_ = g ∨ P0_ k_)) hgr hK_ (fun k_ e_ => .inr (HVB.out k_ e_))); have n3_ := ah.mk (Kd.qF hO_ hgr hat); have n4_ := ah.mk ho; clear HG HB HK HO HC HVB; have HG := n0_; have HB := n1_; have HK := n2_; have HO := n3_; have HU2 := n4_; clear n0_ n1_ n2_ n3_ n4_ ho hb hgr hat; obtain ⟨Av, cv, ev⟩ := Kd.dI HU2.out; subst ev) | ((with_reducible refine aA (f := 42) rfl ?_); refine Dp _ rfl rfl Tryz.func42 (by kernel_rfl) rfl #[.pointer (some ⟨g, 0, none⟩), .string t, (.slice Av us2.length cv)] rfl hA_ ?_; refine (IH.out k1 (by have := HK1.out; omega) g _ cs ls _ cd ld mo _ t Av cv us2 (fun k_ => (P0_ k_ ∨ w.heap.size ≤ k_) ∧ some k_ ≠ ((.slice Av us2.length cv) : Value).ownBlock) fd q w0 _ hB_ hG_ HG0.out (Kd.rz HS.out hK_ (fun k_ hk_ => hk_.elim (fun e_ => .inl (.inl e_)) (fun h_ => h_.1.elim (fun a_ => .inl (.inr a_)) .inr))) HCS.out (Kd.rz HD.out hK_ (fun k_ hk_ => hk_.elim (fun e_ => .inl (.inl e_)) (fun h_ => h_.1.elim (fun a_ => .inl (.inr a_)) .inr))) HCD.out (fun W_ hk_ => bJ.apart (Kd.dN (Kd.pO rfl hU_) (fun k_ e_ h2_ => h2_.elim (fun e2_ => Kd.lI HU2.out HG.out (by decide) (e2_ ▸ e_)) (fun h_ => h_.2 e_))) hk_) ((Kd.bY HU2.out).2.1) hO_ (by have h_ := A5_.out; rw [NU.out] at h_; rw [NU2.out, List.length_append, List.length_singleton]; exact h_)).mono ?_; rintro e w13 ⟨rfl, v3, hG, hO, hb, hK⟩; refine ⟨_, rfl, ?_⟩; have n0_ := ah.mk hG; have n1_ := ah.mk hb; have n2_ := ah.mk (Kept.then_ (S := (fun k_ => k_ = g ∨ P0_ k_)) hK_ hK (fun k_ hk_ => hk_.elim (fun e_ => .inl (.inl e_)) (fun h_ => h_.1.elim (fun a_ => .inl (.inr a_)) .inr))); have n3_ := ah.mk (Kd.dN (ok' := (fun k_ => (P0_ k_ ∨ w.heap.size ≤ k_))) hO (fun k_ hk_ => hk_.elim (fun h_ => h_.1) (fun h_ => .inr (Nat.le_trans (hK_ : Kept w _ (fun k_ => k_ = g ∨ P0_ k_)).1 h_)))); clear HG HB HK HO HU2; have HG := n0_; have HB := n1_; have HK := n2_; have HO := n3_; clear n0_ n1_ n2_ n3_ hG hO hb hK))
             go_roundg k1
             case measure => have := HK1.out; omega
             case rel => exact ⟨(wrap64 (i + 1)), q, _, (by first | rfl | (simp; done) | (simp [*]; done)), H', ⟨by have := HK1.out; omega⟩, ⟨hG_⟩, ⟨hO_⟩, ⟨hB_⟩, ⟨hK_⟩⟩
            ·rw [if_neg c10] at H
             exact absurd H (by simp)
           ·replace c9 := Bool.eq_false_iff.mpr c9
            subst c9
            simp only [Bool.false_eq_true, if_false] at H
            have H' := ah.mk H
            clear H
            go_upto_region 8 with (fail)
            go_region_held3 (fun w' => w'.cell? ⟨g, 4, none⟩ = some (.slice Ag fd.length cg) ∧ w'.cell? ⟨g, 3, none⟩ = some (.int .i64 mo)) (go_keep) (fail)
            clear hcg3 hcg4 hcg0
            go_wp2_with (first | ((with_reducible refine aA (f := 67) rfl ?_); refine Dp _ rfl rfl Tryz.func67 (by kernel_rfl) rfl #[.string p, .string s] rfl hA_ ?_; refine (aM.calls k1 p s false _ A3.out).mono ?_; rintro e w9 ⟨rfl, hb⟩; refine ⟨_, rfl, ?_⟩; replace HG := kb_ HG (hb.below); replace HO := ro_ HO (hb.below); replace HB := bs_ (w := w0) (hb.below); replace HK := ks_ (w := w) (hb.below); clear hb hcg2; have hcg2 : w9.cell? ⟨g, 2, none⟩ = some (.bool false) := (ak HG.out 2).trans rfl))
            go_roundg k1
            case measure => have := HK1.out; omega
            case rel => exact ⟨(wrap64 (i + 1)), fd, _, (by first | rfl | (simp; done) | (simp [*]; done)), H', ⟨by have := HK1.out; omega⟩, ⟨hG_⟩, ⟨hO_⟩, ⟨hB_⟩, ⟨hK_⟩⟩
         ·rw [if_neg c7] at H
          exact absurd H (by simp)
        ·rw [if_neg c6] at H
         have c6b : decide (i < (di.length : Int)) = false := decide_eq_false c6
         clear c6
         obtain rfl := Option.some.inj H
         clear H
         go_wp2
         (try simp only [Exit.inBlock, Exit.then]); first | refine bodyPost_ret (results_none rfl _ _ _) rfl ?_ | refine bodyPost_end (results_none rfl _ _ _) rfl ?_
         exact ⟨rfl, _, hG_, hO_, hB_, hK_⟩
     ·rw [if_neg c5] at H
      exact absurd H (by simp)
    ·rw [if_neg c4] at H
     exact absurd H (by simp)
   ·rw [if_neg c3] at H
    exact absurd H (by simp)
def gH.f (k : Nat) (Mc : Int) (Md : Int) (Me : aj) (Mf : List (S75)) (Mg : List Int) (Mh : Int) (a1 : aj) (l2 : List (S57)) (l3 : List aj) : Option (List aj) := (jB.f k Mc Md Me Mf Mg Mh).bind fun p => if p = true then ((dG.f k Mc Md Me a1).bind fun q => if q = true then ((fA.f k Mc Md Me).bind fun ls => (eu.f k Mc Md Me Mf Mg Mh a1 l2 l3).bind fun ld => bJ.f k ls ld 30 a1 0 []) else some []) else some []
theorem gH.far {W : World} {g gb t : Nat} {cs : Array Value} (hb : W.heap[gb]? = some (.cells cs t (0, 0))) (hne : gb ≠ g) (v0 v1 v2 v3 v4 : Value) : (((((W.setCell ⟨g, 0, none⟩ v0).setCell ⟨g, 1, none⟩ v1).setCell ⟨g, 2, none⟩ v2).setCell ⟨g, 3, none⟩ v3).setCell ⟨g, 4, none⟩ v4).heap[gb]? = some (.cells cs t (0, 0)) :=
 iF (iF (iF (iF (iF hb (p := ⟨g, 0, none⟩) hne v0) (p := ⟨g, 1, none⟩) hne v1) (p := ⟨g, 2, none⟩) hne v2) (p := ⟨g, 3, none⟩) hne v3) (p := ⟨g, 4, none⟩) hne v4
theorem gH.fin {w W : World} {g : Nat} {v0 v1 v2 v3 v4 : Value} {ls : List (List Int)} {ld : List (List aj)} (h1 : W.heap[g]? = some (.cells #[.slice none 0 0, .slice none 0 0, .bool false, .int .i64 0, .slice none 0 0] 80 (0, 0))) (h2 : w.heap.size ≤ g) (h3 : Kd.S (Kd.slice 3 (Kd.int .i64)) 25 W w.heap.size (fun _ => True) v0 ls) (h4 : Kd.S (Kd.slice 9 Kd.string) 29 W w.heap.size (fun _ => True) v1 ld) (h5 : Below w.heap.size w W) :
  (((((W.setCell ⟨g, 0, none⟩ v0).setCell ⟨g, 1, none⟩ v1).setCell ⟨g, 2, none⟩ v2).setCell ⟨g, 3, none⟩ v3).setCell ⟨g, 4, none⟩ v4).heap[g]? = some (.cells #[v0, v1, v2, v3, v4] 80 (0, 0)) ∧ Kd.S (Kd.slice 3 (Kd.int .i64)) 25 (((((W.setCell ⟨g, 0, none⟩ v0).setCell ⟨g, 1, none⟩ v1).setCell ⟨g, 2, none⟩ v2).setCell ⟨g, 3, none⟩ v3).setCell ⟨g, 4, none⟩ v4) w.heap.size (fun _ => True) v0 ls ∧ Kd.S (Kd.slice 9 Kd.string) 29 (((((W.setCell ⟨g, 0, none⟩ v0).setCell ⟨g, 1, none⟩ v1).setCell ⟨g, 2, none⟩ v2).setCell ⟨g, 3, none⟩ v3).setCell ⟨g, 4, none⟩ v4) w.heap.size (fun _ => True) v1 ld ∧ Below w.heap.size w (((((W.setCell ⟨g, 0, none⟩ v0).setCell ⟨g, 1, none⟩ v1).setCell ⟨g, 2, none⟩ v2).setCell ⟨g, 3, none⟩ v3).setCell ⟨g, 4, none⟩ v4) := by
 have q0 := fM h1 0 v0 rfl
 have q1 := fM q0 1 v1 rfl
 have q2 := fM q1 2 v2 rfl
 have q3 := fM q2 3 v3 rfl
 have q4 := fM q3 4 v4 rfl
 exact ⟨q4, Kd.sS (Kd.sS (Kd.sS (Kd.sS (Kd.sS h3 h1 (by decide) 0 v0) q0 (by decide) 1 v1) q1 (by decide) 2 v2) q2 (by decide) 3 v3) q3 (by decide) 4 v4, Kd.sS (Kd.sS (Kd.sS (Kd.sS (Kd.sS h4 h1 (by decide) 0 v0) q0 (by decide) 1 v1) q1 (by decide) 2 v2) q2 (by decide) 3 v3) q3 (by decide) 4 v4, fU (fU (fU (fU (fU h5 h2) h2) h2) h2) h2⟩
set_option maxHeartbeats 8000000 in
set_option maxRecDepth 100000 in
theorem gH.calls (k : Nat) (Mc : Int) (Md : Int) (Me : aj) (A0_3 : Option Addr) (c0_3 : Nat) (Mf : List (S75)) (A0_4 : Option Addr) (c0_4 : Nat) (Mg : List Int) (Mh : Int) (a1 : aj) (A2 : Option Addr) (c2 : Nat) (l2 : List (S57)) (A3 : Option Addr) (c3 : Nat) (l3 : List aj) (r : List aj) (w : World) (hr0_3 : Kd.C k75 w A0_3 Mf.length Mf) (hc0_3 : Mf.length ≤ c0_3) (hr0_4 : Kd.C (Kd.int .i64) w A0_4 Mg.length Mg) (hc0_4 : Mg.length ≤ c0_4) (hr2 : Kd.C k57 w A2 l2.length l2) (hc2 : l2.length ≤ c2) (hr3 : Kd.C Kd.string w A3 l3.length l3) (hc3 : l3.length ≤ c3) (h : gH.f k Mc Md Me Mf Mg Mh a1 l2 l3 = some r) :
  Calls Tryz.prog 25 #[.agg #[.int .i64 Mc, .int .i64 Md, .string Me, .slice A0_3 Mf.length c0_3, .slice A0_4 Mg.length c0_4, .int .i64 Mh], .string a1, .slice A2 l2.length c2, .slice A3 l3.length c3] w fun e w' => ∃ v0_ : Value, e = .returned (v0_) ∧ Kd.R Kd.string 9 w' w.heap.size (fun _ => True) v0_ r ∧ Below w.heap.size w w' := by
 have hu38 := Tryz.underlying37
 have hu35 := Tryz.underlying34
 have HR0_3 := ah.mk hr0_3
 have HC0_3 := ah.mk hc0_3
 have HR0_4 := ah.mk hr0_4
 have HC0_4 := ah.mk hc0_4
 have HR2 := ah.mk hr2
 have HC2 := ah.mk hc2
 have HR3 := ah.mk hr3
 have HC3 := ah.mk hc3
 have HB := ah.mk (Below.refl w.heap.size w)
 clear hr0_3 hc0_3 hr0_4 hc0_4 hr2 hc2 hr3 hc3
 unfold gH.f at h
 obtain ⟨p, h1, h⟩ := Option.bind_eq_some_iff.mp h
 have A1 := ah.mk h1
 clear h1
 by_cases c1 : p = true
 ·subst c1
  rw [if_pos rfl] at h
  obtain ⟨q, h2, h⟩ := Option.bind_eq_some_iff.mp h
  have A2_ := ah.mk h2
  clear h2
  by_cases c2_ : q = true
  ·subst c2_
   rw [if_pos rfl] at h
   obtain ⟨ls, h3, h⟩ := Option.bind_eq_some_iff.mp h
   obtain ⟨ld, h4, h⟩ := Option.bind_eq_some_iff.mp h
   have A3_ := ah.mk h3
   have A4_ := ah.mk h4
   have A5_ := ah.mk h
   clear h h3 h4
   go_enter Tryz.func25, Tryz.ntmps25
   go_upto_region 3 with (first | ((with_reducible refine aI (N := 4) rfl ?_); refine nV ?hg (N := 4) ?hd (cs := #[.int .i64 Mc, .int .i64 Md, .string Me, .slice A0_3 Mf.length c0_3, .slice A0_4 Mg.length c0_4, .int .i64 Mh]) (t := 37) ?hr ?_; (case hd => rfl); (case hg => rfl); (case hr => first | (go_simp; done) | (go_simp; rfl)); intro gb4 hg w6 hbox hb; have n0_ := ah.mk hbox; have n1_ := ah.mk (fZ hB_ hb); clear HB; have BK4 := n0_; have HB := n1_; clear n0_ n1_ hb hbox hg; obtain ⟨hcz0, hcz1, hcz2, hcz3, hcz4, hcz5⟩ := cq_ BK4.out) | ((with_reducible refine aA (f := 38) rfl ?_); refine Dp _ rfl rfl Tryz.func38 (by kernel_rfl) rfl #[.agg #[.int .i64 Mc, .int .i64 Md, .string Me, .slice A0_3 Mf.length c0_3, .slice A0_4 Mg.length c0_4, .int .i64 Mh]] rfl hA_ ?_; refine (jB.calls k Mc Md Me _ _ Mf _ _ Mg Mh true _ (Kd.eP HR0_3.out hB_) HC0_3.out (Kd.eP HR0_4.out hB_) HC0_4.out A1.out).mono ?_; rintro e w7 ⟨rfl, hb⟩; refine ⟨_, rfl, ?_⟩; clear hcz0 hcz1 hcz2 hcz3 hcz4 hcz5; replace BK4 := kb_ BK4 hb; replace HB := bs_ (w := w) hb; clear hb; obtain ⟨hcz0, hcz1, hcz2, hcz3, hcz4, hcz5⟩ := cq_ BK4.out) | (go_at_call 39; refine (dG.calls k Mc Md Me a1 true _ A2_.out).mono ?_; rintro e w8 ⟨rfl, hb⟩; clear hcz0 hcz1 hcz2 hcz3 hcz4 hcz5; replace BK4 := kb_ BK4 hb; replace HB := bs_ (w := w) hb; clear hb; obtain ⟨hcz0, hcz1, hcz2, hcz3, hcz4, hcz5⟩ := cq_ BK4.out))
   go_cut [9] (fun v9 wc => ∃ (g : Nat) (vl vd : Value), v9 = .pointer (some ⟨g, 0, none⟩) ∧ ah (w.heap.size ≤ g) ∧ ah (wc.heap[g]? = some (.cells #[vl, vd, .bool false, .int .i64 30, .slice none 0 0] 80 (0, 0))) ∧ ah (Kd.S (Kd.slice 3 (Kd.int .i64)) 25 wc w.heap.size (fun _ => True) vl ls) ∧ ah (Kd.S (Kd.slice 9 Kd.string) 29 wc w.heap.size (fun _ => True) vd ld) ∧ ah (Below w.heap.size w wc))
   case first =>
    go_region_held3 (fun w' => w'.cell? ⟨gb4, 0, none⟩ = some (.int .i64 Mc) ∧ w'.cell? ⟨gb4, 1, none⟩ = some (.int .i64 Md) ∧ w'.cell? ⟨gb4, 2, none⟩ = some (.string Me) ∧ w'.cell? ⟨gb4, 3, none⟩ = some (.slice A0_3 Mf.length c0_3) ∧ w'.cell? ⟨gb4, 4, none⟩ = some (.slice A0_4 Mg.length c0_4) ∧ w'.cell? ⟨gb4, 5, none⟩ = some (.int .i64 Mh)) (first | exact cq_ h5_ | exact cq_ (gH.far BK4.out (KR BK4.out HGA.out (by decide)) (.slice Al ls.length cl_) (.slice Ad ld.length cd_) (.bool false) (.int .i64 30) (.slice none 0 0)) | go_keep) (first | (go_at_call 40; refine (fA.calls k Mc Md Me ls _ A3_.out).mono ?_; rintro e w9 ⟨vl, rfl, hol, hb⟩; have n2_ := ah.mk (Kd.mh hol (aH hB_)); (try (have HGA : ah (w9.heap[w8.heap.size]? = some (.cells #[.slice none 0 0, .slice none 0 0, .bool false, .int .i64 0, .slice none 0 0] 80 (0, 0))) := ⟨bT (heap_alloc_new w8.drew _) hb⟩; have HBA := HB)); replace BK4 := kb_ BK4 hb; replace HB := bs_ (w := w) hb; clear hb; have HL := n2_; clear n2_ hol; obtain ⟨Al, cl_, el⟩ := Kd.mQ HL.out; subst el) | (go_at_call 41; refine (eu.calls k Mc Md Me _ _ Mf _ _ Mg Mh a1 _ _ l2 _ _ l3 ld _ (Kd.eP HR0_3.out hB_) HC0_3.out (Kd.eP HR0_4.out hB_) HC0_4.out (Kd.eP HR2.out hB_) HC2.out (Kd.eP HR3.out hB_) HC3.out A4_.out).mono ?_; rintro e w10 ⟨vd, rfl, hod, hb⟩; have n2_ := ah.mk (Kd.mh hod (aH hB_)); have n3_ := ah.mk (Kd.gT hL_ hb); (first | (have n4_ := ah.mk (bT HGA.out hb); clear HGA; have HGA := n4_; clear n4_) | (have HGA := ah.mk (bT (heap_alloc_new _ _) hb); have HBA := HB) | skip); (try (have hga0 := (ak HGA.out 0).trans (rfl : _ = some _); have hga1 := (ak HGA.out 1).trans (rfl : _ = some _); have hga2 := (ak HGA.out 2).trans (rfl : _ = some _); have hga3 := (ak HGA.out 3).trans (rfl : _ = some _); have hga4 := (ak HGA.out 4).trans (rfl : _ = some _); have hgf0 := aC HGA.out 0; have hgf1 := aC HGA.out 1; have hgf2 := aC HGA.out 2; have hgf3 := aC HGA.out 3; have hgf4 := aC HGA.out 4)); clear HL; replace BK4 := kb_ BK4 hb; replace HB := bs_ (w := w) hb; clear hb; have HL := n3_; have HD := n2_; clear n2_ n3_ hod; obtain ⟨Ad, cd_, ed⟩ := Kd.mQ HD.out; subst ed))
    ·go_wp2
     go_meet
     case rel =>
      have hl := Kd.iH HL.out (.cells #[.slice Al ls.length cl_, .slice Ad ld.length cd_, .bool false, .int .i64 30, .slice none 0 0] 80)
      have hd := Kd.iH HD.out (.cells #[.slice Al ls.length cl_, .slice Ad ld.length cd_, .bool false, .int .i64 30, .slice none 0 0] 80)
      exact ⟨_, _, _, rfl, ⟨aH HB.out⟩, ⟨Ga _ _⟩, ⟨hl⟩, ⟨hd⟩, ⟨gZ HB.out _⟩⟩
    ·go_wp2
     go_meet
     case rel =>
      have hf := gH.fin (v2 := .bool false) (v3 := .int .i64 30) (v4 := .slice none 0 0) HGA.out (Nat.le_trans (aH HBA.out) (Nat.le_refl _)) HL.out HD.out HB.out
      exact ⟨_, _, _, rfl, ⟨aH HBA.out⟩, ⟨hf.1⟩, ⟨hf.2.1⟩, ⟨hf.2.2.1⟩, ⟨hf.2.2.2⟩⟩
    ·go_wp2
     go_meet
     case rel =>
      have hf := gH.fin (v2 := .bool false) (v3 := .int .i64 30) (v4 := .slice none 0 0) HGA.out (Nat.le_trans (aH HBA.out) (Nat.le_refl _)) HL.out HD.out HB.out
      exact ⟨_, _, _, rfl, ⟨aH HBA.out⟩, ⟨hf.1⟩, ⟨hf.2.1⟩, ⟨hf.2.2.1⟩, ⟨hf.2.2.2⟩⟩
   case rest =>
    obtain ⟨g, vl, vd, rfl, HGE, HG, HL, HD, HB⟩ := hcut
    obtain ⟨Al, cl_, el⟩ := Kd.mQ HL.out
    obtain ⟨Ad, cd_, ed⟩ := Kd.mQ HD.out
    subst el ed
    go_wp2_with (first | ((with_reducible refine aA (f := 42) rfl ?_); refine Dp _ rfl rfl Tryz.func42 (by kernel_rfl) rfl #[.pointer (some ⟨g, 0, none⟩), .string a1, .slice none 0 0] rfl hA_ ?_; refine (bJ.calls k g _ _ ls _ _ ld 30 _ a1 none 0 [] (fun _ => False) [] r w _ HB.out HG.out HGE.out (Kd.qE (ok := fun k_ => True ∧ k_ ≠ g) (Kd.mg (Kd.S_R HL.out) HG.out (by decide)) (fun k_ hk_ hs_ => hs_.elim hk_.2 (fun h_ => h_))) ((Kd.iY HL.out).2.1) (Kd.qE (ok := fun k_ => True ∧ k_ ≠ g) (Kd.mg (Kd.S_R HD.out) HG.out (by decide)) (fun k_ hk_ hs_ => hs_.elim hk_.2 (fun h_ => h_))) ((Kd.iY HD.out).2.1) (fun W_ hk_ => Kd.Kl _ _) (Nat.le_refl _) (Kd.mK _ _ _ _ _) A5_.out).mono ?_; rintro e w20 ⟨rfl, v_, hG, hO, hb, hK⟩; refine ⟨_, rfl, ?_⟩; have n0_ := ah.mk hb; have n1_ := ah.mk (Kd.dN (ok' := fun _ => True) hO (fun _ _ => trivial)); clear HB HG HL HD; have HB := n0_; have HO := n1_; clear n0_ n1_ hb hO hK; obtain ⟨Av, cv, ev⟩ := Kd.dI HO.out; subst ev; have hcg4 : w20.cell? ⟨g, 4, none⟩ = some (.slice Av r.length cv) := (ak hG 4).trans rfl; clear hG))
    go_ret
    exact ⟨_, rfl, hO_, hB_⟩
  ·replace c2_ := Bool.eq_false_iff.mpr c2_
   subst c2_
   simp only [Bool.false_eq_true, if_false, Option.some.injEq] at h
   subst h
   go_enter Tryz.func25, Tryz.ntmps25
   go_wp2_with (first | ((with_reducible refine aI (N := 4) rfl ?_); refine nV ?hg (N := 4) ?hd (cs := #[.int .i64 Mc, .int .i64 Md, .string Me, .slice A0_3 Mf.length c0_3, .slice A0_4 Mg.length c0_4, .int .i64 Mh]) (t := 37) ?hr ?_; (case hd => rfl); (case hg => rfl); (case hr => first | (go_simp; done) | (go_simp; rfl)); intro gb4 hg w6 hbox hb; have n0_ := ah.mk hbox; have n1_ := ah.mk (fZ hB_ hb); clear HB; have BK4 := n0_; have HB := n1_; clear n0_ n1_ hb hbox hg; obtain ⟨hcz0, hcz1, hcz2, hcz3, hcz4, hcz5⟩ := cq_ BK4.out) | ((with_reducible refine aA (f := 38) rfl ?_); refine Dp _ rfl rfl Tryz.func38 (by kernel_rfl) rfl #[.agg #[.int .i64 Mc, .int .i64 Md, .string Me, .slice A0_3 Mf.length c0_3, .slice A0_4 Mg.length c0_4, .int .i64 Mh]] rfl hA_ ?_; refine (jB.calls k Mc Md Me _ _ Mf _ _ Mg Mh true _ (Kd.eP HR0_3.out hB_) HC0_3.out (Kd.eP HR0_4.out hB_) HC0_4.out A1.out).mono ?_; rintro e w7 ⟨rfl, hb⟩; refine ⟨_, rfl, ?_⟩; clear hcz0 hcz1 hcz2 hcz3 hcz4 hcz5; replace BK4 := kb_ BK4 hb; replace HB := bs_ (w := w) hb; clear hb; obtain ⟨hcz0, hcz1, hcz2, hcz3, hcz4, hcz5⟩ := cq_ BK4.out) | (go_at_call 39; refine (dG.calls k Mc Md Me a1 false _ A2_.out).mono ?_; rintro e w8 ⟨rfl, hb⟩; clear hcz0 hcz1 hcz2 hcz3 hcz4 hcz5; replace BK4 := kb_ BK4 hb; replace HB := bs_ (w := w) hb; clear hb; obtain ⟨hcz0, hcz1, hcz2, hcz3, hcz4, hcz5⟩ := cq_ BK4.out))
   go_ret
   exact ⟨_, rfl, Kd.mK _ _ _ _ _, hB_⟩
 ·replace c1 := Bool.eq_false_iff.mpr c1
  subst c1
  simp only [Bool.false_eq_true, if_false, Option.some.injEq] at h
  subst h
  go_enter Tryz.func25, Tryz.ntmps25
  go_wp2_with (first | ((with_reducible refine aI (N := 4) rfl ?_); refine nV ?hg (N := 4) ?hd (cs := #[.int .i64 Mc, .int .i64 Md, .string Me, .slice A0_3 Mf.length c0_3, .slice A0_4 Mg.length c0_4, .int .i64 Mh]) (t := 37) ?hr ?_; (case hd => rfl); (case hg => rfl); (case hr => first | (go_simp; done) | (go_simp; rfl)); intro gb4 hg w6 hbox hb; have n0_ := ah.mk hbox; have n1_ := ah.mk (fZ hB_ hb); clear HB; have BK4 := n0_; have HB := n1_; clear n0_ n1_ hb hbox hg; obtain ⟨hcz0, hcz1, hcz2, hcz3, hcz4, hcz5⟩ := cq_ BK4.out) | ((with_reducible refine aA (f := 38) rfl ?_); refine Dp _ rfl rfl Tryz.func38 (by kernel_rfl) rfl #[.agg #[.int .i64 Mc, .int .i64 Md, .string Me, .slice A0_3 Mf.length c0_3, .slice A0_4 Mg.length c0_4, .int .i64 Mh]] rfl hA_ ?_; refine (jB.calls k Mc Md Me _ _ Mf _ _ Mg Mh false _ (Kd.eP HR0_3.out hB_) HC0_3.out (Kd.eP HR0_4.out hB_) HC0_4.out A1.out).mono ?_; rintro e w7 ⟨rfl, hb⟩; refine ⟨_, rfl, ?_⟩; clear hcz0 hcz1 hcz2 hcz3 hcz4 hcz5; replace BK4 := kb_ BK4 hb; replace HB := bs_ (w := w) hb; clear hb; obtain ⟨hcz0, hcz1, hcz2, hcz3, hcz4, hcz5⟩ := cq_ BK4.out))
  go_ret
  exact ⟨_, rfl, Kd.mK _ _ _ _ _, hB_⟩
def strings_ReplaceAll.f (a0 a1 a2 : aj) : Option (aj) := if a1 = ⟨#[46]⟩ ∧ a2 = ⟨#[63]⟩ ∧ a0.size ≤ 1048576 then (some (⟨(Go.Proofs.YtdbefmkcondbgaaGreatDoor.HandRepl.qm 46 63 a0.data.toList).toArray⟩ : aj)) else none
theorem strings_ReplaceAll.calls (a m : aj) (o r : aj) (w : World) (h : strings_ReplaceAll.f a m o = some r) :
  Calls Tryz.prog 44 #[.string a, .string m, .string o] w fun e w' => e = .returned (.string r) ∧ Below w.heap.size w w' := by
 unfold strings_ReplaceAll.f at h;split at h
 ·rename_i hc;obtain ⟨rfl, rfl, u⟩ := hc;obtain rfl := sI h;exact Go.Proofs.YtdbefmkcondbgaaGreatDoor.HandRepl.DJ a w u
 ·exact absurd h (by simp)
def jR.f (k : Nat) (Mc Md : Int) (Me : aj) : Option (aj) := (bE.f k Mc Md Me).bind fun t675 => if t675 = true then (strings_ReplaceAll.f Me (⟨#[46]⟩ : aj) (⟨#[63]⟩ : aj)).bind fun t676 => some t676 else some (⟨#[]⟩ : aj)
theorem jR.calls (k : Nat) (Mc Md : Int) (Me r : aj) (w : World) (h : jR.f k Mc Md Me = some r) :
  Calls Tryz.prog 26 #[.agg #[.int .i64 Mc, .int .i64 Md, .string Me]] w fun e w' => e = .returned (.string r) ∧ Below w.heap.size w w' := by
 have Z := Tryz.underlying34;have HB := ah.mk (bR w.heap.size w);unfold jR.f at h;have H := h;clear h;replace H := be H; obtain ⟨xa, A2, H⟩ := H;replace H := ah.mk H;go_enter Tryz.func26, Tryz.ntmps26;go_wp2_with (first | ((with_reducible refine aI (N := 1) rfl ?_); refine aZ (N := 1) (cs := #[.int .i64 Mc, .int .i64 Md, .string Me]) (t := 34) ?_; intro M hg O hbox hb; have a := ah.mk hbox; have m := SZ (w := w) hg; have P := m; replace HB := BS (w := w) hb; clear hb hbox hg; obtain ⟨o, u, x, y, z, A⟩ := cz3 a.out) | ((with_reducible refine aA (f := 43) rfl ?_); refine bg (some 4) Tryz.func43 #[.agg #[.int .i64 Mc, .int .i64 Md, .string Me]] ?_; (with_reducible refine (bE.calls k Mc Md Me _ _ A2.out).mono ?_); rintro e U ⟨rfl, hb⟩; refine ⟨_, rfl, ?_⟩; replace a := KB a hb; replace HB := BS (w := w) hb; (try clear hb); obtain ⟨D, E, G, I, J, K⟩ := cz3 a.out; refine dx ?_));refine Hide.mk ?_;replace H := H.out;replace H := ifB H; rcases H with ⟨rfl, H⟩ | ⟨rfl, H⟩
 ·replace H := be H; obtain ⟨L, A4, H⟩ := H;obtain rfl := sI H;(try go_wp2_with (first | ((with_reducible refine aA (f := 44) rfl ?_); refine bg (some 8) Tryz.func44 #[.string Me, .string (⟨#[46]⟩ : aj), .string (⟨#[63]⟩ : aj)] ?_; (with_reducible refine (strings_ReplaceAll.calls Me (⟨#[46]⟩ : aj) (⟨#[63]⟩ : aj) L _ A4.out).mono ?_); rintro e Y ⟨rfl, hb⟩; refine ⟨_, rfl, ?_⟩; replace a := KB a hb; replace HB := BS (w := w) hb; (try clear hb))));go_ret;exact ⟨EWW, BL⟩
 ·obtain rfl := sI H;(try go_wp2);go_ret;exact ⟨EWW, BL⟩
def dK.f (k : Nat) (Mc Md : Int) (Me : aj) (Mf : List S75) (Mg : List Int) (Mh : Int) (l1 : List S57) (l2 : List aj) : Option (Bool) := (jR.f k Mc Md Me).bind fun t678 => (gH.f k Mc Md Me Mf Mg Mh t678 l1 l2).bind fun t679 => some ((t679.length : Int) == 1)
def dK.T1 : Bool × List (List Nat × List Nat) := (true, [([], []), ([], []), ([1], [1]), ([2], [2]), ([], []), ([], []), ([0, 3, 4, 5, 3], [0, 3, 4, 5]), ([6], [6]), ([7], [7]), ([8, 6, 0, 1, 2, 3, 4, 5, 6, 7, 8], [8])])
def dK.B1 : List Nat := [0, 0, 2, 6, 0, 0, 63, 127, 255, 511]
theorem dK.FT : kX .any (opsOf Tryz.f11 1) = dK.T1 := by kernel_rfl
theorem dK.Ay : jg dK.T1.2 dK.B1 = true := by kernel_rfl
theorem dK.calls (k : Nat) (Mc Md : Int) (Me : aj) (A0_3 : Option Addr) (c0_3 : Nat) (Mf : List S75) (A0_4 : Option Addr) (c0_4 : Nat) (Mg : List Int) (Mh : Int) (A1 : Option Addr) (c1 : Nat) (l1 : List S57) (A2 : Option Addr) (c2 : Nat) (l2 : List aj) (r : Bool) (w : World) (hr0_3 : Kd.C k75 w A0_3 Mf.length Mf) (hc0_3 : Mf.length ≤ c0_3) (hr0_4 : Kd.C (Kd.int .i64) w A0_4 Mg.length Mg) (hc0_4 : Mg.length ≤ c0_4) (hr1 : Kd.C k57 w A1 l1.length l1) (hc1 : l1.length ≤ c1) (hr2 : Kd.C Kd.string w A2 l2.length l2) (hc2 : l2.length ≤ c2) (h : dK.f k Mc Md Me Mf Mg Mh l1 l2 = some r) :
  Calls Tryz.prog 11 #[.agg #[.int .i64 Mc, .int .i64 Md, .string Me, .slice A0_3 Mf.length c0_3, .slice A0_4 Mg.length c0_4, .int .i64 Mh], .slice A1 l1.length c1, .slice A2 l2.length c2] w fun e w' => e = .returned (.bool r) ∧ Below w.heap.size w w' := by
 have U := Tryz.underlying37;have Y := Tryz.underlying34;have x := ah.mk hr0_3;have y := ah.mk hc0_3;clear hr0_3 hc0_3;have z := ah.mk hr0_4;have A := ah.mk hc0_4;clear hr0_4 hc0_4;have J := ah.mk hr1;have L := ah.mk hc1;clear hr1 hc1;have M := ah.mk hr2;have O := ah.mk hc2;clear hr2 hc2;have HB := ah.mk (bR w.heap.size w);unfold dK.f at h;have H := h;clear h;replace H := be H; obtain ⟨o, A4, H⟩ := H;replace H := be H; obtain ⟨G, A5, H⟩ := H;obtain rfl := sI H;go_enter Tryz.func11, Tryz.ntmps11;(try go_wp2_with (first | ((with_reducible refine aI (N := 3) rfl ?_); refine aZ (N := 3) (cs := #[.int .i64 Mc, .int .i64 Md, .string Me, .slice A0_3 Mf.length c0_3, .slice A0_4 Mg.length c0_4, .int .i64 Mh]) (t := 37) ?_; intro m hg w6 hbox hb; have a := ah.mk hbox; have D := SZ (w := w) hg; have P := D; replace HB := BS (w := w) hb; clear hb hbox hg)));replace a := ah.mk (aT a.out);replace HB := ah.mk (cK HB.out);refine jA (n := 10) (S := fun w' => w'.cell? ⟨m, 0, none⟩ = some (.int .i64 Mc) ∧ w'.cell? ⟨m, 1, none⟩ = some (.int .i64 Md) ∧ w'.cell? ⟨m, 2, none⟩ = some (.string Me) ∧ w'.cell? ⟨m, 3, none⟩ = some (.slice A0_3 Mf.length c0_3) ∧ w'.cell? ⟨m, 4, none⟩ = some (.slice A0_4 Mg.length c0_4) ∧ w'.cell? ⟨m, 5, none⟩ = some (.int .i64 Mh)) (ds := []) #[F,F,F,F,F,F,F,F,F,F] (by kernel_rfl) rfl rfl ⟨(ak a.out 0).trans rfl, (ak a.out 1).trans rfl, (ak a.out 2).trans rfl, (ak a.out 3).trans rfl, (ak a.out 4).trans rfl, (ak a.out 5).trans rfl⟩ (fun hHeld => ?_); refine iG dK.FT dK.Ay (fun HT_ HW_ => ?_);generalize w6.drew = w7 at a HB hHeld ⊢;refine pS 1 (some 8) #[F,T,F,F,F,F,F,F,F,F] ?_;refine pS 4 (some 11) #[F,T,F,F,T,F,F,F,F,F] ?_;refine pS 5 (some 12) #[F,T,F,F,T,T,F,F,F,F] ?_;refine tS 0 (some 7) #[T,T,F,F,T,T,F,F,F,F] ?_;refine tS 2 (some 9) #[T,T,T,F,T,T,F,F,F,F] ?_;refine ko (i := 3) (N := some 10) #[T,T,T,T,T,T,F,F,F,F] rfl rfl (iM HT_.out (by kernel_rfl)) (by decide) (fun K hK => ?_);refine iX Tryz.func26 #[.agg #[.int .i64 Mc, .int .i64 Md, .string Me]] ?_;(with_reducible refine (jR.calls k Mc Md Me o _ A4.out).mono ?_);rintro e w8 ⟨rfl, hb⟩;refine ⟨_, rfl, ?_⟩;replace a := KB a hb;replace HB := BS (w := w) hb;(try clear hb);refine hK.out _ _ ⟨(ak a.out 0).trans rfl, (ak a.out 1).trans rfl, (ak a.out 2).trans rfl, (ak a.out 3).trans rfl, (ak a.out 4).trans rfl, (ak a.out 5).trans rfl⟩ (fun hHeld => ?_);clear hK K;refine nrm (some 10) ?_;refine ko (i := 6) (N := some 13) #[T,T,T,T,T,T,T,F,F,F] rfl rfl (iM HT_.out (by kernel_rfl)) (by decide) (fun K hK => ?_);refine iX Tryz.func25 #[.agg #[.int .i64 Mc, .int .i64 Md, .string Me, .slice A0_3 Mf.length c0_3, .slice A0_4 Mg.length c0_4, .int .i64 Mh], .string o, .slice A1 l1.length c1, .slice A2 l2.length c2] ?_;(with_reducible refine (gH.calls k Mc Md Me _ _ Mf _ _ Mg Mh o _ _ l1 _ _ l2 G _ ?s1_ ?s2_ ?s3_ ?s4_ ?s5_ ?s6_ ?s7_ ?s8_ A5.out).mono ?_);(case s1_ => exact CB x);(case s2_ => exact y.out);(case s3_ => exact CB z);(case s4_ => exact A.out);(case s5_ => exact CB J);(case s6_ => exact L.out);(case s7_ => exact CB M);(case s8_ => exact O.out);rintro e w9 ⟨Z, rfl, I, hb⟩;refine ⟨_, rfl, ?_⟩;have E := ah.mk (Kd.cZ I (aH BL));replace a := KB a hb;replace HB := BS (w := w) hb;(try clear hb);(try clear I);obtain ⟨xa, xb, u⟩ := Kd.dI E.out;(first | subst u | (injection u with f1_ f2_ f3_; have f4_ := f1_.symm; have f5_ := f3_.symm; clear f1_ f2_ f3_; subst f4_; subst f5_));refine hK.out _ _ ⟨(ak a.out 0).trans rfl, (ak a.out 1).trans rfl, (ak a.out 2).trans rfl, (ak a.out 3).trans rfl, (ak a.out 4).trans rfl, (ak a.out 5).trans rfl⟩ (fun hHeld => ?_);clear hK K;refine nrm (some 13) ?_;refine pS 7 (some 14) #[T,T,T,T,T,T,T,T,F,F] ?_;refine pS 8 (some 15) #[T,T,T,T,T,T,T,T,T,F] ?_;refine pS 9 (some 6) #[T,T,T,T,T,T,T,T,T,T] ?_;refine iO (gG HT_.out (by kernel_rfl)) ?_;(try go_wp2);go_ret;exact ⟨EWW, BL⟩
def nk.f (Mc Md : Int) (Me : aj) (a1_0 a1_1 : Int) (a1_2 : aj) : Option (Bool) := if Mc = a1_0 then if Md = a1_1 then if Me.toList = a1_2.toList then some true else some false else some false else some false
theorem nk.calls (Mc Md : Int) (Me : aj) (u x : Int) (y : aj) (r : Bool) (w : World) (h : nk.f Mc Md Me u x y = some r) :
  Calls Tryz.prog 27 #[.agg #[.int .i64 Mc, .int .i64 Md, .string Me], .agg #[.int .i64 u, .int .i64 x, .string y]] w fun e w' => e = .returned (.bool r) ∧ Below w.heap.size w w' := by
 have xo := Tryz.underlying34;have HB := ah.mk (bR w.heap.size w);unfold nk.f at h;have H := h;clear h;replace H := ah.mk H;go_enter Tryz.func27, Tryz.ntmps27;go_wp2_with (first | ((with_reducible refine aI (N := 2) rfl ?_); refine aZ (N := 2) (cs := #[.int .i64 Mc, .int .i64 Md, .string Me]) (t := 34) ?_; intro xi hg xj hbox hb; have a := ah.mk hbox; have z := SZ (w := w) hg; have xk := z; replace HB := BS (w := w) hb; clear hb hbox hg) | ((with_reducible refine aI (N := 3) rfl ?_); refine aZ (N := 3) (cs := #[.int .i64 u, .int .i64 x, .string y]) (t := 34) ?_; intro xl hg xm hbox hb; have A := ah.mk (hbox); have D := SZ (w := w) hg; have xn := D; replace HB := BS (w := w) hb; have m := NL a hg; have o := NG a hg; replace a := KB a hb; clear hb hbox hg; have xa := m.out; have xb := o.out; obtain ⟨E, G, I, J, K, L⟩ := cz3 a.out; obtain ⟨M, O, P, U, Y, Z⟩ := cz3 A.out; refine dx ?_));refine Hide.mk ?_;replace H := H.out;replace H := ifE H; rcases H with ⟨xc, xd, H⟩ | ⟨c3, xc, xd, H⟩
 ·replace H := ifE H; rcases H with ⟨xe, xf, H⟩ | ⟨c4, xe, xf, H⟩
  ·replace H := ifE H; rcases H with ⟨xg, xh, H⟩ | ⟨c5, xg, xh, H⟩
   ·obtain rfl := sI H;(try go_wp2);go_ret;exact ⟨EWW, BL⟩
   ·obtain rfl := sI H;(try go_wp2);go_ret;exact ⟨EWW, BL⟩
  ·obtain rfl := sI H;(try go_wp2);go_ret;exact ⟨EWW, BL⟩
 ·obtain rfl := sI H;(try go_wp2);go_ret;exact ⟨EWW, BL⟩
def nu.f (Mc : Int) (Md : aj) (Me a0_3 a1_0 : Int) (a1_1 : aj) (a1_2 a1_3 : Int) : Option (Bool) := if Mc = a1_0 then if Md.toList = a1_1.toList then if Me = a1_2 then if a0_3 = a1_3 then some true else some false else some false else some false else some false
theorem nu.calls (Mc : Int) (Md : aj) (Me u x : Int) (y : aj) (z A : Int) (r : Bool) (w : World) (h : nu.f Mc Md Me u x y z A = some r) :
  Calls Tryz.prog 109 #[.agg #[.int .i64 Mc, .string Md, .int .i64 Me, .int .i64 u], .agg #[.int .i64 x, .string y, .int .i64 z, .int .i64 A]] w fun e w' => e = .returned (.bool r) ∧ Below w.heap.size w w' := by
 have xq := Tryz.underlying116;have HB := ah.mk (bR w.heap.size w);unfold nu.f at h;have H := h;clear h;replace H := ah.mk H;go_enter Tryz.func109, Tryz.ntmps109;go_wp2_with (first | ((with_reducible refine aI (N := 2) rfl ?_); refine aZ (N := 2) (cs := #[.int .i64 Mc, .string Md, .int .i64 Me, .int .i64 u]) (t := 116) ?_; intro xr hg xs hbox hb; have a := ah.mk hbox; have D := SZ (w := w) hg; have xt := D; replace HB := BS (w := w) hb; clear hb hbox hg) | ((with_reducible refine aI (N := 3) rfl ?_); refine aZ (N := 3) (cs := #[.int .i64 x, .string y, .int .i64 z, .int .i64 A]) (t := 116) ?_; intro xu hg xv hbox hb; have E := ah.mk (hbox); have G := SZ (w := w) hg; have xw := G; replace HB := BS (w := w) hb; have m := NL a hg; have o := NG a hg; replace a := KB a hb; clear hb hbox hg; have xg := m.out; have xh := o.out; obtain ⟨I, J, K, L, M, O, P, U⟩ := cz4 a.out; obtain ⟨Y, Z, xa, xb, xc, xd, xe, xf⟩ := cz4 E.out; refine dx ?_));refine Hide.mk ?_;replace H := H.out;replace H := ifE H; rcases H with ⟨xi, xj, H⟩ | ⟨c3, xi, xj, H⟩
 ·replace H := ifE H; rcases H with ⟨xk, xl, H⟩ | ⟨c4, xk, xl, H⟩
  ·replace H := ifE H; rcases H with ⟨xm, xn, H⟩ | ⟨c5, xm, xn, H⟩
   ·replace H := ifE H; rcases H with ⟨xo, xp, H⟩ | ⟨c6, xo, xp, H⟩
    ·obtain rfl := sI H;(try go_wp2);go_ret;exact ⟨EWW, BL⟩
    ·obtain rfl := sI H;(try go_wp2);go_ret;exact ⟨EWW, BL⟩
   ·obtain rfl := sI H;(try go_wp2);go_ret;exact ⟨EWW, BL⟩
  ·obtain rfl := sI H;(try go_wp2);go_ret;exact ⟨EWW, BL⟩
 ·obtain rfl := sI H;(try go_wp2);go_ret;exact ⟨EWW, BL⟩
end Go.Proofs.YtdbefmkcondbgaaGreatDoor.PFnExactHasOneSolution
