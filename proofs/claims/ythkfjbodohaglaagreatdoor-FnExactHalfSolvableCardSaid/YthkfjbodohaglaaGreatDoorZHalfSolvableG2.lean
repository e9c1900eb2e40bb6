/- Walks of functions: what each computes. -/
import Derived.Test.YthkfjbodohaglaaGreatDoorZHalfSolvableG0
import Derived.Test.YthkfjbodohaglaaGreatDoorZHalfSolvableG1
import Derived.Test.YthkfjbodohaglaaGreatDoorZHalfSolvableW
import Derived.Test.YthkfjbodohaglaaGreatDoorZHalfSolvableShelf
import Derived.Test.YthkfjbodohaglaaGreatDoorZHalfSolvableHandSort
import Derived.Test.YthkfjbodohaglaaGreatDoorZHalfSolvableHandForm
import Derived.Test.YthkfjbodohaglaaGreatDoorZHalfSolvableHandAlone
import Derived.Test.YthkfjbodohaglaaGreatDoorZHalfSolvableHandReach
import Derived.Test.YthkfjbodohaglaaGreatDoorZHalfSolvableHandRepl
namespace Go.Proofs.YthkfjbodohaglaaGreatDoor.PFnExactHalfSolvable
open Go.RowKit Go.Proofs.YthkfjbodohaglaaGreatDoorW.PrintWords Go.Proofs.YthkfjbodohaglaaGreatDoorW.PrintLast Go.Proofs.YthkfjbodohaglaaGreatDoorW.PrintMore Go.Proofs.YthkfjbodohaglaaGreatDoor.Sq
attribute [local go_sem] kH kJ lY lZ jG jH kI kK
set_option maxHeartbeats 8000000
set_option maxRecDepth 100000
set_option linter.unusedVariables false
set_option linter.unusedSimpArgs false
mutual
def fE.j0 : Nat → List (bQ) → Int → Bool → Int → ByteArray → Int → Int → Option (Bool)
 | 0, _, _, _, _, _, _, _ => none
 | k + 1, a, b, c, d, e, f, g => if c = true then (some false) else (if d = 4 then (fE.j1 k a b true d e f g) else (fE.j1 k a b (d == 5) d e f g))
def fE.j1 : Nat → List (bQ) → Int → Bool → Int → ByteArray → Int → Int → Option (Bool)
 | 0, _, _, _, _, _, _, _ => none
 | k + 1, a, b, c, d, e, f, g => if d = 1 then (if f = 0 then (some (g == 0)) else (some false)) else ((bD.f f 0 (wrap64 (b - 1))).bind fun h => (if h = true then (if c = true then ((bD.f g 0 (wrap64 (b - 1))).bind fun i => (if i = true then (some true) else (some false))) else (if g = 0 then (if d = 2 then (some true) else (if 0 ≤ f then (if f < (a.length : Int) then (some (((aj a f).f0) == 1)) else (none)) else (none))) else (some false))) else (some false)))
end
def fE.f (k : Nat) (l0 : List (bQ)) (a1 : Int) : Option (Bool) := if 0 ≤ a1 then (if a1 < (l0.length : Int) then ((bD.f ((aj l0 a1).f0) 1 9).bind fun t209 => (if t209 = true then ((bE.f k ((aj l0 a1).f1)).bind fun t210 => (if ((((aj l0 a1).f0) == 1) != t210) = true then (fE.j0 k l0 a1 true ((aj l0 a1).f0) ((aj l0 a1).f1) ((aj l0 a1).f2) ((aj l0 a1).f3)) else (if ((aj l0 a1).f0) = 1 then (fE.j0 k l0 a1 false ((aj l0 a1).f0) ((aj l0 a1).f1) ((aj l0 a1).f2) ((aj l0 a1).f3)) else (fE.j0 k l0 a1 (((aj l0 a1).f1).toList != ([] : List UInt8)) ((aj l0 a1).f0) ((aj l0 a1).f1) ((aj l0 a1).f2) ((aj l0 a1).f3))))) else (fE.j0 k l0 a1 true ((aj l0 a1).f0) ((aj l0 a1).f1) ((aj l0 a1).f2) ((aj l0 a1).f3)))) else (none)) else (none)
theorem fE.calls (k : Nat) (A0 : Option Addr) (c0 : Nat) (l0 : List (bQ)) (a : Int) (r : Bool) (w : World) (yi : Kd.C iH w A0 l0.length l0) (yj : l0.length ≤ c0) (h : fE.f k l0 a = some r) :
  Calls Tryz.prog 118 #[.slice A0 l0.length c0, .int .i64 a] w fun e w' => e = .returned (.bool r) ∧ Below w.heap.size w w' := by
 have ym := Tryz.underlying121;have xu := ah.mk yi;have yz := ah.mk yj;clear yi yj;have HB := ah.mk (Below.refl w.heap.size w);unfold fE.f at h;have H := h;clear h;replace H := ifN H; obtain ⟨xv, H⟩ := H;replace H := ifN H; obtain ⟨xw, H⟩ := H;have xx := ah.mk H;clear H;have xd : 0 ≤ (a : Int) := OD;have xe : a < (l0.length : Int) := OD;obtain ⟨xk, yk, xf, xg, xh, xi⟩ := kD xu.out a xd xe
 cases yk
 replace xd := eq_true xd;replace xe := eq_true xe;go_enter Tryz.func118, Tryz.ntmps118;go_upto_region 2 with (first | ((with_reducible refine aJ (N := 5) rfl ?_); refine bf (N := 5) (cs := #[.int .i64 0, .string (⟨#[]⟩ : ByteArray), .int .i64 0, .int .i64 0]) (t := 121) ?_; intro xb hg xr hbox hb; have x := ah.mk hbox; have U := SZ (w := w) hg; have xs := U; replace HB := BS (w := w) hb; clear hb hbox hg; obtain ⟨z, A, D, E, G, I, J, K⟩ := cz4 x.out))
 repeat (go_quiet (first | ((with_reducible refine aJ (N := 5) rfl ?_); refine bf (N := 5) (cs := #[.int .i64 0, .string (⟨#[]⟩ : ByteArray), .int .i64 0, .int .i64 0]) (t := 121) ?_; intro xb hg xr hbox hb; have x := ah.mk hbox; have U := SZ (w := w) hg; have xs := U; replace HB := BS (w := w) hb; clear hb hbox hg; obtain ⟨z, A, D, E, G, I, J, K⟩ := cz4 x.out)); go_upto_region 2 with (first | ((with_reducible refine aJ (N := 5) rfl ?_); refine bf (N := 5) (cs := #[.int .i64 0, .string (⟨#[]⟩ : ByteArray), .int .i64 0, .int .i64 0]) (t := 121) ?_; intro xb hg xr hbox hb; have x := ah.mk hbox; have U := SZ (w := w) hg; have xs := U; replace HB := BS (w := w) hb; clear hb hbox hg; obtain ⟨z, A, D, E, G, I, J, K⟩ := cz4 x.out)))
 (try simp only [Act.put, List.setIfInBounds_toArray, List.set_cons_zero, List.set_cons_succ])
 go_cut [33] (fun yn wc => ∃ (kq : Nat) (xl : Bool), yn = .bool xl ∧ ah (fE.j0 kq l0 a xl ((aj l0 a).f0) ((aj l0 a).f1) ((aj l0 a).f2) ((aj l0 a).f3) = some r) ∧ ah (kq ≤ k) ∧ ah (wc.heap[xb]? = some (.cells #[.int .i64 ((aj l0 a).f0), .string ((aj l0 a).f1), .int .i64 ((aj l0 a).f2), .int .i64 ((aj l0 a).f3)] 121 (0, 0))) ∧ ah (Below w.heap.size w wc))
 case first =>
  have H := xx.out;clear xx;replace H := be H; obtain ⟨yu, A8, H⟩ := H;obtain ⟨xy, xz, xA, xB, xC, xD, xE, xF⟩ := cz4 x.out;replace H := ifB H; rcases H with ⟨rfl, H⟩ | ⟨rfl, H⟩
  ·replace H := be H; obtain ⟨y, xc, H⟩ := H;by_cases Y : ((((aj l0 a).f0) == 1) != y) = true
   ·rw [if_pos Y] at H;have P : ((((aj l0 a).f0) == 1) != y) = true := Y;(try (have xG : decide ((((aj l0 a).f0) == 1) = y) = false := by simpa using Y));(try (have xH : ((((aj l0 a).f0) == 1) == y) = false := by simpa using Y));(try (have yo : ¬ ((((aj l0 a).f0) == 1) = y) := by simpa using Y));clear Y;(first | rw [P] | (simp only [iB, iZ]; rw [P]) | skip);have H' := ah.mk H;clear H
    repeat (go_wp2_with (first | (go_at_call 56; (with_reducible refine (bD.calls ((aj l0 a).f0) 1 9 _ _ A8.out).mono ?_); rintro e w' ⟨rfl, ⟨nd, rfl⟩⟩; (try first | exact da | exact DD)) | (go_at_call 104; (with_reducible refine (bE.calls k ((aj l0 a).f1) y _ xc.out).mono ?_); rintro e w' ⟨rfl, ⟨nd, rfl⟩⟩; (try first | exact da | exact DD))); go_quiet (first | (go_at_call 56; (with_reducible refine (bD.calls ((aj l0 a).f0) 1 9 _ _ A8.out).mono ?_); rintro e w' ⟨rfl, ⟨nd, rfl⟩⟩; (try first | exact da | exact DD)) | (go_at_call 104; (with_reducible refine (bE.calls k ((aj l0 a).f1) y _ xc.out).mono ?_); rintro e w' ⟨rfl, ⟨nd, rfl⟩⟩; (try first | exact da | exact DD))))
    go_wp2_with (first | (go_at_call 56; (with_reducible refine (bD.calls ((aj l0 a).f0) 1 9 _ _ A8.out).mono ?_); rintro e w' ⟨rfl, ⟨nd, rfl⟩⟩; (try first | exact da | exact DD)) | (go_at_call 104; (with_reducible refine (bE.calls k ((aj l0 a).f1) y _ xc.out).mono ?_); rintro e w' ⟨rfl, ⟨nd, rfl⟩⟩; (try first | exact da | exact DD)));go_meet;case rel => exact ⟨_, (true), (by first | rfl | (simp; done) | (simp [*]; rw [Bool.eq_iff_iff]; simp [bne, List.isEmpty_iff]; done) | (simp [*]; done)), H', ⟨by first | omega | exact Nat.le_refl _⟩, ⟨by (with_reducible repeat (first | refine aC ?_ _ | refine aH ?_ | refine aD ?_ _)); refine aX (cs := #[.int .i64 ((aj l0 a).f0), .string ((aj l0 a).f1), .int .i64 ((aj l0 a).f2), .int .i64 0]) ?_ 3 _ rfl; (with_reducible repeat (first | refine aC ?_ _ | refine aH ?_ | refine aD ?_ _)); refine aX (cs := #[.int .i64 ((aj l0 a).f0), .string ((aj l0 a).f1), .int .i64 0, .int .i64 0]) ?_ 2 _ rfl; (with_reducible repeat (first | refine aC ?_ _ | refine aH ?_ | refine aD ?_ _)); refine aX (cs := #[.int .i64 ((aj l0 a).f0), .string (⟨#[]⟩ : ByteArray), .int .i64 0, .int .i64 0]) ?_ 1 _ rfl; (with_reducible repeat (first | refine aC ?_ _ | refine aH ?_ | refine aD ?_ _)); refine aX (cs := #[.int .i64 0, .string (⟨#[]⟩ : ByteArray), .int .i64 0, .int .i64 0]) ?_ 0 _ rfl; (with_reducible repeat (first | refine aC ?_ _ | refine aH ?_ | refine aD ?_ _)); exact x.out⟩, ⟨BL⟩⟩
   ·rw [if_neg Y] at H;have P : ((((aj l0 a).f0) == 1) != y) = false := by simpa using Y
    (try (have xG : decide ((((aj l0 a).f0) == 1) = y) = true := by simpa using Y));(try (have xH : ((((aj l0 a).f0) == 1) == y) = true := by simpa using Y));clear Y;(first | rw [P] | (simp only [iB, iZ]; rw [P]) | skip);by_cases xm : ((aj l0 a).f0) = 1
    ·rw [if_pos xm] at H;have xn : (((aj l0 a).f0) == 1) = true := beq_iff_eq.mpr xm;have xI : (((aj l0 a).f0) != 1) = false := bne_eq_false_iff_eq.mpr xm;have cw_ : y = true := by simpa [xn] using P   -- mended
     clear xm;have H' := ah.mk H;clear H
     repeat (go_wp2_with (first | (go_at_call 56; (with_reducible refine (bD.calls ((aj l0 a).f0) 1 9 _ _ A8.out).mono ?_); rintro e w' ⟨rfl, ⟨nd, rfl⟩⟩; (try first | exact da | exact DD)) | (go_at_call 104; (with_reducible refine (bE.calls k ((aj l0 a).f1) y _ xc.out).mono ?_); rintro e w' ⟨rfl, ⟨nd, rfl⟩⟩; (try first | exact da | exact DD))); go_quiet (first | (go_at_call 56; (with_reducible refine (bD.calls ((aj l0 a).f0) 1 9 _ _ A8.out).mono ?_); rintro e w' ⟨rfl, ⟨nd, rfl⟩⟩; (try first | exact da | exact DD)) | (go_at_call 104; (with_reducible refine (bE.calls k ((aj l0 a).f1) y _ xc.out).mono ?_); rintro e w' ⟨rfl, ⟨nd, rfl⟩⟩; (try first | exact da | exact DD))))
     go_wp2_with (first | (go_at_call 56; (with_reducible refine (bD.calls ((aj l0 a).f0) 1 9 _ _ A8.out).mono ?_); rintro e w' ⟨rfl, ⟨nd, rfl⟩⟩; (try first | exact da | exact DD)) | (go_at_call 104; (with_reducible refine (bE.calls k ((aj l0 a).f1) y _ xc.out).mono ?_); rintro e w' ⟨rfl, ⟨nd, rfl⟩⟩; (try first | exact da | exact DD)));go_meet;case rel => exact ⟨_, (false), (by first | rfl | (simp; done) | (simp [*]; rw [Bool.eq_iff_iff]; simp [bne, List.isEmpty_iff]; done) | (simp [*]; done)), H', ⟨by first | omega | exact Nat.le_refl _⟩, ⟨by (with_reducible repeat (first | refine aC ?_ _ | refine aH ?_ | refine aD ?_ _)); refine aX (cs := #[.int .i64 ((aj l0 a).f0), .string ((aj l0 a).f1), .int .i64 ((aj l0 a).f2), .int .i64 0]) ?_ 3 _ rfl; (with_reducible repeat (first | refine aC ?_ _ | refine aH ?_ | refine aD ?_ _)); refine aX (cs := #[.int .i64 ((aj l0 a).f0), .string ((aj l0 a).f1), .int .i64 0, .int .i64 0]) ?_ 2 _ rfl; (with_reducible repeat (first | refine aC ?_ _ | refine aH ?_ | refine aD ?_ _)); refine aX (cs := #[.int .i64 ((aj l0 a).f0), .string (⟨#[]⟩ : ByteArray), .int .i64 0, .int .i64 0]) ?_ 1 _ rfl; (with_reducible repeat (first | refine aC ?_ _ | refine aH ?_ | refine aD ?_ _)); refine aX (cs := #[.int .i64 0, .string (⟨#[]⟩ : ByteArray), .int .i64 0, .int .i64 0]) ?_ 0 _ rfl; (with_reducible repeat (first | refine aC ?_ _ | refine aH ?_ | refine aD ?_ _)); exact x.out⟩, ⟨BL⟩⟩
    ·rw [if_neg xm] at H;have xn : (((aj l0 a).f0) == 1) = false := beq_eq_false_iff_ne.mpr xm;have xI : (((aj l0 a).f0) != 1) = true := bne_iff_ne.mpr xm;have cw_ : y = false := by simpa [xn] using P   -- mended
     have H' := ah.mk H;clear H
     repeat (go_wp2_with (first | (go_at_call 56; (with_reducible refine (bD.calls ((aj l0 a).f0) 1 9 _ _ A8.out).mono ?_); rintro e w' ⟨rfl, ⟨nd, rfl⟩⟩; (try first | exact da | exact DD)) | (go_at_call 104; (with_reducible refine (bE.calls k ((aj l0 a).f1) y _ xc.out).mono ?_); rintro e w' ⟨rfl, ⟨nd, rfl⟩⟩; (try first | exact da | exact DD))); go_quiet (first | (go_at_call 56; (with_reducible refine (bD.calls ((aj l0 a).f0) 1 9 _ _ A8.out).mono ?_); rintro e w' ⟨rfl, ⟨nd, rfl⟩⟩; (try first | exact da | exact DD)) | (go_at_call 104; (with_reducible refine (bE.calls k ((aj l0 a).f1) y _ xc.out).mono ?_); rintro e w' ⟨rfl, ⟨nd, rfl⟩⟩; (try first | exact da | exact DD))))
     go_wp2_with (first | (go_at_call 56; (with_reducible refine (bD.calls ((aj l0 a).f0) 1 9 _ _ A8.out).mono ?_); rintro e w' ⟨rfl, ⟨nd, rfl⟩⟩; (try first | exact da | exact DD)) | (go_at_call 104; (with_reducible refine (bE.calls k ((aj l0 a).f1) y _ xc.out).mono ?_); rintro e w' ⟨rfl, ⟨nd, rfl⟩⟩; (try first | exact da | exact DD)));go_meet;case rel => exact ⟨_, ((((aj l0 a).f1).toList != ([] : List UInt8))), (by first | rfl | (simp; done) | (simp [*]; rw [Bool.eq_iff_iff]; simp [bne, List.isEmpty_iff]; done) | (simp [*]; done)), H', ⟨by first | omega | exact Nat.le_refl _⟩, ⟨by (with_reducible repeat (first | refine aC ?_ _ | refine aH ?_ | refine aD ?_ _)); refine aX (cs := #[.int .i64 ((aj l0 a).f0), .string ((aj l0 a).f1), .int .i64 ((aj l0 a).f2), .int .i64 0]) ?_ 3 _ rfl; (with_reducible repeat (first | refine aC ?_ _ | refine aH ?_ | refine aD ?_ _)); refine aX (cs := #[.int .i64 ((aj l0 a).f0), .string ((aj l0 a).f1), .int .i64 0, .int .i64 0]) ?_ 2 _ rfl; (with_reducible repeat (first | refine aC ?_ _ | refine aH ?_ | refine aD ?_ _)); refine aX (cs := #[.int .i64 ((aj l0 a).f0), .string (⟨#[]⟩ : ByteArray), .int .i64 0, .int .i64 0]) ?_ 1 _ rfl; (with_reducible repeat (first | refine aC ?_ _ | refine aH ?_ | refine aD ?_ _)); refine aX (cs := #[.int .i64 0, .string (⟨#[]⟩ : ByteArray), .int .i64 0, .int .i64 0]) ?_ 0 _ rfl; (with_reducible repeat (first | refine aC ?_ _ | refine aH ?_ | refine aD ?_ _)); exact x.out⟩, ⟨BL⟩⟩
  ·have H' := ah.mk H;clear H
   repeat (go_wp2_with (first | (go_at_call 56; (with_reducible refine (bD.calls ((aj l0 a).f0) 1 9 _ _ A8.out).mono ?_); rintro e w' ⟨rfl, ⟨nd, rfl⟩⟩; (try first | exact da | exact DD))); go_quiet (first | (go_at_call 56; (with_reducible refine (bD.calls ((aj l0 a).f0) 1 9 _ _ A8.out).mono ?_); rintro e w' ⟨rfl, ⟨nd, rfl⟩⟩; (try first | exact da | exact DD))))
   go_wp2_with (first | (go_at_call 56; (with_reducible refine (bD.calls ((aj l0 a).f0) 1 9 _ _ A8.out).mono ?_); rintro e w' ⟨rfl, ⟨nd, rfl⟩⟩; (try first | exact da | exact DD)));go_meet;case rel => exact ⟨_, (true), (by first | rfl | (simp; done) | (simp [*]; rw [Bool.eq_iff_iff]; simp [bne, List.isEmpty_iff]; done) | (simp [*]; done)), H', ⟨by first | omega | exact Nat.le_refl _⟩, ⟨by (with_reducible repeat (first | refine aC ?_ _ | refine aH ?_ | refine aD ?_ _)); refine aX (cs := #[.int .i64 ((aj l0 a).f0), .string ((aj l0 a).f1), .int .i64 ((aj l0 a).f2), .int .i64 0]) ?_ 3 _ rfl; (with_reducible repeat (first | refine aC ?_ _ | refine aH ?_ | refine aD ?_ _)); refine aX (cs := #[.int .i64 ((aj l0 a).f0), .string ((aj l0 a).f1), .int .i64 0, .int .i64 0]) ?_ 2 _ rfl; (with_reducible repeat (first | refine aC ?_ _ | refine aH ?_ | refine aD ?_ _)); refine aX (cs := #[.int .i64 ((aj l0 a).f0), .string (⟨#[]⟩ : ByteArray), .int .i64 0, .int .i64 0]) ?_ 1 _ rfl; (with_reducible repeat (first | refine aC ?_ _ | refine aH ?_ | refine aD ?_ _)); refine aX (cs := #[.int .i64 0, .string (⟨#[]⟩ : ByteArray), .int .i64 0, .int .i64 0]) ?_ 0 _ rfl; (with_reducible repeat (first | refine aC ?_ _ | refine aH ?_ | refine aD ?_ _)); exact x.out⟩, ⟨BL⟩⟩
 case rest =>
  clear xx;(try clear c3);(try clear xv);(try clear c4);(try clear xw);(try clear z A D E G I J K);(try clear xf);(try clear xg);(try clear xh);(try clear xi);(try clear xd);(try clear xe);obtain ⟨kq, xl, rfl, HA, yl, x, HB⟩ := hcut
  cases kq with
  | zero => exact absurd HA.out (by simp [fE.j0])
  | succ yp =>
   have H := HA.out;clear HA;simp only [fE.j0] at H;replace H := ifB H; rcases H with ⟨rfl, H⟩ | ⟨rfl, H⟩
   ·obtain rfl := Option.some.inj H;go_wp2
    repeat (go_quiet (fail); try go_wp2)
    go_ret;exact ⟨EWW, BL⟩
   ·have xt := ah.mk H;clear H;go_upto_region 4 with (fail)
    repeat (go_quiet (fail); go_upto_region 4 with (fail))
    go_cut [6] (fun v6 wc => ∃ (kq : Nat) (xo : Bool), v6 = .bool xo ∧ ah (fE.j1 kq l0 a xo ((aj l0 a).f0) ((aj l0 a).f1) ((aj l0 a).f2) ((aj l0 a).f3) = some r) ∧ ah (kq ≤ yp) ∧ ah (wc.heap[xb]? = some (.cells #[.int .i64 ((aj l0 a).f0), .string ((aj l0 a).f1), .int .i64 ((aj l0 a).f2), .int .i64 ((aj l0 a).f3)] 121 (0, 0))) ∧ ah (Below w.heap.size w wc))
    case first =>
     have H := xt.out;clear xt;obtain ⟨xJ, xK, xL, xM, xN, xO, xP, xQ⟩ := cz4 x.out;replace H := ifE H; rcases H with ⟨Z, xR, H⟩ | ⟨yB, Z, xR, H⟩
     ·(first | rw [Z] | (simp only [iB, iZ]; rw [Z]) | skip);have H' := ah.mk H;clear H;go_wp2
      repeat (go_quiet (fail); try go_wp2)
      go_meet;case rel => exact ⟨_, (true), (by first | rfl | (simp; done) | (simp [*]; rw [Bool.eq_iff_iff]; simp [bne, List.isEmpty_iff]; done) | (simp [*]; done)), H', ⟨by have := yl.out; first | omega | exact Nat.le_refl _⟩, ⟨BK⟩, ⟨BL⟩⟩
     ·(first | rw [Z] | (simp only [iB, iZ]; rw [Z]) | skip);have H' := ah.mk H;clear H;go_wp2
      repeat (go_quiet (fail); try go_wp2)
      go_meet;case rel => exact ⟨_, ((((aj l0 a).f0) == 5)), (by first | rfl | (simp; done) | (simp [*]; rw [Bool.eq_iff_iff]; simp [bne, List.isEmpty_iff]; done) | (simp [*]; done)), H', ⟨by have := yl.out; first | omega | exact Nat.le_refl _⟩, ⟨BK⟩, ⟨BL⟩⟩
    case rest =>
     clear xt;(try clear c3);(try clear xv);(try clear c4);(try clear xw);(try clear yC);(try clear z A D E G I J K);(try clear xf);(try clear xg);(try clear xh);(try clear xi);(try clear xd);(try clear xe);obtain ⟨kq, xo, rfl, HA, yv, x, HB⟩ := hcut
     cases kq with
     | zero => exact absurd HA.out (by simp [fE.j1])
     | succ yw =>
      have H := HA.out;clear HA;simp only [fE.j1] at H;obtain ⟨xS, xT, xU, xV, xW, xX, xY, xZ⟩ := cz4 x.out;replace H := ifE H; rcases H with ⟨ya, yb, H⟩ | ⟨yD, ya, yb, H⟩
      ·replace H := ifE H; rcases H with ⟨yc, yd, H⟩ | ⟨yE, yc, yd, H⟩
       ·obtain rfl := Option.some.inj H;go_wp2
        repeat (go_quiet (fail); try go_wp2)
        go_ret;exact ⟨EWW, BL⟩
       ·obtain rfl := Option.some.inj H;go_wp2
        repeat (go_quiet (fail); try go_wp2)
        go_ret;exact ⟨EWW, BL⟩
      ·replace H := be H; obtain ⟨yx, L, H⟩ := H;replace H := ifB H; rcases H with ⟨rfl, H⟩ | ⟨rfl, H⟩
       ·replace H := ifB H; rcases H with ⟨rfl, H⟩ | ⟨rfl, H⟩
        ·replace H := be H; obtain ⟨yy, xp, H⟩ := H;replace H := ifB H; rcases H with ⟨rfl, H⟩ | ⟨rfl, H⟩
         ·obtain rfl := Option.some.inj H
          repeat (go_wp2_with (first | (go_at_call 56; (with_reducible refine (bD.calls ((aj l0 a).f2) 0 (wrap64 (a - 1)) _ _ L.out).mono ?_); rintro e w' ⟨rfl, ⟨nd, rfl⟩⟩; (try first | exact da | exact DD)) | (go_at_call 56; (with_reducible refine (bD.calls ((aj l0 a).f3) 0 (wrap64 (a - 1)) _ _ xp.out).mono ?_); rintro e w' ⟨rfl, ⟨nd, rfl⟩⟩; (try first | exact da | exact DD))); go_quiet (first | (go_at_call 56; (with_reducible refine (bD.calls ((aj l0 a).f2) 0 (wrap64 (a - 1)) _ _ L.out).mono ?_); rintro e w' ⟨rfl, ⟨nd, rfl⟩⟩; (try first | exact da | exact DD)) | (go_at_call 56; (with_reducible refine (bD.calls ((aj l0 a).f3) 0 (wrap64 (a - 1)) _ _ xp.out).mono ?_); rintro e w' ⟨rfl, ⟨nd, rfl⟩⟩; (try first | exact da | exact DD))))
          go_wp2_with (first | (go_at_call 56; (with_reducible refine (bD.calls ((aj l0 a).f2) 0 (wrap64 (a - 1)) _ _ L.out).mono ?_); rintro e w' ⟨rfl, ⟨nd, rfl⟩⟩; (try first | exact da | exact DD)) | (go_at_call 56; (with_reducible refine (bD.calls ((aj l0 a).f3) 0 (wrap64 (a - 1)) _ _ xp.out).mono ?_); rintro e w' ⟨rfl, ⟨nd, rfl⟩⟩; (try first | exact da | exact DD)));go_ret;exact ⟨EWW, BL⟩
         ·obtain rfl := Option.some.inj H
          repeat (go_wp2_with (first | (go_at_call 56; (with_reducible refine (bD.calls ((aj l0 a).f2) 0 (wrap64 (a - 1)) _ _ L.out).mono ?_); rintro e w' ⟨rfl, ⟨nd, rfl⟩⟩; (try first | exact da | exact DD)) | (go_at_call 56; (with_reducible refine (bD.calls ((aj l0 a).f3) 0 (wrap64 (a - 1)) _ _ xp.out).mono ?_); rintro e w' ⟨rfl, ⟨nd, rfl⟩⟩; (try first | exact da | exact DD))); go_quiet (first | (go_at_call 56; (with_reducible refine (bD.calls ((aj l0 a).f2) 0 (wrap64 (a - 1)) _ _ L.out).mono ?_); rintro e w' ⟨rfl, ⟨nd, rfl⟩⟩; (try first | exact da | exact DD)) | (go_at_call 56; (with_reducible refine (bD.calls ((aj l0 a).f3) 0 (wrap64 (a - 1)) _ _ xp.out).mono ?_); rintro e w' ⟨rfl, ⟨nd, rfl⟩⟩; (try first | exact da | exact DD))))
          go_wp2_with (first | (go_at_call 56; (with_reducible refine (bD.calls ((aj l0 a).f2) 0 (wrap64 (a - 1)) _ _ L.out).mono ?_); rintro e w' ⟨rfl, ⟨nd, rfl⟩⟩; (try first | exact da | exact DD)) | (go_at_call 56; (with_reducible refine (bD.calls ((aj l0 a).f3) 0 (wrap64 (a - 1)) _ _ xp.out).mono ?_); rintro e w' ⟨rfl, ⟨nd, rfl⟩⟩; (try first | exact da | exact DD)));go_ret;exact ⟨EWW, BL⟩
        ·replace H := ifE H; rcases H with ⟨ye, yf, H⟩ | ⟨yF, ye, yf, H⟩
         ·replace H := ifE H; rcases H with ⟨yg, yh, H⟩ | ⟨yG, yg, yh, H⟩
          ·obtain rfl := Option.some.inj H
           repeat (go_wp2_with (first | (go_at_call 56; (with_reducible refine (bD.calls ((aj l0 a).f2) 0 (wrap64 (a - 1)) _ _ L.out).mono ?_); rintro e w' ⟨rfl, ⟨nd, rfl⟩⟩; (try first | exact da | exact DD))); go_quiet (first | (go_at_call 56; (with_reducible refine (bD.calls ((aj l0 a).f2) 0 (wrap64 (a - 1)) _ _ L.out).mono ?_); rintro e w' ⟨rfl, ⟨nd, rfl⟩⟩; (try first | exact da | exact DD))))
           go_wp2_with (first | (go_at_call 56; (with_reducible refine (bD.calls ((aj l0 a).f2) 0 (wrap64 (a - 1)) _ _ L.out).mono ?_); rintro e w' ⟨rfl, ⟨nd, rfl⟩⟩; (try first | exact da | exact DD)));go_ret;exact ⟨EWW, BL⟩
          ·replace H := ifN H; obtain ⟨yq, H⟩ := H;replace H := ifN H; obtain ⟨yr, H⟩ := H;obtain rfl := Option.some.inj H
           repeat (go_wp2_with (first | (go_at_call 56; (with_reducible refine (bD.calls ((aj l0 a).f2) 0 (wrap64 (a - 1)) _ _ L.out).mono ?_); rintro e w' ⟨rfl, ⟨nd, rfl⟩⟩; (try first | exact da | exact DD); have M : 0 ≤ (((aj l0 a).f2) : Int) := OD; have O : ((aj l0 a).f2) < (l0.length : Int) := OD; obtain ⟨xa, xj, l, m, o, u⟩ := kD xu.out ((aj l0 a).f2) M O; obtain rfl : xk = xa := (by injection xj); replace l := (HB.out.cell (World.block_lt_of_cell? w _ l)).trans l; replace m := (HB.out.cell (World.block_lt_of_cell? w _ m)).trans m; replace o := (HB.out.cell (World.block_lt_of_cell? w _ o)).trans o; replace u := (HB.out.cell (World.block_lt_of_cell? w _ u)).trans u; replace M := eq_true M; replace O := eq_true O)); go_quiet (first | (go_at_call 56; (with_reducible refine (bD.calls ((aj l0 a).f2) 0 (wrap64 (a - 1)) _ _ L.out).mono ?_); rintro e w' ⟨rfl, ⟨nd, rfl⟩⟩; (try first | exact da | exact DD); have M : 0 ≤ (((aj l0 a).f2) : Int) := OD; have O : ((aj l0 a).f2) < (l0.length : Int) := OD; obtain ⟨xa, xj, l, m, o, u⟩ := kD xu.out ((aj l0 a).f2) M O; obtain rfl : xk = xa := (by injection xj); replace l := (HB.out.cell (World.block_lt_of_cell? w _ l)).trans l; replace m := (HB.out.cell (World.block_lt_of_cell? w _ m)).trans m; replace o := (HB.out.cell (World.block_lt_of_cell? w _ o)).trans o; replace u := (HB.out.cell (World.block_lt_of_cell? w _ u)).trans u; replace M := eq_true M; replace O := eq_true O)))
           go_wp2_with (first | (go_at_call 56; (with_reducible refine (bD.calls ((aj l0 a).f2) 0 (wrap64 (a - 1)) _ _ L.out).mono ?_); rintro e w' ⟨rfl, ⟨nd, rfl⟩⟩; (try first | exact da | exact DD); have M : 0 ≤ (((aj l0 a).f2) : Int) := OD; have O : ((aj l0 a).f2) < (l0.length : Int) := OD; obtain ⟨xa, xj, l, m, o, u⟩ := kD xu.out ((aj l0 a).f2) M O; obtain rfl : xk = xa := (by injection xj); replace l := (HB.out.cell (World.block_lt_of_cell? w _ l)).trans l; replace m := (HB.out.cell (World.block_lt_of_cell? w _ m)).trans m; replace o := (HB.out.cell (World.block_lt_of_cell? w _ o)).trans o; replace u := (HB.out.cell (World.block_lt_of_cell? w _ u)).trans u; replace M := eq_true M; replace O := eq_true O));go_ret;exact ⟨EWW, BL⟩
         ·obtain rfl := Option.some.inj H
          repeat (go_wp2_with (first | (go_at_call 56; (with_reducible refine (bD.calls ((aj l0 a).f2) 0 (wrap64 (a - 1)) _ _ L.out).mono ?_); rintro e w' ⟨rfl, ⟨nd, rfl⟩⟩; (try first | exact da | exact DD))); go_quiet (first | (go_at_call 56; (with_reducible refine (bD.calls ((aj l0 a).f2) 0 (wrap64 (a - 1)) _ _ L.out).mono ?_); rintro e w' ⟨rfl, ⟨nd, rfl⟩⟩; (try first | exact da | exact DD))))
          go_wp2_with (first | (go_at_call 56; (with_reducible refine (bD.calls ((aj l0 a).f2) 0 (wrap64 (a - 1)) _ _ L.out).mono ?_); rintro e w' ⟨rfl, ⟨nd, rfl⟩⟩; (try first | exact da | exact DD)));go_ret;exact ⟨EWW, BL⟩
       ·obtain rfl := Option.some.inj H
        repeat (go_wp2_with (first | (go_at_call 56; (with_reducible refine (bD.calls ((aj l0 a).f2) 0 (wrap64 (a - 1)) _ _ L.out).mono ?_); rintro e w' ⟨rfl, ⟨nd, rfl⟩⟩; (try first | exact da | exact DD))); go_quiet (first | (go_at_call 56; (with_reducible refine (bD.calls ((aj l0 a).f2) 0 (wrap64 (a - 1)) _ _ L.out).mono ?_); rintro e w' ⟨rfl, ⟨nd, rfl⟩⟩; (try first | exact da | exact DD))))
        go_wp2_with (first | (go_at_call 56; (with_reducible refine (bD.calls ((aj l0 a).f2) 0 (wrap64 (a - 1)) _ _ L.out).mono ?_); rintro e w' ⟨rfl, ⟨nd, rfl⟩⟩; (try first | exact da | exact DD)));go_ret;exact ⟨EWW, BL⟩
mutual
def dH.l0 : Nat → List (bQ) → Int → Option (Bool)
 | 0, _, _ => none
 | k + 1, a, b => if b < (a.length : Int) then (dH.j1 k a b (decide ((a.length : Int) ≤ 9))) else (dH.j1 k a b false)
def dH.j1 : Nat → List (bQ) → Int → Bool → Option (Bool)
 | 0, _, _, _ => none
 | k + 1, a, b, c => if c = true then ((fE.f k a b).bind fun d => (if d = true then (dH.l0 k a (wrap64 (b + 1))) else (some false))) else ((bD.f (a.length : Int) 1 9).bind fun e => (some e))
end
def dH.f (k : Nat) (l0 : List (bQ)) : Option (Bool) := dH.l0 k l0 0
theorem dH.calls (k : Nat) (E : Option Addr) (G : Nat) (l0 : List (bQ)) (r : Bool) (w : World) (x : Kd.C iH w E l0.length l0) (y : l0.length ≤ G) (h : dH.f k l0 = some r) :
  Calls Tryz.prog 89 #[.slice E l0.length G] w fun e w' => e = .returned (.bool r) ∧ Below w.heap.size w w' := by
 have I := ah.mk x;have J := ah.mk y;clear x y;have HB := ah.mk (Below.refl w.heap.size w);have H : (dH.l0 k l0 0) = some r := h;clear h;have H' := ah.mk H;clear H;go_enter Tryz.func89, Tryz.ntmps89;go_wp2
 go_loopg [3] k (fun kq O w' => ∃ (a : Int), O = .int .i64 a ∧ ah (dH.l0 kq l0 a = some r) ∧ ah (kq ≤ k) ∧ ah (Below w.heap.size w w'))
 case atStart => exact ⟨_, EQ, H', ⟨Nat.le_refl _⟩, ⟨BL⟩⟩
 case round =>
  clear H';obtain ⟨a, rfl, HA, o, HB⟩ := hrel
  cases gk with
  | zero => exact absurd HA.out (by simp [dH.l0])
  | succ k1 =>
   have H := HA.out;clear HA;simp only [dH.l0] at H;have u := ah.mk H;clear H;go_upto_region 2 with (fail)
   go_cut [12] (fun K wc => ∃ (kq : Nat) (m : Bool), K = .bool m ∧ ah (dH.j1 kq l0 a m = some r) ∧ ah (kq ≤ k1) ∧ ah (Below w.heap.size w wc))
   case first =>
    have H := u.out;clear u;replace H := ifD H; rcases H with ⟨l, H⟩ | ⟨l, H⟩
    ·(first | rw [l] | (simp only [iB, iZ]; rw [l]) | skip);have H' := ah.mk H;clear H;go_wp2;go_meet;case rel => exact ⟨_, _, EQ, H', ⟨by have := o.out; first | omega | exact Nat.le_refl _⟩, ⟨BL⟩⟩
    ·(first | rw [l] | (simp only [iB, iZ]; rw [l]) | skip);have H' := ah.mk H;clear H;go_wp2;go_meet;case rel => exact ⟨_, _, EQ, H', ⟨by have := o.out; first | omega | exact Nat.le_refl _⟩, ⟨BL⟩⟩
   case rest =>
    clear u;obtain ⟨kq, m, rfl, HA, z, HB⟩ := hcut
    cases kq with
    | zero => exact absurd HA.out (by simp [dH.j1])
    | succ A =>
     have H := HA.out;clear HA;simp only [dH.j1] at H;replace H := ifB H; rcases H with ⟨rfl, H⟩ | ⟨rfl, H⟩
     ·replace H := be H; obtain ⟨M, P, H⟩ := H;replace H := ah.mk H;go_wp2_with (first | ((with_reducible refine ay (f := 118) rfl ?_); refine bg (some 17) Tryz.func118 #[.slice E l0.length G, .int .i64 a] ?_; (with_reducible refine (fE.calls A _ _ l0 a _ _ ?side1 ?side2 P.out).mono ?_); (case side1 => exact CB I); (case side2 => exact J.out); rintro e L ⟨rfl, hb⟩; refine ⟨_, rfl, ?_⟩; replace HB := BS (w := w) hb; (try clear hb); refine cB ?_));refine Hide.mk ?_;replace H := H.out;replace H := ifB H; rcases H with ⟨rfl, H⟩ | ⟨rfl, H⟩
      ·have H' := ah.mk H;clear H;(try go_wp2);go_roundg A;case measure => have := o.out; have := z.out; omega
       case rel => exact ⟨_, EQ, H', kt o z, ⟨BL⟩⟩
      ·obtain rfl := Option.some.inj H;(try go_wp2);go_ret;exact ⟨EWW, BL⟩
     ·replace H := be H; obtain ⟨D, U, H⟩ := H;obtain rfl := Option.some.inj H;go_wp2_with (first | ((with_reducible refine ay (f := 56) rfl ?_); refine bg (some 21) Tryz.func56 #[.int .i64 (l0.length : Int), .int .i64 1, .int .i64 9] ?_; (with_reducible refine (bD.calls (l0.length : Int) 1 9 D _ U.out).mono ?_); rintro e w' ⟨rfl, ⟨nd, rfl⟩⟩; refine ⟨_, rfl, ?_⟩));go_ret;exact ⟨EWW, BL⟩
def lS.f (k : Nat) (LU : Int) (l0_1 : List (bQ)) : Option (Bool) := (bD.f LU 1 99).bind fun t217 => (if t217 = true then ((dH.f k l0_1).bind fun t218 => (some t218)) else (some false))
theorem lS.calls (k : Nat) (LU : Int) (m : Option Addr) (o : Nat) (a : List (bQ)) (r : Bool) (w : World) (u : Kd.C iH w m a.length a) (x : a.length ≤ o) (h : lS.f k LU a = some r) :
  Calls Tryz.prog 53 #[.agg #[.int .i64 LU, .slice m a.length o]] w fun e w' => e = .returned (.bool r) ∧ Below w.heap.size w w' := by
 have P := Tryz.underlying72;have y := ah.mk u;have z := ah.mk x;clear u x;have HB := ah.mk (Below.refl w.heap.size w);unfold lS.f at h;have H := h;clear h;replace H := be H; obtain ⟨U, A2, H⟩ := H;replace H := ah.mk H;go_enter Tryz.func53, Tryz.ntmps53;go_wp2_with (first | ((with_reducible refine aJ (N := 1) rfl ?_); refine bf (N := 1) (cs := #[.int .i64 LU, .slice m a.length o]) (t := 72) ?_; intro K hg L hbox hb; have l := ah.mk hbox; have A := SZ (w := w) hg; have M := A; replace HB := BS (w := w) hb; clear hb hbox hg; obtain ⟨D, E, G, I⟩ := cz2 l.out) | ((with_reducible refine ay (f := 56) rfl ?_); refine bg (some 5) Tryz.func56 #[.int .i64 LU, .int .i64 1, .int .i64 99] ?_; (with_reducible refine (bD.calls LU 1 99 _ _ A2.out).mono ?_); rintro e w' ⟨rfl, ⟨nd, rfl⟩⟩; refine ⟨_, rfl, ?_⟩; refine cB ?_));refine Hide.mk ?_;replace H := H.out;replace H := ifB H; rcases H with ⟨rfl, H⟩ | ⟨rfl, H⟩
 ·replace H := be H; obtain ⟨J, Y, H⟩ := H;obtain rfl := Option.some.inj H;(try go_wp2_with (first | (go_at_call 89; (with_reducible refine (dH.calls k _ _ a J _ ?side1 ?side2 Y.out).mono ?_); (case side1 => repeat (first | exact (Kd.fB y.out BL) | (with_reducible refine Kd.gV ?_ _) | (with_reducible refine Kd.gW ?_ _) | (with_reducible refine Kd.iT ?_))); (case side2 => exact z.out); rintro e O ⟨rfl, hb⟩; replace l := KB l hb; replace HB := BS (w := w) hb; (try clear hb))));go_ret;exact ⟨EWW, BL⟩
 ·obtain rfl := Option.some.inj H;(try go_wp2);go_ret;exact ⟨EWW, BL⟩
mutual
def bL.j0 : Nat → Bool → Int → Int → ByteArray → Option (Bool)
 | 0, _, _, _, _ => none
 | k + 1, a, b, c, d => if a = true then (some false) else (bL.l0 k 0 b c d)
def bL.l0 : Nat → Int → Int → Int → ByteArray → Option (Bool)
 | 0, _, _, _, _ => none
 | k + 1, a, b, c, d => if a < (d.size : Int) then (if 0 ≤ a then (if (bt d a) = 35 then (bL.l0 k (wrap64 (a + 1)) b c d) else (if (bt d a) = 46 then (bL.l0 k (wrap64 (a + 1)) b c d) else (some false))) else (none)) else (some true)
end
def bL.f (k : Nat) (LU LV : Int) (LW : ByteArray) : Option (Bool) := (bD.f LU 2 6).bind fun t220 => (if t220 = true then ((bD.f LV 2 6).bind fun t221 => (if t221 = true then (bL.j0 k ((LW.size : Int) != (wrap64 (LU * LV))) LU LV LW) else (bL.j0 k true LU LV LW))) else (bL.j0 k true LU LV LW))
theorem bL.calls (k : Nat) (LU LV : Int) (LW : ByteArray) (r : Bool) (w : World) (h : bL.f k LU LV LW = some r) :
  Calls Tryz.prog 67 #[.agg #[.int .i64 LU, .int .i64 LV, .string LW]] w fun e w' => e = .returned (.bool r) ∧ Below w.heap.size w w' := by
 have xh := Tryz.underlying34;have HB := ah.mk (Below.refl w.heap.size w);unfold bL.f at h;have H := h;clear h;have y := ah.mk H;clear H;go_enter Tryz.func67, Tryz.ntmps67;go_upto_region 1 with (first | ((with_reducible refine aJ (N := 1) rfl ?_); (try (refine jI (by rfl) ?_; dsimp only)); refine bf (N := 1) (cs := #[.int .i64 LU, .int .i64 LV, .string LW]) (t := 34) ?_; intro o hg w3 hbox hb; have l := ah.mk hbox; have z := SZ (w := w) hg; have xe := z; replace HB := BS (w := w) hb; clear hb hbox hg));(try simp only [Act.put, List.setIfInBounds_toArray, List.set_cons_zero, List.set_cons_succ])
 go_cut [24] (fun xf wc => ∃ (kq : Nat) (m : Bool), xf = .bool m ∧ ah (bL.j0 kq m LU LV LW = some r) ∧ ah (kq ≤ k) ∧ ah (wc.heap[o]? = some (.cells #[.int .i64 LU, .int .i64 LV, .string LW] 34 (0, 0))) ∧ ah (Below w.heap.size w wc))
 case first =>
  have H := y.out;clear y;replace H := be H; obtain ⟨xi, A4, H⟩ := H;obtain ⟨A, D, E, G, I, J⟩ := cz3 l.out;replace H := ah.mk H;go_wp2_with (first | ((with_reducible refine ay (f := 56) rfl ?_); refine bg (some 6) Tryz.func56 #[.int .i64 LU, .int .i64 2, .int .i64 6] ?_; (with_reducible refine (bD.calls LU 2 6 _ _ A4.out).mono ?_); rintro e w' ⟨rfl, ⟨nd, rfl⟩⟩; refine ⟨_, rfl, ?_⟩; refine cB ?_));refine Hide.mk ?_;replace H := H.out;replace H := ifB H; rcases H with ⟨rfl, H⟩ | ⟨rfl, H⟩
  ·replace H := be H; obtain ⟨xj, A6, H⟩ := H;replace H := ah.mk H;go_wp2_with (first | (go_at_call 56; (with_reducible refine (bD.calls LV 2 6 _ _ A6.out).mono ?_); rintro e w' ⟨rfl, ⟨nd, rfl⟩⟩; refine cB ?_));refine Hide.mk ?_;replace H := H.out;replace H := ifB H; rcases H with ⟨rfl, H⟩ | ⟨rfl, H⟩
   ·have H' := ah.mk H;clear H;(try go_wp2);go_meet;case rel => exact ⟨_, _, EQ, H', ⟨by first | omega | exact Nat.le_refl _⟩, ⟨BK⟩, ⟨BL⟩⟩
   ·have H' := ah.mk H;clear H;(try go_wp2);go_meet;case rel => exact ⟨_, _, EQ, H', ⟨by first | omega | exact Nat.le_refl _⟩, ⟨BK⟩, ⟨BL⟩⟩
  ·have H' := ah.mk H;clear H;(try go_wp2);go_meet;case rel => exact ⟨_, _, EQ, H', ⟨by first | omega | exact Nat.le_refl _⟩, ⟨BK⟩, ⟨BL⟩⟩
 case rest =>
  clear y;obtain ⟨kq, m, rfl, HA, u, l, HB⟩ := hcut
  cases kq with
  | zero => exact absurd HA.out (by simp [bL.j0])
  | succ xd =>
   have H := HA.out;clear HA;simp only [bL.j0] at H;replace H := ifB H; rcases H with ⟨rfl, H⟩ | ⟨rfl, H⟩
   ·obtain rfl := Option.some.inj H;go_wp2;go_ret;exact ⟨EWW, BL⟩
   ·have H' := ah.mk H;clear H;go_wp2
    go_loopg [3] xd (fun kq v3 w' => ∃ (a : Int), v3 = .int .i64 a ∧ ah (bL.l0 kq a LU LV LW = some r) ∧ ah (kq ≤ xd) ∧ ah (w'.heap[o]? = some (.cells #[.int .i64 LU, .int .i64 LV, .string LW] 34 (0, 0))) ∧ ah (Below w.heap.size w w'))
    case atStart => exact ⟨_, EQ, H', ⟨Nat.le_refl _⟩, ⟨BK⟩, ⟨BL⟩⟩
    case round =>
     clear H';(try clear xn);obtain ⟨a, rfl, HA, x, l, HB⟩ := hrel
     cases gk with
     | zero => exact absurd HA.out (by simp [bL.l0])
     | succ k2 =>
      have H := HA.out;clear HA;simp only [bL.l0] at H;obtain ⟨K, L, M, O, P, U⟩ := cz3 l.out;replace H := ifD H; rcases H with ⟨Y, H⟩ | ⟨Y, H⟩
      ·replace H := ifN H; obtain ⟨xg, H⟩ := H;have xo : (0 ≤ (a : Int)) = True := OT;have xp : (a < (LW.size : Int)) = True := OT;have hx14 := gF LW a;replace H := ifE H; rcases H with ⟨Z, xa, H⟩ | ⟨xq, Z, xa, H⟩
       ·have H' := ah.mk H;clear H;go_wp2;go_roundg k2;case measure => have := u.out; have := x.out; omega
        case rel => exact ⟨_, EQ, H', ⟨by have := u.out; have := x.out; omega⟩, ⟨BK⟩, ⟨BL⟩⟩
       ·have xr : (0 ≤ (a : Int)) = True := OT;have xs : (a < (LW.size : Int)) = True := OT;have hx17 := gF LW a;replace H := ifE H; rcases H with ⟨xb, xc, H⟩ | ⟨xt, xb, xc, H⟩
        ·have H' := ah.mk H;clear H;go_wp2;go_roundg k2;case measure => have := u.out; have := x.out; omega
         case rel => exact ⟨_, EQ, H', ⟨by have := u.out; have := x.out; omega⟩, ⟨BK⟩, ⟨BL⟩⟩
        ·obtain rfl := Option.some.inj H;go_wp2;go_ret;exact ⟨EWW, BL⟩
      ·obtain rfl := Option.some.inj H;go_wp2;go_ret;exact ⟨EWW, BL⟩
mutual
def bA.j0 : Nat → Int → Int → Int → Int → Int → Int → ByteArray → Option (Int)
 | 0, _, _, _, _, _, _, _ => none
 | k + 1, a, b, c, d, e, f, g => if 0 ≤ a then (if a < (g.size : Int) then (if (bt g a) = 46 then (if c > 0 then (if 0 ≤ (wrap64 (a - b)) then (if (wrap64 (a - b)) < (g.size : Int) then (bA.j1 k a b c d ((bt g (wrap64 (a - b))) == 46) e f g) else (none)) else (none)) else (bA.j1 k a b c d false e f g)) else (bA.j1 k a b c d true e f g)) else (none)) else (none)
def bA.j1 : Nat → Int → Int → Int → Int → Bool → Int → Int → ByteArray → Option (Int)
 | 0, _, _, _, _, _, _, _, _ => none
 | k + 1, a, b, c, d, e, f, g, h => if e = true then (some 0) else (bA.l0 k a b c d 0 f g h)
def bA.l0 : Nat → Int → Int → Int → Int → Int → Int → Int → ByteArray → Option (Int)
 | 0, _, _, _, _, _, _, _, _ => none
 | k + 1, a, b, c, d, e, f, g, h => if (wrap64 (c + e)) < d then (if 0 ≤ (wrap64 (a + (wrap64 (e * b)))) then (if (wrap64 (a + (wrap64 (e * b)))) < (h.size : Int) then (if (bt h (wrap64 (a + (wrap64 (e * b))))) = 46 then (bA.l0 k a b c d (wrap64 (e + 1)) f g h) else (some e)) else (none)) else (none)) else (some e)
end
def bA.f (k : Nat) (LU LV : Int) (LW : ByteArray) (a1 : Int) (a2 : Bool) : Option (Int) := if LV = 0 then (none) else (if a2 = true then (bA.j0 k a1 LV (wrap64 (Int.tdiv a1 LV)) LU LU LV LW) else (bA.j0 k a1 1 (Int.tmod a1 LV) LV LU LV LW))
theorem bA.calls (k : Nat) (LU LV : Int) (LW : ByteArray) (J : Int) (a2 : Bool) (r : Int) (w : World) (h : bA.f k LU LV LW J a2 = some r) :
  Calls Tryz.prog 90 #[.agg #[.int .i64 LU, .int .i64 LV, .string LW], .int .i64 J, .bool a2] w fun e w' => e = .returned (.int .i64 r) ∧ Below w.heap.size w w' := by
 have xM := Tryz.underlying34;have HB := ah.mk (Below.refl w.heap.size w);unfold bA.f at h;have H := h;clear h;by_cases c4 : LV = 0
 ·rw [if_pos c4] at H;exact absurd H (by simp)
 ·rw [if_neg c4] at H;have L : (LV == 0) = false := beq_eq_false_iff_ne.mpr c4;have M : (LV != 0) = true := bne_iff_ne.mpr c4;have Y := ah.mk H;clear H;go_enter Tryz.func90, Tryz.ntmps90;go_upto_if 17 with (first | ((with_reducible refine aJ (N := 3) rfl ?_); refine bf (N := 3) (cs := #[.int .i64 LU, .int .i64 LV, .string LW]) (t := 34) ?_; intro G hg xD hbox hb; have m := ah.mk hbox; have Z := SZ (w := w) hg; have xE := Z; replace HB := BS (w := w) hb; clear hb hbox hg; obtain ⟨o, u, x, y, z, A⟩ := cz3 m.out));(try simp only [Act.put, List.setIfInBounds_toArray, List.set_cons_zero, List.set_cons_succ])
  go_cut [7, 8, 9] (fun v7 v8 v9 wc => ∃ (kq : Nat) (a : Int) (l : Int) (E : Int), v7 = .int .i64 a ∧ v8 = .int .i64 l ∧ v9 = .int .i64 E ∧ ah (bA.j0 kq J a l E LU LV LW = some r) ∧ ah (kq ≤ k) ∧ ah (wc.heap[G]? = some (.cells #[.int .i64 LU, .int .i64 LV, .string LW] 34 (0, 0))) ∧ ah (Below w.heap.size w wc))
  case first =>
   have H := Y.out;clear Y;by_cases c8 : a2 = true
   ·subst c8;rw [if_pos rfl] at H;have H' := ah.mk H;clear H;obtain ⟨xa, xb, xc, xd, xe, xf⟩ := cz3 m.out;go_wp2;go_meet;case rel => exact ⟨_, _, _, _, EQ, EQ, EQ, H', ⟨by first | omega | exact Nat.le_refl _⟩, ⟨BK⟩, ⟨BL⟩⟩
   ·replace c8 := Bool.eq_false_iff.mpr c8;subst c8;rw [if_neg Bool.false_ne_true] at H;have H' := ah.mk H;clear H;go_wp2;go_meet;case rel => exact ⟨_, _, _, _, EQ, EQ, EQ, H', ⟨by first | omega | exact Nat.le_refl _⟩, ⟨BK⟩, ⟨BL⟩⟩
  case rest =>
   clear Y;(try clear c4);(try clear L);(try clear M);(try clear o u x y z A);obtain ⟨kq, a, l, E, rfl, rfl, rfl, HA, O, m, HB⟩ := hcut
   cases kq with
   | zero => exact absurd HA.out (by simp [bA.j0])
   | succ xy =>
    have H := HA.out;clear HA;simp only [bA.j0] at H;have P := ah.mk H;clear H;go_upto_region 8 with (fail)
    go_cut [43] (fun xF wc => ∃ (kq : Nat) (I : Bool), xF = .bool I ∧ ah (bA.j1 kq J a l E I LU LV LW = some r) ∧ ah (kq ≤ xy) ∧ ah (wc.heap[G]? = some (.cells #[.int .i64 LU, .int .i64 LV, .string LW] 34 (0, 0))) ∧ ah (Below w.heap.size w wc))
    case first =>
     have H := P.out;clear P;replace H := ifN H; obtain ⟨U, H⟩ := H;(first | rw [U] | (simp only [iB, iZ]; rw [U]) | skip);replace H := ifN H; obtain ⟨xG, H⟩ := H;obtain ⟨xg, xh, xi, xj, xk, xl⟩ := cz3 m.out;have xQ : (0 ≤ (J : Int)) = True := OT;have xR : (J < (LW.size : Int)) = True := OT;have hx13 := gF LW J;replace H := ifE H; rcases H with ⟨xm, xn, H⟩ | ⟨xS, xm, xn, H⟩
     ·by_cases K : l > 0
      ·rw [if_pos K] at H;have xo : decide (0 < l) = true := decide_eq_true K;clear K;obtain ⟨ji16, hji16⟩ : ∃ j_ : Int, (wrap64 (J - a)) = j_ := ⟨_, rfl⟩;replace H : (if 0 ≤ (ji16) then (if (ji16) < (LW.size : Int) then (bA.j1 xy J a l E ((bt LW (ji16)) == 46) LU LV LW) else (none)) else (none)) = some r := by first | (rw [hji16] at H; exact H) | (simp only [hji16] at H ⊢; exact H)
       have hji16w : (IntKind.i64.wrap (J - a)) = ji16 := (iB _).trans hji16;replace H := ifN H; obtain ⟨xH, H⟩ := H;replace H := ifN H; obtain ⟨xI, H⟩ := H;have H' := ah.mk H;clear H;have xT : (0 ≤ ((ji16) : Int)) = True := OT;have xU : ((ji16) < (LW.size : Int)) = True := OT;have hx19 := gF LW (ji16);go_wp2;go_meet;case rel => exact ⟨_, (((bt LW (ji16)) == 46)), (by first | rfl | (simp; done) | (simp only [← hji16] <;> (first | rfl | simp)) | (simp [*]; done)), H', ⟨by have := O.out; first | omega | exact Nat.le_refl _⟩, ⟨BK⟩, ⟨BL⟩⟩
      ·rw [if_neg K] at H;have xo : decide (0 < l) = false := decide_eq_false K;clear K;have H' := ah.mk H;clear H;go_wp2;go_meet;case rel => exact ⟨_, _, EQ, H', ⟨by have := O.out; first | omega | exact Nat.le_refl _⟩, ⟨BK⟩, ⟨BL⟩⟩
     ·have H' := ah.mk H;clear H;go_wp2;go_meet;case rel => exact ⟨_, _, EQ, H', ⟨by have := O.out; first | omega | exact Nat.le_refl _⟩, ⟨BK⟩, ⟨BL⟩⟩
    case rest =>
     clear P;(try clear c4);(try clear L);(try clear M);(try clear o u x y z A);obtain ⟨kq, I, rfl, HA, xz, m, HB⟩ := hcut
     cases kq with
     | zero => exact absurd HA.out (by simp [bA.j1])
     | succ xA =>
      have H := HA.out;clear HA;simp only [bA.j1] at H;replace H := ifB H; rcases H with ⟨rfl, H⟩ | ⟨rfl, H⟩
      ·obtain rfl := Option.some.inj H;go_wp2;go_ret;exact ⟨EWW, BL⟩
      ·have H' := ah.mk H;clear H;go_wp2
       go_loopg [10] xA (fun kq xJ w' => ∃ (D : Int), xJ = .int .i64 D ∧ ah (bA.l0 kq J a l E D LU LV LW = some r) ∧ ah (kq ≤ xA) ∧ ah (w'.heap[G]? = some (.cells #[.int .i64 LU, .int .i64 LV, .string LW] 34 (0, 0))) ∧ ah (Below w.heap.size w w'))
       case atStart => exact ⟨_, EQ, H', ⟨Nat.le_refl _⟩, ⟨BK⟩, ⟨BL⟩⟩
       case round =>
        clear H';(try clear c4);(try clear L);(try clear M);(try clear xV);(try clear o u x y z A);obtain ⟨D, rfl, HA, xB, m, HB⟩ := hrel
        cases gk with
        | zero => exact absurd HA.out (by simp [bA.l0])
        | succ k3 =>
         have H := HA.out;clear HA;simp only [bA.l0] at H;replace H := ifD H; rcases H with ⟨xp, H⟩ | ⟨xp, H⟩
         ·obtain ⟨ji25, hji25⟩ : ∃ j_ : Int, (wrap64 (J + (wrap64 (D * a)))) = j_ := ⟨_, rfl⟩;replace H : (if 0 ≤ (ji25) then (if (ji25) < (LW.size : Int) then (if (bt LW (ji25)) = 46 then (bA.l0 k3 J a l E (wrap64 (D + 1)) LU LV LW) else (some D)) else (none)) else (none)) = some r := by first | (rw [hji25] at H; exact H) | (simp only [hji25] at H ⊢; exact H)
          have hji25w : (IntKind.i64.wrap (J + (wrap64 (D * a)))) = ji25 := (iB _).trans hji25;replace H := ifN H; obtain ⟨xK, H⟩ := H;replace H := ifN H; obtain ⟨xL, H⟩ := H;obtain ⟨xq, xr, xs, xt, xu, xv⟩ := cz3 m.out;have xW : (0 ≤ ((ji25) : Int)) = True := OT;have xX : ((ji25) < (LW.size : Int)) = True := OT;have hx28 := gF LW (ji25);replace H := ifE H; rcases H with ⟨xw, xx, H⟩ | ⟨xY, xw, xx, H⟩
          ·have H' := ah.mk H;clear H;go_wp2;go_roundg k3;case measure => have := O.out; have := xz.out; have := xB.out; omega
           case rel => exact ⟨_, EQ, H', ⟨by have := O.out; have := xz.out; have := xB.out; omega⟩, ⟨BK⟩, ⟨BL⟩⟩
          ·obtain rfl := Option.some.inj H;go_wp2;go_ret;exact ⟨by first | rfl | (simp [mQ, mR] <;> rfl) | (simp only [← hji25]; first | rfl | (simp [mQ, mR] <;> rfl)) | (simp [*, mQ, mR] <;> rfl), BL⟩
         ·obtain rfl := Option.some.inj H;go_wp2;go_ret;exact ⟨EWW, BL⟩
theorem Kk (d : Nat) (w : World) (x0 a : Int) (x1 e : Int) (x2 l : ByteArray) :
  (Op.equalIn (d + 2) 34 (.agg #[.int .i64 x0, .int .i64 x1, .string x2]) (.agg #[.int .i64 a, .int .i64 e, .string l])).run Tryz.prog w = .ok (x0 == a && (x1 == e && (x2.toList == l.toList))) w := by
 refine Fz Tryz.underlying34 (by kernel_rfl) ?_;refine pI (by rfl) (by go_simp; rfl) (by go_simp; rfl) (by go_simp) ?_;refine pI (by rfl) (by go_simp; rfl) (by go_simp; rfl) (by go_simp) ?_;exact Bp (by rfl) (by go_simp; rfl) (by go_simp; rfl) (by go_simp)
attribute [local go_sem high] Kk
mutual
def aN.l0 : Nat → List (S92) → Int → Int → Int → Int → ByteArray → Option ((List (S92)))
 | 0, _, _, _, _, _, _ => none
 | k + 1, a, b, c, d, e, f => if c < (f.size : Int) then ((bL.f k d e f).bind fun g => (aN.j1 k a b c g d e f)) else (aN.j1 k a b c false d e f)
def aN.j1 : Nat → List (S92) → Int → Int → Bool → Int → Int → ByteArray → Option ((List (S92)))
 | 0, _, _, _, _, _, _, _ => none
 | k + 1, a, b, c, d, e, f, g => if d = true then ((bA.f k e f g c false).bind fun h => ((bA.f k e f g c true).bind fun i => (if h ≥ 2 then (aN.j2 k a b c h i true e f g) else (aN.j2 k a b c h i (decide (i ≥ 2)) e f g)))) else (some a)
def aN.j2 : Nat → List (S92) → Int → Int → Int → Int → Bool → Int → Int → ByteArray → Option ((List (S92)))
 | 0, _, _, _, _, _, _, _, _, _ => none
 | k + 1, a, b, c, d, e, f, g, h, i => if f = true then (aN.j3 k a (wrap64 (b + 1)) c d e g h i) else (aN.j3 k a b c d e g h i)
def aN.j3 : Nat → List (S92) → Int → Int → Int → Int → Int → Int → ByteArray → Option ((List (S92)))
 | 0, _, _, _, _, _, _, _, _ => none
 | k + 1, a, b, c, d, e, f, g, h => if d ≥ 2 then (if a.length < 4398046511104 then ((some (a ++ [(⟨b, false, c, d⟩ : S92)] : List (S92))).bind fun i => (if e ≥ 2 then (if i.length < 4398046511104 then (aN.l0 k (i ++ [(⟨b, true, c, e⟩ : S92)]) b (wrap64 (c + 1)) f g h) else (none)) else (aN.l0 k i b (wrap64 (c + 1)) f g h))) else (none)) else (if e ≥ 2 then (if a.length < 4398046511104 then (aN.l0 k (a ++ [(⟨b, true, c, e⟩ : S92)]) b (wrap64 (c + 1)) f g h) else (none)) else (aN.l0 k a b (wrap64 (c + 1)) f g h))
end
def aN.f (k : Nat) (LU LV : Int) (LW : ByteArray) : Option ((List (S92))) := aN.l0 k (([] : List (S92))) 0 0 LU LV LW
theorem aN.calls (k : Nat) (LU LV : Int) (LW : ByteArray) (r : List (S92)) (w : World) (h : aN.f k LU LV LW = some r) :
  Calls Tryz.prog 54 #[.agg #[.int .i64 LU, .int .i64 LV, .string LW]] w fun e w' => ∃ v0_ : Value, e = .returned (v0_) ∧ Kd.R k92 92 w' w.heap.size (fun _ => True) v0_ r ∧ Below w.heap.size w w' := by
 have yo := Tryz.underlying34;have yp := Tryz.underlying92;have HB := ah.mk (Below.refl w.heap.size w);unfold aN.f at h;have H := h;clear h;obtain ⟨xU, K⟩ : ∃ y_ : List (S92), y_ = (([] : List (S92))) := ⟨_, rfl⟩;replace H : (aN.l0 k xU 0 0 LU LV LW) = some r := by first | (rw [K]; with_reducible exact H) | (have H2_ := (Option.bind_some _ _).symm.trans H; rw [K]; with_reducible exact H2_) | (have H2_ := (Option.bind_some _ _).symm.trans H; with_reducible exact H2_) | with_reducible exact H | (rw [K]; exact H) | exact H
 have xu := ah.mk K;clear K;have H' := ah.mk H;clear H;go_enter Tryz.func54, Tryz.ntmps54;go_wp2_with (first | ((with_reducible refine aJ (N := 1) rfl ?_); refine bf (N := 1) (cs := #[.int .i64 LU, .int .i64 LV, .string LW]) (t := 34) ?_; intro D hg w2 hbox hb; have a := ah.mk hbox; have xy := SZ (w := w) hg; have yd := xy; replace HB := BS (w := w) hb; clear hb hbox hg) | ((with_reducible refine aJ (N := 8) rfl ?_); refine Kd.qE k92 _ 92 ?hg (N := 8) ?hd (xs := ([] : List (S92))) (inner := []) (ok := fun _ => True) (okp := fun _ => True) ?hr ?hp (fun _ hk => hk) trivial (Below.refl _ _) (Nat.le_refl _) (by simp) ?_; (case hd => rfl); (case hg => rfl); (case hr => first | (go_simp; done) | (go_simp; rfl)); (case hp => exact (iA.none _ _)); intro yq w3 xv hb hg_ hnew_; clear hg_ hnew_; (first | rw [← xu.out] at xv | (simp only [Int.reduceToNat] at xv; rw [← xu.out] at xv)); replace a := KB a hb; have xz := ah.mk (Kd.bV xv (aK BL)); replace HB := BS (w := w) hb; clear hb xv))
 go_loopg [3, 4, 5] k (fun kq v3 v4 v5 w' => ∃ (y : List (S92)) (xl : Int) (l : Int), v4 = .int .i64 xl ∧ v5 = .int .i64 l ∧ ah (aN.l0 kq y xl l LU LV LW = some r) ∧ ah (kq ≤ k) ∧ ah (Kd.R k92 92 w' w.heap.size (fun _ => True) v3 y) ∧ ah (w'.heap[D]? = some (.cells #[.int .i64 LU, .int .i64 LV, .string LW] 34 (0, 0))) ∧ ah (Below w.heap.size w w'))
 case atStart => exact ⟨_, _, _, EQ, EQ, H', ⟨Nat.le_refl _⟩, ⟨(RR xz)⟩, ⟨BK⟩, ⟨BL⟩⟩
 case round =>
  clear H';obtain ⟨y, xl, l, rfl, rfl, HA, E, u, a, HB⟩ := hrel
  cases gk with
  | zero => exact absurd HA.out (by simp [aN.l0])
  | succ k1 =>
   have H := HA.out;clear HA;simp only [aN.l0] at H;have xA := ah.mk H;clear H;go_upto_region 4 with (fail)
   go_cut [17] (fun yf wc => ∃ (kq : Nat) (xo : Bool), yf = .bool xo ∧ ah (aN.j1 kq y xl l xo LU LV LW = some r) ∧ ah (kq ≤ k1) ∧ ah (Kd.R k92 92 wc w.heap.size (fun _ => True) u3 y) ∧ ah (wc.heap[D]? = some (.cells #[.int .i64 LU, .int .i64 LV, .string LW] 34 (0, 0))) ∧ ah (Below w.heap.size w wc))
   case first =>
    have H := xA.out;clear xA;obtain ⟨xB, xC, xD, xE, xF, xG⟩ := cz3 a.out;replace H := ifD H; rcases H with ⟨xm, H⟩ | ⟨xm, H⟩
    ·(first | rw [xm] | (simp only [iB, iZ]; rw [xm]) | skip);replace H := be H; obtain ⟨xV, A7, H⟩ := H;have H' := ah.mk H;clear H;go_wp2_with (first | (go_at_call 67; (with_reducible refine (bL.calls k1 LU LV LW xV _ A7.out).mono ?_); rintro e yg ⟨rfl, hb⟩; replace u := RB u hb; replace a := KB a hb; replace HB := BS (w := w) hb; (try clear hb); (try clear hb2); (try clear hk); (try clear hi)));go_meet;case rel => exact ⟨_, _, EQ, H', ⟨by have := E.out; first | omega | exact Nat.le_refl _⟩, ⟨(RR u)⟩, ⟨BK⟩, ⟨BL⟩⟩
    ·(first | rw [xm] | (simp only [iB, iZ]; rw [xm]) | skip);have H' := ah.mk H;clear H;go_wp2;go_meet;case rel => exact ⟨_, _, EQ, H', ⟨by have := E.out; first | omega | exact Nat.le_refl _⟩, ⟨(RR u)⟩, ⟨BK⟩, ⟨BL⟩⟩
   case rest =>
    clear xA;obtain ⟨kq, xo, rfl, HA, J, u, a, HB⟩ := hcut
    cases kq with
    | zero => exact absurd HA.out (by simp [aN.j1])
    | succ xH =>
     have H := HA.out;clear HA;simp only [aN.j1] at H;replace H := ifB H; rcases H with ⟨rfl, H⟩ | ⟨rfl, H⟩
     ·replace H := be H; obtain ⟨z, yh, H⟩ := H;replace H := be H; obtain ⟨x, yi, H⟩ := H;have xw := ah.mk H;clear H;obtain ⟨L, M, O, P, U, Y⟩ := cz3 a.out;go_upto_region 8 with (first | ((with_reducible refine ay (f := 90) rfl ?_); refine bg (some 22) Tryz.func90 #[.agg #[.int .i64 LU, .int .i64 LV, .string LW], .int .i64 l, .bool false] ?_; (with_reducible refine (bA.calls xH LU LV LW l false z _ yh.out).mono ?_); rintro e yj ⟨rfl, hb⟩; refine ⟨_, rfl, ?_⟩; replace u := RB u hb; replace a := KB a hb; replace HB := BS (w := w) hb; (try clear hb); obtain ⟨Z, xa, xb, xc, xd, xe⟩ := cz3 a.out) | ((with_reducible refine ay (f := 90) rfl ?_); refine bg (some 25) Tryz.func90 #[.agg #[.int .i64 LU, .int .i64 LV, .string LW], .int .i64 l, .bool true] ?_; (with_reducible refine (bA.calls xH LU LV LW l true x _ yi.out).mono ?_); rintro e yk ⟨rfl, hb⟩; refine ⟨_, rfl, ?_⟩; replace u := RB u hb; replace a := KB a hb; replace HB := BS (w := w) hb; (try clear hb)));(try simp only [Act.put, List.setIfInBounds_toArray, List.set_cons_zero, List.set_cons_succ])
      go_cut [31] (fun yl wc => ∃ (kq : Nat) (xj : Bool), yl = .bool xj ∧ ah (aN.j2 kq y xl l z x xj LU LV LW = some r) ∧ ah (kq ≤ xH) ∧ ah (Kd.R k92 92 wc w.heap.size (fun _ => True) u3 y) ∧ ah (wc.heap[D]? = some (.cells #[.int .i64 LU, .int .i64 LV, .string LW] 34 (0, 0))) ∧ ah (Below w.heap.size w wc))
      case first =>
       have H := xw.out;clear xw;by_cases xp : z ≥ 2
       ·rw [if_pos xp] at H;have xf : decide (2 ≤ z) = true := decide_eq_true xp;clear xp;(first | rw [xf] | (simp only [iB, iZ]; rw [xf]) | skip);have H' := ah.mk H;clear H;go_wp2;go_meet;case rel => exact ⟨_, _, EQ, H', ⟨by have := E.out; have := J.out; first | omega | exact Nat.le_refl _⟩, ⟨(RR u)⟩, ⟨BK⟩, ⟨BL⟩⟩
       ·rw [if_neg xp] at H;have xf : decide (2 ≤ z) = false := decide_eq_false xp;clear xp;(first | rw [xf] | (simp only [iB, iZ]; rw [xf]) | skip);have H' := ah.mk H;clear H;go_wp2;go_meet;case rel => exact ⟨_, _, EQ, H', ⟨by have := E.out; have := J.out; first | omega | exact Nat.le_refl _⟩, ⟨(RR u)⟩, ⟨BK⟩, ⟨BL⟩⟩
      case rest =>
       clear xw;(try clear ym);(try clear L M O);(try clear Z xa xb);(try clear P U Y);(try clear xc xd xe);obtain ⟨kq, xj, rfl, HA, A, u, a, HB⟩ := hcut
       cases kq with
       | zero => exact absurd HA.out (by simp [aN.j2])
       | succ xW =>
        have H := HA.out;clear HA;simp only [aN.j2] at H;have xx := ah.mk H;clear H;go_upto_if 31 with (fail)
        go_cut [4] (fun v4 wc => ∃ (kq : Nat) (m : Int), v4 = .int .i64 m ∧ ah (aN.j3 kq y m l z x LU LV LW = some r) ∧ ah (kq ≤ xW) ∧ ah (Kd.R k92 92 wc w.heap.size (fun _ => True) u3 y) ∧ ah (wc.heap[D]? = some (.cells #[.int .i64 LU, .int .i64 LV, .string LW] 34 (0, 0))) ∧ ah (Below w.heap.size w wc))
        case first =>
         have H := xx.out;clear xx;replace H := ifB H; rcases H with ⟨rfl, H⟩ | ⟨rfl, H⟩
         ·have H' := ah.mk H;clear H;go_wp2;go_meet;case rel => exact ⟨_, _, EQ, H', ⟨by have := E.out; have := J.out; have := A.out; first | omega | exact Nat.le_refl _⟩, ⟨(RR u)⟩, ⟨BK⟩, ⟨BL⟩⟩
         ·have H' := ah.mk H;clear H;go_wp2;go_meet;case rel => exact ⟨_, _, EQ, H', ⟨by have := E.out; have := J.out; have := A.out; first | omega | exact Nat.le_refl _⟩, ⟨(RR u)⟩, ⟨BK⟩, ⟨BL⟩⟩
        case rest =>
         clear xx;(try clear ym);(try clear L M O);(try clear Z xa xb);(try clear P U Y);(try clear xc xd xe);obtain ⟨kq, m, rfl, HA, G, u, a, HB⟩ := hcut
         cases kq with
         | zero => exact absurd HA.out (by simp [aN.j3])
         | succ I =>
          have H := HA.out;clear HA;simp only [aN.j3] at H;by_cases xq : z ≥ 2
          ·rw [if_pos xq] at H;have xI : decide (2 ≤ z) = true := decide_eq_true xq;clear xq;replace H := ifP H; obtain ⟨xX, H⟩ := H;have xJ := ah.mk xX;clear xX;obtain ⟨xn, xg⟩ : ∃ y_ : List (S92), y_ = (y ++ [(⟨m, false, l, z⟩ : S92)]) := ⟨_, rfl⟩;replace H : (if x ≥ 2 then (if xn.length < 4398046511104 then (aN.l0 I (xn ++ [(⟨m, true, l, x⟩ : S92)]) m (wrap64 (l + 1)) LU LV LW) else (none)) else (aN.l0 I xn m (wrap64 (l + 1)) LU LV LW)) = some r := by first | (rw [xg]; with_reducible exact H) | (have H2_ := (Option.bind_some _ _).symm.trans H; rw [xg]; with_reducible exact H2_) | (have H2_ := (Option.bind_some _ _).symm.trans H; with_reducible exact H2_) | with_reducible exact H | (rw [xg]; exact H) | exact H
           have xK := ah.mk xg;clear xg;replace H := ah.mk H;go_wp2_with (first | ((with_reducible refine dO (b := .append) (xs := #[.tmp 36, .tmp 41]) rfl ?_); at_builtin; refine Kd.gT k92 (w0 := w) w.heap.size rfl (.tmp 36) (.tmp 41) 83 92 (.agg #[(.int .i64 0), (.bool false), (.int .i64 0), (.int .i64 0)]) 32 rfl Tryz.underlying83 wO rfl (by decide) (by omega) u3 y (⟨m, false, l, z⟩ : S92) [.int .i64 m, .bool false, .int .i64 l, .int .i64 z] (fun _ => True) (fun _ => False) rfl rfl ?aP (fun _ hk => hk.elim) ?aF ?aO ?aB ?aS ?aL ?_; (case aP => exact rE _ _ _ (⟨m, false, l, z⟩ : S92)); (case aB => exact BL); (case aF => exact (fun _ _ => trivial)); (case aO => exact (RR u)); (case aS => exact (aK BL)); (case aL => have := xJ.out; omega); intro xY xL ho hb hg hat; rw [← xK.out] at ho; replace a := ah.mk (dV (g := D) (o := .cells #[.int .i64 LU, .int .i64 LV, .string LW] 34 (0, 0)) BK hg (Kd.kE u.out a.out (by decide))); replace HB := ah.mk (hb); have xk := ah.mk (ho); clear u; clear ho hb hg hat; refine cB ?_));refine Hide.mk ?_;replace H := H.out;by_cases xr : x ≥ 2
           ·rw [if_pos xr] at H;have xM : decide (2 ≤ x) = true := decide_eq_true xr;clear xr;replace H := ifP H; obtain ⟨xZ, H⟩ := H;have xN := ah.mk xZ;clear xZ;obtain ⟨ya, xh⟩ : ∃ y_ : List (S92), y_ = (xn ++ [(⟨m, true, l, x⟩ : S92)]) := ⟨_, rfl⟩;replace H : (aN.l0 I ya m (wrap64 (l + 1)) LU LV LW) = some r := by first | (rw [xh]; with_reducible exact H) | (have H2_ := (Option.bind_some _ _).symm.trans H; rw [xh]; with_reducible exact H2_) | (have H2_ := (Option.bind_some _ _).symm.trans H; with_reducible exact H2_) | with_reducible exact H | (rw [xh]; exact H) | exact H
            have xO := ah.mk xh;clear xh;have H' := ah.mk H;clear H;(try go_wp2_with (first | ((with_reducible refine dO (b := .append) (xs := #[.tmp 45, .tmp 50]) rfl ?_); at_builtin; refine Kd.gT k92 (w0 := w) w.heap.size rfl (.tmp 45) (.tmp 50) 83 92 (.agg #[(.int .i64 0), (.bool false), (.int .i64 0), (.int .i64 0)]) 32 rfl Tryz.underlying83 wO rfl (by decide) (by omega) xY xn (⟨m, true, l, x⟩ : S92) [.int .i64 m, .bool true, .int .i64 l, .int .i64 x] (fun _ => True) (fun _ => False) rfl rfl ?aP (fun _ hk => hk.elim) ?aF ?aO ?aB ?aS ?aL ?_; (case aP => exact rE _ _ _ (⟨m, true, l, x⟩ : S92)); (case aB => exact BL); (case aF => exact (fun _ _ => trivial)); (case aO => exact (RR xk)); (case aS => exact (aK BL)); (case aL => have := xN.out; omega); intro yr yn ho hb hg hat; rw [← xO.out] at ho; replace a := ah.mk (dV (g := D) (o := .cells #[.int .i64 LU, .int .i64 LV, .string LW] 34 (0, 0)) BK hg (Kd.kE xk.out a.out (by decide))); replace HB := ah.mk (hb); have xP := ah.mk (ho); clear xk; clear ho hb hg hat)));go_roundg I;case measure => have := E.out; have := J.out; have := A.out; have := G.out; omega
            case rel => exact ⟨_, _, _, EQ, EQ, H', ⟨by have := E.out; have := J.out; have := A.out; have := G.out; omega⟩, ⟨(RR xP)⟩, ⟨BK⟩, ⟨BL⟩⟩
           ·rw [if_neg xr] at H;have xM : decide (2 ≤ x) = false := decide_eq_false xr;clear xr;have H' := ah.mk H;clear H;(try go_wp2);go_roundg I;case measure => have := E.out; have := J.out; have := A.out; have := G.out; omega
            case rel => exact ⟨_, _, _, EQ, EQ, H', ⟨by have := E.out; have := J.out; have := A.out; have := G.out; omega⟩, ⟨(RR xk)⟩, ⟨BK⟩, ⟨BL⟩⟩
          ·rw [if_neg xq] at H;have xI : decide (2 ≤ z) = false := decide_eq_false xq;clear xq;by_cases xt : x ≥ 2
           ·rw [if_pos xt] at H;have xQ : decide (2 ≤ x) = true := decide_eq_true xt;clear xt;replace H := ifP H; obtain ⟨yb, H⟩ := H;have xR := ah.mk yb;clear yb;obtain ⟨yc, xi⟩ : ∃ y_ : List (S92), y_ = (y ++ [(⟨m, true, l, x⟩ : S92)]) := ⟨_, rfl⟩;replace H : (aN.l0 I yc m (wrap64 (l + 1)) LU LV LW) = some r := by first | (rw [xi]; with_reducible exact H) | (have H2_ := (Option.bind_some _ _).symm.trans H; rw [xi]; with_reducible exact H2_) | (have H2_ := (Option.bind_some _ _).symm.trans H; with_reducible exact H2_) | with_reducible exact H | (rw [xi]; exact H) | exact H
            have xS := ah.mk xi;clear xi;have H' := ah.mk H;clear H;go_wp2_with (first | ((with_reducible refine dO (b := .append) (xs := #[.tmp 45, .tmp 50]) rfl ?_); at_builtin; refine Kd.gT k92 (w0 := w) w.heap.size rfl (.tmp 45) (.tmp 50) 83 92 (.agg #[(.int .i64 0), (.bool false), (.int .i64 0), (.int .i64 0)]) 32 rfl Tryz.underlying83 wO rfl (by decide) (by omega) u3 y (⟨m, true, l, x⟩ : S92) [.int .i64 m, .bool true, .int .i64 l, .int .i64 x] (fun _ => True) (fun _ => False) rfl rfl ?aP (fun _ hk => hk.elim) ?aF ?aO ?aB ?aS ?aL ?_; (case aP => exact rE _ _ _ (⟨m, true, l, x⟩ : S92)); (case aB => exact BL); (case aF => exact (fun _ _ => trivial)); (case aO => exact (RR u)); (case aS => exact (aK BL)); (case aL => have := xR.out; omega); intro ys xL ho hb hg hat; rw [← xS.out] at ho; replace a := ah.mk (dV (g := D) (o := .cells #[.int .i64 LU, .int .i64 LV, .string LW] 34 (0, 0)) BK hg (Kd.kE u.out a.out (by decide))); replace HB := ah.mk (hb); have xT := ah.mk (ho); clear u; clear ho hb hg hat));go_roundg I;case measure => have := E.out; have := J.out; have := A.out; have := G.out; omega
            case rel => exact ⟨_, _, _, EQ, EQ, H', ⟨by have := E.out; have := J.out; have := A.out; have := G.out; omega⟩, ⟨(RR xT)⟩, ⟨BK⟩, ⟨BL⟩⟩
           ·rw [if_neg xt] at H;have xQ : decide (2 ≤ x) = false := decide_eq_false xt;clear xt;have H' := ah.mk H;clear H;go_wp2;go_roundg I;case measure => have := E.out; have := J.out; have := A.out; have := G.out; omega
            case rel => exact ⟨_, _, _, EQ, EQ, H', ⟨by have := E.out; have := J.out; have := A.out; have := G.out; omega⟩, ⟨(RR u)⟩, ⟨BK⟩, ⟨BL⟩⟩
     ·obtain rfl := Option.some.inj H;go_wp2;go_ret;exact ⟨_, EWW, (RR u), BL⟩
def dZ.l0 : Nat → ByteArray → ByteArray → Int → Option (ByteArray)
 | 0, _, _, _ => none
 | k + 1, a, b, c => if c < (a.size : Int) then (if (a.size : Int) ≤ 100 then (if 0 ≤ c then (if c ≤ (wrap64 (c + 1)) then (if (wrap64 (c + 1)) ≤ (a.size : Int) then (if (a.extract (c : Int).toNat ((wrap64 (c + 1)) : Int).toNat).size + b.size ≤ 9223372036854775807 then (dZ.l0 k a ((a.extract (c : Int).toNat ((wrap64 (c + 1)) : Int).toNat) ++ b) (wrap64 (c + 1))) else (none)) else (none)) else (none)) else (none)) else (some b)) else (some b)
def dZ.f (k : Nat) (a0 : ByteArray) : Option (ByteArray) := dZ.l0 k a0 (⟨#[]⟩ : ByteArray) 0
theorem dZ.calls (k : Nat) (m r : ByteArray) (w : World) (h : dZ.f k m = some r) :
  Calls Tryz.prog 132 #[.string m] w fun e w' => e = .returned (.string r) ∧ dn w w' := by
 unfold dZ.f at h;have H := h;clear h;have H' := ah.mk H;clear H;go_enter Tryz.func132, Tryz.ntmps132;go_wp2
 go_loopg [3, 4] k (fun kq M O w' => ∃ (l : ByteArray) (a : Int), M = .string l ∧ O = .int .i64 a ∧ ah (dZ.l0 kq m l a = some r) ∧ ah (kq ≤ k) ∧ dn w w')
 case atStart => exact ⟨_, _, EQ, EQ, H', ⟨Nat.le_refl _⟩, DR⟩
 case round =>
  clear H';obtain ⟨l, a, rfl, rfl, HA, o, ⟨m1, rfl⟩⟩ := hrel
  cases gk with
  | zero => exact absurd HA.out (by simp [dZ.l0])
  | succ k1 =>
   have H := HA.out;clear HA;simp only [dZ.l0] at H;replace H := ifD H; rcases H with ⟨u, H⟩ | ⟨u, H⟩
   ·by_cases c3 : (m.size : Int) ≤ 100
    ·rw [if_pos c3] at H;have x : decide ((m.size : Int) ≤ 100) = true := decide_eq_true c3;have y : decide (m.size ≤ 100) = true := decide_eq_true (by omega);clear c3;replace H := ifP H; obtain ⟨c4, H⟩ := H;have z := eq_true c4;have A : decide (0 ≤ a) = true := decide_eq_true c4;clear c4;replace H := ifP H; obtain ⟨c5, H⟩ := H;have D := eq_true c5;have E : decide (a ≤ (wrap64 (a + 1))) = true := decide_eq_true c5;replace H := ifP H; obtain ⟨c6, H⟩ := H;have G := eq_true c6;have I : decide ((wrap64 (a + 1)) ≤ (m.size : Int)) = true := decide_eq_true c6;replace H := ifP H; obtain ⟨c7, H⟩ := H;have J := eq_true c7;have K : decide ((m.extract (a : Int).toNat ((wrap64 (a + 1)) : Int).toNat).size + l.size ≤ 9223372036854775807) = true := decide_eq_true c7;(try have L : (9223372036854775807 < (m.extract (a : Int).toNat ((wrap64 (a + 1)) : Int).toNat).size + l.size) = False := eq_false (Nat.not_lt.2 c7));have H' := ah.mk H;clear H;go_wp2;go_roundg k1;case measure => have := o.out; omega
     case rel => exact ⟨_, _, EQ, EQ, H', ks o, DR⟩
    ·rw [if_neg c3] at H;have x : decide ((m.size : Int) ≤ 100) = false := decide_eq_false c3;have y : decide (m.size ≤ 100) = false := decide_eq_false (by omega);clear c3;obtain rfl := Option.some.inj H;go_wp2;go_ret;exact ⟨EQ, DR⟩
   ·obtain rfl := Option.some.inj H;go_wp2;go_ret;exact ⟨EQ, DR⟩
def kr.f (k : Nat) (LU LV : Int) (LW : ByteArray) : Option (Int × Int × ByteArray) := (bL.f k LU LV LW).bind fun t241 => (if t241 = true then ((dZ.f k LW).bind fun t242 => (some (LU, LV, t242))) else (some (0, 0, (⟨#[]⟩ : ByteArray))))
theorem kr.calls (k : Nat) (LU LV : Int) (LW : ByteArray) (r1 r2 : Int) (r3 : ByteArray) (w : World) (h : kr.f k LU LV LW = some (r1, r2, r3)) :
  Calls Tryz.prog 119 #[.agg #[.int .i64 LU, .int .i64 LV, .string LW]] w fun e w' => e = .returned (.agg #[.int .i64 r1, .int .i64 r2, .string r3]) ∧ Below w.heap.size w w' := by
 have xm := Tryz.underlying34;have HB := ah.mk (Below.refl w.heap.size w);unfold kr.f at h;have H := h;clear h;replace H := be H; obtain ⟨xn, A2, H⟩ := H;replace H := ah.mk H;go_enter Tryz.func119, Tryz.ntmps119;go_wp2_with (first | ((with_reducible refine aJ (N := 1) rfl ?_); refine bf (N := 1) (cs := #[.int .i64 LU, .int .i64 LV, .string LW]) (t := 34) ?_; intro E hg xi hbox hb; have a := ah.mk hbox; have O := SZ (w := w) hg; have xj := O; replace HB := BS (w := w) hb; clear hb hbox hg) | ((with_reducible refine aJ (N := 2) rfl ?_); refine bf (N := 2) (cs := #[.int .i64 0, .int .i64 0, .string (⟨#[]⟩ : ByteArray)]) (t := 34) ?_; intro G hg xk hbox hb; have l := ah.mk (hbox); have P := SZ (w := w) hg; have xl := P; replace HB := BS (w := w) hb; have I := NL a hg; have o := NG a hg; replace a := KB a hb; clear hb hbox hg; have xg := I.out; have xh := o.out; obtain ⟨U, Y, Z, J, K, L⟩ := cz3 a.out; refine cB ?_));refine Hide.mk ?_;replace H := H.out;replace H := ifB H; rcases H with ⟨rfl, H⟩ | ⟨rfl, H⟩
 ·replace H := be H; obtain ⟨M, A4, H⟩ := H;simp only [Option.some.injEq, Prod.mk.injEq] at H;obtain ⟨rfl, rfl, rfl⟩ := H;(try go_wp2_with (first | ((with_reducible refine ay (f := 67) rfl ?_); refine bg (some 4) Tryz.func67 #[.agg #[.int .i64 LU, .int .i64 LV, .string LW]] ?_; (with_reducible refine (bL.calls k LU LV LW _ _ A2.out).mono ?_); rintro e m ⟨rfl, hb⟩; refine ⟨_, rfl, ?_⟩; replace a := KB a hb; replace l := KB l hb; replace HB := BS (w := w) hb; (try clear hb); obtain ⟨u, x, y, z, A, D⟩ := cz3 a.out) | ((with_reducible refine ay (f := 132) rfl ?_); refine bg (some 9) Tryz.func132 #[.string LW] ?_; (with_reducible refine (dZ.calls k LW M _ A4.out).mono ?_); rintro e w' ⟨rfl, ⟨nd, rfl⟩⟩; refine ⟨_, rfl, ?_⟩; (try (rw [qc m]; generalize hq_ : World.drewN m _ = m; have n0_ : ah (m.heap[E]? = some (.cells #[.int .i64 LU, .int .i64 LV, .string LW] 34 (0, 0))) := ⟨by rw [← hq_]; exact BK⟩; have n1_ : ah (m.heap[G]? = some (.cells #[.int .i64 0, .int .i64 0, .string (⟨#[]⟩ : ByteArray)] 34 (0, 0))) := ⟨by rw [← hq_]; exact BK⟩; have n2_ : ah (Below w.heap.size w m) := ⟨by rw [← hq_]; exact BL⟩; clear a l HB hq_; have a := n0_; have l := n1_; have HB := n2_; clear n0_ n1_ n2_)); have u : m.cell? ⟨E, 0, none⟩ = some (.int .i64 LU) := (ak a.out 0).trans rfl; have x : m.cell? ⟨E, 1, none⟩ = some (.int .i64 LV) := (ak a.out 1).trans rfl; have y : m.cell? ⟨E, 2, none⟩ = some (.string LW) := (ak a.out 2).trans rfl; have J := aG a.out 0; have K := aG a.out 1; have L := aG a.out 2; have z := aG a.out 0; have A := aG a.out 1; have D := aG a.out 2; obtain ⟨xa, xb, xc, xd, xe, xf⟩ := cz3 l.out)));refine bodyPost_ret (results_cell_row rfl _ _ G 34 #[.int .i64 LU, .int .i64 LV, .string M] (0, 0) _ rfl (by (with_reducible repeat (first | refine aC ?_ _ | refine aH ?_ | refine aD ?_ _)); refine aX (cs := #[.int .i64 LU, .int .i64 LV, .string (⟨#[]⟩ : ByteArray)]) ?_ 2 _ rfl; (with_reducible repeat (first | refine aC ?_ _ | refine aH ?_ | refine aD ?_ _)); refine aX (cs := #[.int .i64 LU, .int .i64 0, .string (⟨#[]⟩ : ByteArray)]) ?_ 1 _ rfl; (with_reducible repeat (first | refine aC ?_ _ | refine aH ?_ | refine aD ?_ _)); refine aX (cs := #[.int .i64 0, .int .i64 0, .string (⟨#[]⟩ : ByteArray)]) ?_ 0 _ rfl; (with_reducible repeat (first | refine aC ?_ _ | refine aH ?_ | refine aD ?_ _)); refine dU ?_ o.out _; (with_reducible repeat (first | refine aC ?_ _ | refine aH ?_ | refine aD ?_ _)); exact l.out) Tryz.underlying34 rfl (by kernel_rfl)) rfl ?_;exact ⟨EWW, BL⟩
 ·simp only [Option.some.injEq, Prod.mk.injEq] at H;obtain ⟨rfl, rfl, rfl⟩ := H;(try go_wp2_with (first | ((with_reducible refine ay (f := 67) rfl ?_); refine bg (some 4) Tryz.func67 #[.agg #[.int .i64 LU, .int .i64 LV, .string LW]] ?_; (with_reducible refine (bL.calls k LU LV LW _ _ A2.out).mono ?_); rintro e m ⟨rfl, hb⟩; refine ⟨_, rfl, ?_⟩; replace a := KB a hb; replace l := KB l hb; replace HB := BS (w := w) hb; (try clear hb); obtain ⟨u, x, y, z, A, D⟩ := cz3 l.out)));refine bodyPost_ret (results_cell_row rfl _ _ G 34 #[.int .i64 0, .int .i64 0, .string (⟨#[]⟩ : ByteArray)] (0, 0) _ rfl (by (with_reducible repeat (first | refine aC ?_ _ | refine aH ?_ | refine aD ?_ _)); refine aX (cs := #[.int .i64 0, .int .i64 0, .string (⟨#[]⟩ : ByteArray)]) ?_ 2 _ rfl; (with_reducible repeat (first | refine aC ?_ _ | refine aH ?_ | refine aD ?_ _)); refine aX (cs := #[.int .i64 0, .int .i64 0, .string (⟨#[]⟩ : ByteArray)]) ?_ 1 _ rfl; (with_reducible repeat (first | refine aC ?_ _ | refine aH ?_ | refine aD ?_ _)); refine aX (cs := #[.int .i64 0, .int .i64 0, .string (⟨#[]⟩ : ByteArray)]) ?_ 0 _ rfl; (with_reducible repeat (first | refine aC ?_ _ | refine aH ?_ | refine aD ?_ _)); exact l.out) Tryz.underlying34 rfl (by kernel_rfl)) rfl ?_;exact ⟨EWW, BL⟩
def eG.f (k : Nat) (LU LV : Int) (LW : ByteArray) : Option (Bool) := (bL.f k LU LV LW).bind fun t244 => (if t244 = true then ((kr.f k LU LV LW).bind fun bt245 => (some (bt245.1 == LU && (bt245.2.1 == LV && (bt245.2.2.toList == LW.toList))))) else (some false))
def eG.T1 : Bool × List (List Nat × List Nat) := (true, [([], []), ([0], [0]), ([1, 1], [1]), ([2], [2]), ([3, 2, 2], [2, 3]), ([2], [2]), ([4, 5, 2], [2, 4, 5]), ([2, 6], [2, 6]), ([7, 4, 0, 1, 2, 3, 4, 5, 6, 7], [7])])
def eG.B1 : List Nat := [0, 1, 3, 7, 15, 7, 63, 127, 255]
theorem eG.KS : lN .any (opsOf Tryz.f91 1) = eG.T1 := by kernel_rfl
theorem eG.Ie : jD eG.T1.2 eG.B1 = true := by kernel_rfl
theorem eG.calls (k : Nat) (LU LV : Int) (LW : ByteArray) (r : Bool) (w : World) (h : eG.f k LU LV LW = some r) :
  Calls Tryz.prog 91 #[.agg #[.int .i64 LU, .int .i64 LV, .string LW]] w fun e w' => e = .returned (.bool r) ∧ Below w.heap.size w w' := by
 have G := Tryz.underlying34;have HB := ah.mk (Below.refl w.heap.size w);unfold eG.f at h;have H := h;clear h;replace H := be H; obtain ⟨I, A2, H⟩ := H;replace H := ah.mk H;go_enter Tryz.func91, Tryz.ntmps91;(try go_wp2_with (first | ((with_reducible refine aJ (N := 1) rfl ?_); refine bf (N := 1) (cs := #[.int .i64 LU, .int .i64 LV, .string LW]) (t := 34) ?_; intro l hg m hbox hb; have a := ah.mk hbox; have o := SZ (w := w) hg; have z := o; replace HB := BS (w := w) hb; clear hb hbox hg)));replace a := ah.mk (aH a.out);replace HB := ah.mk (dR HB.out);refine jS (n := 9) (S := fun w' => w'.cell? ⟨l, 0, none⟩ = some (.int .i64 LU) ∧ w'.cell? ⟨l, 1, none⟩ = some (.int .i64 LV) ∧ w'.cell? ⟨l, 2, none⟩ = some (.string LW)) (ds := []) #[F,F,F,F,F,F,F,F,F] (by kernel_rfl) rfl rfl ⟨(ak a.out 0).trans rfl, (ak a.out 1).trans rfl, (ak a.out 2).trans rfl⟩ (fun hHeld => ?_); refine jk eG.KS eG.Ie (fun HT_ HW_ => ?_);generalize m.drew = A at a HB hHeld ⊢;refine tS 0 (some 3) #[T,F,F,F,F,F,F,F,F] ?_;refine mh (i := 1) (N := some 4) #[T,T,F,F,F,F,F,F,F] rfl rfl (jA HT_.out (by kernel_rfl)) (by decide) (fun K hK => ?_);refine jq Tryz.func67 #[.agg #[.int .i64 LU, .int .i64 LV, .string LW]] ?_;(with_reducible refine (bL.calls k LU LV LW _ _ A2.out).mono ?_);rintro e D ⟨rfl, hb⟩;refine ⟨_, rfl, ?_⟩;replace a := KB a hb;replace HB := BS (w := w) hb;(try clear hb);refine hK.out _ _ ⟨(ak a.out 0).trans rfl, (ak a.out 1).trans rfl, (ak a.out 2).trans rfl⟩ (fun hHeld => ?_);clear hK K;refine nrm (some 4) ?_;replace H := H.out;replace H := ifB H; rcases H with ⟨rfl, H⟩ | ⟨rfl, H⟩
 ·replace H := be H; obtain ⟨⟨u, x, y⟩, J, H⟩ := H;dsimp only at H;obtain rfl := Option.some.inj H;refine pS 2 (some 5) #[T,T,T,F,F,F,F,F,F] ?_;refine tS 3 (some 6) #[T,T,T,T,F,F,F,F,F] ?_;refine tS 5 (some 8) #[T,T,T,T,F,T,F,F,F] ?_;refine mh (i := 4) (N := some 7) #[T,T,T,T,T,T,F,F,F] rfl rfl (jA HT_.out (by kernel_rfl)) (by decide) (fun K hK => ?_);refine jq Tryz.func119 #[.agg #[.int .i64 LU, .int .i64 LV, .string LW]] ?_;(with_reducible refine (kr.calls k LU LV LW u x y _ J.out).mono ?_);rintro e E ⟨rfl, hb⟩;refine ⟨_, rfl, ?_⟩;replace a := KB a hb;replace HB := BS (w := w) hb;(try clear hb);refine hK.out _ _ ⟨(ak a.out 0).trans rfl, (ak a.out 1).trans rfl, (ak a.out 2).trans rfl⟩ (fun hHeld => ?_);clear hK K;refine nrm (some 7) ?_;refine pS 6 (some 9) #[T,T,T,T,T,T,T,F,F] ?_;refine pS 7 (some 10) #[T,T,T,T,T,T,T,T,F] ?_;refine pS 8 (some 2) #[T,T,T,T,T,T,T,T,T] ?_;refine iU (gX HT_.out (by kernel_rfl)) ?_;(try go_wp2);go_ret;exact ⟨EWW, BL⟩
 ·obtain rfl := Option.some.inj H;refine pS 2 (some 5) #[T,T,T,F,F,F,F,F,F] ?_;refine pU 3 (some 6) #[T,T,T,T,F,F,F,F,F] ?_;refine pU 4 (some 7) #[T,T,T,T,T,F,F,F,F] ?_;refine pU 5 (some 8) #[T,T,T,T,T,T,F,F,F] ?_;refine pU 6 (some 9) #[T,T,T,T,T,T,T,F,F] ?_;refine pS 7 (some 10) #[T,T,T,T,T,T,T,T,F] ?_;refine pS 8 (some 2) #[T,T,T,T,T,T,T,T,T] ?_;refine iU (gX HT_.out (by kernel_rfl)) ?_;(try go_wp2);go_ret;exact ⟨EWW, BL⟩
def ku.f (k : Nat) (LU LV : Int) (LW : ByteArray) (l1 : List Bool) (a2 : Int) : Option (List Bool) := HandReach.Ef k LU LV LW l1 a2
theorem ku.calls (k : Nat) (LU LV : Int) (LW : ByteArray) (P1_ : Nat → Prop) (u9000_ : Value) (l1 : List Bool) (a : Int) (r : List Bool) (w0 w : World) (hB : Below w0.heap.size w0 w) (l : Kd.R Kd.bool 4 w w0.heap.size P1_ u9000_ l1) (h : ku.f k LU LV LW l1 a = some r) :
  Calls Tryz.prog 154 #[.agg #[.int .i64 LU, .int .i64 LV, .string LW], u9000_, .int .i64 a] w fun e w' => ∃ v0_ : Value, e = .returned (v0_) ∧ Kd.R Kd.bool 4 w' w0.heap.size (fun k_ => (P1_ k_ ∨ w.heap.size ≤ k_)) v0_ r ∧ Below w0.heap.size w0 w' ∧ Kept w w' (fun k_ => P1_ k_) :=
 HandReach.JV k LU LV LW P1_ u9000_ l1 a r w0 w hB l h
end Go.Proofs.YthkfjbodohaglaaGreatDoor.PFnExactHalfSolvable
