/- Walks of functions: what each computes. -/
import Derived.Test.YthkfjbodohaglaaGreatDoorZRoundsNeededG0
import Derived.Test.YthkfjbodohaglaaGreatDoorZRoundsNeededG1
import Derived.Test.YthkfjbodohaglaaGreatDoorZRoundsNeededW
import Derived.Test.YthkfjbodohaglaaGreatDoorZRoundsNeededShelf
import Derived.Test.YthkfjbodohaglaaGreatDoorZRoundsNeededHandSort
import Derived.Test.YthkfjbodohaglaaGreatDoorZRoundsNeededHandForm
import Derived.Test.YthkfjbodohaglaaGreatDoorZRoundsNeededHandAlone
import Derived.Test.YthkfjbodohaglaaGreatDoorZRoundsNeededHandReach
import Derived.Test.YthkfjbodohaglaaGreatDoorZRoundsNeededHandPut
import Derived.Test.YthkfjbodohaglaaGreatDoorZRoundsNeededHandRepl
namespace Go.Proofs.YthkfjbodohaglaaGreatDoor.PFnExactRoundsNeeded
open Go.RowKit Go.Proofs.YthkfjbodohaglaaGreatDoorW.PrintWords Go.Proofs.YthkfjbodohaglaaGreatDoorW.PrintLast Go.Proofs.YthkfjbodohaglaaGreatDoorW.PrintMore Go.Proofs.YthkfjbodohaglaaGreatDoor.Sq
attribute [local go_sem] kG kI lY lZ jH jI kH kJ
set_option maxHeartbeats 8000000
set_option maxRecDepth 100000
set_option linter.unusedVariables false
set_option linter.unusedSimpArgs false
mutual
def fu.j0 : Nat → List (dD) → Int → Bool → Int → ByteArray → Int → Int → Option (Bool)
 | 0, _, _, _, _, _, _, _ => none
 | k + 1, a, b, c, d, e, f, g => if c = true then (some false) else (if d = 4 then (fu.j1 k a b true d e f g) else (fu.j1 k a b (d == 5) d e f g))
def fu.j1 : Nat → List (dD) → Int → Bool → Int → ByteArray → Int → Int → Option (Bool)
 | 0, _, _, _, _, _, _, _ => none
 | k + 1, a, b, c, d, e, f, g => if d = 1 then (if f = 0 then (some (g == 0)) else (some false)) else ((bB.f f 0 (wrap64 (b - 1))).bind fun h => (if h = true then (if c = true then ((bB.f g 0 (wrap64 (b - 1))).bind fun i => (if i = true then (some true) else (some false))) else (if g = 0 then (if d = 2 then (some true) else (if 0 ≤ f then (if f < (a.length : Int) then (some (((aj a f).f0) == 1)) else (none)) else (none))) else (some false))) else (some false)))
end
def fu.f (k : Nat) (l0 : List (dD)) (a1 : Int) : Option (Bool) := if 0 ≤ a1 then (if a1 < (l0.length : Int) then ((bB.f ((aj l0 a1).f0) 1 9).bind fun t209 => (if t209 = true then ((bC.f k ((aj l0 a1).f1)).bind fun t210 => (if ((((aj l0 a1).f0) == 1) != t210) = true then (fu.j0 k l0 a1 true ((aj l0 a1).f0) ((aj l0 a1).f1) ((aj l0 a1).f2) ((aj l0 a1).f3)) else (if ((aj l0 a1).f0) = 1 then (fu.j0 k l0 a1 false ((aj l0 a1).f0) ((aj l0 a1).f1) ((aj l0 a1).f2) ((aj l0 a1).f3)) else (fu.j0 k l0 a1 (((aj l0 a1).f1).toList != ([] : List UInt8)) ((aj l0 a1).f0) ((aj l0 a1).f1) ((aj l0 a1).f2) ((aj l0 a1).f3))))) else (fu.j0 k l0 a1 true ((aj l0 a1).f0) ((aj l0 a1).f1) ((aj l0 a1).f2) ((aj l0 a1).f3)))) else (none)) else (none)
theorem fu.calls (k : Nat) (A0 : Option Addr) (c0 : Nat) (l0 : List (dD)) (a : Int) (r : Bool) (w : World) (yj : Kd.C jC w A0 l0.length l0) (yk : l0.length ≤ c0) (h : fu.f k l0 a = some r) :
  Calls Tryz.prog 118 #[.slice A0 l0.length c0, .int .i64 a] w fun e w' => e = .returned (.bool r) ∧ Below w.heap.size w w' := by
 have yn := Tryz.underlying121;have xv := ah.mk yj;have yA := ah.mk yk;clear yj yk;have HB := ah.mk (Below.refl w.heap.size w);unfold fu.f at h;have H := h;clear h;replace H := ifN H; obtain ⟨xw, H⟩ := H;replace H := ifN H; obtain ⟨xx, H⟩ := H;have xy := ah.mk H;clear H;have xe : 0 ≤ (a : Int) := OD;have xf : a < (l0.length : Int) := OD;obtain ⟨xl, yl, xg, xh, xi, xj⟩ := jT xv.out a xe xf
 cases yl
 replace xe := eq_true xe;replace xf := eq_true xf;go_enter Tryz.func118, Tryz.ntmps118;go_upto_region 2 with (first | ((with_reducible refine aJ (N := 5) rfl ?_); refine aZ (N := 5) (cs := #[.int .i64 0, .string (⟨#[]⟩ : ByteArray), .int .i64 0, .int .i64 0]) (t := 121) ?_; intro xc hg xs hbox hb; have y := ah.mk hbox; have Y := SZ (w := w) hg; have xt := Y; replace HB := BS (w := w) hb; clear hb hbox hg; obtain ⟨A, D, E, G, I, J, K, L⟩ := cz4 y.out))
 repeat (go_quiet (first | ((with_reducible refine aJ (N := 5) rfl ?_); refine aZ (N := 5) (cs := #[.int .i64 0, .string (⟨#[]⟩ : ByteArray), .int .i64 0, .int .i64 0]) (t := 121) ?_; intro xc hg xs hbox hb; have y := ah.mk hbox; have Y := SZ (w := w) hg; have xt := Y; replace HB := BS (w := w) hb; clear hb hbox hg; obtain ⟨A, D, E, G, I, J, K, L⟩ := cz4 y.out)); go_upto_region 2 with (first | ((with_reducible refine aJ (N := 5) rfl ?_); refine aZ (N := 5) (cs := #[.int .i64 0, .string (⟨#[]⟩ : ByteArray), .int .i64 0, .int .i64 0]) (t := 121) ?_; intro xc hg xs hbox hb; have y := ah.mk hbox; have Y := SZ (w := w) hg; have xt := Y; replace HB := BS (w := w) hb; clear hb hbox hg; obtain ⟨A, D, E, G, I, J, K, L⟩ := cz4 y.out)))
 (try simp only [Act.put, List.setIfInBounds_toArray, List.set_cons_zero, List.set_cons_succ])
 go_cut [33] (fun yo wc => ∃ (kq : Nat) (xm : Bool), yo = .bool xm ∧ ah (fu.j0 kq l0 a xm ((aj l0 a).f0) ((aj l0 a).f1) ((aj l0 a).f2) ((aj l0 a).f3) = some r) ∧ ah (kq ≤ k) ∧ ah (wc.heap[xc]? = some (.cells #[.int .i64 ((aj l0 a).f0), .string ((aj l0 a).f1), .int .i64 ((aj l0 a).f2), .int .i64 ((aj l0 a).f3)] 121 (0, 0))) ∧ ah (Below w.heap.size w wc))
 case first =>
  have H := xy.out;clear xy;replace H := be H; obtain ⟨yv, A8, H⟩ := H;obtain ⟨xz, xA, xB, xC, xD, xE, xF, xG⟩ := cz4 y.out;replace H := ifB H; rcases H with ⟨rfl, H⟩ | ⟨rfl, H⟩
  ·replace H := be H; obtain ⟨z, xd, H⟩ := H;by_cases Z : ((((aj l0 a).f0) == 1) != z) = true
   ·rw [if_pos Z] at H;have U : ((((aj l0 a).f0) == 1) != z) = true := Z;(try (have xH : decide ((((aj l0 a).f0) == 1) = z) = false := by simpa using Z));(try (have xI : ((((aj l0 a).f0) == 1) == z) = false := by simpa using Z));(try (have yp : ¬ ((((aj l0 a).f0) == 1) = z) := by simpa using Z));clear Z;(first | rw [U] | (simp only [gZ, iR]; rw [U]) | skip);have H' := ah.mk H;clear H
    repeat (go_wp2_with (first | (go_at_call 56; (with_reducible refine (bB.calls ((aj l0 a).f0) 1 9 _ _ A8.out).mono ?_); rintro e w' ⟨rfl, ⟨nd, rfl⟩⟩; (try first | exact da | exact DD)) | (go_at_call 104; (with_reducible refine (bC.calls k ((aj l0 a).f1) z _ xd.out).mono ?_); rintro e w' ⟨rfl, ⟨nd, rfl⟩⟩; (try first | exact da | exact DD))); go_quiet (first | (go_at_call 56; (with_reducible refine (bB.calls ((aj l0 a).f0) 1 9 _ _ A8.out).mono ?_); rintro e w' ⟨rfl, ⟨nd, rfl⟩⟩; (try first | exact da | exact DD)) | (go_at_call 104; (with_reducible refine (bC.calls k ((aj l0 a).f1) z _ xd.out).mono ?_); rintro e w' ⟨rfl, ⟨nd, rfl⟩⟩; (try first | exact da | exact DD))))
    go_wp2_with (first | (go_at_call 56; (with_reducible refine (bB.calls ((aj l0 a).f0) 1 9 _ _ A8.out).mono ?_); rintro e w' ⟨rfl, ⟨nd, rfl⟩⟩; (try first | exact da | exact DD)) | (go_at_call 104; (with_reducible refine (bC.calls k ((aj l0 a).f1) z _ xd.out).mono ?_); rintro e w' ⟨rfl, ⟨nd, rfl⟩⟩; (try first | exact da | exact DD)));go_meet;case rel => exact ⟨_, (true), (by first | rfl | (simp; done) | (simp [*]; rw [Bool.eq_iff_iff]; simp [bne, List.isEmpty_iff]; done) | (simp [*]; done)), H', ⟨by first | omega | exact Nat.le_refl _⟩, ⟨by (with_reducible repeat (first | refine aD ?_ _ | refine aH ?_ | refine aC ?_ _)); refine aW (cs := #[.int .i64 ((aj l0 a).f0), .string ((aj l0 a).f1), .int .i64 ((aj l0 a).f2), .int .i64 0]) ?_ 3 _ rfl; (with_reducible repeat (first | refine aD ?_ _ | refine aH ?_ | refine aC ?_ _)); refine aW (cs := #[.int .i64 ((aj l0 a).f0), .string ((aj l0 a).f1), .int .i64 0, .int .i64 0]) ?_ 2 _ rfl; (with_reducible repeat (first | refine aD ?_ _ | refine aH ?_ | refine aC ?_ _)); refine aW (cs := #[.int .i64 ((aj l0 a).f0), .string (⟨#[]⟩ : ByteArray), .int .i64 0, .int .i64 0]) ?_ 1 _ rfl; (with_reducible repeat (first | refine aD ?_ _ | refine aH ?_ | refine aC ?_ _)); refine aW (cs := #[.int .i64 0, .string (⟨#[]⟩ : ByteArray), .int .i64 0, .int .i64 0]) ?_ 0 _ rfl; (with_reducible repeat (first | refine aD ?_ _ | refine aH ?_ | refine aC ?_ _)); exact y.out⟩, ⟨BL⟩⟩
   ·rw [if_neg Z] at H;have U : ((((aj l0 a).f0) == 1) != z) = false := by simpa using Z
    (try (have xH : decide ((((aj l0 a).f0) == 1) = z) = true := by simpa using Z));(try (have xI : ((((aj l0 a).f0) == 1) == z) = true := by simpa using Z));clear Z;(first | rw [U] | (simp only [gZ, iR]; rw [U]) | skip);by_cases xn : ((aj l0 a).f0) = 1
    ·rw [if_pos xn] at H;have xo : (((aj l0 a).f0) == 1) = true := beq_iff_eq.mpr xn;have xJ : (((aj l0 a).f0) != 1) = false := bne_eq_false_iff_eq.mpr xn;have cw_ : z = true := by simpa [xo] using U   -- mended
     clear xn;have H' := ah.mk H;clear H
     repeat (go_wp2_with (first | (go_at_call 56; (with_reducible refine (bB.calls ((aj l0 a).f0) 1 9 _ _ A8.out).mono ?_); rintro e w' ⟨rfl, ⟨nd, rfl⟩⟩; (try first | exact da | exact DD)) | (go_at_call 104; (with_reducible refine (bC.calls k ((aj l0 a).f1) z _ xd.out).mono ?_); rintro e w' ⟨rfl, ⟨nd, rfl⟩⟩; (try first | exact da | exact DD))); go_quiet (first | (go_at_call 56; (with_reducible refine (bB.calls ((aj l0 a).f0) 1 9 _ _ A8.out).mono ?_); rintro e w' ⟨rfl, ⟨nd, rfl⟩⟩; (try first | exact da | exact DD)) | (go_at_call 104; (with_reducible refine (bC.calls k ((aj l0 a).f1) z _ xd.out).mono ?_); rintro e w' ⟨rfl, ⟨nd, rfl⟩⟩; (try first | exact da | exact DD))))
     go_wp2_with (first | (go_at_call 56; (with_reducible refine (bB.calls ((aj l0 a).f0) 1 9 _ _ A8.out).mono ?_); rintro e w' ⟨rfl, ⟨nd, rfl⟩⟩; (try first | exact da | exact DD)) | (go_at_call 104; (with_reducible refine (bC.calls k ((aj l0 a).f1) z _ xd.out).mono ?_); rintro e w' ⟨rfl, ⟨nd, rfl⟩⟩; (try first | exact da | exact DD)));go_meet;case rel => exact ⟨_, (false), (by first | rfl | (simp; done) | (simp [*]; rw [Bool.eq_iff_iff]; simp [bne, List.isEmpty_iff]; done) | (simp [*]; done)), H', ⟨by first | omega | exact Nat.le_refl _⟩, ⟨by (with_reducible repeat (first | refine aD ?_ _ | refine aH ?_ | refine aC ?_ _)); refine aW (cs := #[.int .i64 ((aj l0 a).f0), .string ((aj l0 a).f1), .int .i64 ((aj l0 a).f2), .int .i64 0]) ?_ 3 _ rfl; (with_reducible repeat (first | refine aD ?_ _ | refine aH ?_ | refine aC ?_ _)); refine aW (cs := #[.int .i64 ((aj l0 a).f0), .string ((aj l0 a).f1), .int .i64 0, .int .i64 0]) ?_ 2 _ rfl; (with_reducible repeat (first | refine aD ?_ _ | refine aH ?_ | refine aC ?_ _)); refine aW (cs := #[.int .i64 ((aj l0 a).f0), .string (⟨#[]⟩ : ByteArray), .int .i64 0, .int .i64 0]) ?_ 1 _ rfl; (with_reducible repeat (first | refine aD ?_ _ | refine aH ?_ | refine aC ?_ _)); refine aW (cs := #[.int .i64 0, .string (⟨#[]⟩ : ByteArray), .int .i64 0, .int .i64 0]) ?_ 0 _ rfl; (with_reducible repeat (first | refine aD ?_ _ | refine aH ?_ | refine aC ?_ _)); exact y.out⟩, ⟨BL⟩⟩
    ·rw [if_neg xn] at H;have xo : (((aj l0 a).f0) == 1) = false := beq_eq_false_iff_ne.mpr xn;have xJ : (((aj l0 a).f0) != 1) = true := bne_iff_ne.mpr xn;have cw_ : z = false := by simpa [xo] using U   -- mended
     have H' := ah.mk H;clear H
     repeat (go_wp2_with (first | (go_at_call 56; (with_reducible refine (bB.calls ((aj l0 a).f0) 1 9 _ _ A8.out).mono ?_); rintro e w' ⟨rfl, ⟨nd, rfl⟩⟩; (try first | exact da | exact DD)) | (go_at_call 104; (with_reducible refine (bC.calls k ((aj l0 a).f1) z _ xd.out).mono ?_); rintro e w' ⟨rfl, ⟨nd, rfl⟩⟩; (try first | exact da | exact DD))); go_quiet (first | (go_at_call 56; (with_reducible refine (bB.calls ((aj l0 a).f0) 1 9 _ _ A8.out).mono ?_); rintro e w' ⟨rfl, ⟨nd, rfl⟩⟩; (try first | exact da | exact DD)) | (go_at_call 104; (with_reducible refine (bC.calls k ((aj l0 a).f1) z _ xd.out).mono ?_); rintro e w' ⟨rfl, ⟨nd, rfl⟩⟩; (try first | exact da | exact DD))))
     go_wp2_with (first | (go_at_call 56; (with_reducible refine (bB.calls ((aj l0 a).f0) 1 9 _ _ A8.out).mono ?_); rintro e w' ⟨rfl, ⟨nd, rfl⟩⟩; (try first | exact da | exact DD)) | (go_at_call 104; (with_reducible refine (bC.calls k ((aj l0 a).f1) z _ xd.out).mono ?_); rintro e w' ⟨rfl, ⟨nd, rfl⟩⟩; (try first | exact da | exact DD)));go_meet;case rel => exact ⟨_, ((((aj l0 a).f1).toList != ([] : List UInt8))), (by first | rfl | (simp; done) | (simp [*]; rw [Bool.eq_iff_iff]; simp [bne, List.isEmpty_iff]; done) | (simp [*]; done)), H', ⟨by first | omega | exact Nat.le_refl _⟩, ⟨by (with_reducible repeat (first | refine aD ?_ _ | refine aH ?_ | refine aC ?_ _)); refine aW (cs := #[.int .i64 ((aj l0 a).f0), .string ((aj l0 a).f1), .int .i64 ((aj l0 a).f2), .int .i64 0]) ?_ 3 _ rfl; (with_reducible repeat (first | refine aD ?_ _ | refine aH ?_ | refine aC ?_ _)); refine aW (cs := #[.int .i64 ((aj l0 a).f0), .string ((aj l0 a).f1), .int .i64 0, .int .i64 0]) ?_ 2 _ rfl; (with_reducible repeat (first | refine aD ?_ _ | refine aH ?_ | refine aC ?_ _)); refine aW (cs := #[.int .i64 ((aj l0 a).f0), .string (⟨#[]⟩ : ByteArray), .int .i64 0, .int .i64 0]) ?_ 1 _ rfl; (with_reducible repeat (first | refine aD ?_ _ | refine aH ?_ | refine aC ?_ _)); refine aW (cs := #[.int .i64 0, .string (⟨#[]⟩ : ByteArray), .int .i64 0, .int .i64 0]) ?_ 0 _ rfl; (with_reducible repeat (first | refine aD ?_ _ | refine aH ?_ | refine aC ?_ _)); exact y.out⟩, ⟨BL⟩⟩
  ·have H' := ah.mk H;clear H
   repeat (go_wp2_with (first | (go_at_call 56; (with_reducible refine (bB.calls ((aj l0 a).f0) 1 9 _ _ A8.out).mono ?_); rintro e w' ⟨rfl, ⟨nd, rfl⟩⟩; (try first | exact da | exact DD))); go_quiet (first | (go_at_call 56; (with_reducible refine (bB.calls ((aj l0 a).f0) 1 9 _ _ A8.out).mono ?_); rintro e w' ⟨rfl, ⟨nd, rfl⟩⟩; (try first | exact da | exact DD))))
   go_wp2_with (first | (go_at_call 56; (with_reducible refine (bB.calls ((aj l0 a).f0) 1 9 _ _ A8.out).mono ?_); rintro e w' ⟨rfl, ⟨nd, rfl⟩⟩; (try first | exact da | exact DD)));go_meet;case rel => exact ⟨_, (true), (by first | rfl | (simp; done) | (simp [*]; rw [Bool.eq_iff_iff]; simp [bne, List.isEmpty_iff]; done) | (simp [*]; done)), H', ⟨by first | omega | exact Nat.le_refl _⟩, ⟨by (with_reducible repeat (first | refine aD ?_ _ | refine aH ?_ | refine aC ?_ _)); refine aW (cs := #[.int .i64 ((aj l0 a).f0), .string ((aj l0 a).f1), .int .i64 ((aj l0 a).f2), .int .i64 0]) ?_ 3 _ rfl; (with_reducible repeat (first | refine aD ?_ _ | refine aH ?_ | refine aC ?_ _)); refine aW (cs := #[.int .i64 ((aj l0 a).f0), .string ((aj l0 a).f1), .int .i64 0, .int .i64 0]) ?_ 2 _ rfl; (with_reducible repeat (first | refine aD ?_ _ | refine aH ?_ | refine aC ?_ _)); refine aW (cs := #[.int .i64 ((aj l0 a).f0), .string (⟨#[]⟩ : ByteArray), .int .i64 0, .int .i64 0]) ?_ 1 _ rfl; (with_reducible repeat (first | refine aD ?_ _ | refine aH ?_ | refine aC ?_ _)); refine aW (cs := #[.int .i64 0, .string (⟨#[]⟩ : ByteArray), .int .i64 0, .int .i64 0]) ?_ 0 _ rfl; (with_reducible repeat (first | refine aD ?_ _ | refine aH ?_ | refine aC ?_ _)); exact y.out⟩, ⟨BL⟩⟩
 case rest =>
  clear xy;(try clear c3);(try clear xw);(try clear c4);(try clear xx);(try clear A D E G I J K L);(try clear xg);(try clear xh);(try clear xi);(try clear xj);(try clear xe);(try clear xf);obtain ⟨kq, xm, rfl, HA, ym, y, HB⟩ := hcut
  cases kq with
  | zero => exact absurd HA.out (by simp [fu.j0])
  | succ yq =>
   have H := HA.out;clear HA;simp only [fu.j0] at H;replace H := ifB H; rcases H with ⟨rfl, H⟩ | ⟨rfl, H⟩
   ·obtain rfl := Option.some.inj H;go_wp2
    repeat (go_quiet (fail); try go_wp2)
    go_ret;exact ⟨EWW, BL⟩
   ·have xu := ah.mk H;clear H;go_upto_region 4 with (fail)
    repeat (go_quiet (fail); go_upto_region 4 with (fail))
    go_cut [6] (fun v6 wc => ∃ (kq : Nat) (xp : Bool), v6 = .bool xp ∧ ah (fu.j1 kq l0 a xp ((aj l0 a).f0) ((aj l0 a).f1) ((aj l0 a).f2) ((aj l0 a).f3) = some r) ∧ ah (kq ≤ yq) ∧ ah (wc.heap[xc]? = some (.cells #[.int .i64 ((aj l0 a).f0), .string ((aj l0 a).f1), .int .i64 ((aj l0 a).f2), .int .i64 ((aj l0 a).f3)] 121 (0, 0))) ∧ ah (Below w.heap.size w wc))
    case first =>
     have H := xu.out;clear xu;obtain ⟨xK, xL, xM, xN, xO, xP, xQ, xR⟩ := cz4 y.out;replace H := ifE H; rcases H with ⟨xa, xS, H⟩ | ⟨yC, xa, xS, H⟩
     ·(first | rw [xa] | (simp only [gZ, iR]; rw [xa]) | skip);have H' := ah.mk H;clear H;go_wp2
      repeat (go_quiet (fail); try go_wp2)
      go_meet;case rel => exact ⟨_, (true), (by first | rfl | (simp; done) | (simp [*]; rw [Bool.eq_iff_iff]; simp [bne, List.isEmpty_iff]; done) | (simp [*]; done)), H', ⟨by have := ym.out; first | omega | exact Nat.le_refl _⟩, ⟨BK⟩, ⟨BL⟩⟩
     ·(first | rw [xa] | (simp only [gZ, iR]; rw [xa]) | skip);have H' := ah.mk H;clear H;go_wp2
      repeat (go_quiet (fail); try go_wp2)
      go_meet;case rel => exact ⟨_, ((((aj l0 a).f0) == 5)), (by first | rfl | (simp; done) | (simp [*]; rw [Bool.eq_iff_iff]; simp [bne, List.isEmpty_iff]; done) | (simp [*]; done)), H', ⟨by have := ym.out; first | omega | exact Nat.le_refl _⟩, ⟨BK⟩, ⟨BL⟩⟩
    case rest =>
     clear xu;(try clear c3);(try clear xw);(try clear c4);(try clear xx);(try clear yD);(try clear A D E G I J K L);(try clear xg);(try clear xh);(try clear xi);(try clear xj);(try clear xe);(try clear xf);obtain ⟨kq, xp, rfl, HA, yw, y, HB⟩ := hcut
     cases kq with
     | zero => exact absurd HA.out (by simp [fu.j1])
     | succ yx =>
      have H := HA.out;clear HA;simp only [fu.j1] at H;obtain ⟨xT, xU, xV, xW, xX, xY, xZ, ya⟩ := cz4 y.out;replace H := ifE H; rcases H with ⟨yb, yc, H⟩ | ⟨yE, yb, yc, H⟩
      ·replace H := ifE H; rcases H with ⟨yd, ye, H⟩ | ⟨yF, yd, ye, H⟩
       ·obtain rfl := Option.some.inj H;go_wp2
        repeat (go_quiet (fail); try go_wp2)
        go_ret;exact ⟨EWW, BL⟩
       ·obtain rfl := Option.some.inj H;go_wp2
        repeat (go_quiet (fail); try go_wp2)
        go_ret;exact ⟨EWW, BL⟩
      ·replace H := be H; obtain ⟨yy, M, H⟩ := H;replace H := ifB H; rcases H with ⟨rfl, H⟩ | ⟨rfl, H⟩
       ·replace H := ifB H; rcases H with ⟨rfl, H⟩ | ⟨rfl, H⟩
        ·replace H := be H; obtain ⟨yz, xq, H⟩ := H;replace H := ifB H; rcases H with ⟨rfl, H⟩ | ⟨rfl, H⟩
         ·obtain rfl := Option.some.inj H
          repeat (go_wp2_with (first | (go_at_call 56; (with_reducible refine (bB.calls ((aj l0 a).f2) 0 (wrap64 (a - 1)) _ _ M.out).mono ?_); rintro e w' ⟨rfl, ⟨nd, rfl⟩⟩; (try first | exact da | exact DD)) | (go_at_call 56; (with_reducible refine (bB.calls ((aj l0 a).f3) 0 (wrap64 (a - 1)) _ _ xq.out).mono ?_); rintro e w' ⟨rfl, ⟨nd, rfl⟩⟩; (try first | exact da | exact DD))); go_quiet (first | (go_at_call 56; (with_reducible refine (bB.calls ((aj l0 a).f2) 0 (wrap64 (a - 1)) _ _ M.out).mono ?_); rintro e w' ⟨rfl, ⟨nd, rfl⟩⟩; (try first | exact da | exact DD)) | (go_at_call 56; (with_reducible refine (bB.calls ((aj l0 a).f3) 0 (wrap64 (a - 1)) _ _ xq.out).mono ?_); rintro e w' ⟨rfl, ⟨nd, rfl⟩⟩; (try first | exact da | exact DD))))
          go_wp2_with (first | (go_at_call 56; (with_reducible refine (bB.calls ((aj l0 a).f2) 0 (wrap64 (a - 1)) _ _ M.out).mono ?_); rintro e w' ⟨rfl, ⟨nd, rfl⟩⟩; (try first | exact da | exact DD)) | (go_at_call 56; (with_reducible refine (bB.calls ((aj l0 a).f3) 0 (wrap64 (a - 1)) _ _ xq.out).mono ?_); rintro e w' ⟨rfl, ⟨nd, rfl⟩⟩; (try first | exact da | exact DD)));go_ret;exact ⟨EWW, BL⟩
         ·obtain rfl := Option.some.inj H
          repeat (go_wp2_with (first | (go_at_call 56; (with_reducible refine (bB.calls ((aj l0 a).f2) 0 (wrap64 (a - 1)) _ _ M.out).mono ?_); rintro e w' ⟨rfl, ⟨nd, rfl⟩⟩; (try first | exact da | exact DD)) | (go_at_call 56; (with_reducible refine (bB.calls ((aj l0 a).f3) 0 (wrap64 (a - 1)) _ _ xq.out).mono ?_); rintro e w' ⟨rfl, ⟨nd, rfl⟩⟩; (try first | exact da | exact DD))); go_quiet (first | (go_at_call 56; (with_reducible refine (bB.calls ((aj l0 a).f2) 0 (wrap64 (a - 1)) _ _ M.out).mono ?_); rintro e w' ⟨rfl, ⟨nd, rfl⟩⟩; (try first | exact da | exact DD)) | (go_at_call 56; (with_reducible refine (bB.calls ((aj l0 a).f3) 0 (wrap64 (a - 1)) _ _ xq.out).mono ?_); rintro e w' ⟨rfl, ⟨nd, rfl⟩⟩; (try first | exact da | exact DD))))
          go_wp2_with (first | (go_at_call 56; (with_reducible refine (bB.calls ((aj l0 a).f2) 0 (wrap64 (a - 1)) _ _ M.out).mono ?_); rintro e w' ⟨rfl, ⟨nd, rfl⟩⟩; (try first | exact da | exact DD)) | (go_at_call 56; (with_reducible refine (bB.calls ((aj l0 a).f3) 0 (wrap64 (a - 1)) _ _ xq.out).mono ?_); rintro e w' ⟨rfl, ⟨nd, rfl⟩⟩; (try first | exact da | exact DD)));go_ret;exact ⟨EWW, BL⟩
        ·replace H := ifE H; rcases H with ⟨yf, yg, H⟩ | ⟨yG, yf, yg, H⟩
         ·replace H := ifE H; rcases H with ⟨yh, yi, H⟩ | ⟨yH, yh, yi, H⟩
          ·obtain rfl := Option.some.inj H
           repeat (go_wp2_with (first | (go_at_call 56; (with_reducible refine (bB.calls ((aj l0 a).f2) 0 (wrap64 (a - 1)) _ _ M.out).mono ?_); rintro e w' ⟨rfl, ⟨nd, rfl⟩⟩; (try first | exact da | exact DD))); go_quiet (first | (go_at_call 56; (with_reducible refine (bB.calls ((aj l0 a).f2) 0 (wrap64 (a - 1)) _ _ M.out).mono ?_); rintro e w' ⟨rfl, ⟨nd, rfl⟩⟩; (try first | exact da | exact DD))))
           go_wp2_with (first | (go_at_call 56; (with_reducible refine (bB.calls ((aj l0 a).f2) 0 (wrap64 (a - 1)) _ _ M.out).mono ?_); rintro e w' ⟨rfl, ⟨nd, rfl⟩⟩; (try first | exact da | exact DD)));go_ret;exact ⟨EWW, BL⟩
          ·replace H := ifN H; obtain ⟨yr, H⟩ := H;replace H := ifN H; obtain ⟨ys, H⟩ := H;obtain rfl := Option.some.inj H
           repeat (go_wp2_with (first | (go_at_call 56; (with_reducible refine (bB.calls ((aj l0 a).f2) 0 (wrap64 (a - 1)) _ _ M.out).mono ?_); rintro e w' ⟨rfl, ⟨nd, rfl⟩⟩; (try first | exact da | exact DD); have O : 0 ≤ (((aj l0 a).f2) : Int) := OD; have P : ((aj l0 a).f2) < (l0.length : Int) := OD; obtain ⟨xb, xk, m, o, u, x⟩ := jT xv.out ((aj l0 a).f2) O P; obtain rfl : xl = xb := (by injection xk); replace m := (HB.out.cell (World.block_lt_of_cell? w _ m)).trans m; replace o := (HB.out.cell (World.block_lt_of_cell? w _ o)).trans o; replace u := (HB.out.cell (World.block_lt_of_cell? w _ u)).trans u; replace x := (HB.out.cell (World.block_lt_of_cell? w _ x)).trans x; replace O := eq_true O; replace P := eq_true P)); go_quiet (first | (go_at_call 56; (with_reducible refine (bB.calls ((aj l0 a).f2) 0 (wrap64 (a - 1)) _ _ M.out).mono ?_); rintro e w' ⟨rfl, ⟨nd, rfl⟩⟩; (try first | exact da | exact DD); have O : 0 ≤ (((aj l0 a).f2) : Int) := OD; have P : ((aj l0 a).f2) < (l0.length : Int) := OD; obtain ⟨xb, xk, m, o, u, x⟩ := jT xv.out ((aj l0 a).f2) O P; obtain rfl : xl = xb := (by injection xk); replace m := (HB.out.cell (World.block_lt_of_cell? w _ m)).trans m; replace o := (HB.out.cell (World.block_lt_of_cell? w _ o)).trans o; replace u := (HB.out.cell (World.block_lt_of_cell? w _ u)).trans u; replace x := (HB.out.cell (World.block_lt_of_cell? w _ x)).trans x; replace O := eq_true O; replace P := eq_true P)))
           go_wp2_with (first | (go_at_call 56; (with_reducible refine (bB.calls ((aj l0 a).f2) 0 (wrap64 (a - 1)) _ _ M.out).mono ?_); rintro e w' ⟨rfl, ⟨nd, rfl⟩⟩; (try first | exact da | exact DD); have O : 0 ≤ (((aj l0 a).f2) : Int) := OD; have P : ((aj l0 a).f2) < (l0.length : Int) := OD; obtain ⟨xb, xk, m, o, u, x⟩ := jT xv.out ((aj l0 a).f2) O P; obtain rfl : xl = xb := (by injection xk); replace m := (HB.out.cell (World.block_lt_of_cell? w _ m)).trans m; replace o := (HB.out.cell (World.block_lt_of_cell? w _ o)).trans o; replace u := (HB.out.cell (World.block_lt_of_cell? w _ u)).trans u; replace x := (HB.out.cell (World.block_lt_of_cell? w _ x)).trans x; replace O := eq_true O; replace P := eq_true P));go_ret;exact ⟨EWW, BL⟩
         ·obtain rfl := Option.some.inj H
          repeat (go_wp2_with (first | (go_at_call 56; (with_reducible refine (bB.calls ((aj l0 a).f2) 0 (wrap64 (a - 1)) _ _ M.out).mono ?_); rintro e w' ⟨rfl, ⟨nd, rfl⟩⟩; (try first | exact da | exact DD))); go_quiet (first | (go_at_call 56; (with_reducible refine (bB.calls ((aj l0 a).f2) 0 (wrap64 (a - 1)) _ _ M.out).mono ?_); rintro e w' ⟨rfl, ⟨nd, rfl⟩⟩; (try first | exact da | exact DD))))
          go_wp2_with (first | (go_at_call 56; (with_reducible refine (bB.calls ((aj l0 a).f2) 0 (wrap64 (a - 1)) _ _ M.out).mono ?_); rintro e w' ⟨rfl, ⟨nd, rfl⟩⟩; (try first | exact da | exact DD)));go_ret;exact ⟨EWW, BL⟩
       ·obtain rfl := Option.some.inj H
        repeat (go_wp2_with (first | (go_at_call 56; (with_reducible refine (bB.calls ((aj l0 a).f2) 0 (wrap64 (a - 1)) _ _ M.out).mono ?_); rintro e w' ⟨rfl, ⟨nd, rfl⟩⟩; (try first | exact da | exact DD))); go_quiet (first | (go_at_call 56; (with_reducible refine (bB.calls ((aj l0 a).f2) 0 (wrap64 (a - 1)) _ _ M.out).mono ?_); rintro e w' ⟨rfl, ⟨nd, rfl⟩⟩; (try first | exact da | exact DD))))
        go_wp2_with (first | (go_at_call 56; (with_reducible refine (bB.calls ((aj l0 a).f2) 0 (wrap64 (a - 1)) _ _ M.out).mono ?_); rintro e w' ⟨rfl, ⟨nd, rfl⟩⟩; (try first | exact da | exact DD)));go_ret;exact ⟨EWW, BL⟩
mutual
def dA.l0 : Nat → List (dD) → Int → Option (Bool)
 | 0, _, _ => none
 | k + 1, a, b => if b < (a.length : Int) then (dA.j1 k a b (decide ((a.length : Int) ≤ 9))) else (dA.j1 k a b false)
def dA.j1 : Nat → List (dD) → Int → Bool → Option (Bool)
 | 0, _, _, _ => none
 | k + 1, a, b, c => if c = true then ((fu.f k a b).bind fun d => (if d = true then (dA.l0 k a (wrap64 (b + 1))) else (some false))) else ((bB.f (a.length : Int) 1 9).bind fun e => (some e))
end
def dA.f (k : Nat) (l0 : List (dD)) : Option (Bool) := dA.l0 k l0 0
theorem dA.calls (k : Nat) (G : Option Addr) (I : Nat) (l0 : List (dD)) (r : Bool) (w : World) (y : Kd.C jC w G l0.length l0) (z : l0.length ≤ I) (h : dA.f k l0 = some r) :
  Calls Tryz.prog 89 #[.slice G l0.length I] w fun e w' => e = .returned (.bool r) ∧ Below w.heap.size w w' := by
 have J := ah.mk y;have K := ah.mk z;clear y z;have HB := ah.mk (Below.refl w.heap.size w);have H : (dA.l0 k l0 0) = some r := h;clear h;have H' := ah.mk H;clear H;go_enter Tryz.func89, Tryz.ntmps89;go_wp2
 go_loopg [3] k (fun kq P w' => ∃ (a : Int), P = .int .i64 a ∧ ah (dA.l0 kq l0 a = some r) ∧ ah (kq ≤ k) ∧ ah (Below w.heap.size w w'))
 case atStart => exact ⟨_, EQ, H', ⟨Nat.le_refl _⟩, ⟨BL⟩⟩
 case round =>
  clear H';obtain ⟨a, rfl, HA, u, HB⟩ := hrel
  cases gk with
  | zero => exact absurd HA.out (by simp [dA.l0])
  | succ k1 =>
   have H := HA.out;clear HA;simp only [dA.l0] at H;have x := ah.mk H;clear H;go_upto_region 2 with (fail)
   go_cut [12] (fun L wc => ∃ (kq : Nat) (o : Bool), L = .bool o ∧ ah (dA.j1 kq l0 a o = some r) ∧ ah (kq ≤ k1) ∧ ah (Below w.heap.size w wc))
   case first =>
    have H := x.out;clear x;replace H := ifD H; rcases H with ⟨m, H⟩ | ⟨m, H⟩
    ·(first | rw [m] | (simp only [gZ, iR]; rw [m]) | skip);have H' := ah.mk H;clear H;go_wp2;go_meet;case rel => exact ⟨_, _, EQ, H', ⟨by have := u.out; first | omega | exact Nat.le_refl _⟩, ⟨BL⟩⟩
    ·(first | rw [m] | (simp only [gZ, iR]; rw [m]) | skip);have H' := ah.mk H;clear H;go_wp2;go_meet;case rel => exact ⟨_, _, EQ, H', ⟨by have := u.out; first | omega | exact Nat.le_refl _⟩, ⟨BL⟩⟩
   case rest =>
    clear x;obtain ⟨kq, o, rfl, HA, A, HB⟩ := hcut
    cases kq with
    | zero => exact absurd HA.out (by simp [dA.j1])
    | succ D =>
     have H := HA.out;clear HA;simp only [dA.j1] at H;replace H := ifB H; rcases H with ⟨rfl, H⟩ | ⟨rfl, H⟩
     ·replace H := be H; obtain ⟨O, U, H⟩ := H;replace H := ah.mk H;go_wp2_with (first | ((with_reducible refine ay (f := 118) rfl ?_); refine bf (some 17) Tryz.func118 #[.slice G l0.length I, .int .i64 a] ?_; (with_reducible refine (fu.calls D _ _ l0 a _ _ ?side1 ?side2 U.out).mono ?_); (case side1 => exact CB J); (case side2 => exact K.out); rintro e M ⟨rfl, hb⟩; refine ⟨_, rfl, ?_⟩; replace HB := BS (w := w) hb; (try clear hb); refine bR ?_));refine Hide.mk ?_;replace H := H.out;replace H := ifB H; rcases H with ⟨rfl, H⟩ | ⟨rfl, H⟩
      ·have H' := ah.mk H;clear H;(try go_wp2);go_roundg D;case measure => have := u.out; have := A.out; omega
       case rel => exact ⟨_, EQ, H', kt u A, ⟨BL⟩⟩
      ·obtain rfl := Option.some.inj H;(try go_wp2);go_ret;exact ⟨EWW, BL⟩
     ·replace H := be H; obtain ⟨E, Y, H⟩ := H;obtain rfl := Option.some.inj H;go_wp2_with (first | ((with_reducible refine ay (f := 56) rfl ?_); refine bf (some 21) Tryz.func56 #[.int .i64 (l0.length : Int), .int .i64 1, .int .i64 9] ?_; (with_reducible refine (bB.calls (l0.length : Int) 1 9 E _ Y.out).mono ?_); rintro e w' ⟨rfl, ⟨nd, rfl⟩⟩; refine ⟨_, rfl, ?_⟩));go_ret;exact ⟨EWW, BL⟩
def lF.f (k : Nat) (La : Int) (l0_1 : List (dD)) : Option (Bool) := (bB.f La 1 99).bind fun t217 => (if t217 = true then ((dA.f k l0_1).bind fun t218 => (some t218)) else (some false))
theorem lF.calls (k : Nat) (La : Int) (o : Option Addr) (u : Nat) (a : List (dD)) (r : Bool) (w : World) (x : Kd.C jC w o a.length a) (y : a.length ≤ u) (h : lF.f k La a = some r) :
  Calls Tryz.prog 53 #[.agg #[.int .i64 La, .slice o a.length u]] w fun e w' => e = .returned (.bool r) ∧ Below w.heap.size w w' := by
 have U := Tryz.underlying72;have z := ah.mk x;have A := ah.mk y;clear x y;have HB := ah.mk (Below.refl w.heap.size w);unfold lF.f at h;have H := h;clear h;replace H := be H; obtain ⟨Y, A2, H⟩ := H;replace H := ah.mk H;go_enter Tryz.func53, Tryz.ntmps53;go_wp2_with (first | ((with_reducible refine aJ (N := 1) rfl ?_); refine aZ (N := 1) (cs := #[.int .i64 La, .slice o a.length u]) (t := 72) ?_; intro L hg M hbox hb; have m := ah.mk hbox; have D := SZ (w := w) hg; have O := D; replace HB := BS (w := w) hb; clear hb hbox hg; obtain ⟨E, G, I, J⟩ := cz2 m.out) | ((with_reducible refine ay (f := 56) rfl ?_); refine bf (some 5) Tryz.func56 #[.int .i64 La, .int .i64 1, .int .i64 99] ?_; (with_reducible refine (bB.calls La 1 99 _ _ A2.out).mono ?_); rintro e w' ⟨rfl, ⟨nd, rfl⟩⟩; refine ⟨_, rfl, ?_⟩; refine bR ?_));refine Hide.mk ?_;replace H := H.out;replace H := ifB H; rcases H with ⟨rfl, H⟩ | ⟨rfl, H⟩
 ·replace H := be H; obtain ⟨K, Z, H⟩ := H;obtain rfl := Option.some.inj H;(try go_wp2_with (first | (go_at_call 89; (with_reducible refine (dA.calls k _ _ a K _ ?side1 ?side2 Z.out).mono ?_); (case side1 => repeat (first | exact (Kd.eP z.out BL) | (with_reducible refine Kd.gD ?_ _) | (with_reducible refine Kd.gF ?_ _) | (with_reducible refine Kd.iw ?_))); (case side2 => exact A.out); rintro e P ⟨rfl, hb⟩; replace m := KB m hb; replace HB := BS (w := w) hb; (try clear hb))));go_ret;exact ⟨EWW, BL⟩
 ·obtain rfl := Option.some.inj H;(try go_wp2);go_ret;exact ⟨EWW, BL⟩
mutual
def bI.j0 : Nat → Bool → Int → Int → ByteArray → Option (Bool)
 | 0, _, _, _, _ => none
 | k + 1, a, b, c, d => if a = true then (some false) else (bI.l0 k 0 b c d)
def bI.l0 : Nat → Int → Int → Int → ByteArray → Option (Bool)
 | 0, _, _, _, _ => none
 | k + 1, a, b, c, d => if a < (d.size : Int) then (if 0 ≤ a then (if (bt d a) = 35 then (bI.l0 k (wrap64 (a + 1)) b c d) else (if (bt d a) = 46 then (bI.l0 k (wrap64 (a + 1)) b c d) else (some false))) else (none)) else (some true)
end
def bI.f (k : Nat) (La Lb : Int) (Lc : ByteArray) : Option (Bool) := (bB.f La 2 6).bind fun t220 => (if t220 = true then ((bB.f Lb 2 6).bind fun t221 => (if t221 = true then (bI.j0 k ((Lc.size : Int) != (wrap64 (La * Lb))) La Lb Lc) else (bI.j0 k true La Lb Lc))) else (bI.j0 k true La Lb Lc))
theorem bI.calls (k : Nat) (La Lb : Int) (Lc : ByteArray) (r : Bool) (w : World) (h : bI.f k La Lb Lc = some r) :
  Calls Tryz.prog 67 #[.agg #[.int .i64 La, .int .i64 Lb, .string Lc]] w fun e w' => e = .returned (.bool r) ∧ Below w.heap.size w w' := by
 have xi := Tryz.underlying34;have HB := ah.mk (Below.refl w.heap.size w);unfold bI.f at h;have H := h;clear h;have z := ah.mk H;clear H;go_enter Tryz.func67, Tryz.ntmps67;go_upto_region 1 with (first | ((with_reducible refine aJ (N := 1) rfl ?_); (try (refine je (by rfl) ?_; dsimp only)); refine aZ (N := 1) (cs := #[.int .i64 La, .int .i64 Lb, .string Lc]) (t := 34) ?_; intro u hg w3 hbox hb; have m := ah.mk hbox; have A := SZ (w := w) hg; have xf := A; replace HB := BS (w := w) hb; clear hb hbox hg));(try simp only [Act.put, List.setIfInBounds_toArray, List.set_cons_zero, List.set_cons_succ])
 go_cut [24] (fun xg wc => ∃ (kq : Nat) (o : Bool), xg = .bool o ∧ ah (bI.j0 kq o La Lb Lc = some r) ∧ ah (kq ≤ k) ∧ ah (wc.heap[u]? = some (.cells #[.int .i64 La, .int .i64 Lb, .string Lc] 34 (0, 0))) ∧ ah (Below w.heap.size w wc))
 case first =>
  have H := z.out;clear z;replace H := be H; obtain ⟨xj, A4, H⟩ := H;obtain ⟨D, E, G, I, J, K⟩ := cz3 m.out;replace H := ah.mk H;go_wp2_with (first | ((with_reducible refine ay (f := 56) rfl ?_); refine bf (some 6) Tryz.func56 #[.int .i64 La, .int .i64 2, .int .i64 6] ?_; (with_reducible refine (bB.calls La 2 6 _ _ A4.out).mono ?_); rintro e w' ⟨rfl, ⟨nd, rfl⟩⟩; refine ⟨_, rfl, ?_⟩; refine bR ?_));refine Hide.mk ?_;replace H := H.out;replace H := ifB H; rcases H with ⟨rfl, H⟩ | ⟨rfl, H⟩
  ·replace H := be H; obtain ⟨xk, A6, H⟩ := H;replace H := ah.mk H;go_wp2_with (first | (go_at_call 56; (with_reducible refine (bB.calls Lb 2 6 _ _ A6.out).mono ?_); rintro e w' ⟨rfl, ⟨nd, rfl⟩⟩; refine bR ?_));refine Hide.mk ?_;replace H := H.out;replace H := ifB H; rcases H with ⟨rfl, H⟩ | ⟨rfl, H⟩
   ·have H' := ah.mk H;clear H;(try go_wp2);go_meet;case rel => exact ⟨_, _, EQ, H', ⟨by first | omega | exact Nat.le_refl _⟩, ⟨BK⟩, ⟨BL⟩⟩
   ·have H' := ah.mk H;clear H;(try go_wp2);go_meet;case rel => exact ⟨_, _, EQ, H', ⟨by first | omega | exact Nat.le_refl _⟩, ⟨BK⟩, ⟨BL⟩⟩
  ·have H' := ah.mk H;clear H;(try go_wp2);go_meet;case rel => exact ⟨_, _, EQ, H', ⟨by first | omega | exact Nat.le_refl _⟩, ⟨BK⟩, ⟨BL⟩⟩
 case rest =>
  clear z;obtain ⟨kq, o, rfl, HA, x, m, HB⟩ := hcut
  cases kq with
  | zero => exact absurd HA.out (by simp [bI.j0])
  | succ xe =>
   have H := HA.out;clear HA;simp only [bI.j0] at H;replace H := ifB H; rcases H with ⟨rfl, H⟩ | ⟨rfl, H⟩
   ·obtain rfl := Option.some.inj H;go_wp2;go_ret;exact ⟨EWW, BL⟩
   ·have H' := ah.mk H;clear H;go_wp2
    go_loopg [3] xe (fun kq v3 w' => ∃ (a : Int), v3 = .int .i64 a ∧ ah (bI.l0 kq a La Lb Lc = some r) ∧ ah (kq ≤ xe) ∧ ah (w'.heap[u]? = some (.cells #[.int .i64 La, .int .i64 Lb, .string Lc] 34 (0, 0))) ∧ ah (Below w.heap.size w w'))
    case atStart => exact ⟨_, EQ, H', ⟨Nat.le_refl _⟩, ⟨BK⟩, ⟨BL⟩⟩
    case round =>
     clear H';(try clear xo);obtain ⟨a, rfl, HA, y, m, HB⟩ := hrel
     cases gk with
     | zero => exact absurd HA.out (by simp [bI.l0])
     | succ k2 =>
      have H := HA.out;clear HA;simp only [bI.l0] at H;obtain ⟨L, M, O, P, U, Y⟩ := cz3 m.out;replace H := ifD H; rcases H with ⟨Z, H⟩ | ⟨Z, H⟩
      ·replace H := ifN H; obtain ⟨xh, H⟩ := H;have xp : (0 ≤ (a : Int)) = True := OT;have xq : (a < (Lc.size : Int)) = True := OT;have hx14 := fU Lc a;replace H := ifE H; rcases H with ⟨xa, xb, H⟩ | ⟨xr, xa, xb, H⟩
       ·have H' := ah.mk H;clear H;go_wp2;go_roundg k2;case measure => have := x.out; have := y.out; omega
        case rel => exact ⟨_, EQ, H', ⟨by have := x.out; have := y.out; omega⟩, ⟨BK⟩, ⟨BL⟩⟩
       ·have xs : (0 ≤ (a : Int)) = True := OT;have xt : (a < (Lc.size : Int)) = True := OT;have hx17 := fU Lc a;replace H := ifE H; rcases H with ⟨xc, xd, H⟩ | ⟨xu, xc, xd, H⟩
        ·have H' := ah.mk H;clear H;go_wp2;go_roundg k2;case measure => have := x.out; have := y.out; omega
         case rel => exact ⟨_, EQ, H', ⟨by have := x.out; have := y.out; omega⟩, ⟨BK⟩, ⟨BL⟩⟩
        ·obtain rfl := Option.some.inj H;go_wp2;go_ret;exact ⟨EWW, BL⟩
      ·obtain rfl := Option.some.inj H;go_wp2;go_ret;exact ⟨EWW, BL⟩
mutual
def bq.j0 : Nat → Int → Int → Int → Int → Int → Int → ByteArray → Option (Int)
 | 0, _, _, _, _, _, _, _ => none
 | k + 1, a, b, c, d, e, f, g => if 0 ≤ a then (if a < (g.size : Int) then (if (bt g a) = 46 then (if c > 0 then (if 0 ≤ (wrap64 (a - b)) then (if (wrap64 (a - b)) < (g.size : Int) then (bq.j1 k a b c d ((bt g (wrap64 (a - b))) == 46) e f g) else (none)) else (none)) else (bq.j1 k a b c d false e f g)) else (bq.j1 k a b c d true e f g)) else (none)) else (none)
def bq.j1 : Nat → Int → Int → Int → Int → Bool → Int → Int → ByteArray → Option (Int)
 | 0, _, _, _, _, _, _, _, _ => none
 | k + 1, a, b, c, d, e, f, g, h => if e = true then (some 0) else (bq.l0 k a b c d 0 f g h)
def bq.l0 : Nat → Int → Int → Int → Int → Int → Int → Int → ByteArray → Option (Int)
 | 0, _, _, _, _, _, _, _, _ => none
 | k + 1, a, b, c, d, e, f, g, h => if (wrap64 (c + e)) < d then (if 0 ≤ (wrap64 (a + (wrap64 (e * b)))) then (if (wrap64 (a + (wrap64 (e * b)))) < (h.size : Int) then (if (bt h (wrap64 (a + (wrap64 (e * b))))) = 46 then (bq.l0 k a b c d (wrap64 (e + 1)) f g h) else (some e)) else (none)) else (none)) else (some e)
end
def bq.f (k : Nat) (La Lb : Int) (Lc : ByteArray) (a1 : Int) (a2 : Bool) : Option (Int) := if Lb = 0 then (none) else (if a2 = true then (bq.j0 k a1 Lb (wrap64 (Int.tdiv a1 Lb)) La La Lb Lc) else (bq.j0 k a1 1 (Int.tmod a1 Lb) Lb La Lb Lc))
theorem bq.calls (k : Nat) (La Lb : Int) (Lc : ByteArray) (K : Int) (a2 : Bool) (r : Int) (w : World) (h : bq.f k La Lb Lc K a2 = some r) :
  Calls Tryz.prog 90 #[.agg #[.int .i64 La, .int .i64 Lb, .string Lc], .int .i64 K, .bool a2] w fun e w' => e = .returned (.int .i64 r) ∧ Below w.heap.size w w' := by
 have xN := Tryz.underlying34;have HB := ah.mk (Below.refl w.heap.size w);unfold bq.f at h;have H := h;clear h;by_cases c4 : Lb = 0
 ·rw [if_pos c4] at H;exact absurd H (by simp)
 ·rw [if_neg c4] at H;have M : (Lb == 0) = false := beq_eq_false_iff_ne.mpr c4;have O : (Lb != 0) = true := bne_iff_ne.mpr c4;have Z := ah.mk H;clear H;go_enter Tryz.func90, Tryz.ntmps90;go_upto_if 17 with (first | ((with_reducible refine aJ (N := 3) rfl ?_); refine aZ (N := 3) (cs := #[.int .i64 La, .int .i64 Lb, .string Lc]) (t := 34) ?_; intro I hg xE hbox hb; have o := ah.mk hbox; have xa := SZ (w := w) hg; have xF := xa; replace HB := BS (w := w) hb; clear hb hbox hg; obtain ⟨u, x, y, z, A, D⟩ := cz3 o.out));(try simp only [Act.put, List.setIfInBounds_toArray, List.set_cons_zero, List.set_cons_succ])
  go_cut [7, 8, 9] (fun v7 v8 v9 wc => ∃ (kq : Nat) (a : Int) (m : Int) (G : Int), v7 = .int .i64 a ∧ v8 = .int .i64 m ∧ v9 = .int .i64 G ∧ ah (bq.j0 kq K a m G La Lb Lc = some r) ∧ ah (kq ≤ k) ∧ ah (wc.heap[I]? = some (.cells #[.int .i64 La, .int .i64 Lb, .string Lc] 34 (0, 0))) ∧ ah (Below w.heap.size w wc))
  case first =>
   have H := Z.out;clear Z;by_cases c8 : a2 = true
   ·subst c8;rw [if_pos rfl] at H;have H' := ah.mk H;clear H;obtain ⟨xb, xc, xd, xe, xf, xg⟩ := cz3 o.out;go_wp2;go_meet;case rel => exact ⟨_, _, _, _, EQ, EQ, EQ, H', ⟨by first | omega | exact Nat.le_refl _⟩, ⟨BK⟩, ⟨BL⟩⟩
   ·replace c8 := Bool.eq_false_iff.mpr c8;subst c8;rw [if_neg Bool.false_ne_true] at H;have H' := ah.mk H;clear H;go_wp2;go_meet;case rel => exact ⟨_, _, _, _, EQ, EQ, EQ, H', ⟨by first | omega | exact Nat.le_refl _⟩, ⟨BK⟩, ⟨BL⟩⟩
  case rest =>
   clear Z;(try clear c4);(try clear M);(try clear O);(try clear u x y z A D);obtain ⟨kq, a, m, G, rfl, rfl, rfl, HA, P, o, HB⟩ := hcut
   cases kq with
   | zero => exact absurd HA.out (by simp [bq.j0])
   | succ xz =>
    have H := HA.out;clear HA;simp only [bq.j0] at H;have U := ah.mk H;clear H;go_upto_region 8 with (fail)
    go_cut [43] (fun xG wc => ∃ (kq : Nat) (J : Bool), xG = .bool J ∧ ah (bq.j1 kq K a m G J La Lb Lc = some r) ∧ ah (kq ≤ xz) ∧ ah (wc.heap[I]? = some (.cells #[.int .i64 La, .int .i64 Lb, .string Lc] 34 (0, 0))) ∧ ah (Below w.heap.size w wc))
    case first =>
     have H := U.out;clear U;replace H := ifN H; obtain ⟨Y, H⟩ := H;(first | rw [Y] | (simp only [gZ, iR]; rw [Y]) | skip);replace H := ifN H; obtain ⟨xH, H⟩ := H;obtain ⟨xh, xi, xj, xk, xl, xm⟩ := cz3 o.out;have xR : (0 ≤ (K : Int)) = True := OT;have xS : (K < (Lc.size : Int)) = True := OT;have hx13 := fU Lc K;replace H := ifE H; rcases H with ⟨xn, xo, H⟩ | ⟨xT, xn, xo, H⟩
     ·by_cases L : m > 0
      ·rw [if_pos L] at H;have xp : decide (0 < m) = true := decide_eq_true L;clear L;obtain ⟨ji16, hji16⟩ : ∃ j_ : Int, (wrap64 (K - a)) = j_ := ⟨_, rfl⟩;replace H : (if 0 ≤ (ji16) then (if (ji16) < (Lc.size : Int) then (bq.j1 xz K a m G ((bt Lc (ji16)) == 46) La Lb Lc) else (none)) else (none)) = some r := by first | (rw [hji16] at H; exact H) | (simp only [hji16] at H ⊢; exact H)
       have hji16w : (IntKind.i64.wrap (K - a)) = ji16 := (gZ _).trans hji16;replace H := ifN H; obtain ⟨xI, H⟩ := H;replace H := ifN H; obtain ⟨xJ, H⟩ := H;have H' := ah.mk H;clear H;have xU : (0 ≤ ((ji16) : Int)) = True := OT;have xV : ((ji16) < (Lc.size : Int)) = True := OT;have hx19 := fU Lc (ji16);go_wp2;go_meet;case rel => exact ⟨_, (((bt Lc (ji16)) == 46)), (by first | rfl | (simp; done) | (simp only [← hji16] <;> (first | rfl | simp)) | (simp [*]; done)), H', ⟨by have := P.out; first | omega | exact Nat.le_refl _⟩, ⟨BK⟩, ⟨BL⟩⟩
      ·rw [if_neg L] at H;have xp : decide (0 < m) = false := decide_eq_false L;clear L;have H' := ah.mk H;clear H;go_wp2;go_meet;case rel => exact ⟨_, _, EQ, H', ⟨by have := P.out; first | omega | exact Nat.le_refl _⟩, ⟨BK⟩, ⟨BL⟩⟩
     ·have H' := ah.mk H;clear H;go_wp2;go_meet;case rel => exact ⟨_, _, EQ, H', ⟨by have := P.out; first | omega | exact Nat.le_refl _⟩, ⟨BK⟩, ⟨BL⟩⟩
    case rest =>
     clear U;(try clear c4);(try clear M);(try clear O);(try clear u x y z A D);obtain ⟨kq, J, rfl, HA, xA, o, HB⟩ := hcut
     cases kq with
     | zero => exact absurd HA.out (by simp [bq.j1])
     | succ xB =>
      have H := HA.out;clear HA;simp only [bq.j1] at H;replace H := ifB H; rcases H with ⟨rfl, H⟩ | ⟨rfl, H⟩
      ·obtain rfl := Option.some.inj H;go_wp2;go_ret;exact ⟨EWW, BL⟩
      ·have H' := ah.mk H;clear H;go_wp2
       go_loopg [10] xB (fun kq xK w' => ∃ (E : Int), xK = .int .i64 E ∧ ah (bq.l0 kq K a m G E La Lb Lc = some r) ∧ ah (kq ≤ xB) ∧ ah (w'.heap[I]? = some (.cells #[.int .i64 La, .int .i64 Lb, .string Lc] 34 (0, 0))) ∧ ah (Below w.heap.size w w'))
       case atStart => exact ⟨_, EQ, H', ⟨Nat.le_refl _⟩, ⟨BK⟩, ⟨BL⟩⟩
       case round =>
        clear H';(try clear c4);(try clear M);(try clear O);(try clear xW);(try clear u x y z A D);obtain ⟨E, rfl, HA, xC, o, HB⟩ := hrel
        cases gk with
        | zero => exact absurd HA.out (by simp [bq.l0])
        | succ k3 =>
         have H := HA.out;clear HA;simp only [bq.l0] at H;replace H := ifD H; rcases H with ⟨xq, H⟩ | ⟨xq, H⟩
         ·obtain ⟨ji25, hji25⟩ : ∃ j_ : Int, (wrap64 (K + (wrap64 (E * a)))) = j_ := ⟨_, rfl⟩;replace H : (if 0 ≤ (ji25) then (if (ji25) < (Lc.size : Int) then (if (bt Lc (ji25)) = 46 then (bq.l0 k3 K a m G (wrap64 (E + 1)) La Lb Lc) else (some E)) else (none)) else (none)) = some r := by first | (rw [hji25] at H; exact H) | (simp only [hji25] at H ⊢; exact H)
          have hji25w : (IntKind.i64.wrap (K + (wrap64 (E * a)))) = ji25 := (gZ _).trans hji25;replace H := ifN H; obtain ⟨xL, H⟩ := H;replace H := ifN H; obtain ⟨xM, H⟩ := H;obtain ⟨xr, xs, xt, xu, xv, xw⟩ := cz3 o.out;have xX : (0 ≤ ((ji25) : Int)) = True := OT;have xY : ((ji25) < (Lc.size : Int)) = True := OT;have hx28 := fU Lc (ji25);replace H := ifE H; rcases H with ⟨xx, xy, H⟩ | ⟨xZ, xx, xy, H⟩
          ·have H' := ah.mk H;clear H;go_wp2;go_roundg k3;case measure => have := P.out; have := xA.out; have := xC.out; omega
           case rel => exact ⟨_, EQ, H', ⟨by have := P.out; have := xA.out; have := xC.out; omega⟩, ⟨BK⟩, ⟨BL⟩⟩
          ·obtain rfl := Option.some.inj H;go_wp2;go_ret;exact ⟨by first | rfl | (simp [mF, mG] <;> rfl) | (simp only [← hji25]; first | rfl | (simp [mF, mG] <;> rfl)) | (simp [*, mF, mG] <;> rfl), BL⟩
         ·obtain rfl := Option.some.inj H;go_wp2;go_ret;exact ⟨EWW, BL⟩
theorem Jv (d : Nat) (w : World) (x0 a : Int) (x1 e : Int) (x2 m : ByteArray) :
  (Op.equalIn (d + 2) 34 (.agg #[.int .i64 x0, .int .i64 x1, .string x2]) (.agg #[.int .i64 a, .int .i64 e, .string m])).run Tryz.prog w = .ok (x0 == a && (x1 == e && (x2.toList == m.toList))) w := by
 refine EA Tryz.underlying34 (by kernel_rfl) ?_;refine pV (by rfl) (by go_simp; rfl) (by go_simp; rfl) (by go_simp) ?_;refine pV (by rfl) (by go_simp; rfl) (by go_simp; rfl) (by go_simp) ?_;exact Ae (by rfl) (by go_simp; rfl) (by go_simp; rfl) (by go_simp)
attribute [local go_sem high] Jv
mutual
def aN.l0 : Nat → List (S92) → Int → Int → Int → Int → ByteArray → Option ((List (S92)))
 | 0, _, _, _, _, _, _ => none
 | k + 1, a, b, c, d, e, f => if c < (f.size : Int) then ((bI.f k d e f).bind fun g => (aN.j1 k a b c g d e f)) else (aN.j1 k a b c false d e f)
def aN.j1 : Nat → List (S92) → Int → Int → Bool → Int → Int → ByteArray → Option ((List (S92)))
 | 0, _, _, _, _, _, _, _ => none
 | k + 1, a, b, c, d, e, f, g => if d = true then ((bq.f k e f g c false).bind fun h => ((bq.f k e f g c true).bind fun i => (if h ≥ 2 then (aN.j2 k a b c h i true e f g) else (aN.j2 k a b c h i (decide (i ≥ 2)) e f g)))) else (some a)
def aN.j2 : Nat → List (S92) → Int → Int → Int → Int → Bool → Int → Int → ByteArray → Option ((List (S92)))
 | 0, _, _, _, _, _, _, _, _, _ => none
 | k + 1, a, b, c, d, e, f, g, h, i => if f = true then (aN.j3 k a (wrap64 (b + 1)) c d e g h i) else (aN.j3 k a b c d e g h i)
def aN.j3 : Nat → List (S92) → Int → Int → Int → Int → Int → Int → ByteArray → Option ((List (S92)))
 | 0, _, _, _, _, _, _, _, _ => none
 | k + 1, a, b, c, d, e, f, g, h => if d ≥ 2 then (if a.length < 4398046511104 then ((some (a ++ [(⟨b, false, c, d⟩ : S92)] : List (S92))).bind fun i => (if e ≥ 2 then (if i.length < 4398046511104 then (aN.l0 k (i ++ [(⟨b, true, c, e⟩ : S92)]) b (wrap64 (c + 1)) f g h) else (none)) else (aN.l0 k i b (wrap64 (c + 1)) f g h))) else (none)) else (if e ≥ 2 then (if a.length < 4398046511104 then (aN.l0 k (a ++ [(⟨b, true, c, e⟩ : S92)]) b (wrap64 (c + 1)) f g h) else (none)) else (aN.l0 k a b (wrap64 (c + 1)) f g h))
end
def aN.f (k : Nat) (La Lb : Int) (Lc : ByteArray) : Option ((List (S92))) := aN.l0 k (([] : List (S92))) 0 0 La Lb Lc
theorem aN.calls (k : Nat) (La Lb : Int) (Lc : ByteArray) (r : List (S92)) (w : World) (h : aN.f k La Lb Lc = some r) :
  Calls Tryz.prog 54 #[.agg #[.int .i64 La, .int .i64 Lb, .string Lc]] w fun e w' => ∃ v0_ : Value, e = .returned (v0_) ∧ Kd.R k92 92 w' w.heap.size (fun _ => True) v0_ r ∧ Below w.heap.size w w' := by
 have yp := Tryz.underlying34;have yq := Tryz.underlying92;have HB := ah.mk (Below.refl w.heap.size w);unfold aN.f at h;have H := h;clear h;obtain ⟨xV, L⟩ : ∃ y_ : List (S92), y_ = (([] : List (S92))) := ⟨_, rfl⟩;replace H : (aN.l0 k xV 0 0 La Lb Lc) = some r := by first | (rw [L]; with_reducible exact H) | (have H2_ := (Option.bind_some _ _).symm.trans H; rw [L]; with_reducible exact H2_) | (have H2_ := (Option.bind_some _ _).symm.trans H; with_reducible exact H2_) | with_reducible exact H | (rw [L]; exact H) | exact H
 have xv := ah.mk L;clear L;have H' := ah.mk H;clear H;go_enter Tryz.func54, Tryz.ntmps54;go_wp2_with (first | ((with_reducible refine aJ (N := 1) rfl ?_); refine aZ (N := 1) (cs := #[.int .i64 La, .int .i64 Lb, .string Lc]) (t := 34) ?_; intro E hg w2 hbox hb; have a := ah.mk hbox; have xz := SZ (w := w) hg; have ye := xz; replace HB := BS (w := w) hb; clear hb hbox hg) | ((with_reducible refine aJ (N := 8) rfl ?_); refine Kd.tH k92 _ 92 ?hg (N := 8) ?hd (xs := ([] : List (S92))) (inner := []) (ok := fun _ => True) (okp := fun _ => True) ?hr ?hp (fun _ hk => hk) trivial (Below.refl _ _) (Nat.le_refl _) (by simp) ?_; (case hd => rfl); (case hg => rfl); (case hr => first | (go_simp; done) | (go_simp; rfl)); (case hp => exact (ig.none _ _)); intro yr w3 xw hb hg_ hnew_; clear hg_ hnew_; (first | rw [← xv.out] at xw | (simp only [Int.reduceToNat] at xw; rw [← xv.out] at xw)); replace a := KB a hb; have xA := ah.mk (Kd.cK xw (aM BL)); replace HB := BS (w := w) hb; clear hb xw))
 go_loopg [3, 4, 5] k (fun kq v3 v4 v5 w' => ∃ (z : List (S92)) (xm : Int) (m : Int), v4 = .int .i64 xm ∧ v5 = .int .i64 m ∧ ah (aN.l0 kq z xm m La Lb Lc = some r) ∧ ah (kq ≤ k) ∧ ah (Kd.R k92 92 w' w.heap.size (fun _ => True) v3 z) ∧ ah (w'.heap[E]? = some (.cells #[.int .i64 La, .int .i64 Lb, .string Lc] 34 (0, 0))) ∧ ah (Below w.heap.size w w'))
 case atStart => exact ⟨_, _, _, EQ, EQ, H', ⟨Nat.le_refl _⟩, ⟨(RR xA)⟩, ⟨BK⟩, ⟨BL⟩⟩
 case round =>
  clear H';obtain ⟨z, xm, m, rfl, rfl, HA, G, x, a, HB⟩ := hrel
  cases gk with
  | zero => exact absurd HA.out (by simp [aN.l0])
  | succ k1 =>
   have H := HA.out;clear HA;simp only [aN.l0] at H;have xB := ah.mk H;clear H;go_upto_region 4 with (fail)
   go_cut [17] (fun yg wc => ∃ (kq : Nat) (xp : Bool), yg = .bool xp ∧ ah (aN.j1 kq z xm m xp La Lb Lc = some r) ∧ ah (kq ≤ k1) ∧ ah (Kd.R k92 92 wc w.heap.size (fun _ => True) u3 z) ∧ ah (wc.heap[E]? = some (.cells #[.int .i64 La, .int .i64 Lb, .string Lc] 34 (0, 0))) ∧ ah (Below w.heap.size w wc))
   case first =>
    have H := xB.out;clear xB;obtain ⟨xC, xD, xE, xF, xG, xH⟩ := cz3 a.out;replace H := ifD H; rcases H with ⟨xn, H⟩ | ⟨xn, H⟩
    ·(first | rw [xn] | (simp only [gZ, iR]; rw [xn]) | skip);replace H := be H; obtain ⟨xW, A7, H⟩ := H;have H' := ah.mk H;clear H;go_wp2_with (first | (go_at_call 67; (with_reducible refine (bI.calls k1 La Lb Lc xW _ A7.out).mono ?_); rintro e yh ⟨rfl, hb⟩; replace x := RB x hb; replace a := KB a hb; replace HB := BS (w := w) hb; (try clear hb); (try clear hb2); (try clear hk); (try clear hi)));go_meet;case rel => exact ⟨_, _, EQ, H', ⟨by have := G.out; first | omega | exact Nat.le_refl _⟩, ⟨(RR x)⟩, ⟨BK⟩, ⟨BL⟩⟩
    ·(first | rw [xn] | (simp only [gZ, iR]; rw [xn]) | skip);have H' := ah.mk H;clear H;go_wp2;go_meet;case rel => exact ⟨_, _, EQ, H', ⟨by have := G.out; first | omega | exact Nat.le_refl _⟩, ⟨(RR x)⟩, ⟨BK⟩, ⟨BL⟩⟩
   case rest =>
    clear xB;obtain ⟨kq, xp, rfl, HA, K, x, a, HB⟩ := hcut
    cases kq with
    | zero => exact absurd HA.out (by simp [aN.j1])
    | succ xI =>
     have H := HA.out;clear HA;simp only [aN.j1] at H;replace H := ifB H; rcases H with ⟨rfl, H⟩ | ⟨rfl, H⟩
     ·replace H := be H; obtain ⟨A, yi, H⟩ := H;replace H := be H; obtain ⟨y, yj, H⟩ := H;have xx := ah.mk H;clear H;obtain ⟨M, O, P, U, Y, Z⟩ := cz3 a.out;go_upto_region 8 with (first | ((with_reducible refine ay (f := 90) rfl ?_); refine bf (some 22) Tryz.func90 #[.agg #[.int .i64 La, .int .i64 Lb, .string Lc], .int .i64 m, .bool false] ?_; (with_reducible refine (bq.calls xI La Lb Lc m false A _ yi.out).mono ?_); rintro e yk ⟨rfl, hb⟩; refine ⟨_, rfl, ?_⟩; replace x := RB x hb; replace a := KB a hb; replace HB := BS (w := w) hb; (try clear hb); obtain ⟨xa, xb, xc, xd, xe, xf⟩ := cz3 a.out) | ((with_reducible refine ay (f := 90) rfl ?_); refine bf (some 25) Tryz.func90 #[.agg #[.int .i64 La, .int .i64 Lb, .string Lc], .int .i64 m, .bool true] ?_; (with_reducible refine (bq.calls xI La Lb Lc m true y _ yj.out).mono ?_); rintro e yl ⟨rfl, hb⟩; refine ⟨_, rfl, ?_⟩; replace x := RB x hb; replace a := KB a hb; replace HB := BS (w := w) hb; (try clear hb)));(try simp only [Act.put, List.setIfInBounds_toArray, List.set_cons_zero, List.set_cons_succ])
      go_cut [31] (fun ym wc => ∃ (kq : Nat) (xk : Bool), ym = .bool xk ∧ ah (aN.j2 kq z xm m A y xk La Lb Lc = some r) ∧ ah (kq ≤ xI) ∧ ah (Kd.R k92 92 wc w.heap.size (fun _ => True) u3 z) ∧ ah (wc.heap[E]? = some (.cells #[.int .i64 La, .int .i64 Lb, .string Lc] 34 (0, 0))) ∧ ah (Below w.heap.size w wc))
      case first =>
       have H := xx.out;clear xx;by_cases xq : A ≥ 2
       ·rw [if_pos xq] at H;have xg : decide (2 ≤ A) = true := decide_eq_true xq;clear xq;(first | rw [xg] | (simp only [gZ, iR]; rw [xg]) | skip);have H' := ah.mk H;clear H;go_wp2;go_meet;case rel => exact ⟨_, _, EQ, H', ⟨by have := G.out; have := K.out; first | omega | exact Nat.le_refl _⟩, ⟨(RR x)⟩, ⟨BK⟩, ⟨BL⟩⟩
       ·rw [if_neg xq] at H;have xg : decide (2 ≤ A) = false := decide_eq_false xq;clear xq;(first | rw [xg] | (simp only [gZ, iR]; rw [xg]) | skip);have H' := ah.mk H;clear H;go_wp2;go_meet;case rel => exact ⟨_, _, EQ, H', ⟨by have := G.out; have := K.out; first | omega | exact Nat.le_refl _⟩, ⟨(RR x)⟩, ⟨BK⟩, ⟨BL⟩⟩
      case rest =>
       clear xx;(try clear yn);(try clear M O P);(try clear xa xb xc);(try clear U Y Z);(try clear xd xe xf);obtain ⟨kq, xk, rfl, HA, D, x, a, HB⟩ := hcut
       cases kq with
       | zero => exact absurd HA.out (by simp [aN.j2])
       | succ xX =>
        have H := HA.out;clear HA;simp only [aN.j2] at H;have xy := ah.mk H;clear H;go_upto_if 31 with (fail)
        go_cut [4] (fun v4 wc => ∃ (kq : Nat) (u : Int), v4 = .int .i64 u ∧ ah (aN.j3 kq z u m A y La Lb Lc = some r) ∧ ah (kq ≤ xX) ∧ ah (Kd.R k92 92 wc w.heap.size (fun _ => True) u3 z) ∧ ah (wc.heap[E]? = some (.cells #[.int .i64 La, .int .i64 Lb, .string Lc] 34 (0, 0))) ∧ ah (Below w.heap.size w wc))
        case first =>
         have H := xy.out;clear xy;replace H := ifB H; rcases H with ⟨rfl, H⟩ | ⟨rfl, H⟩
         ·have H' := ah.mk H;clear H;go_wp2;go_meet;case rel => exact ⟨_, _, EQ, H', ⟨by have := G.out; have := K.out; have := D.out; first | omega | exact Nat.le_refl _⟩, ⟨(RR x)⟩, ⟨BK⟩, ⟨BL⟩⟩
         ·have H' := ah.mk H;clear H;go_wp2;go_meet;case rel => exact ⟨_, _, EQ, H', ⟨by have := G.out; have := K.out; have := D.out; first | omega | exact Nat.le_refl _⟩, ⟨(RR x)⟩, ⟨BK⟩, ⟨BL⟩⟩
        case rest =>
         clear xy;(try clear yn);(try clear M O P);(try clear xa xb xc);(try clear U Y Z);(try clear xd xe xf);obtain ⟨kq, u, rfl, HA, I, x, a, HB⟩ := hcut
         cases kq with
         | zero => exact absurd HA.out (by simp [aN.j3])
         | succ J =>
          have H := HA.out;clear HA;simp only [aN.j3] at H;by_cases xr : A ≥ 2
          ·rw [if_pos xr] at H;have xJ : decide (2 ≤ A) = true := decide_eq_true xr;clear xr;replace H := ifP H; obtain ⟨xY, H⟩ := H;have xK := ah.mk xY;clear xY;obtain ⟨xo, xh⟩ : ∃ y_ : List (S92), y_ = (z ++ [(⟨u, false, m, A⟩ : S92)]) := ⟨_, rfl⟩;replace H : (if y ≥ 2 then (if xo.length < 4398046511104 then (aN.l0 J (xo ++ [(⟨u, true, m, y⟩ : S92)]) u (wrap64 (m + 1)) La Lb Lc) else (none)) else (aN.l0 J xo u (wrap64 (m + 1)) La Lb Lc)) = some r := by first | (rw [xh]; with_reducible exact H) | (have H2_ := (Option.bind_some _ _).symm.trans H; rw [xh]; with_reducible exact H2_) | (have H2_ := (Option.bind_some _ _).symm.trans H; with_reducible exact H2_) | with_reducible exact H | (rw [xh]; exact H) | exact H
           have xL := ah.mk xh;clear xh;replace H := ah.mk H;go_wp2_with (first | ((with_reducible refine dU (b := .append) (xs := #[.tmp 36, .tmp 41]) rfl ?_); at_builtin; refine Kd.gU k92 (w0 := w) w.heap.size rfl (.tmp 36) (.tmp 41) 83 92 (.agg #[(.int .i64 0), (.bool false), (.int .i64 0), (.int .i64 0)]) 32 rfl Tryz.underlying83 uS rfl (by decide) (by omega) u3 z (⟨u, false, m, A⟩ : S92) [.int .i64 u, .bool false, .int .i64 m, .int .i64 A] (fun _ => True) (fun _ => False) rfl rfl ?aP (fun _ hk => hk.elim) ?aF ?aO ?aB ?aS ?aL ?_; (case aP => exact rD _ _ _ (⟨u, false, m, A⟩ : S92)); (case aB => exact BL); (case aF => exact (fun _ _ => trivial)); (case aO => exact (RR x)); (case aS => exact (aM BL)); (case aL => have := xK.out; omega); intro xZ xM ho hb hg hat; rw [← xL.out] at ho; replace a := ah.mk (eF (g := E) (o := .cells #[.int .i64 La, .int .i64 Lb, .string Lc] 34 (0, 0)) BK hg (Kd.mO x.out a.out (by decide))); replace HB := ah.mk (hb); have xl := ah.mk (ho); clear x; clear ho hb hg hat; refine bR ?_));refine Hide.mk ?_;replace H := H.out;by_cases xt : y ≥ 2
           ·rw [if_pos xt] at H;have xN : decide (2 ≤ y) = true := decide_eq_true xt;clear xt;replace H := ifP H; obtain ⟨ya, H⟩ := H;have xO := ah.mk ya;clear ya;obtain ⟨yb, xi⟩ : ∃ y_ : List (S92), y_ = (xo ++ [(⟨u, true, m, y⟩ : S92)]) := ⟨_, rfl⟩;replace H : (aN.l0 J yb u (wrap64 (m + 1)) La Lb Lc) = some r := by first | (rw [xi]; with_reducible exact H) | (have H2_ := (Option.bind_some _ _).symm.trans H; rw [xi]; with_reducible exact H2_) | (have H2_ := (Option.bind_some _ _).symm.trans H; with_reducible exact H2_) | with_reducible exact H | (rw [xi]; exact H) | exact H
            have xP := ah.mk xi;clear xi;have H' := ah.mk H;clear H;(try go_wp2_with (first | ((with_reducible refine dU (b := .append) (xs := #[.tmp 45, .tmp 50]) rfl ?_); at_builtin; refine Kd.gU k92 (w0 := w) w.heap.size rfl (.tmp 45) (.tmp 50) 83 92 (.agg #[(.int .i64 0), (.bool false), (.int .i64 0), (.int .i64 0)]) 32 rfl Tryz.underlying83 uS rfl (by decide) (by omega) xZ xo (⟨u, true, m, y⟩ : S92) [.int .i64 u, .bool true, .int .i64 m, .int .i64 y] (fun _ => True) (fun _ => False) rfl rfl ?aP (fun _ hk => hk.elim) ?aF ?aO ?aB ?aS ?aL ?_; (case aP => exact rD _ _ _ (⟨u, true, m, y⟩ : S92)); (case aB => exact BL); (case aF => exact (fun _ _ => trivial)); (case aO => exact (RR xl)); (case aS => exact (aM BL)); (case aL => have := xO.out; omega); intro ys yo ho hb hg hat; rw [← xP.out] at ho; replace a := ah.mk (eF (g := E) (o := .cells #[.int .i64 La, .int .i64 Lb, .string Lc] 34 (0, 0)) BK hg (Kd.mO xl.out a.out (by decide))); replace HB := ah.mk (hb); have xQ := ah.mk (ho); clear xl; clear ho hb hg hat)));go_roundg J;case measure => have := G.out; have := K.out; have := D.out; have := I.out; omega
            case rel => exact ⟨_, _, _, EQ, EQ, H', ⟨by have := G.out; have := K.out; have := D.out; have := I.out; omega⟩, ⟨(RR xQ)⟩, ⟨BK⟩, ⟨BL⟩⟩
           ·rw [if_neg xt] at H;have xN : decide (2 ≤ y) = false := decide_eq_false xt;clear xt;have H' := ah.mk H;clear H;(try go_wp2);go_roundg J;case measure => have := G.out; have := K.out; have := D.out; have := I.out; omega
            case rel => exact ⟨_, _, _, EQ, EQ, H', ⟨by have := G.out; have := K.out; have := D.out; have := I.out; omega⟩, ⟨(RR xl)⟩, ⟨BK⟩, ⟨BL⟩⟩
          ·rw [if_neg xr] at H;have xJ : decide (2 ≤ A) = false := decide_eq_false xr;clear xr;by_cases xu : y ≥ 2
           ·rw [if_pos xu] at H;have xR : decide (2 ≤ y) = true := decide_eq_true xu;clear xu;replace H := ifP H; obtain ⟨yc, H⟩ := H;have xS := ah.mk yc;clear yc;obtain ⟨yd, xj⟩ : ∃ y_ : List (S92), y_ = (z ++ [(⟨u, true, m, y⟩ : S92)]) := ⟨_, rfl⟩;replace H : (aN.l0 J yd u (wrap64 (m + 1)) La Lb Lc) = some r := by first | (rw [xj]; with_reducible exact H) | (have H2_ := (Option.bind_some _ _).symm.trans H; rw [xj]; with_reducible exact H2_) | (have H2_ := (Option.bind_some _ _).symm.trans H; with_reducible exact H2_) | with_reducible exact H | (rw [xj]; exact H) | exact H
            have xT := ah.mk xj;clear xj;have H' := ah.mk H;clear H;go_wp2_with (first | ((with_reducible refine dU (b := .append) (xs := #[.tmp 45, .tmp 50]) rfl ?_); at_builtin; refine Kd.gU k92 (w0 := w) w.heap.size rfl (.tmp 45) (.tmp 50) 83 92 (.agg #[(.int .i64 0), (.bool false), (.int .i64 0), (.int .i64 0)]) 32 rfl Tryz.underlying83 uS rfl (by decide) (by omega) u3 z (⟨u, true, m, y⟩ : S92) [.int .i64 u, .bool true, .int .i64 m, .int .i64 y] (fun _ => True) (fun _ => False) rfl rfl ?aP (fun _ hk => hk.elim) ?aF ?aO ?aB ?aS ?aL ?_; (case aP => exact rD _ _ _ (⟨u, true, m, y⟩ : S92)); (case aB => exact BL); (case aF => exact (fun _ _ => trivial)); (case aO => exact (RR x)); (case aS => exact (aM BL)); (case aL => have := xS.out; omega); intro yt xM ho hb hg hat; rw [← xT.out] at ho; replace a := ah.mk (eF (g := E) (o := .cells #[.int .i64 La, .int .i64 Lb, .string Lc] 34 (0, 0)) BK hg (Kd.mO x.out a.out (by decide))); replace HB := ah.mk (hb); have xU := ah.mk (ho); clear x; clear ho hb hg hat));go_roundg J;case measure => have := G.out; have := K.out; have := D.out; have := I.out; omega
            case rel => exact ⟨_, _, _, EQ, EQ, H', ⟨by have := G.out; have := K.out; have := D.out; have := I.out; omega⟩, ⟨(RR xU)⟩, ⟨BK⟩, ⟨BL⟩⟩
           ·rw [if_neg xu] at H;have xR : decide (2 ≤ y) = false := decide_eq_false xu;clear xu;have H' := ah.mk H;clear H;go_wp2;go_roundg J;case measure => have := G.out; have := K.out; have := D.out; have := I.out; omega
            case rel => exact ⟨_, _, _, EQ, EQ, H', ⟨by have := G.out; have := K.out; have := D.out; have := I.out; omega⟩, ⟨(RR x)⟩, ⟨BK⟩, ⟨BL⟩⟩
     ·obtain rfl := Option.some.inj H;go_wp2;go_ret;exact ⟨_, EWW, (RR x), BL⟩
def dV.l0 : Nat → ByteArray → ByteArray → Int → Option (ByteArray)
 | 0, _, _, _ => none
 | k + 1, a, b, c => if c < (a.size : Int) then (if (a.size : Int) ≤ 100 then (if 0 ≤ c then (if c ≤ (wrap64 (c + 1)) then (if (wrap64 (c + 1)) ≤ (a.size : Int) then (if (a.extract (c : Int).toNat ((wrap64 (c + 1)) : Int).toNat).size + b.size ≤ 9223372036854775807 then (dV.l0 k a ((a.extract (c : Int).toNat ((wrap64 (c + 1)) : Int).toNat) ++ b) (wrap64 (c + 1))) else (none)) else (none)) else (none)) else (none)) else (some b)) else (some b)
def dV.f (k : Nat) (a0 : ByteArray) : Option (ByteArray) := dV.l0 k a0 (⟨#[]⟩ : ByteArray) 0
theorem dV.calls (k : Nat) (o r : ByteArray) (w : World) (h : dV.f k o = some r) :
  Calls Tryz.prog 132 #[.string o] w fun e w' => e = .returned (.string r) ∧ cB w w' := by
 unfold dV.f at h;have H := h;clear h;have H' := ah.mk H;clear H;go_enter Tryz.func132, Tryz.ntmps132;go_wp2
 go_loopg [3, 4] k (fun kq O P w' => ∃ (m : ByteArray) (a : Int), O = .string m ∧ P = .int .i64 a ∧ ah (dV.l0 kq o m a = some r) ∧ ah (kq ≤ k) ∧ cB w w')
 case atStart => exact ⟨_, _, EQ, EQ, H', ⟨Nat.le_refl _⟩, DR⟩
 case round =>
  clear H';obtain ⟨m, a, rfl, rfl, HA, u, ⟨m1, rfl⟩⟩ := hrel
  cases gk with
  | zero => exact absurd HA.out (by simp [dV.l0])
  | succ k1 =>
   have H := HA.out;clear HA;simp only [dV.l0] at H;replace H := ifD H; rcases H with ⟨x, H⟩ | ⟨x, H⟩
   ·by_cases c3 : (o.size : Int) ≤ 100
    ·rw [if_pos c3] at H;have y : decide ((o.size : Int) ≤ 100) = true := decide_eq_true c3;have z : decide (o.size ≤ 100) = true := decide_eq_true (by omega);clear c3;replace H := ifP H; obtain ⟨c4, H⟩ := H;have A := eq_true c4;have D : decide (0 ≤ a) = true := decide_eq_true c4;clear c4;replace H := ifP H; obtain ⟨c5, H⟩ := H;have E := eq_true c5;have G : decide (a ≤ (wrap64 (a + 1))) = true := decide_eq_true c5;replace H := ifP H; obtain ⟨c6, H⟩ := H;have I := eq_true c6;have J : decide ((wrap64 (a + 1)) ≤ (o.size : Int)) = true := decide_eq_true c6;replace H := ifP H; obtain ⟨c7, H⟩ := H;have K := eq_true c7;have L : decide ((o.extract (a : Int).toNat ((wrap64 (a + 1)) : Int).toNat).size + m.size ≤ 9223372036854775807) = true := decide_eq_true c7;(try have M : (9223372036854775807 < (o.extract (a : Int).toNat ((wrap64 (a + 1)) : Int).toNat).size + m.size) = False := eq_false (Nat.not_lt.2 c7));have H' := ah.mk H;clear H;go_wp2;go_roundg k1;case measure => have := u.out; omega
     case rel => exact ⟨_, _, EQ, EQ, H', ks u, DR⟩
    ·rw [if_neg c3] at H;have y : decide ((o.size : Int) ≤ 100) = false := decide_eq_false c3;have z : decide (o.size ≤ 100) = false := decide_eq_false (by omega);clear c3;obtain rfl := Option.some.inj H;go_wp2;go_ret;exact ⟨EQ, DR⟩
   ·obtain rfl := Option.some.inj H;go_wp2;go_ret;exact ⟨EQ, DR⟩
def jR.f (k : Nat) (La Lb : Int) (Lc : ByteArray) : Option (Int × Int × ByteArray) := (bI.f k La Lb Lc).bind fun t241 => (if t241 = true then ((dV.f k Lc).bind fun t242 => (some (La, Lb, t242))) else (some (0, 0, (⟨#[]⟩ : ByteArray))))
theorem jR.calls (k : Nat) (La Lb : Int) (Lc : ByteArray) (r1 r2 : Int) (r3 : ByteArray) (w : World) (h : jR.f k La Lb Lc = some (r1, r2, r3)) :
  Calls Tryz.prog 119 #[.agg #[.int .i64 La, .int .i64 Lb, .string Lc]] w fun e w' => e = .returned (.agg #[.int .i64 r1, .int .i64 r2, .string r3]) ∧ Below w.heap.size w w' := by
 have xn := Tryz.underlying34;have HB := ah.mk (Below.refl w.heap.size w);unfold jR.f at h;have H := h;clear h;replace H := be H; obtain ⟨xo, A2, H⟩ := H;replace H := ah.mk H;go_enter Tryz.func119, Tryz.ntmps119;go_wp2_with (first | ((with_reducible refine aJ (N := 1) rfl ?_); refine aZ (N := 1) (cs := #[.int .i64 La, .int .i64 Lb, .string Lc]) (t := 34) ?_; intro G hg xj hbox hb; have a := ah.mk hbox; have P := SZ (w := w) hg; have xk := P; replace HB := BS (w := w) hb; clear hb hbox hg) | ((with_reducible refine aJ (N := 2) rfl ?_); refine aZ (N := 2) (cs := #[.int .i64 0, .int .i64 0, .string (⟨#[]⟩ : ByteArray)]) (t := 34) ?_; intro I hg xl hbox hb; have m := ah.mk (hbox); have U := SZ (w := w) hg; have xm := U; replace HB := BS (w := w) hb; have J := NL a hg; have u := NG a hg; replace a := KB a hb; clear hb hbox hg; have xh := J.out; have xi := u.out; obtain ⟨Y, Z, xa, K, L, M⟩ := cz3 a.out; refine bR ?_));refine Hide.mk ?_;replace H := H.out;replace H := ifB H; rcases H with ⟨rfl, H⟩ | ⟨rfl, H⟩
 ·replace H := be H; obtain ⟨O, A4, H⟩ := H;simp only [Option.some.injEq, Prod.mk.injEq] at H;obtain ⟨rfl, rfl, rfl⟩ := H;(try go_wp2_with (first | ((with_reducible refine ay (f := 67) rfl ?_); refine bf (some 4) Tryz.func67 #[.agg #[.int .i64 La, .int .i64 Lb, .string Lc]] ?_; (with_reducible refine (bI.calls k La Lb Lc _ _ A2.out).mono ?_); rintro e o ⟨rfl, hb⟩; refine ⟨_, rfl, ?_⟩; replace a := KB a hb; replace m := KB m hb; replace HB := BS (w := w) hb; (try clear hb); obtain ⟨x, y, z, A, D, E⟩ := cz3 a.out) | ((with_reducible refine ay (f := 132) rfl ?_); refine bf (some 9) Tryz.func132 #[.string Lc] ?_; (with_reducible refine (dV.calls k Lc O _ A4.out).mono ?_); rintro e w' ⟨rfl, ⟨nd, rfl⟩⟩; refine ⟨_, rfl, ?_⟩; (try (rw [oH o]; generalize hq_ : World.drewN o _ = o; have n0_ : ah (o.heap[G]? = some (.cells #[.int .i64 La, .int .i64 Lb, .string Lc] 34 (0, 0))) := ⟨by rw [← hq_]; exact BK⟩; have n1_ : ah (o.heap[I]? = some (.cells #[.int .i64 0, .int .i64 0, .string (⟨#[]⟩ : ByteArray)] 34 (0, 0))) := ⟨by rw [← hq_]; exact BK⟩; have n2_ : ah (Below w.heap.size w o) := ⟨by rw [← hq_]; exact BL⟩; clear a m HB hq_; have a := n0_; have m := n1_; have HB := n2_; clear n0_ n1_ n2_)); have x : o.cell? ⟨G, 0, none⟩ = some (.int .i64 La) := (ak a.out 0).trans rfl; have y : o.cell? ⟨G, 1, none⟩ = some (.int .i64 Lb) := (ak a.out 1).trans rfl; have z : o.cell? ⟨G, 2, none⟩ = some (.string Lc) := (ak a.out 2).trans rfl; have K := aG a.out 0; have L := aG a.out 1; have M := aG a.out 2; have A := aG a.out 0; have D := aG a.out 1; have E := aG a.out 2; obtain ⟨xb, xc, xd, xe, xf, xg⟩ := cz3 m.out)));refine bodyPost_ret (results_cell_row rfl _ _ I 34 #[.int .i64 La, .int .i64 Lb, .string O] (0, 0) _ rfl (by (with_reducible repeat (first | refine aD ?_ _ | refine aH ?_ | refine aC ?_ _)); refine aW (cs := #[.int .i64 La, .int .i64 Lb, .string (⟨#[]⟩ : ByteArray)]) ?_ 2 _ rfl; (with_reducible repeat (first | refine aD ?_ _ | refine aH ?_ | refine aC ?_ _)); refine aW (cs := #[.int .i64 La, .int .i64 0, .string (⟨#[]⟩ : ByteArray)]) ?_ 1 _ rfl; (with_reducible repeat (first | refine aD ?_ _ | refine aH ?_ | refine aC ?_ _)); refine aW (cs := #[.int .i64 0, .int .i64 0, .string (⟨#[]⟩ : ByteArray)]) ?_ 0 _ rfl; (with_reducible repeat (first | refine aD ?_ _ | refine aH ?_ | refine aC ?_ _)); refine dO ?_ u.out _; (with_reducible repeat (first | refine aD ?_ _ | refine aH ?_ | refine aC ?_ _)); exact m.out) Tryz.underlying34 rfl (by kernel_rfl)) rfl ?_;exact ⟨EWW, BL⟩
 ·simp only [Option.some.injEq, Prod.mk.injEq] at H;obtain ⟨rfl, rfl, rfl⟩ := H;(try go_wp2_with (first | ((with_reducible refine ay (f := 67) rfl ?_); refine bf (some 4) Tryz.func67 #[.agg #[.int .i64 La, .int .i64 Lb, .string Lc]] ?_; (with_reducible refine (bI.calls k La Lb Lc _ _ A2.out).mono ?_); rintro e o ⟨rfl, hb⟩; refine ⟨_, rfl, ?_⟩; replace a := KB a hb; replace m := KB m hb; replace HB := BS (w := w) hb; (try clear hb); obtain ⟨x, y, z, A, D, E⟩ := cz3 m.out)));refine bodyPost_ret (results_cell_row rfl _ _ I 34 #[.int .i64 0, .int .i64 0, .string (⟨#[]⟩ : ByteArray)] (0, 0) _ rfl (by (with_reducible repeat (first | refine aD ?_ _ | refine aH ?_ | refine aC ?_ _)); refine aW (cs := #[.int .i64 0, .int .i64 0, .string (⟨#[]⟩ : ByteArray)]) ?_ 2 _ rfl; (with_reducible repeat (first | refine aD ?_ _ | refine aH ?_ | refine aC ?_ _)); refine aW (cs := #[.int .i64 0, .int .i64 0, .string (⟨#[]⟩ : ByteArray)]) ?_ 1 _ rfl; (with_reducible repeat (first | refine aD ?_ _ | refine aH ?_ | refine aC ?_ _)); refine aW (cs := #[.int .i64 0, .int .i64 0, .string (⟨#[]⟩ : ByteArray)]) ?_ 0 _ rfl; (with_reducible repeat (first | refine aD ?_ _ | refine aH ?_ | refine aC ?_ _)); exact m.out) Tryz.underlying34 rfl (by kernel_rfl)) rfl ?_;exact ⟨EWW, BL⟩
def dY.f (k : Nat) (La Lb : Int) (Lc : ByteArray) : Option (Bool) := (bI.f k La Lb Lc).bind fun t244 => (if t244 = true then ((jR.f k La Lb Lc).bind fun bt245 => (some (bt245.1 == La && (bt245.2.1 == Lb && (bt245.2.2.toList == Lc.toList))))) else (some false))
def dY.T1 : Bool × List (List Nat × List Nat) := (true, [([], []), ([0], [0]), ([1, 1], [1]), ([2], [2]), ([3, 2, 2], [2, 3]), ([2], [2]), ([4, 5, 2], [2, 4, 5]), ([2, 6], [2, 6]), ([7, 4, 0, 1, 2, 3, 4, 5, 6, 7], [7])])
def dY.B1 : List Nat := [0, 1, 3, 7, 15, 7, 63, 127, 255]
theorem dY.Kh : kP .any (opsOf Tryz.f91 1) = dY.T1 := by kernel_rfl
theorem dY.GD : iZ dY.T1.2 dY.B1 = true := by kernel_rfl
theorem dY.calls (k : Nat) (La Lb : Int) (Lc : ByteArray) (r : Bool) (w : World) (h : dY.f k La Lb Lc = some r) :
  Calls Tryz.prog 91 #[.agg #[.int .i64 La, .int .i64 Lb, .string Lc]] w fun e w' => e = .returned (.bool r) ∧ Below w.heap.size w w' := by
 have I := Tryz.underlying34;have HB := ah.mk (Below.refl w.heap.size w);unfold dY.f at h;have H := h;clear h;replace H := be H; obtain ⟨J, A2, H⟩ := H;replace H := ah.mk H;go_enter Tryz.func91, Tryz.ntmps91;(try go_wp2_with (first | ((with_reducible refine aJ (N := 1) rfl ?_); refine aZ (N := 1) (cs := #[.int .i64 La, .int .i64 Lb, .string Lc]) (t := 34) ?_; intro m hg o hbox hb; have a := ah.mk hbox; have u := SZ (w := w) hg; have A := u; replace HB := BS (w := w) hb; clear hb hbox hg)));replace a := ah.mk (aH a.out);replace HB := ah.mk (dK HB.out);refine jl (n := 9) (S := fun w' => w'.cell? ⟨m, 0, none⟩ = some (.int .i64 La) ∧ w'.cell? ⟨m, 1, none⟩ = some (.int .i64 Lb) ∧ w'.cell? ⟨m, 2, none⟩ = some (.string Lc)) (ds := []) #[F,F,F,F,F,F,F,F,F] (by kernel_rfl) rfl rfl ⟨(ak a.out 0).trans rfl, (ak a.out 1).trans rfl, (ak a.out 2).trans rfl⟩ (fun hHeld => ?_); refine iL dY.Kh dY.GD (fun HT_ HW_ => ?_);generalize o.drew = D at a HB hHeld ⊢;refine tS 0 (some 3) #[T,F,F,F,F,F,F,F,F] ?_;refine lC (i := 1) (N := some 4) #[T,T,F,F,F,F,F,F,F] rfl rfl (jh HT_.out (by kernel_rfl)) (by decide) (fun K hK => ?_);refine jd Tryz.func67 #[.agg #[.int .i64 La, .int .i64 Lb, .string Lc]] ?_;(with_reducible refine (bI.calls k La Lb Lc _ _ A2.out).mono ?_);rintro e E ⟨rfl, hb⟩;refine ⟨_, rfl, ?_⟩;replace a := KB a hb;replace HB := BS (w := w) hb;(try clear hb);refine hK.out _ _ ⟨(ak a.out 0).trans rfl, (ak a.out 1).trans rfl, (ak a.out 2).trans rfl⟩ (fun hHeld => ?_);clear hK K;refine nrm (some 4) ?_;replace H := H.out;replace H := ifB H; rcases H with ⟨rfl, H⟩ | ⟨rfl, H⟩
 ·replace H := be H; obtain ⟨⟨x, y, z⟩, L, H⟩ := H;dsimp only at H;obtain rfl := Option.some.inj H;refine pS 2 (some 5) #[T,T,T,F,F,F,F,F,F] ?_;refine tS 3 (some 6) #[T,T,T,T,F,F,F,F,F] ?_;refine tS 5 (some 8) #[T,T,T,T,F,T,F,F,F] ?_;refine lC (i := 4) (N := some 7) #[T,T,T,T,T,T,F,F,F] rfl rfl (jh HT_.out (by kernel_rfl)) (by decide) (fun K hK => ?_);refine jd Tryz.func119 #[.agg #[.int .i64 La, .int .i64 Lb, .string Lc]] ?_;(with_reducible refine (jR.calls k La Lb Lc x y z _ L.out).mono ?_);rintro e G ⟨rfl, hb⟩;refine ⟨_, rfl, ?_⟩;replace a := KB a hb;replace HB := BS (w := w) hb;(try clear hb);refine hK.out _ _ ⟨(ak a.out 0).trans rfl, (ak a.out 1).trans rfl, (ak a.out 2).trans rfl⟩ (fun hHeld => ?_);clear hK K;refine nrm (some 7) ?_;refine pS 6 (some 9) #[T,T,T,T,T,T,T,F,F] ?_;refine pS 7 (some 10) #[T,T,T,T,T,T,T,T,F] ?_;refine pS 8 (some 2) #[T,T,T,T,T,T,T,T,T] ?_;refine iF (gJ HT_.out (by kernel_rfl)) ?_;(try go_wp2);go_ret;exact ⟨EWW, BL⟩
 ·obtain rfl := Option.some.inj H;refine pS 2 (some 5) #[T,T,T,F,F,F,F,F,F] ?_;refine pU 3 (some 6) #[T,T,T,T,F,F,F,F,F] ?_;refine pU 4 (some 7) #[T,T,T,T,T,F,F,F,F] ?_;refine pU 5 (some 8) #[T,T,T,T,T,T,F,F,F] ?_;refine pU 6 (some 9) #[T,T,T,T,T,T,T,F,F] ?_;refine pS 7 (some 10) #[T,T,T,T,T,T,T,T,F] ?_;refine pS 8 (some 2) #[T,T,T,T,T,T,T,T,T] ?_;refine iF (gJ HT_.out (by kernel_rfl)) ?_;(try go_wp2);go_ret;exact ⟨EWW, BL⟩
def jS.f (k : Nat) (La Lb : Int) (Lc : ByteArray) (l1 : List Bool) (a2 : Int) : Option (List Bool) := HandReach.Df k La Lb Lc l1 a2
theorem jS.calls (k : Nat) (La Lb : Int) (Lc : ByteArray) (P1_ : Nat → Prop) (u9000_ : Value) (l1 : List Bool) (a : Int) (r : List Bool) (w0 w : World) (hB : Below w0.heap.size w0 w) (m : Kd.R Kd.bool 4 w w0.heap.size P1_ u9000_ l1) (h : jS.f k La Lb Lc l1 a = some r) :
  Calls Tryz.prog 154 #[.agg #[.int .i64 La, .int .i64 Lb, .string Lc], u9000_, .int .i64 a] w fun e w' => ∃ v0_ : Value, e = .returned (v0_) ∧ Kd.R Kd.bool 4 w' w0.heap.size (fun k_ => (P1_ k_ ∨ w.heap.size ≤ k_)) v0_ r ∧ Below w0.heap.size w0 w' ∧ Kept w w' (fun k_ => P1_ k_) :=
 HandReach.Jl k La Lb Lc P1_ u9000_ l1 a r w0 w hB m h
end Go.Proofs.YthkfjbodohaglaaGreatDoor.PFnExactRoundsNeeded
