/- Walks of functions: what each computes. -/
import Derived.Test.YthjcicmmbmagbaaZParsePlayG0
import Derived.Test.YthjcicmmbmagbaaZParsePlayG1
import Derived.Test.YthjcicmmbmagbaaZParsePlayW
import Derived.Test.YthjcicmmbmagbaaZParsePlayShelf
import Derived.Test.YthjcicmmbmagbaaZParsePlayHandSort
import Derived.Test.YthjcicmmbmagbaaZParsePlayHandForm
import Derived.Test.YthjcicmmbmagbaaZParsePlayHandAlone
import Derived.Test.YthjcicmmbmagbaaZParsePlayHandRead
namespace Go.Proofs.Ythjcicmmbmagbaa.PFnExactParsePlay
open Go.RowKit Go.Proofs.YthjcicmmbmagbaaW.PrintWords Go.Proofs.YthjcicmmbmagbaaW.PrintLast Go.Proofs.YthjcicmmbmagbaaW.PrintMore Go.Proofs.Ythjcicmmbmagbaa.Sq
attribute [local go_sem] iA gZ jr jf gJ gG gX iF
set_option maxHeartbeats 8000000
set_option maxRecDepth 100000
set_option linter.unusedVariables false
set_option linter.unusedSimpArgs false
mutual
def bD.j0 : Nat → List (aA) → Int → Bool → Int → ByteArray → Int → Int → Option (Bool)
 | 0, _, _, _, _, _, _, _ => none
 | k + 1, a, b, c, d, e, f, g => if c = true then (some false) else (if d = 4 then (bD.j1 k a b true d e f g) else (bD.j1 k a b (d == 5) d e f g))
def bD.j1 : Nat → List (aA) → Int → Bool → Int → ByteArray → Int → Int → Option (Bool)
 | 0, _, _, _, _, _, _, _ => none
 | k + 1, a, b, c, d, e, f, g => if d = 1 then (if f = 0 then (some (g == 0)) else (some false)) else ((aK.f f 0 (wrap64 (b - 1))).bind fun h => (if h = true then (if c = true then ((aK.f g 0 (wrap64 (b - 1))).bind fun i => (if i = true then (some true) else (some false))) else (if g = 0 then (if d = 2 then (some true) else (if 0 ≤ f then (if f < (a.length : Int) then (some (((ah a f).f0) == 1)) else (none)) else (none))) else (some false))) else (some false)))
end
def bD.f (k : Nat) (l0 : List (aA)) (a1 : Int) : Option (Bool) := if 0 ≤ a1 then (if a1 < (l0.length : Int) then ((aK.f ((ah l0 a1).f0) 1 9).bind fun t131 => (if t131 = true then ((aD.f k ((ah l0 a1).f1)).bind fun t132 => (if ((((ah l0 a1).f0) == 1) != t132) = true then (bD.j0 k l0 a1 true ((ah l0 a1).f0) ((ah l0 a1).f1) ((ah l0 a1).f2) ((ah l0 a1).f3)) else (if ((ah l0 a1).f0) = 1 then (bD.j0 k l0 a1 false ((ah l0 a1).f0) ((ah l0 a1).f1) ((ah l0 a1).f2) ((ah l0 a1).f3)) else (bD.j0 k l0 a1 (((ah l0 a1).f1).toList != ([] : List UInt8)) ((ah l0 a1).f0) ((ah l0 a1).f1) ((ah l0 a1).f2) ((ah l0 a1).f3))))) else (bD.j0 k l0 a1 true ((ah l0 a1).f0) ((ah l0 a1).f1) ((ah l0 a1).f2) ((ah l0 a1).f3)))) else (none)) else (none)
theorem bD.calls (k : Nat) (A0 : Option Addr) (c0 : Nat) (l0 : List (aA)) (a1 : Int) (r : Bool) (w : World) (hr0 : Kd.C bQ w A0 l0.length l0) (hc0 : l0.length ≤ c0) (h : bD.f k l0 a1 = some r) :
  Calls Try.prog 125 #[.slice A0 l0.length c0, .int .i64 a1] w fun e w' => e = .returned (.bool r) ∧ Below w.heap.size w w' := by
 have hu110 := Try.underlying110
 have HR0 := aj.mk hr0
 have HC0 := aj.mk hc0
 clear hr0 hc0
 have HB := aj.mk (Below.refl w.heap.size w)
 unfold bD.f at h
 have H := h
 clear h
 replace H := ifN H; obtain ⟨c3b0, H⟩ := H
 replace H := ifN H; obtain ⟨c4b0, H⟩ := H
 have HC5 := aj.mk H
 clear H
 have p129 : 0 ≤ (a1 : Int) := OD
 have q129 : a1 < (l0.length : Int) := OD
 obtain ⟨ad129, e129, hx129_0, hx129_1, hx129_2, hx129_3⟩ := dD HR0.out a1 p129 q129
 cases e129
 replace p129 := eq_true p129
 replace q129 := eq_true q129
 go_enter Try.func125, Try.ntmps125
 go_upto_region 2 with (first | ((with_reducible refine bR (N := 5) rfl ?_); refine fC (N := 5) (cs := #[.int .i64 0, .string (⟨#[]⟩ : ByteArray), .int .i64 0, .int .i64 0]) (t := 110) ?_; intro gb130 hg w9000 hbox hb; have BK130 := aj.mk hbox; have GW130 := SZ (w := w) hg; have GE130 := GW130; replace HB := BS (w := w) hb; clear hb hbox hg; obtain ⟨hcz9001_0, hcz9001_1, hcz9001_2, hcz9001_3, hfz9001_0, hfz9001_1, hfz9001_2, hfz9001_3⟩ := cz4 BK130.out))
 repeat (go_quiet (first | ((with_reducible refine bR (N := 5) rfl ?_); refine fC (N := 5) (cs := #[.int .i64 0, .string (⟨#[]⟩ : ByteArray), .int .i64 0, .int .i64 0]) (t := 110) ?_; intro gb130 hg w9000 hbox hb; have BK130 := aj.mk hbox; have GW130 := SZ (w := w) hg; have GE130 := GW130; replace HB := BS (w := w) hb; clear hb hbox hg; obtain ⟨hcz9001_0, hcz9001_1, hcz9001_2, hcz9001_3, hfz9001_0, hfz9001_1, hfz9001_2, hfz9001_3⟩ := cz4 BK130.out)); go_upto_region 2 with (first | ((with_reducible refine bR (N := 5) rfl ?_); refine fC (N := 5) (cs := #[.int .i64 0, .string (⟨#[]⟩ : ByteArray), .int .i64 0, .int .i64 0]) (t := 110) ?_; intro gb130 hg w9000 hbox hb; have BK130 := aj.mk hbox; have GW130 := SZ (w := w) hg; have GE130 := GW130; replace HB := BS (w := w) hb; clear hb hbox hg; obtain ⟨hcz9001_0, hcz9001_1, hcz9001_2, hcz9001_3, hfz9001_0, hfz9001_1, hfz9001_2, hfz9001_3⟩ := cz4 BK130.out)))
 (try simp only [Act.put, List.setIfInBounds_toArray, List.set_cons_zero, List.set_cons_succ])
 go_cut [33] (fun v33 wc => ∃ (kq : Nat) (x33_4 : Bool), v33 = .bool x33_4 ∧ aj (bD.j0 kq l0 a1 x33_4 ((ah l0 a1).f0) ((ah l0 a1).f1) ((ah l0 a1).f2) ((ah l0 a1).f3) = some r) ∧ aj (kq ≤ k) ∧ aj (wc.heap[gb130]? = some (.cells #[.int .i64 ((ah l0 a1).f0), .string ((ah l0 a1).f1), .int .i64 ((ah l0 a1).f2), .int .i64 ((ah l0 a1).f3)] 110 (0, 0))) ∧ aj (Below w.heap.size w wc))
 case first =>
  have H := HC5.out
  clear HC5
  replace H := be H; obtain ⟨t131, A8, H⟩ := H
  obtain ⟨hcz9002_0, hcz9002_1, hcz9002_2, hcz9002_3, hfz9002_0, hfz9002_1, hfz9002_2, hfz9002_3⟩ := cz4 BK130.out
  replace H := ifB H; rcases H with ⟨rfl, H⟩ | ⟨rfl, H⟩
  ·replace H := be H; obtain ⟨t132, A10, H⟩ := H
   by_cases c11 : ((((ah l0 a1).f0) == 1) != t132) = true
   ·rw [if_pos c11] at H
    have c11b0 : ((((ah l0 a1).f0) == 1) != t132) = true := c11
    (try (have c11b1 : decide ((((ah l0 a1).f0) == 1) = t132) = false := by simpa using c11))
    (try (have c11b2 : ((((ah l0 a1).f0) == 1) == t132) = false := by simpa using c11))
    (try (have c11b3 : ¬ ((((ah l0 a1).f0) == 1) = t132) := by simpa using c11))
    clear c11
    (first | rw [c11b0] | (simp only [bL, bN]; rw [c11b0]) | skip)
    have H' := aj.mk H
    clear H
    repeat (go_wp2_with (first | (go_at_call 86; (with_reducible refine (aK.calls ((ah l0 a1).f0) 1 9 _ _ A8.out).mono ?_); rintro e w' ⟨rfl, ⟨nd, rfl⟩⟩; (try first | exact da | exact DD)) | (go_at_call 112; (with_reducible refine (aD.calls k ((ah l0 a1).f1) t132 _ A10.out).mono ?_); rintro e w' ⟨rfl, ⟨nd, rfl⟩⟩; (try first | exact da | exact DD))); go_quiet (first | (go_at_call 86; (with_reducible refine (aK.calls ((ah l0 a1).f0) 1 9 _ _ A8.out).mono ?_); rintro e w' ⟨rfl, ⟨nd, rfl⟩⟩; (try first | exact da | exact DD)) | (go_at_call 112; (with_reducible refine (aD.calls k ((ah l0 a1).f1) t132 _ A10.out).mono ?_); rintro e w' ⟨rfl, ⟨nd, rfl⟩⟩; (try first | exact da | exact DD))))
    go_wp2_with (first | (go_at_call 86; (with_reducible refine (aK.calls ((ah l0 a1).f0) 1 9 _ _ A8.out).mono ?_); rintro e w' ⟨rfl, ⟨nd, rfl⟩⟩; (try first | exact da | exact DD)) | (go_at_call 112; (with_reducible refine (aD.calls k ((ah l0 a1).f1) t132 _ A10.out).mono ?_); rintro e w' ⟨rfl, ⟨nd, rfl⟩⟩; (try first | exact da | exact DD)))
    go_meet
    case rel => exact ⟨_, (true), (by first | rfl | (simp; done) | (simp [*]; rw [Bool.eq_iff_iff]; simp [bne, List.isEmpty_iff]; done) | (simp [*]; done)), H', ⟨by first | omega | exact Nat.le_refl _⟩, ⟨by (with_reducible repeat (first | refine av ?_ _ | refine ay ?_ | refine au ?_ _)); refine aM (cs := #[.int .i64 ((ah l0 a1).f0), .string ((ah l0 a1).f1), .int .i64 ((ah l0 a1).f2), .int .i64 0]) ?_ 3 _ rfl; (with_reducible repeat (first | refine av ?_ _ | refine ay ?_ | refine au ?_ _)); refine aM (cs := #[.int .i64 ((ah l0 a1).f0), .string ((ah l0 a1).f1), .int .i64 0, .int .i64 0]) ?_ 2 _ rfl; (with_reducible repeat (first | refine av ?_ _ | refine ay ?_ | refine au ?_ _)); refine aM (cs := #[.int .i64 ((ah l0 a1).f0), .string (⟨#[]⟩ : ByteArray), .int .i64 0, .int .i64 0]) ?_ 1 _ rfl; (with_reducible repeat (first | refine av ?_ _ | refine ay ?_ | refine au ?_ _)); refine aM (cs := #[.int .i64 0, .string (⟨#[]⟩ : ByteArray), .int .i64 0, .int .i64 0]) ?_ 0 _ rfl; (with_reducible repeat (first | refine av ?_ _ | refine ay ?_ | refine au ?_ _)); exact BK130.out⟩, ⟨BL⟩⟩
   ·rw [if_neg c11] at H
    have c11b0 : ((((ah l0 a1).f0) == 1) != t132) = false := by simpa using c11
    (try (have c11b1 : decide ((((ah l0 a1).f0) == 1) = t132) = true := by simpa using c11))
    (try (have c11b2 : ((((ah l0 a1).f0) == 1) == t132) = true := by simpa using c11))
    clear c11
    (first | rw [c11b0] | (simp only [bL, bN]; rw [c11b0]) | skip)
    by_cases c13 : ((ah l0 a1).f0) = 1
    ·rw [if_pos c13] at H
     have c13b0 : (((ah l0 a1).f0) == 1) = true := beq_iff_eq.mpr c13
     have c13b1 : (((ah l0 a1).f0) != 1) = false := bne_eq_false_iff_eq.mpr c13
     have cw_ : t132 = true := by simpa [c13b0] using c11b0   -- mended
     clear c13
     have H' := aj.mk H
     clear H
     repeat (go_wp2_with (first | (go_at_call 86; (with_reducible refine (aK.calls ((ah l0 a1).f0) 1 9 _ _ A8.out).mono ?_); rintro e w' ⟨rfl, ⟨nd, rfl⟩⟩; (try first | exact da | exact DD)) | (go_at_call 112; (with_reducible refine (aD.calls k ((ah l0 a1).f1) t132 _ A10.out).mono ?_); rintro e w' ⟨rfl, ⟨nd, rfl⟩⟩; (try first | exact da | exact DD))); go_quiet (first | (go_at_call 86; (with_reducible refine (aK.calls ((ah l0 a1).f0) 1 9 _ _ A8.out).mono ?_); rintro e w' ⟨rfl, ⟨nd, rfl⟩⟩; (try first | exact da | exact DD)) | (go_at_call 112; (with_reducible refine (aD.calls k ((ah l0 a1).f1) t132 _ A10.out).mono ?_); rintro e w' ⟨rfl, ⟨nd, rfl⟩⟩; (try first | exact da | exact DD))))
     go_wp2_with (first | (go_at_call 86; (with_reducible refine (aK.calls ((ah l0 a1).f0) 1 9 _ _ A8.out).mono ?_); rintro e w' ⟨rfl, ⟨nd, rfl⟩⟩; (try first | exact da | exact DD)) | (go_at_call 112; (with_reducible refine (aD.calls k ((ah l0 a1).f1) t132 _ A10.out).mono ?_); rintro e w' ⟨rfl, ⟨nd, rfl⟩⟩; (try first | exact da | exact DD)))
     go_meet
     case rel => exact ⟨_, (false), (by first | rfl | (simp; done) | (simp [*]; rw [Bool.eq_iff_iff]; simp [bne, List.isEmpty_iff]; done) | (simp [*]; done)), H', ⟨by first | omega | exact Nat.le_refl _⟩, ⟨by (with_reducible repeat (first | refine av ?_ _ | refine ay ?_ | refine au ?_ _)); refine aM (cs := #[.int .i64 ((ah l0 a1).f0), .string ((ah l0 a1).f1), .int .i64 ((ah l0 a1).f2), .int .i64 0]) ?_ 3 _ rfl; (with_reducible repeat (first | refine av ?_ _ | refine ay ?_ | refine au ?_ _)); refine aM (cs := #[.int .i64 ((ah l0 a1).f0), .string ((ah l0 a1).f1), .int .i64 0, .int .i64 0]) ?_ 2 _ rfl; (with_reducible repeat (first | refine av ?_ _ | refine ay ?_ | refine au ?_ _)); refine aM (cs := #[.int .i64 ((ah l0 a1).f0), .string (⟨#[]⟩ : ByteArray), .int .i64 0, .int .i64 0]) ?_ 1 _ rfl; (with_reducible repeat (first | refine av ?_ _ | refine ay ?_ | refine au ?_ _)); refine aM (cs := #[.int .i64 0, .string (⟨#[]⟩ : ByteArray), .int .i64 0, .int .i64 0]) ?_ 0 _ rfl; (with_reducible repeat (first | refine av ?_ _ | refine ay ?_ | refine au ?_ _)); exact BK130.out⟩, ⟨BL⟩⟩
    ·rw [if_neg c13] at H
     have c13b0 : (((ah l0 a1).f0) == 1) = false := beq_eq_false_iff_ne.mpr c13
     have c13b1 : (((ah l0 a1).f0) != 1) = true := bne_iff_ne.mpr c13
     have cw_ : t132 = false := by simpa [c13b0] using c11b0   -- mended
     have H' := aj.mk H
     clear H
     repeat (go_wp2_with (first | (go_at_call 86; (with_reducible refine (aK.calls ((ah l0 a1).f0) 1 9 _ _ A8.out).mono ?_); rintro e w' ⟨rfl, ⟨nd, rfl⟩⟩; (try first | exact da | exact DD)) | (go_at_call 112; (with_reducible refine (aD.calls k ((ah l0 a1).f1) t132 _ A10.out).mono ?_); rintro e w' ⟨rfl, ⟨nd, rfl⟩⟩; (try first | exact da | exact DD))); go_quiet (first | (go_at_call 86; (with_reducible refine (aK.calls ((ah l0 a1).f0) 1 9 _ _ A8.out).mono ?_); rintro e w' ⟨rfl, ⟨nd, rfl⟩⟩; (try first | exact da | exact DD)) | (go_at_call 112; (with_reducible refine (aD.calls k ((ah l0 a1).f1) t132 _ A10.out).mono ?_); rintro e w' ⟨rfl, ⟨nd, rfl⟩⟩; (try first | exact da | exact DD))))
     go_wp2_with (first | (go_at_call 86; (with_reducible refine (aK.calls ((ah l0 a1).f0) 1 9 _ _ A8.out).mono ?_); rintro e w' ⟨rfl, ⟨nd, rfl⟩⟩; (try first | exact da | exact DD)) | (go_at_call 112; (with_reducible refine (aD.calls k ((ah l0 a1).f1) t132 _ A10.out).mono ?_); rintro e w' ⟨rfl, ⟨nd, rfl⟩⟩; (try first | exact da | exact DD)))
     go_meet
     case rel => exact ⟨_, ((((ah l0 a1).f1).toList != ([] : List UInt8))), (by first | rfl | (simp; done) | (simp [*]; rw [Bool.eq_iff_iff]; simp [bne, List.isEmpty_iff]; done) | (simp [*]; done)), H', ⟨by first | omega | exact Nat.le_refl _⟩, ⟨by (with_reducible repeat (first | refine av ?_ _ | refine ay ?_ | refine au ?_ _)); refine aM (cs := #[.int .i64 ((ah l0 a1).f0), .string ((ah l0 a1).f1), .int .i64 ((ah l0 a1).f2), .int .i64 0]) ?_ 3 _ rfl; (with_reducible repeat (first | refine av ?_ _ | refine ay ?_ | refine au ?_ _)); refine aM (cs := #[.int .i64 ((ah l0 a1).f0), .string ((ah l0 a1).f1), .int .i64 0, .int .i64 0]) ?_ 2 _ rfl; (with_reducible repeat (first | refine av ?_ _ | refine ay ?_ | refine au ?_ _)); refine aM (cs := #[.int .i64 ((ah l0 a1).f0), .string (⟨#[]⟩ : ByteArray), .int .i64 0, .int .i64 0]) ?_ 1 _ rfl; (with_reducible repeat (first | refine av ?_ _ | refine ay ?_ | refine au ?_ _)); refine aM (cs := #[.int .i64 0, .string (⟨#[]⟩ : ByteArray), .int .i64 0, .int .i64 0]) ?_ 0 _ rfl; (with_reducible repeat (first | refine av ?_ _ | refine ay ?_ | refine au ?_ _)); exact BK130.out⟩, ⟨BL⟩⟩
  ·have H' := aj.mk H
   clear H
   repeat (go_wp2_with (first | (go_at_call 86; (with_reducible refine (aK.calls ((ah l0 a1).f0) 1 9 _ _ A8.out).mono ?_); rintro e w' ⟨rfl, ⟨nd, rfl⟩⟩; (try first | exact da | exact DD))); go_quiet (first | (go_at_call 86; (with_reducible refine (aK.calls ((ah l0 a1).f0) 1 9 _ _ A8.out).mono ?_); rintro e w' ⟨rfl, ⟨nd, rfl⟩⟩; (try first | exact da | exact DD))))
   go_wp2_with (first | (go_at_call 86; (with_reducible refine (aK.calls ((ah l0 a1).f0) 1 9 _ _ A8.out).mono ?_); rintro e w' ⟨rfl, ⟨nd, rfl⟩⟩; (try first | exact da | exact DD)))
   go_meet
   case rel => exact ⟨_, (true), (by first | rfl | (simp; done) | (simp [*]; rw [Bool.eq_iff_iff]; simp [bne, List.isEmpty_iff]; done) | (simp [*]; done)), H', ⟨by first | omega | exact Nat.le_refl _⟩, ⟨by (with_reducible repeat (first | refine av ?_ _ | refine ay ?_ | refine au ?_ _)); refine aM (cs := #[.int .i64 ((ah l0 a1).f0), .string ((ah l0 a1).f1), .int .i64 ((ah l0 a1).f2), .int .i64 0]) ?_ 3 _ rfl; (with_reducible repeat (first | refine av ?_ _ | refine ay ?_ | refine au ?_ _)); refine aM (cs := #[.int .i64 ((ah l0 a1).f0), .string ((ah l0 a1).f1), .int .i64 0, .int .i64 0]) ?_ 2 _ rfl; (with_reducible repeat (first | refine av ?_ _ | refine ay ?_ | refine au ?_ _)); refine aM (cs := #[.int .i64 ((ah l0 a1).f0), .string (⟨#[]⟩ : ByteArray), .int .i64 0, .int .i64 0]) ?_ 1 _ rfl; (with_reducible repeat (first | refine av ?_ _ | refine ay ?_ | refine au ?_ _)); refine aM (cs := #[.int .i64 0, .string (⟨#[]⟩ : ByteArray), .int .i64 0, .int .i64 0]) ?_ 0 _ rfl; (with_reducible repeat (first | refine av ?_ _ | refine ay ?_ | refine au ?_ _)); exact BK130.out⟩, ⟨BL⟩⟩
 case rest =>
  clear HC5
  try clear c3
  try clear c3b0
  try clear c4
  try clear c4b0
  try clear hcz9001_0
  try clear hcz9001_1
  try clear hcz9001_2
  try clear hcz9001_3
  try clear hfz9001_0
  try clear hfz9001_1
  try clear hfz9001_2
  try clear hfz9001_3
  try clear hx129_0
  try clear hx129_1
  try clear hx129_2
  try clear hx129_3
  try clear p129
  try clear q129
  obtain ⟨kq, x33_4, rfl, HA, HJ4, BK130, HB⟩ := hcut
  cases kq with
  | zero => exact absurd HA.out (by simp [bD.j0])
  | succ kj4 =>
   have H := HA.out
   clear HA
   simp only [bD.j0] at H
   replace H := ifB H; rcases H with ⟨rfl, H⟩ | ⟨rfl, H⟩
   ·obtain rfl := Option.some.inj H
    go_wp2
    repeat (go_quiet (fail); try go_wp2)
    go_ret
    exact ⟨EWW, BL⟩
   ·have HC18 := aj.mk H
    clear H
    go_upto_region 4 with (fail)
    repeat (go_quiet (fail); go_upto_region 4 with (fail))
    go_cut [6] (fun v6 wc => ∃ (kq : Nat) (x6_17 : Bool), v6 = .bool x6_17 ∧ aj (bD.j1 kq l0 a1 x6_17 ((ah l0 a1).f0) ((ah l0 a1).f1) ((ah l0 a1).f2) ((ah l0 a1).f3) = some r) ∧ aj (kq ≤ kj4) ∧ aj (wc.heap[gb130]? = some (.cells #[.int .i64 ((ah l0 a1).f0), .string ((ah l0 a1).f1), .int .i64 ((ah l0 a1).f2), .int .i64 ((ah l0 a1).f3)] 110 (0, 0))) ∧ aj (Below w.heap.size w wc))
    case first =>
     have H := HC18.out
     clear HC18
     obtain ⟨hcz9003_0, hcz9003_1, hcz9003_2, hcz9003_3, hfz9003_0, hfz9003_1, hfz9003_2, hfz9003_3⟩ := cz4 BK130.out
     replace H := ifE H; rcases H with ⟨c19b0, c19b1, H⟩ | ⟨c19, c19b0, c19b1, H⟩
     ·(first | rw [c19b0] | (simp only [bL, bN]; rw [c19b0]) | skip)
      have H' := aj.mk H
      clear H
      go_wp2
      repeat (go_quiet (fail); try go_wp2)
      go_meet
      case rel => exact ⟨_, (true), (by first | rfl | (simp; done) | (simp [*]; rw [Bool.eq_iff_iff]; simp [bne, List.isEmpty_iff]; done) | (simp [*]; done)), H', ⟨by have := HJ4.out; first | omega | exact Nat.le_refl _⟩, ⟨BK⟩, ⟨BL⟩⟩
     ·(first | rw [c19b0] | (simp only [bL, bN]; rw [c19b0]) | skip)
      have H' := aj.mk H
      clear H
      go_wp2
      repeat (go_quiet (fail); try go_wp2)
      go_meet
      case rel => exact ⟨_, ((((ah l0 a1).f0) == 5)), (by first | rfl | (simp; done) | (simp [*]; rw [Bool.eq_iff_iff]; simp [bne, List.isEmpty_iff]; done) | (simp [*]; done)), H', ⟨by have := HJ4.out; first | omega | exact Nat.le_refl _⟩, ⟨BK⟩, ⟨BL⟩⟩
    case rest =>
     clear HC18
     try clear c3
     try clear c3b0
     try clear c4
     try clear c4b0
     try clear c17
     try clear hcz9001_0
     try clear hcz9001_1
     try clear hcz9001_2
     try clear hcz9001_3
     try clear hfz9001_0
     try clear hfz9001_1
     try clear hfz9001_2
     try clear hfz9001_3
     try clear hx129_0
     try clear hx129_1
     try clear hx129_2
     try clear hx129_3
     try clear p129
     try clear q129
     obtain ⟨kq, x6_17, rfl, HA, HJ17, BK130, HB⟩ := hcut
     cases kq with
     | zero => exact absurd HA.out (by simp [bD.j1])
     | succ kj17 =>
      have H := HA.out
      clear HA
      simp only [bD.j1] at H
      obtain ⟨hcz9004_0, hcz9004_1, hcz9004_2, hcz9004_3, hfz9004_0, hfz9004_1, hfz9004_2, hfz9004_3⟩ := cz4 BK130.out
      replace H := ifE H; rcases H with ⟨c22b0, c22b1, H⟩ | ⟨c22, c22b0, c22b1, H⟩
      ·replace H := ifE H; rcases H with ⟨c23b0, c23b1, H⟩ | ⟨c23, c23b0, c23b1, H⟩
       ·obtain rfl := Option.some.inj H
        go_wp2
        repeat (go_quiet (fail); try go_wp2)
        go_ret
        exact ⟨EWW, BL⟩
       ·obtain rfl := Option.some.inj H
        go_wp2
        repeat (go_quiet (fail); try go_wp2)
        go_ret
        exact ⟨EWW, BL⟩
      ·replace H := be H; obtain ⟨t133, A26, H⟩ := H
       replace H := ifB H; rcases H with ⟨rfl, H⟩ | ⟨rfl, H⟩
       ·replace H := ifB H; rcases H with ⟨rfl, H⟩ | ⟨rfl, H⟩
        ·replace H := be H; obtain ⟨t134, A29, H⟩ := H
         replace H := ifB H; rcases H with ⟨rfl, H⟩ | ⟨rfl, H⟩
         ·obtain rfl := Option.some.inj H
          repeat (go_wp2_with (first | (go_at_call 86; (with_reducible refine (aK.calls ((ah l0 a1).f2) 0 (wrap64 (a1 - 1)) _ _ A26.out).mono ?_); rintro e w' ⟨rfl, ⟨nd, rfl⟩⟩; (try first | exact da | exact DD)) | (go_at_call 86; (with_reducible refine (aK.calls ((ah l0 a1).f3) 0 (wrap64 (a1 - 1)) _ _ A29.out).mono ?_); rintro e w' ⟨rfl, ⟨nd, rfl⟩⟩; (try first | exact da | exact DD))); go_quiet (first | (go_at_call 86; (with_reducible refine (aK.calls ((ah l0 a1).f2) 0 (wrap64 (a1 - 1)) _ _ A26.out).mono ?_); rintro e w' ⟨rfl, ⟨nd, rfl⟩⟩; (try first | exact da | exact DD)) | (go_at_call 86; (with_reducible refine (aK.calls ((ah l0 a1).f3) 0 (wrap64 (a1 - 1)) _ _ A29.out).mono ?_); rintro e w' ⟨rfl, ⟨nd, rfl⟩⟩; (try first | exact da | exact DD))))
          go_wp2_with (first | (go_at_call 86; (with_reducible refine (aK.calls ((ah l0 a1).f2) 0 (wrap64 (a1 - 1)) _ _ A26.out).mono ?_); rintro e w' ⟨rfl, ⟨nd, rfl⟩⟩; (try first | exact da | exact DD)) | (go_at_call 86; (with_reducible refine (aK.calls ((ah l0 a1).f3) 0 (wrap64 (a1 - 1)) _ _ A29.out).mono ?_); rintro e w' ⟨rfl, ⟨nd, rfl⟩⟩; (try first | exact da | exact DD)))
          go_ret
          exact ⟨EWW, BL⟩
         ·obtain rfl := Option.some.inj H
          repeat (go_wp2_with (first | (go_at_call 86; (with_reducible refine (aK.calls ((ah l0 a1).f2) 0 (wrap64 (a1 - 1)) _ _ A26.out).mono ?_); rintro e w' ⟨rfl, ⟨nd, rfl⟩⟩; (try first | exact da | exact DD)) | (go_at_call 86; (with_reducible refine (aK.calls ((ah l0 a1).f3) 0 (wrap64 (a1 - 1)) _ _ A29.out).mono ?_); rintro e w' ⟨rfl, ⟨nd, rfl⟩⟩; (try first | exact da | exact DD))); go_quiet (first | (go_at_call 86; (with_reducible refine (aK.calls ((ah l0 a1).f2) 0 (wrap64 (a1 - 1)) _ _ A26.out).mono ?_); rintro e w' ⟨rfl, ⟨nd, rfl⟩⟩; (try first | exact da | exact DD)) | (go_at_call 86; (with_reducible refine (aK.calls ((ah l0 a1).f3) 0 (wrap64 (a1 - 1)) _ _ A29.out).mono ?_); rintro e w' ⟨rfl, ⟨nd, rfl⟩⟩; (try first | exact da | exact DD))))
          go_wp2_with (first | (go_at_call 86; (with_reducible refine (aK.calls ((ah l0 a1).f2) 0 (wrap64 (a1 - 1)) _ _ A26.out).mono ?_); rintro e w' ⟨rfl, ⟨nd, rfl⟩⟩; (try first | exact da | exact DD)) | (go_at_call 86; (with_reducible refine (aK.calls ((ah l0 a1).f3) 0 (wrap64 (a1 - 1)) _ _ A29.out).mono ?_); rintro e w' ⟨rfl, ⟨nd, rfl⟩⟩; (try first | exact da | exact DD)))
          go_ret
          exact ⟨EWW, BL⟩
        ·replace H := ifE H; rcases H with ⟨c33b0, c33b1, H⟩ | ⟨c33, c33b0, c33b1, H⟩
         ·replace H := ifE H; rcases H with ⟨c34b0, c34b1, H⟩ | ⟨c34, c34b0, c34b1, H⟩
          ·obtain rfl := Option.some.inj H
           repeat (go_wp2_with (first | (go_at_call 86; (with_reducible refine (aK.calls ((ah l0 a1).f2) 0 (wrap64 (a1 - 1)) _ _ A26.out).mono ?_); rintro e w' ⟨rfl, ⟨nd, rfl⟩⟩; (try first | exact da | exact DD))); go_quiet (first | (go_at_call 86; (with_reducible refine (aK.calls ((ah l0 a1).f2) 0 (wrap64 (a1 - 1)) _ _ A26.out).mono ?_); rintro e w' ⟨rfl, ⟨nd, rfl⟩⟩; (try first | exact da | exact DD))))
           go_wp2_with (first | (go_at_call 86; (with_reducible refine (aK.calls ((ah l0 a1).f2) 0 (wrap64 (a1 - 1)) _ _ A26.out).mono ?_); rintro e w' ⟨rfl, ⟨nd, rfl⟩⟩; (try first | exact da | exact DD)))
           go_ret
           exact ⟨EWW, BL⟩
          ·replace H := ifN H; obtain ⟨c36b0, H⟩ := H
           replace H := ifN H; obtain ⟨c37b0, H⟩ := H
           obtain rfl := Option.some.inj H
           repeat (go_wp2_with (first | (go_at_call 86; (with_reducible refine (aK.calls ((ah l0 a1).f2) 0 (wrap64 (a1 - 1)) _ _ A26.out).mono ?_); rintro e w' ⟨rfl, ⟨nd, rfl⟩⟩; (try first | exact da | exact DD); have p135 : 0 ≤ (((ah l0 a1).f2) : Int) := OD; have q135 : ((ah l0 a1).f2) < (l0.length : Int) := OD; obtain ⟨ad135, e135, hx135_0, hx135_1, hx135_2, hx135_3⟩ := dD HR0.out ((ah l0 a1).f2) p135 q135; obtain rfl : ad129 = ad135 := (by injection e135); replace hx135_0 := (HB.out.cell (World.block_lt_of_cell? w _ hx135_0)).trans hx135_0; replace hx135_1 := (HB.out.cell (World.block_lt_of_cell? w _ hx135_1)).trans hx135_1; replace hx135_2 := (HB.out.cell (World.block_lt_of_cell? w _ hx135_2)).trans hx135_2; replace hx135_3 := (HB.out.cell (World.block_lt_of_cell? w _ hx135_3)).trans hx135_3; replace p135 := eq_true p135; replace q135 := eq_true q135)); go_quiet (first | (go_at_call 86; (with_reducible refine (aK.calls ((ah l0 a1).f2) 0 (wrap64 (a1 - 1)) _ _ A26.out).mono ?_); rintro e w' ⟨rfl, ⟨nd, rfl⟩⟩; (try first | exact da | exact DD); have p135 : 0 ≤ (((ah l0 a1).f2) : Int) := OD; have q135 : ((ah l0 a1).f2) < (l0.length : Int) := OD; obtain ⟨ad135, e135, hx135_0, hx135_1, hx135_2, hx135_3⟩ := dD HR0.out ((ah l0 a1).f2) p135 q135; obtain rfl : ad129 = ad135 := (by injection e135); replace hx135_0 := (HB.out.cell (World.block_lt_of_cell? w _ hx135_0)).trans hx135_0; replace hx135_1 := (HB.out.cell (World.block_lt_of_cell? w _ hx135_1)).trans hx135_1; replace hx135_2 := (HB.out.cell (World.block_lt_of_cell? w _ hx135_2)).trans hx135_2; replace hx135_3 := (HB.out.cell (World.block_lt_of_cell? w _ hx135_3)).trans hx135_3; replace p135 := eq_true p135; replace q135 := eq_true q135)))
           go_wp2_with (first | (go_at_call 86; (with_reducible refine (aK.calls ((ah l0 a1).f2) 0 (wrap64 (a1 - 1)) _ _ A26.out).mono ?_); rintro e w' ⟨rfl, ⟨nd, rfl⟩⟩; (try first | exact da | exact DD); have p135 : 0 ≤ (((ah l0 a1).f2) : Int) := OD; have q135 : ((ah l0 a1).f2) < (l0.length : Int) := OD; obtain ⟨ad135, e135, hx135_0, hx135_1, hx135_2, hx135_3⟩ := dD HR0.out ((ah l0 a1).f2) p135 q135; obtain rfl : ad129 = ad135 := (by injection e135); replace hx135_0 := (HB.out.cell (World.block_lt_of_cell? w _ hx135_0)).trans hx135_0; replace hx135_1 := (HB.out.cell (World.block_lt_of_cell? w _ hx135_1)).trans hx135_1; replace hx135_2 := (HB.out.cell (World.block_lt_of_cell? w _ hx135_2)).trans hx135_2; replace hx135_3 := (HB.out.cell (World.block_lt_of_cell? w _ hx135_3)).trans hx135_3; replace p135 := eq_true p135; replace q135 := eq_true q135))
           go_ret
           exact ⟨EWW, BL⟩
         ·obtain rfl := Option.some.inj H
          repeat (go_wp2_with (first | (go_at_call 86; (with_reducible refine (aK.calls ((ah l0 a1).f2) 0 (wrap64 (a1 - 1)) _ _ A26.out).mono ?_); rintro e w' ⟨rfl, ⟨nd, rfl⟩⟩; (try first | exact da | exact DD))); go_quiet (first | (go_at_call 86; (with_reducible refine (aK.calls ((ah l0 a1).f2) 0 (wrap64 (a1 - 1)) _ _ A26.out).mono ?_); rintro e w' ⟨rfl, ⟨nd, rfl⟩⟩; (try first | exact da | exact DD))))
          go_wp2_with (first | (go_at_call 86; (with_reducible refine (aK.calls ((ah l0 a1).f2) 0 (wrap64 (a1 - 1)) _ _ A26.out).mono ?_); rintro e w' ⟨rfl, ⟨nd, rfl⟩⟩; (try first | exact da | exact DD)))
          go_ret
          exact ⟨EWW, BL⟩
       ·obtain rfl := Option.some.inj H
        repeat (go_wp2_with (first | (go_at_call 86; (with_reducible refine (aK.calls ((ah l0 a1).f2) 0 (wrap64 (a1 - 1)) _ _ A26.out).mono ?_); rintro e w' ⟨rfl, ⟨nd, rfl⟩⟩; (try first | exact da | exact DD))); go_quiet (first | (go_at_call 86; (with_reducible refine (aK.calls ((ah l0 a1).f2) 0 (wrap64 (a1 - 1)) _ _ A26.out).mono ?_); rintro e w' ⟨rfl, ⟨nd, rfl⟩⟩; (try first | exact da | exact DD))))
        go_wp2_with (first | (go_at_call 86; (with_reducible refine (aK.calls ((ah l0 a1).f2) 0 (wrap64 (a1 - 1)) _ _ A26.out).mono ?_); rintro e w' ⟨rfl, ⟨nd, rfl⟩⟩; (try first | exact da | exact DD)))
        go_ret
        exact ⟨EWW, BL⟩
mutual
def aR.l0 : Nat → List (aA) → Int → Option (Bool)
 | 0, _, _ => none
 | k + 1, a, b => if b < (a.length : Int) then (aR.j1 k a b (decide ((a.length : Int) ≤ 9))) else (aR.j1 k a b false)
def aR.j1 : Nat → List (aA) → Int → Bool → Option (Bool)
 | 0, _, _, _ => none
 | k + 1, a, b, c => if c = true then ((bD.f k a b).bind fun d => (if d = true then (aR.l0 k a (wrap64 (b + 1))) else (some false))) else ((aK.f (a.length : Int) 1 9).bind fun e => (some e))
end
def aR.f (k : Nat) (l0 : List (aA)) : Option (Bool) := aR.l0 k l0 0
theorem aR.calls (k : Nat) (A0 : Option Addr) (c0 : Nat) (l0 : List (aA)) (r : Bool) (w : World) (hr0 : Kd.C bQ w A0 l0.length l0) (hc0 : l0.length ≤ c0) (h : aR.f k l0 = some r) :
  Calls Try.prog 76 #[.slice A0 l0.length c0] w fun e w' => e = .returned (.bool r) ∧ Below w.heap.size w w' := by
 have HR0 := aj.mk hr0
 have HC0 := aj.mk hc0
 clear hr0 hc0
 have HB := aj.mk (Below.refl w.heap.size w)
 have H : (aR.l0 k l0 0) = some r := h
 clear h
 have H' := aj.mk H
 clear H
 go_enter Try.func76, Try.ntmps76
 go_wp2
 go_loopg [3] k (fun kq v3 w' => ∃ (x3_1 : Int), v3 = .int .i64 x3_1 ∧ aj (aR.l0 kq l0 x3_1 = some r) ∧ aj (kq ≤ k) ∧ aj (Below w.heap.size w w'))
 case atStart => exact ⟨(0), EQ, H', ⟨Nat.le_refl _⟩, ⟨BL⟩⟩
 case round =>
  clear H'
  obtain ⟨x3_1, rfl, HA, HK1, HB⟩ := hrel
  cases gk with
  | zero => exact absurd HA.out (by simp [aR.l0])
  | succ k1 =>
   have H := HA.out
   clear HA
   simp only [aR.l0] at H
   have HC2 := aj.mk H
   clear H
   go_upto_region 2 with (fail)
   go_cut [12] (fun v12 wc => ∃ (kq : Nat) (x12_1 : Bool), v12 = .bool x12_1 ∧ aj (aR.j1 kq l0 x3_1 x12_1 = some r) ∧ aj (kq ≤ k1) ∧ aj (Below w.heap.size w wc))
   case first =>
    have H := HC2.out
    clear HC2
    replace H := ifD H; rcases H with ⟨c3b0, H⟩ | ⟨c3b0, H⟩
    ·(first | rw [c3b0] | (simp only [bL, bN]; rw [c3b0]) | skip)
     have H' := aj.mk H
     clear H
     go_wp2
     go_meet
     case rel => exact ⟨_, (decide ((l0.length : Int) ≤ 9)), EQ, H', ⟨by have := HK1.out; first | omega | exact Nat.le_refl _⟩, ⟨BL⟩⟩
    ·(first | rw [c3b0] | (simp only [bL, bN]; rw [c3b0]) | skip)
     have H' := aj.mk H
     clear H
     go_wp2
     go_meet
     case rel => exact ⟨_, (false), EQ, H', ⟨by have := HK1.out; first | omega | exact Nat.le_refl _⟩, ⟨BL⟩⟩
   case rest =>
    clear HC2
    obtain ⟨kq, x12_1, rfl, HA, HJ1, HB⟩ := hcut
    cases kq with
    | zero => exact absurd HA.out (by simp [aR.j1])
    | succ kj1 =>
     have H := HA.out
     clear HA
     simp only [aR.j1] at H
     replace H := ifB H; rcases H with ⟨rfl, H⟩ | ⟨rfl, H⟩
     ·replace H := be H; obtain ⟨t136, A5, H⟩ := H
      replace H := aj.mk H
      go_wp2_with (first | ((with_reducible refine aV (f := 125) rfl ?_); refine dF (some 17) Try.func125 #[.slice A0 l0.length c0, .int .i64 x3_1] ?_; (with_reducible refine (bD.calls kj1 _ _ l0 x3_1 _ _ ?side1 ?side2 A5.out).mono ?_); (case side1 => exact CB HR0); (case side2 => exact HC0.out); rintro e w5000 ⟨rfl, hb⟩; refine ⟨_, rfl, ?_⟩; replace HB := BS (w := w) hb; (try clear hb); refine dS ?_))
      refine Hide.mk ?_
      replace H := H.out
      replace H := ifB H; rcases H with ⟨rfl, H⟩ | ⟨rfl, H⟩
      ·have H' := aj.mk H
       clear H
       try go_wp2
       go_roundg kj1
       case measure => have := HK1.out; have := HJ1.out; omega
       case rel => exact ⟨(wrap64 (x3_1 + 1)), EQ, H', ⟨by have := HK1.out; have := HJ1.out; omega⟩, ⟨BL⟩⟩
      ·obtain rfl := Option.some.inj H
       try go_wp2
       go_ret
       exact ⟨EWW, BL⟩
     ·replace H := be H; obtain ⟨t137, A9, H⟩ := H
      obtain rfl := Option.some.inj H
      go_wp2_with (first | ((with_reducible refine aV (f := 86) rfl ?_); refine dF (some 21) Try.func86 #[.int .i64 (l0.length : Int), .int .i64 1, .int .i64 9] ?_; (with_reducible refine (aK.calls (l0.length : Int) 1 9 t137 _ A9.out).mono ?_); rintro e w' ⟨rfl, ⟨nd, rfl⟩⟩; refine ⟨_, rfl, ?_⟩))
      go_ret
      exact ⟨EWW, BL⟩
def fu.f (a0 a1 : Int) : Option (Int) := if a1 < a0 then (some a1) else (some a0)
theorem fu.calls (a0 a1 r : Int) (w : World) (h : fu.f a0 a1 = some r) :
  Calls Try.prog 166 #[.int .i64 a0, .int .i64 a1] w fun e w' => e = .returned (.int .i64 r) ∧ cu w w' := by
 unfold fu.f at h
 have H := h
 clear h
 replace H := aj.mk H
 go_enter Try.func166, Try.ntmps166
 replace H := H.out
 replace H := ifD H; rcases H with ⟨c3b0, H⟩ | ⟨c3b0, H⟩
 ·obtain rfl := Option.some.inj H
  try go_wp2
  go_ret
  exact ⟨EQ, DR⟩
 ·obtain rfl := Option.some.inj H
  try go_wp2
  go_ret
  exact ⟨EQ, DR⟩
mutual
def aJ.l0 : Nat → List (aA) → List Int → Int → Option (Int)
 | 0, _, _, _ => none
 | k + 1, a, b, c => if c < (a.length : Int) then (if 0 ≤ c then (if ((ah a c).f0) = 1 then (if b.length < 17592186044416 then (aJ.l0 k a (b ++ [(((ah a c).f1).size : Int)]) (wrap64 (c + 1))) else (none)) else (if ((ah a c).f0) = 4 then (aJ.j1 k a b c (((ah a c).f0) == 4) ((ah a c).f0) ((ah a c).f1) ((ah a c).f2) ((ah a c).f3)) else (aJ.j1 k a b c (((ah a c).f0) == 5) ((ah a c).f0) ((ah a c).f1) ((ah a c).f2) ((ah a c).f3)))) else (none)) else (if 0 ≤ (wrap64 ((b.length : Int) - 1)) then (if (wrap64 ((b.length : Int) - 1)) < (b.length : Int) then (some (rd b (wrap64 ((b.length : Int) - 1)))) else (none)) else (none))
def aJ.j1 : Nat → List (aA) → List Int → Int → Bool → Int → ByteArray → Int → Int → Option (Int)
 | 0, _, _, _, _, _, _, _, _ => none
 | k + 1, a, b, c, d, e, f, g, h => if d = true then (if 0 ≤ g then (if g < (b.length : Int) then (if 0 ≤ h then (if h < (b.length : Int) then ((fu.f 999 (wrap64 ((wrap64 ((rd b g) + (rd b h))) + 4))).bind fun i => (if b.length < 17592186044416 then (aJ.l0 k a (b ++ [i]) (wrap64 (c + 1))) else (none))) else (none)) else (none)) else (none)) else (none)) else (if 0 ≤ g then (if g < (b.length : Int) then ((fu.f 999 (wrap64 ((rd b g) + 3))).bind fun j => (if b.length < 17592186044416 then (aJ.l0 k a (b ++ [j]) (wrap64 (c + 1))) else (none))) else (none)) else (none))
end
def aJ.f (k : Nat) (l0 : List (aA)) : Option (Int) := aJ.l0 k l0 (([] : List Int)) 0
def aJ.T12 : Bool × List (List Nat × List Nat) := (true, [([], []), ([], []), ([], []), ([2], [2]), ([1, 3], [1, 3]), ([4], [4]), ([], []), ([], []), ([7], [7]), ([6, 8], [6, 8]), ([9], [9]), ([5, 10], [5, 10]), ([11], [11]), ([12], [12]), ([13], [13]), ([0, 14, 13], [0, 14]), ([15, 15, 0, 1, 2, 3, 4, 5, 6, 7, 8, 9, 10, 11, 12, 13, 14, 15], [0, 1, 6, 15])])
def aJ.B12 : List Nat := [0, 0, 0, 4, 14, 30, 0, 0, 128, 448, 960, 2046, 4094, 8190, 16382, 32767, 65535]
theorem aJ.qK : fG .any (opsOf Try.f126 12) = aJ.T12 := by kernel_rfl
theorem aJ.qE : fK aJ.T12.2 aJ.B12 = true := by kernel_rfl
theorem aJ.calls (k : Nat) (A0 : Option Addr) (c0 : Nat) (l0 : List (aA)) (r : Int) (w : World) (hr0 : Kd.C bQ w A0 l0.length l0) (hc0 : l0.length ≤ c0) (h : aJ.f k l0 = some r) :
  Calls Try.prog 126 #[.slice A0 l0.length c0] w fun e w' => e = .returned (.int .i64 r) ∧ Below w.heap.size w w' := by
 have hu110 := Try.underlying110
 have HR0 := aj.mk hr0
 have HC0 := aj.mk hc0
 clear hr0 hc0
 have HB := aj.mk (Below.refl w.heap.size w)
 unfold aJ.f at h
 have H := h
 clear h
 obtain ⟨y138, hy138⟩ : ∃ y_ : List Int, y_ = (([] : List Int)) := ⟨_, rfl⟩
 replace H : (aJ.l0 k l0 y138 0) = some r := by first | (rw [hy138]; with_reducible exact H) | (have H2_ := (Option.bind_some _ _).symm.trans H; rw [hy138]; with_reducible exact H2_) | (have H2_ := (Option.bind_some _ _).symm.trans H; with_reducible exact H2_) | with_reducible exact H | (rw [hy138]; exact H) | exact H
 have Ny138 := aj.mk hy138
 clear hy138
 have H' := aj.mk H
 clear H
 go_enter Try.func126, Try.ntmps126
 go_wp2_with (first | ((with_reducible refine bR (N := 6) rfl ?_); refine Kd.iR (Kd.int .i64) _ 3 ?hg (N := 6) ?hd (xs := ([] : List Int)) (inner := []) (ok := fun _ => True) (okp := fun _ => True) ?hr ?hp (fun _ hk => hk) trivial (Below.refl _ _) (Nat.le_refl _) (by simp) ?_; (case hd => rfl); (case hg => rfl); (case hr => first | (go_simp; done) | (go_simp; rfl)); (case hp => exact (bT.none _ _)); intro v139 w2 ho3 hb hg_ hnew_; clear hg_ hnew_; (first | rw [← Ny138.out] at ho3 | (simp only [Int.reduceToNat] at ho3; rw [← Ny138.out] at ho3)); have n0_ := aj.mk (Kd.dV ho3 (aW BL)); replace HB := BS (w := w) hb; have HO140 := n0_; clear n0_; clear hb ho3))
 go_loopg [3, 4] k (fun kq v3 v4 w' => ∃ (x3_1 : List Int) (x4_1 : Int), v4 = .int .i64 x4_1 ∧ aj (aJ.l0 kq l0 x3_1 x4_1 = some r) ∧ aj (kq ≤ k) ∧ aj (Kd.R (Kd.int .i64) 3 w' w.heap.size (fun _ => True) v3 x3_1) ∧ aj (Below w.heap.size w w'))
 case atStart => exact ⟨(y138), (0), EQ, H', ⟨Nat.le_refl _⟩, ⟨(RR HO140)⟩, ⟨BL⟩⟩
 case round =>
  clear H'
  obtain ⟨x3_1, x4_1, rfl, HA, HK1, HO_3, HB⟩ := hrel
  cases gk with
  | zero => exact absurd HA.out (by simp [aJ.l0])
  | succ k1 =>
   have H := HA.out
   clear HA
   simp only [aJ.l0] at H
   replace H := ifD H; rcases H with ⟨c4b0, H⟩ | ⟨c4b0, H⟩
   ·replace H := ifN H; obtain ⟨c5b0, H⟩ := H
    have p142 : 0 ≤ (x4_1 : Int) := OD
    have q142 : x4_1 < (l0.length : Int) := OD
    obtain ⟨ad142, e142, hx142_0, hx142_1, hx142_2, hx142_3⟩ := dD HR0.out x4_1 p142 q142
    cases e142
    try replace hx142_0 := (HB.out.cell (World.block_lt_of_cell? w _ hx142_0)).trans hx142_0
    try replace hx142_1 := (HB.out.cell (World.block_lt_of_cell? w _ hx142_1)).trans hx142_1
    try replace hx142_2 := (HB.out.cell (World.block_lt_of_cell? w _ hx142_2)).trans hx142_2
    try replace hx142_3 := (HB.out.cell (World.block_lt_of_cell? w _ hx142_3)).trans hx142_3
    replace p142 := eq_true p142
    replace q142 := eq_true q142
    replace H := ifE H; rcases H with ⟨c6b0, c6b1, H⟩ | ⟨c6, c6b0, c6b1, H⟩
    ·replace H := ifP H; obtain ⟨c7, H⟩ := H
     have LMc7 := aj.mk c7
     clear c7
     obtain ⟨y144, hy144⟩ : ∃ y_ : List Int, y_ = (x3_1 ++ [(((ah l0 x4_1).f1).size : Int)]) := ⟨_, rfl⟩
     replace H : (aJ.l0 k1 l0 y144 (wrap64 (x4_1 + 1))) = some r := by first | (rw [hy144]; with_reducible exact H) | (have H2_ := (Option.bind_some _ _).symm.trans H; rw [hy144]; with_reducible exact H2_) | (have H2_ := (Option.bind_some _ _).symm.trans H; with_reducible exact H2_) | with_reducible exact H | (rw [hy144]; exact H) | exact H
     have Ny144 := aj.mk hy144
     clear hy144
     have H' := aj.mk H
     clear H
     go_wp2_with (first | ((with_reducible refine bR (N := 5) rfl ?_); refine fC (N := 5) (cs := #[.int .i64 0, .string (⟨#[]⟩ : ByteArray), .int .i64 0, .int .i64 0]) (t := 110) ?_; intro gb143 hg w7000 hbox hb; have n0_ := RB HO_3 hb; have n1_ := BS (w := w) hb; have n2_ := aj.mk (hbox); have n3_ := SZ (w := w) hg; have n4_ := SZ (w := w) hg; clear HO_3 HB; have HO_3 := n0_; have HB := n1_; have BK143 := n2_; have GW143 := n3_; have GE143 := n4_; clear n0_ n1_ n2_ n3_ n4_; clear hb hbox hg; obtain ⟨hcz7001_0, hcz7001_1, hcz7001_2, hcz7001_3, hfz7001_0, hfz7001_1, hfz7001_2, hfz7001_3⟩ := cz4 BK143.out) | ((with_reducible refine bH (b := .append) (xs := #[.tmp 31, .tmp 35]) rfl ?_); at_builtin; refine Kd.dh (Kd.int .i64) (w0 := w) w.heap.size rfl (.tmp 31) (.tmp 35) 45 3 (.int .i64 0) 8 rfl Try.underlying45 info3 rfl (by decide) (by omega) u3 x3_1 (((ah l0 x4_1).f1).size : Int) [.int .i64 (((ah l0 x4_1).f1).size : Int)] (fun _ => True) (fun _ => False) rfl (by first | (go_simp; done) | (go_simp; rfl)) ?aP (fun _ hk => hk.elim) ?aF ?aO ?aB ?aS ?aL ?_; (case aP => exact rfl); (case aB => exact BL); (case aF => exact (fun _ _ => trivial)); (case aO => exact (by (with_reducible repeat (first | apply Kd.bJ | apply Kd.bK | apply Kd.bV)); exact Kd.aQ (Kd.dK (p := ⟨gb143, 3, none⟩) (Kd.dK (p := ⟨gb143, 2, none⟩) (Kd.dK (p := ⟨gb143, 1, none⟩) (Kd.dK (p := ⟨gb143, 0, none⟩) (Kd.l9 HO_3.out BK143.out (by decide)) (fun _ hk => hk.2) (.int .i64 ((ah l0 x4_1).f0))) (fun _ hk => hk.2) (.string ((ah l0 x4_1).f1))) (fun _ hk => hk.2) (.int .i64 ((ah l0 x4_1).f2))) (fun _ hk => hk.2) (.int .i64 ((ah l0 x4_1).f3))) (fun _ hk => trivial))); (case aS => exact (aW BL)); (case aL => have := LMc7.out; omega); intro v145 w7002 ho hb hg hat; rw [← Ny144.out] at ho; have n0_ := aj.mk (d9 (g := gb143) (o := .cells #[.int .i64 ((ah l0 x4_1).f0), .string ((ah l0 x4_1).f1), .int .i64 ((ah l0 x4_1).f2), .int .i64 ((ah l0 x4_1).f3)] 110 (0, 0)) (by (with_reducible repeat (first | refine av ?_ _ | refine ay ?_ | refine au ?_ _)); refine aM (cs := #[.int .i64 ((ah l0 x4_1).f0), .string ((ah l0 x4_1).f1), .int .i64 ((ah l0 x4_1).f2), .int .i64 0]) ?_ 3 _ rfl; (with_reducible repeat (first | refine av ?_ _ | refine ay ?_ | refine au ?_ _)); refine aM (cs := #[.int .i64 ((ah l0 x4_1).f0), .string ((ah l0 x4_1).f1), .int .i64 0, .int .i64 0]) ?_ 2 _ rfl; (with_reducible repeat (first | refine av ?_ _ | refine ay ?_ | refine au ?_ _)); refine aM (cs := #[.int .i64 ((ah l0 x4_1).f0), .string (⟨#[]⟩ : ByteArray), .int .i64 0, .int .i64 0]) ?_ 1 _ rfl; (with_reducible repeat (first | refine av ?_ _ | refine ay ?_ | refine au ?_ _)); refine aM (cs := #[.int .i64 0, .string (⟨#[]⟩ : ByteArray), .int .i64 0, .int .i64 0]) ?_ 0 _ rfl; (with_reducible repeat (first | refine av ?_ _ | refine ay ?_ | refine au ?_ _)); exact BK143.out) hg (Kd.qz HO_3.out BK143.out (by decide))); have n1_ := aj.mk (hb); have n2_ := aj.mk (ho); clear BK143 HB HO_3; have BK143 := n0_; have HB := n1_; have HO146 := n2_; clear n0_ n1_ n2_; clear ho hb hg hat))
     go_roundg k1
     case measure => have := HK1.out; omega
     case rel => exact ⟨(y144), (wrap64 (x4_1 + 1)), EQ, H', ⟨by have := HK1.out; omega⟩, ⟨(RR HO146)⟩, ⟨BL⟩⟩
    ·have HC11 := aj.mk H
     clear H
     go_upto_if 37 with (first | ((with_reducible refine bR (N := 5) rfl ?_); refine fC (N := 5) (cs := #[.int .i64 0, .string (⟨#[]⟩ : ByteArray), .int .i64 0, .int .i64 0]) (t := 110) ?_; intro gb143 hg w7000 hbox hb; have n0_ := RB HO_3 hb; have n1_ := BS (w := w) hb; have n2_ := aj.mk (hbox); have n3_ := SZ (w := w) hg; have n4_ := SZ (w := w) hg; clear HO_3 HB; have HO_3 := n0_; have HB := n1_; have BK143 := n2_; have GW143 := n3_; have GE143 := n4_; clear n0_ n1_ n2_ n3_ n4_; clear hb hbox hg; obtain ⟨hcz7001_0, hcz7001_1, hcz7001_2, hcz7001_3, hfz7001_0, hfz7001_1, hfz7001_2, hfz7001_3⟩ := cz4 BK143.out))
     (try simp only [Act.put, List.setIfInBounds_toArray, List.set_cons_zero, List.set_cons_succ])
     go_cut [37] (fun v37 wc => ∃ (kq : Nat) (x37_10 : Bool), v37 = .bool x37_10 ∧ aj (aJ.j1 kq l0 x3_1 x4_1 x37_10 ((ah l0 x4_1).f0) ((ah l0 x4_1).f1) ((ah l0 x4_1).f2) ((ah l0 x4_1).f3) = some r) ∧ aj (kq ≤ k1) ∧ aj (Kd.R (Kd.int .i64) 3 wc w.heap.size (fun _ => True) u3 x3_1) ∧ aj (wc.heap[gb143]? = some (.cells #[.int .i64 ((ah l0 x4_1).f0), .string ((ah l0 x4_1).f1), .int .i64 ((ah l0 x4_1).f2), .int .i64 ((ah l0 x4_1).f3)] 110 (0, 0))) ∧ aj (Below w.heap.size w wc))
     case first =>
      have H := HC11.out
      clear HC11
      replace H := ifE H; rcases H with ⟨c14b0, c14b1, H⟩ | ⟨c14, c14b0, c14b1, H⟩
      ·(first | rw [c14b0] | (simp only [bL, bN]; rw [c14b0]) | skip)
       have H' := aj.mk H
       clear H
       go_wp2
       go_meet
       case rel => exact ⟨_, ((((ah l0 x4_1).f0) == 4)), EQ, H', ⟨by have := HK1.out; first | omega | exact Nat.le_refl _⟩, ⟨by (with_reducible repeat (first | apply Kd.bJ | apply Kd.bK | apply Kd.bV)); exact Kd.aQ (Kd.dK (p := ⟨gb143, 3, none⟩) (Kd.dK (p := ⟨gb143, 2, none⟩) (Kd.dK (p := ⟨gb143, 1, none⟩) (Kd.dK (p := ⟨gb143, 0, none⟩) (Kd.l9 HO_3.out BK143.out (by decide)) (fun _ hk => hk.2) (.int .i64 ((ah l0 x4_1).f0))) (fun _ hk => hk.2) (.string ((ah l0 x4_1).f1))) (fun _ hk => hk.2) (.int .i64 ((ah l0 x4_1).f2))) (fun _ hk => hk.2) (.int .i64 ((ah l0 x4_1).f3))) (fun _ hk => trivial)⟩, ⟨by (with_reducible repeat (first | refine av ?_ _ | refine ay ?_ | refine au ?_ _)); refine aM (cs := #[.int .i64 ((ah l0 x4_1).f0), .string ((ah l0 x4_1).f1), .int .i64 ((ah l0 x4_1).f2), .int .i64 0]) ?_ 3 _ rfl; (with_reducible repeat (first | refine av ?_ _ | refine ay ?_ | refine au ?_ _)); refine aM (cs := #[.int .i64 ((ah l0 x4_1).f0), .string ((ah l0 x4_1).f1), .int .i64 0, .int .i64 0]) ?_ 2 _ rfl; (with_reducible repeat (first | refine av ?_ _ | refine ay ?_ | refine au ?_ _)); refine aM (cs := #[.int .i64 ((ah l0 x4_1).f0), .string (⟨#[]⟩ : ByteArray), .int .i64 0, .int .i64 0]) ?_ 1 _ rfl; (with_reducible repeat (first | refine av ?_ _ | refine ay ?_ | refine au ?_ _)); refine aM (cs := #[.int .i64 0, .string (⟨#[]⟩ : ByteArray), .int .i64 0, .int .i64 0]) ?_ 0 _ rfl; (with_reducible repeat (first | refine av ?_ _ | refine ay ?_ | refine au ?_ _)); exact BK143.out⟩, ⟨BL⟩⟩
      ·(first | rw [c14b0] | (simp only [bL, bN]; rw [c14b0]) | skip)
       have H' := aj.mk H
       clear H
       go_wp2
       go_meet
       case rel => exact ⟨_, ((((ah l0 x4_1).f0) == 5)), EQ, H', ⟨by have := HK1.out; first | omega | exact Nat.le_refl _⟩, ⟨by (with_reducible repeat (first | apply Kd.bJ | apply Kd.bK | apply Kd.bV)); exact Kd.aQ (Kd.dK (p := ⟨gb143, 3, none⟩) (Kd.dK (p := ⟨gb143, 2, none⟩) (Kd.dK (p := ⟨gb143, 1, none⟩) (Kd.dK (p := ⟨gb143, 0, none⟩) (Kd.l9 HO_3.out BK143.out (by decide)) (fun _ hk => hk.2) (.int .i64 ((ah l0 x4_1).f0))) (fun _ hk => hk.2) (.string ((ah l0 x4_1).f1))) (fun _ hk => hk.2) (.int .i64 ((ah l0 x4_1).f2))) (fun _ hk => hk.2) (.int .i64 ((ah l0 x4_1).f3))) (fun _ hk => trivial)⟩, ⟨by (with_reducible repeat (first | refine av ?_ _ | refine ay ?_ | refine au ?_ _)); refine aM (cs := #[.int .i64 ((ah l0 x4_1).f0), .string ((ah l0 x4_1).f1), .int .i64 ((ah l0 x4_1).f2), .int .i64 0]) ?_ 3 _ rfl; (with_reducible repeat (first | refine av ?_ _ | refine ay ?_ | refine au ?_ _)); refine aM (cs := #[.int .i64 ((ah l0 x4_1).f0), .string ((ah l0 x4_1).f1), .int .i64 0, .int .i64 0]) ?_ 2 _ rfl; (with_reducible repeat (first | refine av ?_ _ | refine ay ?_ | refine au ?_ _)); refine aM (cs := #[.int .i64 ((ah l0 x4_1).f0), .string (⟨#[]⟩ : ByteArray), .int .i64 0, .int .i64 0]) ?_ 1 _ rfl; (with_reducible repeat (first | refine av ?_ _ | refine ay ?_ | refine au ?_ _)); refine aM (cs := #[.int .i64 0, .string (⟨#[]⟩ : ByteArray), .int .i64 0, .int .i64 0]) ?_ 0 _ rfl; (with_reducible repeat (first | refine av ?_ _ | refine ay ?_ | refine au ?_ _)); exact BK143.out⟩, ⟨BL⟩⟩
     case rest =>
      clear HC11
      try clear c4
      try clear c4b0
      try clear c5
      try clear c5b0
      try clear c6
      try clear c6b0
      try clear c6b1
      try clear hcz7001_0
      try clear hcz7001_1
      try clear hcz7001_2
      try clear hcz7001_3
      try clear hfz7001_0
      try clear hfz7001_1
      try clear hfz7001_2
      try clear hfz7001_3
      try clear hx142_0
      try clear hx142_1
      try clear hx142_2
      try clear hx142_3
      try clear p142
      try clear q142
      obtain ⟨kq, x37_10, rfl, HA, HJ10, HO_3, BK143, HB⟩ := hcut
      cases kq with
      | zero => exact absurd HA.out (by simp [aJ.j1])
      | succ kj10 =>
       have H := HA.out
       clear HA
       simp only [aJ.j1] at H
       replace H := ifB H; rcases H with ⟨rfl, H⟩ | ⟨rfl, H⟩
       ·replace H := ifN H; obtain ⟨c16b0, H⟩ := H
        replace H := ifN H; obtain ⟨c17b0, H⟩ := H
        replace H := ifN H; obtain ⟨c18b0, H⟩ := H
        replace H := ifN H; obtain ⟨c19b0, H⟩ := H
        replace H := be H; obtain ⟨t149, A20, H⟩ := H
        replace H := ifP H; obtain ⟨c21, H⟩ := H
        have LMc21 := aj.mk c21
        clear c21
        obtain ⟨y150, hy150⟩ : ∃ y_ : List Int, y_ = (x3_1 ++ [t149]) := ⟨_, rfl⟩
        replace H : (aJ.l0 kj10 l0 y150 (wrap64 (x4_1 + 1))) = some r := by first | (rw [hy150]; with_reducible exact H) | (have H2_ := (Option.bind_some _ _).symm.trans H; rw [hy150]; with_reducible exact H2_) | (have H2_ := (Option.bind_some _ _).symm.trans H; with_reducible exact H2_) | with_reducible exact H | (rw [hy150]; exact H) | exact H
        have Ny150 := aj.mk hy150
        clear hy150
        have H' := aj.mk H
        clear H
        try go_wp2
        replace HO_3 := aj.mk (Kd.bV HO_3.out)
        replace BK143 := aj.mk (ay BK143.out)
        replace HB := aj.mk (dM HB.out)
        obtain ⟨Ao7002, co7002, eo7002⟩ := Kd.bG HO_3.out
        (first | subst eo7002 | (injection eo7002 with f1_ f2_ f3_; have f4_ := f1_.symm; have f5_ := f3_.symm; clear f1_ f2_ f3_; subst f4_; subst f5_))
        have p147 : 0 ≤ (((ah l0 x4_1).f2) : Int) := OD
        have q147 : ((ah l0 x4_1).f2) < (x3_1.length : Int) := OD
        obtain ⟨ad147, e147, hx147_0⟩ := Kd.lZ (Kd.bF HO_3.out).2.2 ((ah l0 x4_1).f2) p147 q147
        cases e147
        replace p147 := eq_true p147
        replace q147 := eq_true q147
        have p148 : 0 ≤ (((ah l0 x4_1).f3) : Int) := OD
        have q148 : ((ah l0 x4_1).f3) < (x3_1.length : Int) := OD
        obtain ⟨ad148, e148, hx148_0⟩ := Kd.lZ (Kd.bF HO_3.out).2.2 ((ah l0 x4_1).f3) p148 q148
        obtain rfl : ad147 = ad148 := (by injection e148)
        replace p148 := eq_true p148
        replace q148 := eq_true q148
        refine fQ (n := 17) (S := fun w' => w'.cell? ⟨gb143, 0, none⟩ = some (.int .i64 ((ah l0 x4_1).f0)) ∧ w'.cell? ⟨gb143, 1, none⟩ = some (.string ((ah l0 x4_1).f1)) ∧ w'.cell? ⟨gb143, 2, none⟩ = some (.int .i64 ((ah l0 x4_1).f2)) ∧ w'.cell? ⟨gb143, 3, none⟩ = some (.int .i64 ((ah l0 x4_1).f3)) ∧ w'.cell? (ad147.add (((ah l0 x4_1).f2)).toNat) = some (.int .i64 (rd x3_1 ((ah l0 x4_1).f2))) ∧ w'.cell? (ad147.add (((ah l0 x4_1).f3)).toNat) = some (.int .i64 (rd x3_1 ((ah l0 x4_1).f3)))) (ds := [14, 15]) #[F,F,F,F,F,F,F,F,F,F,F,F,F,F,F,F,F] (by kernel_rfl) rfl rfl ⟨(bC BK143.out 0).trans rfl, (bC BK143.out 1).trans rfl, (bC BK143.out 2).trans rfl, (bC BK143.out 3).trans rfl, hx147_0, hx148_0⟩ (fun hHeld => ?_); refine eP aJ.qK aJ.qE (fun HT_ HW_ => ?_)
        generalize wc.drew = w7003 at HO_3 BK143 HB hx147_0 hx148_0 hHeld ⊢
        refine puS (i := 0) (N := some 40) #[T,F,F,F,F,F,F,F,F,F,F,F,F,F,F,F,F] (bf HT_.out (by kernel_rfl)) ?_
        refine puS (i := 1) (N := some 41) #[T,T,F,F,F,F,F,F,F,F,F,F,F,F,F,F,F] (bf HT_.out (by kernel_rfl)) ?_
        refine puS (i := 2) (N := some 42) #[T,T,T,F,F,F,F,F,F,F,F,F,F,F,F,F,F] (bf HT_.out (by kernel_rfl)) ?_
        refine puS (i := 6) (N := some 46) #[T,T,T,F,F,F,T,F,F,F,F,F,F,F,F,F,F] (bf HT_.out (by kernel_rfl)) ?_
        refine puS (i := 7) (N := some 47) #[T,T,T,F,F,F,T,T,F,F,F,F,F,F,F,F,F] (bf HT_.out (by kernel_rfl)) ?_
        refine taS (i := 3) (N := some 43) #[T,T,T,T,F,F,T,T,F,F,F,F,F,F,F,F,F] (dw HT_.out HW_.out (by kernel_rfl)) hHeld ?_
        refine puS (i := 4) (N := some 44) #[T,T,T,T,T,F,T,T,F,F,F,F,F,F,F,F,F] (bf HT_.out (by kernel_rfl)) ?_
        refine taS (i := 5) (N := some 45) #[T,T,T,T,T,T,T,T,F,F,F,F,F,F,F,F,F] (dw HT_.out HW_.out (by kernel_rfl)) hHeld ?_
        refine taS (i := 8) (N := some 48) #[T,T,T,T,T,T,T,T,T,F,F,F,F,F,F,F,F] (dw HT_.out HW_.out (by kernel_rfl)) hHeld ?_
        refine puS (i := 9) (N := some 49) #[T,T,T,T,T,T,T,T,T,T,F,F,F,F,F,F,F] (bf HT_.out (by kernel_rfl)) ?_
        refine taS (i := 10) (N := some 50) #[T,T,T,T,T,T,T,T,T,T,T,F,F,F,F,F,F] (dw HT_.out HW_.out (by kernel_rfl)) hHeld ?_
        refine puS (i := 11) (N := some 51) #[T,T,T,T,T,T,T,T,T,T,T,T,F,F,F,F,F] (bf HT_.out (by kernel_rfl)) ?_
        refine puS (i := 12) (N := some 52) #[T,T,T,T,T,T,T,T,T,T,T,T,T,F,F,F,F] (bf HT_.out (by kernel_rfl)) ?_
        refine jv (i := 13) (N := some 53) #[T,T,T,T,T,T,T,T,T,T,T,T,T,T,F,F,F] rfl rfl (gu HT_.out (by kernel_rfl)) (by decide) (fun K hK => ?_)
        refine jU Try.func166 #[.int .i64 999, .int .i64 (wrap64 ((wrap64 ((rd x3_1 ((ah l0 x4_1).f2)) + (rd x3_1 ((ah l0 x4_1).f3)))) + 4))] ?_
        with_reducible refine (fu.calls 999 (wrap64 ((wrap64 ((rd x3_1 ((ah l0 x4_1).f2)) + (rd x3_1 ((ah l0 x4_1).f3)))) + 4)) t149 _ A20.out).mono ?_
        rintro e w' ⟨rfl, ⟨nd, rfl⟩⟩
        refine ⟨_, rfl, ?_⟩
        refine hK.out _ _ ⟨(bC BK143.out 0).trans rfl, (bC BK143.out 1).trans rfl, (bC BK143.out 2).trans rfl, (bC BK143.out 3).trans rfl, hHeld.2.2.2.2.1, hHeld.2.2.2.2.2⟩ (fun hHeld => ?_)
        clear hK K
        refine nrm (some 53) ?_
        refine mq (i := 14) (N := some 54) #[T,T,T,T,T,T,T,T,T,T,T,T,T,T,T,F,F] rfl rfl (gu HT_.out (by kernel_rfl)) (by decide) (fun K hK => ?_)
        refine iV (w1 := ?_) (v := ?_) (by rfl) rfl ?_ ?_
        rotate_left 2
        ·go_simp
         constructor
         ·rfl
         ·rfl
        refine hK.out _ _ ?_
        clear hK K
        refine nrm (some 54) ?_
        refine mq (i := 15) (N := some 55) #[T,T,T,T,T,T,T,T,T,T,T,T,T,T,T,T,F] rfl rfl (gu HT_.out (by kernel_rfl)) (by decide) (fun K hK => ?_)
        refine Kd.lF (Kd.int .i64) (w0 := w) w.heap.size (by rfl) (.tmp 40) (.tmp 54) 45 3 (.int .i64 0) 8 rfl Try.underlying45 info3 rfl (by decide) (by omega) (.slice (some ad147) x3_1.length co7002) x3_1 t149 [.int .i64 t149] (fun _ => True) (fun _ => False) rfl rfl ?aP (fun _ hk => hk.elim) ?aF ?aO ?aB ?aS ?aL ?_
        (case aP => exact rfl)
        (case aB => exact BL)
        (case aF => exact (fun _ _ => trivial))
        (case aO => exact (RR HO_3))
        (case aS => exact (aW BL))
        (case aL => have := LMc21.out; omega)
        intro v151 w7004 ho hb hg hat
        rw [← Ny150.out] at ho
        have n0_ := aj.mk (d9 (g := gb143) (o := .cells #[.int .i64 ((ah l0 x4_1).f0), .string ((ah l0 x4_1).f1), .int .i64 ((ah l0 x4_1).f2), .int .i64 ((ah l0 x4_1).f3)] 110 (0, 0)) BK hg (Kd.qz HO_3.out BK143.out (by decide)))
        have n1_ := aj.mk (hb)
        have n2_ := aj.mk (ho)
        clear BK143
        clear HB
        clear HO_3
        have BK143 := n0_
        have HB := n1_
        have HO152 := n2_
        clear n0_ n1_ n2_
        clear ho hb hg hat
        refine hK.out _ _ ?_
        clear hK K
        refine nrm (some 55) ?_
        refine puS (i := 16) (N := some 3) #[T,T,T,T,T,T,T,T,T,T,T,T,T,T,T,T,T] (bf HT_.out (by kernel_rfl)) ?_
        refine gV (fJ HT_.out (by kernel_rfl)) ?_
        try go_wp2
        go_roundg kj10
        case measure => have := HK1.out; have := HJ10.out; omega
        case rel => exact ⟨(y150), (wrap64 (x4_1 + 1)), EQ, H', ⟨by have := HK1.out; have := HJ10.out; omega⟩, ⟨(RR HO152)⟩, ⟨BL⟩⟩
       ·replace H := ifN H; obtain ⟨c25b0, H⟩ := H
        replace H := ifN H; obtain ⟨c26b0, H⟩ := H
        replace H := be H; obtain ⟨t154, A27, H⟩ := H
        replace H := ifP H; obtain ⟨c28, H⟩ := H
        have LMc28 := aj.mk c28
        clear c28
        obtain ⟨y155, hy155⟩ : ∃ y_ : List Int, y_ = (x3_1 ++ [t154]) := ⟨_, rfl⟩
        replace H : (aJ.l0 kj10 l0 y155 (wrap64 (x4_1 + 1))) = some r := by first | (rw [hy155]; with_reducible exact H) | (have H2_ := (Option.bind_some _ _).symm.trans H; rw [hy155]; with_reducible exact H2_) | (have H2_ := (Option.bind_some _ _).symm.trans H; with_reducible exact H2_) | with_reducible exact H | (rw [hy155]; exact H) | exact H
        have Ny155 := aj.mk hy155
        clear hy155
        have H' := aj.mk H
        clear H
        obtain ⟨hcz7002_0, hcz7002_1, hcz7002_2, hcz7002_3, hfz7002_0, hfz7002_1, hfz7002_2, hfz7002_3⟩ := cz4 BK143.out
        obtain ⟨Ao7003, co7003, eo7003⟩ := Kd.bG HO_3.out
        subst eo7003
        have p153 : 0 ≤ (((ah l0 x4_1).f2) : Int) := OD
        have q153 : ((ah l0 x4_1).f2) < (x3_1.length : Int) := OD
        obtain ⟨ad153, e153, hx153_0⟩ := Kd.lZ (Kd.bF HO_3.out).2.2 ((ah l0 x4_1).f2) p153 q153
        cases e153
        replace p153 := eq_true p153
        replace q153 := eq_true q153
        go_wp2_with (first | ((with_reducible refine aV (f := 166) rfl ?_); refine dF (some 26) Try.func166 #[.int .i64 999, .int .i64 (wrap64 ((rd x3_1 ((ah l0 x4_1).f2)) + 3))] ?_; (with_reducible refine (fu.calls 999 (wrap64 ((rd x3_1 ((ah l0 x4_1).f2)) + 3)) t154 _ A27.out).mono ?_); rintro e w' ⟨rfl, ⟨nd, rfl⟩⟩; refine ⟨_, rfl, ?_⟩) | ((with_reducible refine bH (b := .append) (xs := #[.tmp 19, .tmp 27]) rfl ?_); at_builtin; refine Kd.dh (Kd.int .i64) (w0 := w) w.heap.size rfl (.tmp 19) (.tmp 27) 45 3 (.int .i64 0) 8 rfl Try.underlying45 info3 rfl (by decide) (by omega) (.slice (some ad153) x3_1.length co7003) x3_1 t154 [.int .i64 t154] (fun _ => True) (fun _ => False) rfl rfl ?aP (fun _ hk => hk.elim) ?aF ?aO ?aB ?aS ?aL ?_; (case aP => exact rfl); (case aB => exact BL); (case aF => exact (fun _ _ => trivial)); (case aO => exact (RR HO_3)); (case aS => exact (aW BL)); (case aL => have := LMc28.out; omega); intro v156 w7004 ho hb hg hat; rw [← Ny155.out] at ho; have n0_ := aj.mk (d9 (g := gb143) (o := .cells #[.int .i64 ((ah l0 x4_1).f0), .string ((ah l0 x4_1).f1), .int .i64 ((ah l0 x4_1).f2), .int .i64 ((ah l0 x4_1).f3)] 110 (0, 0)) BK hg (Kd.qz HO_3.out BK143.out (by decide))); have n1_ := aj.mk (hb); have n2_ := aj.mk (ho); clear BK143 HB HO_3; have BK143 := n0_; have HB := n1_; have HO157 := n2_; clear n0_ n1_ n2_; clear ho hb hg hat))
        go_roundg kj10
        case measure => have := HK1.out; have := HJ10.out; omega
        case rel => exact ⟨(y155), (wrap64 (x4_1 + 1)), EQ, H', ⟨by have := HK1.out; have := HJ10.out; omega⟩, ⟨(RR HO157)⟩, ⟨BL⟩⟩
   ·obtain ⟨ji32, hji32⟩ : ∃ j_ : Int, (wrap64 ((x3_1.length : Int) - 1)) = j_ := ⟨_, rfl⟩
    replace H : (if 0 ≤ (ji32) then (if (ji32) < (x3_1.length : Int) then (some (rd x3_1 (ji32))) else (none)) else (none)) = some r := by first | (rw [hji32] at H; exact H) | (simp only [hji32] at H ⊢; exact H)
    have hji32w : (IntKind.i64.wrap ((x3_1.length : Int) - 1)) = ji32 := (bL _).trans hji32
    replace H := ifN H; obtain ⟨c33b0, H⟩ := H
    replace H := ifN H; obtain ⟨c34b0, H⟩ := H
    obtain rfl := Option.some.inj H
    obtain ⟨Ao7000, co7000, eo7000⟩ := Kd.bG HO_3.out
    subst eo7000
    have p141 : 0 ≤ ((ji32) : Int) := OD
    have q141 : (ji32) < (x3_1.length : Int) := OD
    obtain ⟨ad141, e141, hx141_0⟩ := Kd.lZ (Kd.bF HO_3.out).2.2 (ji32) p141 q141
    cases e141
    replace p141 := eq_true p141
    replace q141 := eq_true q141
    go_wp2
    go_ret
    exact ⟨by first | rfl | (simp [gD, gI] <;> rfl) | (simp only [← hji32]; first | rfl | (simp [gD, gI] <;> rfl)) | (simp [*, gD, gI] <;> rfl), BL⟩
def bn.f : Nat → List (aA) → Int → Option (ByteArray)
 | 0, _, _ => none
 | k + 1, a, b => if 0 ≤ b then (if b < (a.length : Int) then (if ((ah a b).f0) = 1 then (some ((ah a b).f1)) else (if 0 ≤ ((ah a b).f0) then (if ((ah a b).f0) ≤ (wrap64 (((ah a b).f0) + 1)) then (if (wrap64 (((ah a b).f0) + 1)) ≤ 10 then (if ((⟨#[32, 32, 98, 109, 106, 105, 104, 110, 116, 100]⟩ : ByteArray).extract (((ah a b).f0) : Int).toNat ((wrap64 (((ah a b).f0) + 1)) : Int).toNat).size + 1 ≤ 9223372036854775807 then ((bn.f k a ((ah a b).f2)).bind fun c => (if (((⟨#[32, 32, 98, 109, 106, 105, 104, 110, 116, 100]⟩ : ByteArray).extract (((ah a b).f0) : Int).toNat ((wrap64 (((ah a b).f0) + 1)) : Int).toNat) ++ (⟨#[40]⟩ : ByteArray)).size + c.size ≤ 9223372036854775807 then (if ((ah a b).f0) = 4 then (if ((((⟨#[32, 32, 98, 109, 106, 105, 104, 110, 116, 100]⟩ : ByteArray).extract (((ah a b).f0) : Int).toNat ((wrap64 (((ah a b).f0) + 1)) : Int).toNat) ++ (⟨#[40]⟩ : ByteArray)) ++ c).size + 1 ≤ 9223372036854775807 then ((bn.f k a ((ah a b).f3)).bind fun d => (if (((((⟨#[32, 32, 98, 109, 106, 105, 104, 110, 116, 100]⟩ : ByteArray).extract (((ah a b).f0) : Int).toNat ((wrap64 (((ah a b).f0) + 1)) : Int).toNat) ++ (⟨#[40]⟩ : ByteArray)) ++ c) ++ (⟨#[44]⟩ : ByteArray)).size + d.size ≤ 9223372036854775807 then (if ((((((⟨#[32, 32, 98, 109, 106, 105, 104, 110, 116, 100]⟩ : ByteArray).extract (((ah a b).f0) : Int).toNat ((wrap64 (((ah a b).f0) + 1)) : Int).toNat) ++ (⟨#[40]⟩ : ByteArray)) ++ c) ++ (⟨#[44]⟩ : ByteArray)) ++ d).size + 1 ≤ 9223372036854775807 then (some (((((((⟨#[32, 32, 98, 109, 106, 105, 104, 110, 116, 100]⟩ : ByteArray).extract (((ah a b).f0) : Int).toNat ((wrap64 (((ah a b).f0) + 1)) : Int).toNat) ++ (⟨#[40]⟩ : ByteArray)) ++ c) ++ (⟨#[44]⟩ : ByteArray)) ++ d) ++ (⟨#[41]⟩ : ByteArray))) else (none)) else (none))) else (none)) else (if ((ah a b).f0) = 5 then (if ((((⟨#[32, 32, 98, 109, 106, 105, 104, 110, 116, 100]⟩ : ByteArray).extract (((ah a b).f0) : Int).toNat ((wrap64 (((ah a b).f0) + 1)) : Int).toNat) ++ (⟨#[40]⟩ : ByteArray)) ++ c).size + 1 ≤ 9223372036854775807 then ((bn.f k a ((ah a b).f3)).bind fun e => (if (((((⟨#[32, 32, 98, 109, 106, 105, 104, 110, 116, 100]⟩ : ByteArray).extract (((ah a b).f0) : Int).toNat ((wrap64 (((ah a b).f0) + 1)) : Int).toNat) ++ (⟨#[40]⟩ : ByteArray)) ++ c) ++ (⟨#[44]⟩ : ByteArray)).size + e.size ≤ 9223372036854775807 then (if ((((((⟨#[32, 32, 98, 109, 106, 105, 104, 110, 116, 100]⟩ : ByteArray).extract (((ah a b).f0) : Int).toNat ((wrap64 (((ah a b).f0) + 1)) : Int).toNat) ++ (⟨#[40]⟩ : ByteArray)) ++ c) ++ (⟨#[44]⟩ : ByteArray)) ++ e).size + 1 ≤ 9223372036854775807 then (some (((((((⟨#[32, 32, 98, 109, 106, 105, 104, 110, 116, 100]⟩ : ByteArray).extract (((ah a b).f0) : Int).toNat ((wrap64 (((ah a b).f0) + 1)) : Int).toNat) ++ (⟨#[40]⟩ : ByteArray)) ++ c) ++ (⟨#[44]⟩ : ByteArray)) ++ e) ++ (⟨#[41]⟩ : ByteArray))) else (none)) else (none))) else (none)) else (if ((((⟨#[32, 32, 98, 109, 106, 105, 104, 110, 116, 100]⟩ : ByteArray).extract (((ah a b).f0) : Int).toNat ((wrap64 (((ah a b).f0) + 1)) : Int).toNat) ++ (⟨#[40]⟩ : ByteArray)) ++ c).size + 1 ≤ 9223372036854775807 then (some (((((⟨#[32, 32, 98, 109, 106, 105, 104, 110, 116, 100]⟩ : ByteArray).extract (((ah a b).f0) : Int).toNat ((wrap64 (((ah a b).f0) + 1)) : Int).toNat) ++ (⟨#[40]⟩ : ByteArray)) ++ c) ++ (⟨#[41]⟩ : ByteArray))) else (none)))) else (none))) else (none)) else (none)) else (none)) else (none))) else (none)) else (none)
def bn.T4 : Bool × List (List Nat × List Nat) := (true, [([], []), ([0], [0]), ([], []), ([2], [2]), ([3], [3]), ([1, 4], [1, 4]), ([5], [5]), ([], []), ([], []), ([8], [8]), ([7, 9], [7, 9]), ([6, 10], [6, 10]), ([11, 10, 0, 1, 2, 3, 4, 5, 6, 7, 8, 9, 10, 11], [11])])
def bn.B4 : List Nat := [0, 1, 0, 4, 12, 31, 63, 0, 0, 256, 896, 2047, 4095]
theorem bn.qC : fG .any (opsOf Try.f127 4) = bn.T4 := by kernel_rfl
theorem bn.oU : fK bn.T4.2 bn.B4 = true := by kernel_rfl
theorem bn.calls (k : Nat) : ∀ (A0 : Option Addr) (c0 : Nat) (l0 : List (aA)) (a1 : Int) (r : ByteArray) (w : World) (hr0 : Kd.C bQ w A0 l0.length l0) (hc0 : l0.length ≤ c0) (h : bn.f k l0 a1 = some r),
  Calls Try.prog 127 #[.slice A0 l0.length c0, .int .i64 a1] w fun e w' => e = .returned (.string r) ∧ Below w.heap.size w w' := by
 induction k using Nat.strongRecOn with
 | _ k ih =>
 intro A0 c0 l0 a1 r w hr0 hc0 h
 cases k with
 | zero => exact absurd h (by simp [bn.f])
 | succ k =>
 simp only [bn.f] at h
 have hu110 := Try.underlying110
 have HR0 := aj.mk hr0
 have HC0 := aj.mk hc0
 clear hr0 hc0
 have HB := aj.mk (Below.refl w.heap.size w)
 have H : (if 0 ≤ a1 then (if a1 < (l0.length : Int) then (if ((ah l0 a1).f0) = 1 then (some ((ah l0 a1).f1)) else (if 0 ≤ ((ah l0 a1).f0) then (if ((ah l0 a1).f0) ≤ (wrap64 (((ah l0 a1).f0) + 1)) then (if (wrap64 (((ah l0 a1).f0) + 1)) ≤ 10 then (if ((⟨#[32, 32, 98, 109, 106, 105, 104, 110, 116, 100]⟩ : ByteArray).extract (((ah l0 a1).f0) : Int).toNat ((wrap64 (((ah l0 a1).f0) + 1)) : Int).toNat).size + 1 ≤ 9223372036854775807 then ((bn.f k l0 ((ah l0 a1).f2)).bind fun t160 => (if (((⟨#[32, 32, 98, 109, 106, 105, 104, 110, 116, 100]⟩ : ByteArray).extract (((ah l0 a1).f0) : Int).toNat ((wrap64 (((ah l0 a1).f0) + 1)) : Int).toNat) ++ (⟨#[40]⟩ : ByteArray)).size + t160.size ≤ 9223372036854775807 then (if ((ah l0 a1).f0) = 4 then (if ((((⟨#[32, 32, 98, 109, 106, 105, 104, 110, 116, 100]⟩ : ByteArray).extract (((ah l0 a1).f0) : Int).toNat ((wrap64 (((ah l0 a1).f0) + 1)) : Int).toNat) ++ (⟨#[40]⟩ : ByteArray)) ++ t160).size + 1 ≤ 9223372036854775807 then ((bn.f k l0 ((ah l0 a1).f3)).bind fun t161 => (if (((((⟨#[32, 32, 98, 109, 106, 105, 104, 110, 116, 100]⟩ : ByteArray).extract (((ah l0 a1).f0) : Int).toNat ((wrap64 (((ah l0 a1).f0) + 1)) : Int).toNat) ++ (⟨#[40]⟩ : ByteArray)) ++ t160) ++ (⟨#[44]⟩ : ByteArray)).size + t161.size ≤ 9223372036854775807 then (if ((((((⟨#[32, 32, 98, 109, 106, 105, 104, 110, 116, 100]⟩ : ByteArray).extract (((ah l0 a1).f0) : Int).toNat ((wrap64 (((ah l0 a1).f0) + 1)) : Int).toNat) ++ (⟨#[40]⟩ : ByteArray)) ++ t160) ++ (⟨#[44]⟩ : ByteArray)) ++ t161).size + 1 ≤ 9223372036854775807 then (some (((((((⟨#[32, 32, 98, 109, 106, 105, 104, 110, 116, 100]⟩ : ByteArray).extract (((ah l0 a1).f0) : Int).toNat ((wrap64 (((ah l0 a1).f0) + 1)) : Int).toNat) ++ (⟨#[40]⟩ : ByteArray)) ++ t160) ++ (⟨#[44]⟩ : ByteArray)) ++ t161) ++ (⟨#[41]⟩ : ByteArray))) else (none)) else (none))) else (none)) else (if ((ah l0 a1).f0) = 5 then (if ((((⟨#[32, 32, 98, 109, 106, 105, 104, 110, 116, 100]⟩ : ByteArray).extract (((ah l0 a1).f0) : Int).toNat ((wrap64 (((ah l0 a1).f0) + 1)) : Int).toNat) ++ (⟨#[40]⟩ : ByteArray)) ++ t160).size + 1 ≤ 9223372036854775807 then ((bn.f k l0 ((ah l0 a1).f3)).bind fun t162 => (if (((((⟨#[32, 32, 98, 109, 106, 105, 104, 110, 116, 100]⟩ : ByteArray).extract (((ah l0 a1).f0) : Int).toNat ((wrap64 (((ah l0 a1).f0) + 1)) : Int).toNat) ++ (⟨#[40]⟩ : ByteArray)) ++ t160) ++ (⟨#[44]⟩ : ByteArray)).size + t162.size ≤ 9223372036854775807 then (if ((((((⟨#[32, 32, 98, 109, 106, 105, 104, 110, 116, 100]⟩ : ByteArray).extract (((ah l0 a1).f0) : Int).toNat ((wrap64 (((ah l0 a1).f0) + 1)) : Int).toNat) ++ (⟨#[40]⟩ : ByteArray)) ++ t160) ++ (⟨#[44]⟩ : ByteArray)) ++ t162).size + 1 ≤ 9223372036854775807 then (some (((((((⟨#[32, 32, 98, 109, 106, 105, 104, 110, 116, 100]⟩ : ByteArray).extract (((ah l0 a1).f0) : Int).toNat ((wrap64 (((ah l0 a1).f0) + 1)) : Int).toNat) ++ (⟨#[40]⟩ : ByteArray)) ++ t160) ++ (⟨#[44]⟩ : ByteArray)) ++ t162) ++ (⟨#[41]⟩ : ByteArray))) else (none)) else (none))) else (none)) else (if ((((⟨#[32, 32, 98, 109, 106, 105, 104, 110, 116, 100]⟩ : ByteArray).extract (((ah l0 a1).f0) : Int).toNat ((wrap64 (((ah l0 a1).f0) + 1)) : Int).toNat) ++ (⟨#[40]⟩ : ByteArray)) ++ t160).size + 1 ≤ 9223372036854775807 then (some (((((⟨#[32, 32, 98, 109, 106, 105, 104, 110, 116, 100]⟩ : ByteArray).extract (((ah l0 a1).f0) : Int).toNat ((wrap64 (((ah l0 a1).f0) + 1)) : Int).toNat) ++ (⟨#[40]⟩ : ByteArray)) ++ t160) ++ (⟨#[41]⟩ : ByteArray))) else (none)))) else (none))) else (none)) else (none)) else (none)) else (none))) else (none)) else (none)) = some r := h
 clear h
 replace H := ifN H; obtain ⟨c3b0, H⟩ := H
 replace H := ifN H; obtain ⟨c4b0, H⟩ := H
 have p158 : 0 ≤ (a1 : Int) := OD
 have q158 : a1 < (l0.length : Int) := OD
 obtain ⟨ad158, e158, hx158_0, hx158_1, hx158_2, hx158_3⟩ := dD HR0.out a1 p158 q158
 cases e158
 replace p158 := eq_true p158
 replace q158 := eq_true q158
 replace H := aj.mk H
 go_enter Try.func127, Try.ntmps127
 go_wp2_with (first | ((with_reducible refine bR (N := 5) rfl ?_); refine fC (N := 5) (cs := #[.int .i64 0, .string (⟨#[]⟩ : ByteArray), .int .i64 0, .int .i64 0]) (t := 110) ?_; intro gb159 hg w9000 hbox hb; have BK159 := aj.mk hbox; have GW159 := SZ (w := w) hg; have GE159 := GW159; replace HB := BS (w := w) hb; clear hb hbox hg; obtain ⟨hcz9001_0, hcz9001_1, hcz9001_2, hcz9001_3, hfz9001_0, hfz9001_1, hfz9001_2, hfz9001_3⟩ := cz4 BK159.out; refine dS ?_))
 refine Hide.mk ?_
 replace H := H.out
 replace H := ifE H; rcases H with ⟨c5b0, c5b1, H⟩ | ⟨c5, c5b0, c5b1, H⟩
 ·obtain rfl := Option.some.inj H
  try go_wp2
  go_ret
  exact ⟨EWW, BL⟩
 ·replace H := ifP H; obtain ⟨c8, H⟩ := H
  have c8b0 := eq_true c8
  have c8b1 : decide (0 ≤ ((ah l0 a1).f0)) = true := decide_eq_true c8
  clear c8
  replace H := ifP H; obtain ⟨c9, H⟩ := H
  have c9b0 := eq_true c9
  have c9b1 : decide (((ah l0 a1).f0) ≤ (wrap64 (((ah l0 a1).f0) + 1))) = true := decide_eq_true c9
  replace H := ifP H; obtain ⟨c10, H⟩ := H
  have c10b0 := eq_true c10
  have c10b1 : decide ((wrap64 (((ah l0 a1).f0) + 1)) ≤ 10) = true := decide_eq_true c10
  replace H := ifP H; obtain ⟨c11, H⟩ := H
  have c11b0 := eq_true c11
  have c11b1 : decide (((⟨#[32, 32, 98, 109, 106, 105, 104, 110, 116, 100]⟩ : ByteArray).extract (((ah l0 a1).f0) : Int).toNat ((wrap64 (((ah l0 a1).f0) + 1)) : Int).toNat).size + 1 ≤ 9223372036854775807) = true := decide_eq_true c11
  have c11z : (9223372036854775807 < (wrap64 ((ah l0 a1).f0 + 1)).toNat - ((ah l0 a1).f0).toNat + 1) = False := eq_false (by have hz_ : wrap64 ((ah l0 a1).f0 + 1) ≤ 10 := OD; have hs_ : ((⟨#[32, 32, 98, 109, 106, 105, 104, 110, 116, 100]⟩ : ByteArray).extract (((ah l0 a1).f0) : Int).toNat ((wrap64 (((ah l0 a1).f0) + 1)) : Int).toNat).size = (wrap64 ((ah l0 a1).f0 + 1)).toNat - ((ah l0 a1).f0).toNat := (by rw [ByteArray.size_extract]; show min _ 10 - _ = _; omega); have h_ := of_decide_eq_true c11b1; have e1_ : (⟨#[40]⟩ : ByteArray).size = 1 := rfl; have e2_ : (⟨#[44]⟩ : ByteArray).size = 1 := rfl; simp only [ByteArray.size_append, hs_] at h_; omega)
  try have c11b2 : (9223372036854775807 < ((⟨#[32, 32, 98, 109, 106, 105, 104, 110, 116, 100]⟩ : ByteArray).extract (((ah l0 a1).f0) : Int).toNat ((wrap64 (((ah l0 a1).f0) + 1)) : Int).toNat).size + 1) = False := eq_false (Nat.not_lt.2 c11)
  replace H := be H; obtain ⟨t160, A12, H⟩ := H
  replace H := ifP H; obtain ⟨c13, H⟩ := H
  have c13b0 := eq_true c13
  have c13b1 : decide ((((⟨#[32, 32, 98, 109, 106, 105, 104, 110, 116, 100]⟩ : ByteArray).extract (((ah l0 a1).f0) : Int).toNat ((wrap64 (((ah l0 a1).f0) + 1)) : Int).toNat) ++ (⟨#[40]⟩ : ByteArray)).size + t160.size ≤ 9223372036854775807) = true := decide_eq_true c13
  have c13z : (9223372036854775807 < (wrap64 ((ah l0 a1).f0 + 1)).toNat - ((ah l0 a1).f0).toNat + 1 + t160.size) = False := eq_false (by have hz_ : wrap64 ((ah l0 a1).f0 + 1) ≤ 10 := OD; have hs_ : ((⟨#[32, 32, 98, 109, 106, 105, 104, 110, 116, 100]⟩ : ByteArray).extract (((ah l0 a1).f0) : Int).toNat ((wrap64 (((ah l0 a1).f0) + 1)) : Int).toNat).size = (wrap64 ((ah l0 a1).f0 + 1)).toNat - ((ah l0 a1).f0).toNat := (by rw [ByteArray.size_extract]; show min _ 10 - _ = _; omega); have h_ := of_decide_eq_true c13b1; have e1_ : (⟨#[40]⟩ : ByteArray).size = 1 := rfl; have e2_ : (⟨#[44]⟩ : ByteArray).size = 1 := rfl; simp only [ByteArray.size_append, hs_] at h_; omega)
  try have c13b2 : (9223372036854775807 < (((⟨#[32, 32, 98, 109, 106, 105, 104, 110, 116, 100]⟩ : ByteArray).extract (((ah l0 a1).f0) : Int).toNat ((wrap64 (((ah l0 a1).f0) + 1)) : Int).toNat) ++ (⟨#[40]⟩ : ByteArray)).size + t160.size) = False := eq_false (Nat.not_lt.2 c13)
  replace H := aj.mk H
  try go_wp2
  have n0_ : aj (((((w9000.setCell ⟨gb159, 0, none⟩ (.int .i64 ((ah l0 a1).f0))).setCell ⟨gb159, 1, none⟩ (.string ((ah l0 a1).f1))).setCell ⟨gb159, 2, none⟩ (.int .i64 ((ah l0 a1).f2))).setCell ⟨gb159, 3, none⟩ (.int .i64 ((ah l0 a1).f3))).heap[gb159]? = some (.cells #[.int .i64 ((ah l0 a1).f0), .string ((ah l0 a1).f1), .int .i64 ((ah l0 a1).f2), .int .i64 ((ah l0 a1).f3)] 110 (0, 0))) := ⟨by (with_reducible repeat (first | refine av ?_ _ | refine ay ?_ | refine au ?_ _)); refine aM (cs := #[.int .i64 ((ah l0 a1).f0), .string ((ah l0 a1).f1), .int .i64 ((ah l0 a1).f2), .int .i64 0]) ?_ 3 _ rfl; (with_reducible repeat (first | refine av ?_ _ | refine ay ?_ | refine au ?_ _)); refine aM (cs := #[.int .i64 ((ah l0 a1).f0), .string ((ah l0 a1).f1), .int .i64 0, .int .i64 0]) ?_ 2 _ rfl; (with_reducible repeat (first | refine av ?_ _ | refine ay ?_ | refine au ?_ _)); refine aM (cs := #[.int .i64 ((ah l0 a1).f0), .string (⟨#[]⟩ : ByteArray), .int .i64 0, .int .i64 0]) ?_ 1 _ rfl; (with_reducible repeat (first | refine av ?_ _ | refine ay ?_ | refine au ?_ _)); refine aM (cs := #[.int .i64 0, .string (⟨#[]⟩ : ByteArray), .int .i64 0, .int .i64 0]) ?_ 0 _ rfl; (with_reducible repeat (first | refine av ?_ _ | refine ay ?_ | refine au ?_ _)); exact BK159.out⟩
  have n1_ : aj (Below w.heap.size w ((((w9000.setCell ⟨gb159, 0, none⟩ (.int .i64 ((ah l0 a1).f0))).setCell ⟨gb159, 1, none⟩ (.string ((ah l0 a1).f1))).setCell ⟨gb159, 2, none⟩ (.int .i64 ((ah l0 a1).f2))).setCell ⟨gb159, 3, none⟩ (.int .i64 ((ah l0 a1).f3)))) := ⟨BL⟩
  (try clear BK159)
  (try clear HB)
  generalize ((((w9000.setCell ⟨gb159, 0, none⟩ (.int .i64 ((ah l0 a1).f0))).setCell ⟨gb159, 1, none⟩ (.string ((ah l0 a1).f1))).setCell ⟨gb159, 2, none⟩ (.int .i64 ((ah l0 a1).f2))).setCell ⟨gb159, 3, none⟩ (.int .i64 ((ah l0 a1).f3))) = w9002 at n0_ n1_ ⊢
  have BK159 := n0_
  have HB := n1_
  clear n0_ n1_
  replace BK159 := aj.mk (ay BK159.out)
  replace HB := aj.mk (dM HB.out)
  refine fQ (n := 13) (S := fun w' => w'.cell? ⟨gb159, 0, none⟩ = some (.int .i64 ((ah l0 a1).f0)) ∧ w'.cell? ⟨gb159, 1, none⟩ = some (.string ((ah l0 a1).f1)) ∧ w'.cell? ⟨gb159, 2, none⟩ = some (.int .i64 ((ah l0 a1).f2)) ∧ w'.cell? ⟨gb159, 3, none⟩ = some (.int .i64 ((ah l0 a1).f3))) (ds := []) #[F,F,F,F,F,F,F,F,F,F,F,F,F] (by kernel_rfl) rfl rfl ⟨(bC BK159.out 0).trans rfl, (bC BK159.out 1).trans rfl, (bC BK159.out 2).trans rfl, (bC BK159.out 3).trans rfl⟩ (fun hHeld => ?_); refine eP bn.qC bn.oU (fun HT_ HW_ => ?_)
  generalize w9002.drew = w9003 at BK159 HB hHeld ⊢
  refine puS (i := 0) (N := some 16) #[T,F,F,F,F,F,F,F,F,F,F,F,F] (bf HT_.out (by kernel_rfl)) ?_
  refine puS (i := 2) (N := some 18) #[T,F,T,F,F,F,F,F,F,F,F,F,F] (bf HT_.out (by kernel_rfl)) ?_
  refine puS (i := 7) (N := some 23) #[T,F,T,F,F,F,F,T,F,F,F,F,F] (bf HT_.out (by kernel_rfl)) ?_
  refine puS (i := 8) (N := some 24) #[T,F,T,F,F,F,F,T,T,F,F,F,F] (bf HT_.out (by kernel_rfl)) ?_
  refine taS (i := 1) (N := some 17) #[T,T,T,F,F,F,F,T,T,F,F,F,F] (dw HT_.out HW_.out (by kernel_rfl)) hHeld ?_
  refine taS (i := 3) (N := some 19) #[T,T,T,T,F,F,F,T,T,F,F,F,F] (dw HT_.out HW_.out (by kernel_rfl)) hHeld ?_
  refine puS (i := 4) (N := some 20) #[T,T,T,T,T,F,F,T,T,F,F,F,F] (bf HT_.out (by kernel_rfl)) ?_
  refine puS (i := 5) (N := some 21) #[T,T,T,T,T,T,F,T,T,F,F,F,F] (bf HT_.out (by kernel_rfl)) ?_
  refine puS (i := 6) (N := some 22) #[T,T,T,T,T,T,T,T,T,F,F,F,F] (bf HT_.out (by kernel_rfl)) ?_
  refine taS (i := 9) (N := some 25) #[T,T,T,T,T,T,T,T,T,T,F,F,F] (dw HT_.out HW_.out (by kernel_rfl)) hHeld ?_
  refine jv (i := 10) (N := some 26) #[T,T,T,T,T,T,T,T,T,T,T,F,F] rfl rfl (gu HT_.out (by kernel_rfl)) (by decide) (fun K hK => ?_)
  refine jU Try.func127 #[.slice (some ad158) l0.length c0, .int .i64 ((ah l0 a1).f2)] ?_
  with_reducible refine (ih k (by omega) _ _ l0 ((ah l0 a1).f2) t160 _ ?side1 ?side2 A12.out).mono ?_
  (case side1 => exact CB HR0)
  (case side2 => exact HC0.out)
  rintro e w9004 ⟨rfl, hb⟩
  refine ⟨_, rfl, ?_⟩
  replace BK159 := KB BK159 hb
  replace HB := BS (w := w) hb
  (try clear hb)
  refine hK.out _ _ ⟨(bC BK159.out 0).trans rfl, (bC BK159.out 1).trans rfl, (bC BK159.out 2).trans rfl, (bC BK159.out 3).trans rfl⟩ (fun hHeld => ?_)
  clear hK K
  refine nrm (some 26) ?_
  refine puS (i := 11) (N := some 27) #[T,T,T,T,T,T,T,T,T,T,T,T,F] (bf HT_.out (by kernel_rfl)) ?_
  refine puS (i := 12) (N := some 6) #[T,T,T,T,T,T,T,T,T,T,T,T,T] (bf HT_.out (by kernel_rfl)) ?_
  refine gV (fJ HT_.out (by kernel_rfl)) ?_
  obtain ⟨hcz9005_0, hcz9005_1, hcz9005_2, hcz9005_3, hfz9005_0, hfz9005_1, hfz9005_2, hfz9005_3⟩ := cz4 BK159.out
  replace H := H.out
  replace H := ifE H; rcases H with ⟨c14b0, c14b1, H⟩ | ⟨c14, c14b0, c14b1, H⟩
  ·replace H := ifP H; obtain ⟨c15, H⟩ := H
   have c15b0 := eq_true c15
   have c15b1 : decide (((((⟨#[32, 32, 98, 109, 106, 105, 104, 110, 116, 100]⟩ : ByteArray).extract (((ah l0 a1).f0) : Int).toNat ((wrap64 (((ah l0 a1).f0) + 1)) : Int).toNat) ++ (⟨#[40]⟩ : ByteArray)) ++ t160).size + 1 ≤ 9223372036854775807) = true := decide_eq_true c15
   have c15z : (9223372036854775807 < (wrap64 ((ah l0 a1).f0 + 1)).toNat - ((ah l0 a1).f0).toNat + 1 + t160.size + 1) = False := eq_false (by have hz_ : wrap64 ((ah l0 a1).f0 + 1) ≤ 10 := OD; have hs_ : ((⟨#[32, 32, 98, 109, 106, 105, 104, 110, 116, 100]⟩ : ByteArray).extract (((ah l0 a1).f0) : Int).toNat ((wrap64 (((ah l0 a1).f0) + 1)) : Int).toNat).size = (wrap64 ((ah l0 a1).f0 + 1)).toNat - ((ah l0 a1).f0).toNat := (by rw [ByteArray.size_extract]; show min _ 10 - _ = _; omega); have h_ := of_decide_eq_true c15b1; have e1_ : (⟨#[40]⟩ : ByteArray).size = 1 := rfl; have e2_ : (⟨#[44]⟩ : ByteArray).size = 1 := rfl; simp only [ByteArray.size_append, hs_] at h_; omega)
   try have c15b2 : (9223372036854775807 < ((((⟨#[32, 32, 98, 109, 106, 105, 104, 110, 116, 100]⟩ : ByteArray).extract (((ah l0 a1).f0) : Int).toNat ((wrap64 (((ah l0 a1).f0) + 1)) : Int).toNat) ++ (⟨#[40]⟩ : ByteArray)) ++ t160).size + 1) = False := eq_false (Nat.not_lt.2 c15)
   replace H := be H; obtain ⟨t161, A16, H⟩ := H
   replace H := ifP H; obtain ⟨c17, H⟩ := H
   have c17b0 := eq_true c17
   have c17b1 : decide ((((((⟨#[32, 32, 98, 109, 106, 105, 104, 110, 116, 100]⟩ : ByteArray).extract (((ah l0 a1).f0) : Int).toNat ((wrap64 (((ah l0 a1).f0) + 1)) : Int).toNat) ++ (⟨#[40]⟩ : ByteArray)) ++ t160) ++ (⟨#[44]⟩ : ByteArray)).size + t161.size ≤ 9223372036854775807) = true := decide_eq_true c17
   have c17z : (9223372036854775807 < (wrap64 ((ah l0 a1).f0 + 1)).toNat - ((ah l0 a1).f0).toNat + 1 + t160.size + 1 + t161.size) = False := eq_false (by have hz_ : wrap64 ((ah l0 a1).f0 + 1) ≤ 10 := OD; have hs_ : ((⟨#[32, 32, 98, 109, 106, 105, 104, 110, 116, 100]⟩ : ByteArray).extract (((ah l0 a1).f0) : Int).toNat ((wrap64 (((ah l0 a1).f0) + 1)) : Int).toNat).size = (wrap64 ((ah l0 a1).f0 + 1)).toNat - ((ah l0 a1).f0).toNat := (by rw [ByteArray.size_extract]; show min _ 10 - _ = _; omega); have h_ := of_decide_eq_true c17b1; have e1_ : (⟨#[40]⟩ : ByteArray).size = 1 := rfl; have e2_ : (⟨#[44]⟩ : ByteArray).size = 1 := rfl; simp only [ByteArray.size_append, hs_] at h_; omega)
   try have c17b2 : (9223372036854775807 < (((((⟨#[32, 32, 98, 109, 106, 105, 104, 110, 116, 100]⟩ : ByteArray).extract (((ah l0 a1).f0) : Int).toNat ((wrap64 (((ah l0 a1).f0) + 1)) : Int).toNat) ++ (⟨#[40]⟩ : ByteArray)) ++ t160) ++ (⟨#[44]⟩ : ByteArray)).size + t161.size) = False := eq_false (Nat.not_lt.2 c17)
   replace H := ifP H; obtain ⟨c18, H⟩ := H
   have c18b0 := eq_true c18
   have c18b1 : decide (((((((⟨#[32, 32, 98, 109, 106, 105, 104, 110, 116, 100]⟩ : ByteArray).extract (((ah l0 a1).f0) : Int).toNat ((wrap64 (((ah l0 a1).f0) + 1)) : Int).toNat) ++ (⟨#[40]⟩ : ByteArray)) ++ t160) ++ (⟨#[44]⟩ : ByteArray)) ++ t161).size + 1 ≤ 9223372036854775807) = true := decide_eq_true c18
   have c18z : (9223372036854775807 < (wrap64 ((ah l0 a1).f0 + 1)).toNat - ((ah l0 a1).f0).toNat + 1 + t160.size + 1 + t161.size + 1) = False := eq_false (by have hz_ : wrap64 ((ah l0 a1).f0 + 1) ≤ 10 := OD; have hs_ : ((⟨#[32, 32, 98, 109, 106, 105, 104, 110, 116, 100]⟩ : ByteArray).extract (((ah l0 a1).f0) : Int).toNat ((wrap64 (((ah l0 a1).f0) + 1)) : Int).toNat).size = (wrap64 ((ah l0 a1).f0 + 1)).toNat - ((ah l0 a1).f0).toNat := (by rw [ByteArray.size_extract]; show min _ 10 - _ = _; omega); have h_ := of_decide_eq_true c18b1; have e1_ : (⟨#[40]⟩ : ByteArray).size = 1 := rfl; have e2_ : (⟨#[44]⟩ : ByteArray).size = 1 := rfl; simp only [ByteArray.size_append, hs_] at h_; omega)
   try have c18b2 : (9223372036854775807 < ((((((⟨#[32, 32, 98, 109, 106, 105, 104, 110, 116, 100]⟩ : ByteArray).extract (((ah l0 a1).f0) : Int).toNat ((wrap64 (((ah l0 a1).f0) + 1)) : Int).toNat) ++ (⟨#[40]⟩ : ByteArray)) ++ t160) ++ (⟨#[44]⟩ : ByteArray)) ++ t161).size + 1) = False := eq_false (Nat.not_lt.2 c18)
   obtain rfl := Option.some.inj H
   try go_wp2_with (first | ((with_reducible refine aV (f := 127) rfl ?_); refine dF (some 41) Try.func127 #[.slice (some ad158) l0.length c0, .int .i64 ((ah l0 a1).f3)] ?_; (with_reducible refine (ih k (by omega) _ _ l0 ((ah l0 a1).f3) t161 _ ?side1 ?side2 A16.out).mono ?_); (case side1 => exact CB HR0); (case side2 => exact HC0.out); rintro e w9006 ⟨rfl, hb⟩; refine ⟨_, rfl, ?_⟩; replace BK159 := KB BK159 hb; replace HB := BS (w := w) hb; (try clear hb)))
   go_ret
   exact ⟨EWW, BL⟩
  ·replace H := ifE H; rcases H with ⟨c26b0, c26b1, H⟩ | ⟨c26, c26b0, c26b1, H⟩
   ·replace H := ifP H; obtain ⟨c27, H⟩ := H
    have c27b0 := eq_true c27
    have c27b1 : decide (((((⟨#[32, 32, 98, 109, 106, 105, 104, 110, 116, 100]⟩ : ByteArray).extract (((ah l0 a1).f0) : Int).toNat ((wrap64 (((ah l0 a1).f0) + 1)) : Int).toNat) ++ (⟨#[40]⟩ : ByteArray)) ++ t160).size + 1 ≤ 9223372036854775807) = true := decide_eq_true c27
    have c27z : (9223372036854775807 < (wrap64 ((ah l0 a1).f0 + 1)).toNat - ((ah l0 a1).f0).toNat + 1 + t160.size + 1) = False := eq_false (by have hz_ : wrap64 ((ah l0 a1).f0 + 1) ≤ 10 := OD; have hs_ : ((⟨#[32, 32, 98, 109, 106, 105, 104, 110, 116, 100]⟩ : ByteArray).extract (((ah l0 a1).f0) : Int).toNat ((wrap64 (((ah l0 a1).f0) + 1)) : Int).toNat).size = (wrap64 ((ah l0 a1).f0 + 1)).toNat - ((ah l0 a1).f0).toNat := (by rw [ByteArray.size_extract]; show min _ 10 - _ = _; omega); have h_ := of_decide_eq_true c27b1; have e1_ : (⟨#[40]⟩ : ByteArray).size = 1 := rfl; have e2_ : (⟨#[44]⟩ : ByteArray).size = 1 := rfl; simp only [ByteArray.size_append, hs_] at h_; omega)
    try have c27b2 : (9223372036854775807 < ((((⟨#[32, 32, 98, 109, 106, 105, 104, 110, 116, 100]⟩ : ByteArray).extract (((ah l0 a1).f0) : Int).toNat ((wrap64 (((ah l0 a1).f0) + 1)) : Int).toNat) ++ (⟨#[40]⟩ : ByteArray)) ++ t160).size + 1) = False := eq_false (Nat.not_lt.2 c27)
    replace H := be H; obtain ⟨t162, A28, H⟩ := H
    replace H := ifP H; obtain ⟨c29, H⟩ := H
    have c29b0 := eq_true c29
    have c29b1 : decide ((((((⟨#[32, 32, 98, 109, 106, 105, 104, 110, 116, 100]⟩ : ByteArray).extract (((ah l0 a1).f0) : Int).toNat ((wrap64 (((ah l0 a1).f0) + 1)) : Int).toNat) ++ (⟨#[40]⟩ : ByteArray)) ++ t160) ++ (⟨#[44]⟩ : ByteArray)).size + t162.size ≤ 9223372036854775807) = true := decide_eq_true c29
    have c29z : (9223372036854775807 < (wrap64 ((ah l0 a1).f0 + 1)).toNat - ((ah l0 a1).f0).toNat + 1 + t160.size + 1 + t162.size) = False := eq_false (by have hz_ : wrap64 ((ah l0 a1).f0 + 1) ≤ 10 := OD; have hs_ : ((⟨#[32, 32, 98, 109, 106, 105, 104, 110, 116, 100]⟩ : ByteArray).extract (((ah l0 a1).f0) : Int).toNat ((wrap64 (((ah l0 a1).f0) + 1)) : Int).toNat).size = (wrap64 ((ah l0 a1).f0 + 1)).toNat - ((ah l0 a1).f0).toNat := (by rw [ByteArray.size_extract]; show min _ 10 - _ = _; omega); have h_ := of_decide_eq_true c29b1; have e1_ : (⟨#[40]⟩ : ByteArray).size = 1 := rfl; have e2_ : (⟨#[44]⟩ : ByteArray).size = 1 := rfl; simp only [ByteArray.size_append, hs_] at h_; omega)
    try have c29b2 : (9223372036854775807 < (((((⟨#[32, 32, 98, 109, 106, 105, 104, 110, 116, 100]⟩ : ByteArray).extract (((ah l0 a1).f0) : Int).toNat ((wrap64 (((ah l0 a1).f0) + 1)) : Int).toNat) ++ (⟨#[40]⟩ : ByteArray)) ++ t160) ++ (⟨#[44]⟩ : ByteArray)).size + t162.size) = False := eq_false (Nat.not_lt.2 c29)
    replace H := ifP H; obtain ⟨c30, H⟩ := H
    have c30b0 := eq_true c30
    have c30b1 : decide (((((((⟨#[32, 32, 98, 109, 106, 105, 104, 110, 116, 100]⟩ : ByteArray).extract (((ah l0 a1).f0) : Int).toNat ((wrap64 (((ah l0 a1).f0) + 1)) : Int).toNat) ++ (⟨#[40]⟩ : ByteArray)) ++ t160) ++ (⟨#[44]⟩ : ByteArray)) ++ t162).size + 1 ≤ 9223372036854775807) = true := decide_eq_true c30
    have c30z : (9223372036854775807 < (wrap64 ((ah l0 a1).f0 + 1)).toNat - ((ah l0 a1).f0).toNat + 1 + t160.size + 1 + t162.size + 1) = False := eq_false (by have hz_ : wrap64 ((ah l0 a1).f0 + 1) ≤ 10 := OD; have hs_ : ((⟨#[32, 32, 98, 109, 106, 105, 104, 110, 116, 100]⟩ : ByteArray).extract (((ah l0 a1).f0) : Int).toNat ((wrap64 (((ah l0 a1).f0) + 1)) : Int).toNat).size = (wrap64 ((ah l0 a1).f0 + 1)).toNat - ((ah l0 a1).f0).toNat := (by rw [ByteArray.size_extract]; show min _ 10 - _ = _; omega); have h_ := of_decide_eq_true c30b1; have e1_ : (⟨#[40]⟩ : ByteArray).size = 1 := rfl; have e2_ : (⟨#[44]⟩ : ByteArray).size = 1 := rfl; simp only [ByteArray.size_append, hs_] at h_; omega)
    try have c30b2 : (9223372036854775807 < ((((((⟨#[32, 32, 98, 109, 106, 105, 104, 110, 116, 100]⟩ : ByteArray).extract (((ah l0 a1).f0) : Int).toNat ((wrap64 (((ah l0 a1).f0) + 1)) : Int).toNat) ++ (⟨#[40]⟩ : ByteArray)) ++ t160) ++ (⟨#[44]⟩ : ByteArray)) ++ t162).size + 1) = False := eq_false (Nat.not_lt.2 c30)
    obtain rfl := Option.some.inj H
    try go_wp2_with (first | ((with_reducible refine aV (f := 127) rfl ?_); refine dF (some 41) Try.func127 #[.slice (some ad158) l0.length c0, .int .i64 ((ah l0 a1).f3)] ?_; (with_reducible refine (ih k (by omega) _ _ l0 ((ah l0 a1).f3) t162 _ ?side1 ?side2 A28.out).mono ?_); (case side1 => exact CB HR0); (case side2 => exact HC0.out); rintro e w9006 ⟨rfl, hb⟩; refine ⟨_, rfl, ?_⟩; replace BK159 := KB BK159 hb; replace HB := BS (w := w) hb; (try clear hb)))
    go_ret
    exact ⟨EWW, BL⟩
   ·replace H := ifP H; obtain ⟨c38, H⟩ := H
    have c38b0 := eq_true c38
    have c38b1 : decide (((((⟨#[32, 32, 98, 109, 106, 105, 104, 110, 116, 100]⟩ : ByteArray).extract (((ah l0 a1).f0) : Int).toNat ((wrap64 (((ah l0 a1).f0) + 1)) : Int).toNat) ++ (⟨#[40]⟩ : ByteArray)) ++ t160).size + 1 ≤ 9223372036854775807) = true := decide_eq_true c38
    have c38z : (9223372036854775807 < (wrap64 ((ah l0 a1).f0 + 1)).toNat - ((ah l0 a1).f0).toNat + 1 + t160.size + 1) = False := eq_false (by have hz_ : wrap64 ((ah l0 a1).f0 + 1) ≤ 10 := OD; have hs_ : ((⟨#[32, 32, 98, 109, 106, 105, 104, 110, 116, 100]⟩ : ByteArray).extract (((ah l0 a1).f0) : Int).toNat ((wrap64 (((ah l0 a1).f0) + 1)) : Int).toNat).size = (wrap64 ((ah l0 a1).f0 + 1)).toNat - ((ah l0 a1).f0).toNat := (by rw [ByteArray.size_extract]; show min _ 10 - _ = _; omega); have h_ := of_decide_eq_true c38b1; have e1_ : (⟨#[40]⟩ : ByteArray).size = 1 := rfl; have e2_ : (⟨#[44]⟩ : ByteArray).size = 1 := rfl; simp only [ByteArray.size_append, hs_] at h_; omega)
    try have c38b2 : (9223372036854775807 < ((((⟨#[32, 32, 98, 109, 106, 105, 104, 110, 116, 100]⟩ : ByteArray).extract (((ah l0 a1).f0) : Int).toNat ((wrap64 (((ah l0 a1).f0) + 1)) : Int).toNat) ++ (⟨#[40]⟩ : ByteArray)) ++ t160).size + 1) = False := eq_false (Nat.not_lt.2 c38)
    obtain rfl := Option.some.inj H
    try go_wp2
    go_ret
    exact ⟨EWW, BL⟩
def cZ.f (k : Nat) (l0 : List (aA)) : Option (ByteArray) := (aR.f k l0).bind fun t163 => (if t163 = true then ((aJ.f k l0).bind fun t164 => (if t164 > 80 then (some (⟨#[]⟩ : ByteArray)) else ((bn.f k l0 (wrap64 ((l0.length : Int) - 1))).bind fun t165 => (some t165)))) else (some (⟨#[]⟩ : ByteArray)))
theorem cZ.calls (k : Nat) (A0 : Option Addr) (c0 : Nat) (l0 : List (aA)) (r : ByteArray) (w : World) (hr0 : Kd.C bQ w A0 l0.length l0) (hc0 : l0.length ≤ c0) (h : cZ.f k l0 = some r) :
  Calls Try.prog 77 #[.slice A0 l0.length c0] w fun e w' => e = .returned (.string r) ∧ Below w.heap.size w w' := by
 have HR0 := aj.mk hr0
 have HC0 := aj.mk hc0
 clear hr0 hc0
 have HB := aj.mk (Below.refl w.heap.size w)
 unfold cZ.f at h
 have H := h
 clear h
 replace H := be H; obtain ⟨t163, A2, H⟩ := H
 replace H := aj.mk H
 go_enter Try.func77, Try.ntmps77
 go_wp2_with (first | ((with_reducible refine aV (f := 76) rfl ?_); refine dF (some 4) Try.func76 #[.slice A0 l0.length c0] ?_; (with_reducible refine (aR.calls k _ _ l0 _ _ ?side1 ?side2 A2.out).mono ?_); (case side1 => repeat (first | exact HR0.out | (with_reducible refine Kd.jh ?_ _) | (with_reducible refine Kd.jl ?_ _) | (with_reducible refine Kd.kL ?_))); (case side2 => exact HC0.out); rintro e w9000 ⟨rfl, hb⟩; refine ⟨_, rfl, ?_⟩; replace HB := BS (w := w) hb; (try clear hb); refine dS ?_))
 refine Hide.mk ?_
 replace H := H.out
 replace H := ifB H; rcases H with ⟨rfl, H⟩ | ⟨rfl, H⟩
 ·replace H := be H; obtain ⟨t164, A4, H⟩ := H
  replace H := aj.mk H
  go_wp2_with (first | (go_at_call 126; (with_reducible refine (aJ.calls k _ _ l0 t164 _ ?side1 ?side2 A4.out).mono ?_); (case side1 => exact CB HR0); (case side2 => exact HC0.out); rintro e w9001 ⟨rfl, hb⟩; replace HB := BS (w := w) hb; (try clear hb); refine dS ?_))
  refine Hide.mk ?_
  replace H := H.out
  by_cases c5 : t164 > 80
  ·rw [if_pos c5] at H
   have c5b0 : decide (80 < t164) = true := decide_eq_true c5
   clear c5
   obtain rfl := Option.some.inj H
   try go_wp2
   go_ret
   exact ⟨EWW, BL⟩
  ·rw [if_neg c5] at H
   have c5b0 : decide (80 < t164) = false := decide_eq_false c5
   clear c5
   replace H := be H; obtain ⟨t165, A8, H⟩ := H
   obtain rfl := Option.some.inj H
   try go_wp2_with (first | ((with_reducible refine aV (f := 127) rfl ?_); refine dF (some 15) Try.func127 #[.slice A0 l0.length c0, .int .i64 (wrap64 ((l0.length : Int) - 1))] ?_; (with_reducible refine (bn.calls k _ _ l0 (wrap64 ((l0.length : Int) - 1)) t165 _ ?side1 ?side2 A8.out).mono ?_); (case side1 => exact CB HR0); (case side2 => exact HC0.out); rintro e w9002 ⟨rfl, hb⟩; refine ⟨_, rfl, ?_⟩; replace HB := BS (w := w) hb; (try clear hb)))
   go_ret
   exact ⟨EWW, BL⟩
 ·obtain rfl := Option.some.inj H
  try go_wp2
  go_ret
  exact ⟨EWW, BL⟩
def dB.f (k : Nat) (a0 : ByteArray) : Option ((List (aA)) × Bool) := if (a0.size : Int) > 80 then (some ((([] : List (aA))), false)) else ((ak.f k a0 0 (([] : List (aA)))).bind fun bt172 => (if bt172.2 = (a0.size : Int) then ((aR.f k bt172.1).bind fun t176 => (if t176 = true then ((cZ.f k bt172.1).bind fun t177 => (if t177.toList = a0.toList then (some (bt172.1, true)) else (some ((([] : List (aA))), false)))) else (some ((([] : List (aA))), false)))) else (some ((([] : List (aA))), false))))
theorem dB.calls (k : Nat) (a0 : ByteArray) (r1 : List (aA)) (r2 : Bool) (w : World) (h : dB.f k a0 = some (r1, r2)) :
  Calls Try.prog 30 #[.string a0] w fun e w' => ∃ v0_ : Value, e = .returned (.tuple #[v0_, .bool r2]) ∧ Kd.R bQ 110 w' w.heap.size (fun _ => True) v0_ r1 ∧ Below w.heap.size w w' := by
 have HB := aj.mk (Below.refl w.heap.size w)
 unfold dB.f at h
 have H := h
 clear h
 replace H := aj.mk H
 go_enter Try.func30, Try.ntmps30
 replace H := H.out
 by_cases c2 : (a0.size : Int) > 80
 ·rw [if_pos c2] at H
  have c2b0 : decide (80 < (a0.size : Int)) = true := decide_eq_true c2
  have c2b1 : decide (80 < a0.size) = true := decide_eq_true (by omega)
  clear c2
  obtain ⟨y166, hy166⟩ : ∃ y_ : List (aA), y_ = (([] : List (aA))) := ⟨_, rfl⟩
  replace H : (some (y166, false)) = some (r1, r2) := by first | (rw [hy166]; with_reducible exact H) | (have H2_ := (Option.bind_some _ _).symm.trans H; rw [hy166]; with_reducible exact H2_) | (have H2_ := (Option.bind_some _ _).symm.trans H; with_reducible exact H2_) | with_reducible exact H | (rw [hy166]; exact H) | exact H
  have Ny166 := aj.mk hy166
  clear hy166
  simp only [Option.some.injEq, Prod.mk.injEq] at H
  obtain ⟨rfl, rfl⟩ := H
  try go_wp2_with (first | ((with_reducible refine bR (N := 9) rfl ?_); refine Kd.iR bQ _ 110 ?hg (N := 9) ?hd (xs := ([] : List (aA))) (inner := []) (ok := fun _ => True) (okp := fun _ => True) ?hr ?hp (fun _ hk => hk) trivial (Below.refl _ _) (Nat.le_refl _) (by simp) ?_; (case hd => rfl); (case hg => rfl); (case hr => first | (go_simp; done) | (go_simp; rfl)); (case hp => exact (bT.none _ _)); intro v167 w9000 ho4 hb hg_ hnew_; clear hg_ hnew_; (first | rw [← Ny166.out] at ho4 | (simp only [Int.reduceToNat] at ho4; rw [← Ny166.out] at ho4)); have n0_ := aj.mk (Kd.dV ho4 (aW BL)); replace HB := BS (w := w) hb; have HO168 := n0_; clear n0_; clear hb ho4))
  go_ret2
  exact ⟨_, EWW, (RR HO168), BL⟩
 ·rw [if_neg c2] at H
  have c2b0 : decide (80 < (a0.size : Int)) = false := decide_eq_false c2
  have c2b1 : decide (80 < a0.size) = false := decide_eq_false (by omega)
  clear c2
  obtain ⟨y169, hy169⟩ : ∃ y_ : List (aA), y_ = (([] : List (aA))) := ⟨_, rfl⟩
  replace H : ((ak.f k a0 0 y169).bind fun bt172 => (if bt172.2 = (a0.size : Int) then ((aR.f k bt172.1).bind fun t176 => (if t176 = true then ((cZ.f k bt172.1).bind fun t177 => (if t177.toList = a0.toList then (some (bt172.1, true)) else (some ((([] : List (aA))), false)))) else (some ((([] : List (aA))), false)))) else (some ((([] : List (aA))), false)))) = some (r1, r2) := by first | (rw [hy169]; with_reducible exact H) | (have H2_ := (Option.bind_some _ _).symm.trans H; rw [hy169]; with_reducible exact H2_) | (have H2_ := (Option.bind_some _ _).symm.trans H; with_reducible exact H2_) | with_reducible exact H | (rw [hy169]; exact H) | exact H
  have Ny169 := aj.mk hy169
  clear hy169
  replace H := be H; obtain ⟨⟨t172, t175⟩, A5, H⟩ := H
  dsimp only at H
  replace H := ifE H; rcases H with ⟨c6b0, c6b1, H⟩ | ⟨c6, c6b0, c6b1, H⟩
  ·replace H := be H; obtain ⟨t176, A7, H⟩ := H
   replace H := ifB H; rcases H with ⟨rfl, H⟩ | ⟨rfl, H⟩
   ·replace H := be H; obtain ⟨t177, A9, H⟩ := H
    replace H := ifE H; rcases H with ⟨c10b0, c10b1, H⟩ | ⟨c10, c10b0, c10b1, H⟩
    ·simp only [Option.some.injEq, Prod.mk.injEq] at H
     obtain ⟨rfl, rfl⟩ := H
     try go_wp2_with (first | ((with_reducible refine bR (N := 12) rfl ?_); refine Kd.iR bQ _ 110 ?hg (N := 12) ?hd (xs := ([] : List (aA))) (inner := []) (ok := fun _ => True) (okp := fun _ => True) ?hr ?hp (fun _ hk => hk) trivial (Below.refl _ _) (Nat.le_refl _) (by simp) ?_; (case hd => rfl); (case hg => rfl); (case hr => first | (go_simp; done) | (go_simp; rfl)); (case hp => exact (bT.none _ _)); intro v170 w9000 ho12 hb hg_ hnew_; clear hg_ hnew_; (first | rw [← Ny169.out] at ho12 | (simp only [Int.reduceToNat] at ho12; rw [← Ny169.out] at ho12)); have n0_ := aj.mk (Kd.dV ho12 (aW BL)); replace HB := BS (w := w) hb; have HO171 := n0_; clear n0_; clear hb ho12; obtain ⟨Ao9001, co9001, eo9001⟩ := Kd.bG HO171.out; subst eo9001) | ((with_reducible refine aV (f := 75) rfl ?_); refine dF (some 13) Try.func75 #[.string a0, .int .i64 0, .slice Ao9001 y169.length co9001] ?_; (with_reducible refine (ak.calls k a0 0 (fun k_ => some k_ = (.slice Ao9001 y169.length co9001 : Value).ownBlock) (.slice Ao9001 y169.length co9001) y169 t172 t175 w _ ?side1 ?side2 A5.out).mono ?_); (case side1 => exact BL); (case side2 => exact Kd.bZ rfl HO171.out); rintro e w9002 ⟨v173, rfl, ho0, hb, hkp⟩; refine ⟨_, rfl, ?_⟩; have n0_ := aj.mk (Kd.aQ (ok' := fun k_ => True) ho0 (fun k_ hk_ => trivial)); have n1_ := aj.mk (hb); clear HB HO171; have HO174 := n0_; have HB := n1_; clear n0_ n1_; (try clear hb); (try clear hkp); (try clear ho0); obtain ⟨Ao9003, co9003, eo9003⟩ := Kd.bG HO174.out; subst eo9003) | (go_at_call 76; (with_reducible refine (aR.calls k _ _ t172 _ _ ?side1 ?side2 A7.out).mono ?_); (case side1 => exact CR2 HO174); (case side2 => exact (Kd.bF HO174.out).2.1); rintro e w9004 ⟨rfl, hb⟩; replace HO174 := RB HO174 hb; replace HB := BS (w := w) hb; (try clear hb)) | (go_at_call 77; (with_reducible refine (cZ.calls k _ _ t172 t177 _ ?side1 ?side2 A9.out).mono ?_); (case side1 => exact CR2 HO174); (case side2 => exact (Kd.bF HO174.out).2.1); rintro e w9005 ⟨rfl, hb⟩; replace HO174 := RB HO174 hb; replace HB := BS (w := w) hb; (try clear hb)))
     go_ret2
     exact ⟨_, EWW, (RR HO174), BL⟩
    ·obtain ⟨y178, hy178⟩ : ∃ y_ : List (aA), y_ = (([] : List (aA))) := ⟨_, rfl⟩
     replace H : (some (y178, false)) = some (r1, r2) := by first | (rw [hy178]; with_reducible exact H) | (have H2_ := (Option.bind_some _ _).symm.trans H; rw [hy178]; with_reducible exact H2_) | (have H2_ := (Option.bind_some _ _).symm.trans H; with_reducible exact H2_) | with_reducible exact H | (rw [hy178]; exact H) | exact H
     have Ny178 := aj.mk hy178
     clear hy178
     simp only [Option.some.injEq, Prod.mk.injEq] at H
     obtain ⟨rfl, rfl⟩ := H
     try go_wp2_with (first | ((with_reducible refine bR (N := 12) rfl ?_); refine Kd.iR bQ _ 110 ?hg (N := 12) ?hd (xs := ([] : List (aA))) (inner := []) (ok := fun _ => True) (okp := fun _ => True) ?hr ?hp (fun _ hk => hk) trivial (Below.refl _ _) (Nat.le_refl _) (by simp) ?_; (case hd => rfl); (case hg => rfl); (case hr => first | (go_simp; done) | (go_simp; rfl)); (case hp => exact (bT.none _ _)); intro v170 w9000 ho19 hb hg_ hnew_; clear hg_ hnew_; (first | rw [← Ny169.out] at ho19 | (simp only [Int.reduceToNat] at ho19; rw [← Ny169.out] at ho19)); have n0_ := aj.mk (Kd.dV ho19 (aW BL)); replace HB := BS (w := w) hb; have HO171 := n0_; clear n0_; clear hb ho19; obtain ⟨Ao9001, co9001, eo9001⟩ := Kd.bG HO171.out; subst eo9001) | ((with_reducible refine aV (f := 75) rfl ?_); refine dF (some 13) Try.func75 #[.string a0, .int .i64 0, .slice Ao9001 y169.length co9001] ?_; (with_reducible refine (ak.calls k a0 0 (fun k_ => some k_ = (.slice Ao9001 y169.length co9001 : Value).ownBlock) (.slice Ao9001 y169.length co9001) y169 t172 t175 w _ ?side1 ?side2 A5.out).mono ?_); (case side1 => exact BL); (case side2 => exact Kd.bZ rfl HO171.out); rintro e w9002 ⟨v173, rfl, ho0, hb, hkp⟩; refine ⟨_, rfl, ?_⟩; have n0_ := aj.mk (Kd.aQ (ok' := fun k_ => True) ho0 (fun k_ hk_ => trivial)); have n1_ := aj.mk (hb); clear HB HO171; have HO174 := n0_; have HB := n1_; clear n0_ n1_; (try clear hb); (try clear hkp); (try clear ho0); obtain ⟨Ao9003, co9003, eo9003⟩ := Kd.bG HO174.out; subst eo9003) | (go_at_call 76; (with_reducible refine (aR.calls k _ _ t172 _ _ ?side1 ?side2 A7.out).mono ?_); (case side1 => exact CR2 HO174); (case side2 => exact (Kd.bF HO174.out).2.1); rintro e w9004 ⟨rfl, hb⟩; replace HO174 := RB HO174 hb; replace HB := BS (w := w) hb; (try clear hb)) | (go_at_call 77; (with_reducible refine (cZ.calls k _ _ t172 t177 _ ?side1 ?side2 A9.out).mono ?_); (case side1 => exact CR2 HO174); (case side2 => exact (Kd.bF HO174.out).2.1); rintro e w9005 ⟨rfl, hb⟩; replace HO174 := RB HO174 hb; replace HB := BS (w := w) hb; (try clear hb)) | ((with_reducible refine bR (N := 31) rfl ?_); refine Kd.iR bQ _ 110 ?hg (N := 31) ?hd (xs := ([] : List (aA))) (inner := []) (ok := fun _ => True) (okp := fun _ => True) ?hr ?hp (fun _ hk => hk) trivial (Below.refl _ _) (Nat.le_refl _) (by simp) ?_; (case hd => rfl); (case hg => rfl); (case hr => first | (go_simp; done) | (go_simp; rfl)); (case hp => exact (bT.none _ _)); intro v179 w9006 ho26 hb hg_ hnew_; clear hg_ hnew_; (first | rw [← Ny178.out] at ho26 | (simp only [Int.reduceToNat] at ho26; rw [← Ny178.out] at ho26)); have n0_ := aj.mk (Kd.gK (RR HO174) (Kd.jG ho26) hb); have n1_ := aj.mk (Kd.dV (Kd.jN ho26 (Kd.oq (RR HO174))) (aW BL)); replace HB := BS (w := w) hb; clear HO174; have HO174 := n0_; have HO180 := n1_; clear n0_ n1_; clear hb ho26))
     go_ret2
     exact ⟨_, EWW, by (with_reducible repeat (first | apply Kd.bJ | apply Kd.bK | apply Kd.bV)); exact Kd.aQ HO180.out (fun _ hk => trivial), BL⟩
   ·obtain ⟨y181, hy181⟩ : ∃ y_ : List (aA), y_ = (([] : List (aA))) := ⟨_, rfl⟩
    replace H : (some (y181, false)) = some (r1, r2) := by first | (rw [hy181]; with_reducible exact H) | (have H2_ := (Option.bind_some _ _).symm.trans H; rw [hy181]; with_reducible exact H2_) | (have H2_ := (Option.bind_some _ _).symm.trans H; with_reducible exact H2_) | with_reducible exact H | (rw [hy181]; exact H) | exact H
    have Ny181 := aj.mk hy181
    clear hy181
    simp only [Option.some.injEq, Prod.mk.injEq] at H
    obtain ⟨rfl, rfl⟩ := H
    try go_wp2_with (first | ((with_reducible refine bR (N := 12) rfl ?_); refine Kd.iR bQ _ 110 ?hg (N := 12) ?hd (xs := ([] : List (aA))) (inner := []) (ok := fun _ => True) (okp := fun _ => True) ?hr ?hp (fun _ hk => hk) trivial (Below.refl _ _) (Nat.le_refl _) (by simp) ?_; (case hd => rfl); (case hg => rfl); (case hr => first | (go_simp; done) | (go_simp; rfl)); (case hp => exact (bT.none _ _)); intro v170 w9000 ho28 hb hg_ hnew_; clear hg_ hnew_; (first | rw [← Ny169.out] at ho28 | (simp only [Int.reduceToNat] at ho28; rw [← Ny169.out] at ho28)); have n0_ := aj.mk (Kd.dV ho28 (aW BL)); replace HB := BS (w := w) hb; have HO171 := n0_; clear n0_; clear hb ho28; obtain ⟨Ao9001, co9001, eo9001⟩ := Kd.bG HO171.out; subst eo9001) | ((with_reducible refine aV (f := 75) rfl ?_); refine dF (some 13) Try.func75 #[.string a0, .int .i64 0, .slice Ao9001 y169.length co9001] ?_; (with_reducible refine (ak.calls k a0 0 (fun k_ => some k_ = (.slice Ao9001 y169.length co9001 : Value).ownBlock) (.slice Ao9001 y169.length co9001) y169 t172 t175 w _ ?side1 ?side2 A5.out).mono ?_); (case side1 => exact BL); (case side2 => exact Kd.bZ rfl HO171.out); rintro e w9002 ⟨v173, rfl, ho0, hb, hkp⟩; refine ⟨_, rfl, ?_⟩; have n0_ := aj.mk (Kd.aQ (ok' := fun k_ => True) ho0 (fun k_ hk_ => trivial)); have n1_ := aj.mk (hb); clear HB HO171; have HO174 := n0_; have HB := n1_; clear n0_ n1_; (try clear hb); (try clear hkp); (try clear ho0); obtain ⟨Ao9003, co9003, eo9003⟩ := Kd.bG HO174.out; subst eo9003) | (go_at_call 76; (with_reducible refine (aR.calls k _ _ t172 _ _ ?side1 ?side2 A7.out).mono ?_); (case side1 => exact CR2 HO174); (case side2 => exact (Kd.bF HO174.out).2.1); rintro e w9004 ⟨rfl, hb⟩; replace HO174 := RB HO174 hb; replace HB := BS (w := w) hb; (try clear hb)) | ((with_reducible refine bR (N := 31) rfl ?_); refine Kd.iR bQ _ 110 ?hg (N := 31) ?hd (xs := ([] : List (aA))) (inner := []) (ok := fun _ => True) (okp := fun _ => True) ?hr ?hp (fun _ hk => hk) trivial (Below.refl _ _) (Nat.le_refl _) (by simp) ?_; (case hd => rfl); (case hg => rfl); (case hr => first | (go_simp; done) | (go_simp; rfl)); (case hp => exact (bT.none _ _)); intro v182 w9005 ho34 hb hg_ hnew_; clear hg_ hnew_; (first | rw [← Ny181.out] at ho34 | (simp only [Int.reduceToNat] at ho34; rw [← Ny181.out] at ho34)); have n0_ := aj.mk (Kd.gK (RR HO174) (Kd.jG ho34) hb); have n1_ := aj.mk (Kd.dV (Kd.jN ho34 (Kd.oq (RR HO174))) (aW BL)); replace HB := BS (w := w) hb; clear HO174; have HO174 := n0_; have HO183 := n1_; clear n0_ n1_; clear hb ho34))
    go_ret2
    exact ⟨_, EWW, by (with_reducible repeat (first | apply Kd.bJ | apply Kd.bK | apply Kd.bV)); exact Kd.aQ HO183.out (fun _ hk => trivial), BL⟩
  ·obtain ⟨y184, hy184⟩ : ∃ y_ : List (aA), y_ = (([] : List (aA))) := ⟨_, rfl⟩
   replace H : (some (y184, false)) = some (r1, r2) := by first | (rw [hy184]; with_reducible exact H) | (have H2_ := (Option.bind_some _ _).symm.trans H; rw [hy184]; with_reducible exact H2_) | (have H2_ := (Option.bind_some _ _).symm.trans H; with_reducible exact H2_) | with_reducible exact H | (rw [hy184]; exact H) | exact H
   have Ny184 := aj.mk hy184
   clear hy184
   simp only [Option.some.injEq, Prod.mk.injEq] at H
   obtain ⟨rfl, rfl⟩ := H
   try go_wp2_with (first | ((with_reducible refine bR (N := 12) rfl ?_); refine Kd.iR bQ _ 110 ?hg (N := 12) ?hd (xs := ([] : List (aA))) (inner := []) (ok := fun _ => True) (okp := fun _ => True) ?hr ?hp (fun _ hk => hk) trivial (Below.refl _ _) (Nat.le_refl _) (by simp) ?_; (case hd => rfl); (case hg => rfl); (case hr => first | (go_simp; done) | (go_simp; rfl)); (case hp => exact (bT.none _ _)); intro v170 w9000 ho36 hb hg_ hnew_; clear hg_ hnew_; (first | rw [← Ny169.out] at ho36 | (simp only [Int.reduceToNat] at ho36; rw [← Ny169.out] at ho36)); have n0_ := aj.mk (Kd.dV ho36 (aW BL)); replace HB := BS (w := w) hb; have HO171 := n0_; clear n0_; clear hb ho36; obtain ⟨Ao9001, co9001, eo9001⟩ := Kd.bG HO171.out; subst eo9001) | ((with_reducible refine aV (f := 75) rfl ?_); refine dF (some 13) Try.func75 #[.string a0, .int .i64 0, .slice Ao9001 y169.length co9001] ?_; (with_reducible refine (ak.calls k a0 0 (fun k_ => some k_ = (.slice Ao9001 y169.length co9001 : Value).ownBlock) (.slice Ao9001 y169.length co9001) y169 t172 t175 w _ ?side1 ?side2 A5.out).mono ?_); (case side1 => exact BL); (case side2 => exact Kd.bZ rfl HO171.out); rintro e w9002 ⟨v173, rfl, ho0, hb, hkp⟩; refine ⟨_, rfl, ?_⟩; have n0_ := aj.mk (Kd.aQ (ok' := fun k_ => True) ho0 (fun k_ hk_ => trivial)); have n1_ := aj.mk (hb); clear HB HO171; have HO174 := n0_; have HB := n1_; clear n0_ n1_; (try clear hb); (try clear hkp); (try clear ho0)) | ((with_reducible refine bR (N := 31) rfl ?_); refine Kd.iR bQ _ 110 ?hg (N := 31) ?hd (xs := ([] : List (aA))) (inner := []) (ok := fun _ => True) (okp := fun _ => True) ?hr ?hp (fun _ hk => hk) trivial (Below.refl _ _) (Nat.le_refl _) (by simp) ?_; (case hd => rfl); (case hg => rfl); (case hr => first | (go_simp; done) | (go_simp; rfl)); (case hp => exact (bT.none _ _)); intro v185 w9003 ho40 hb hg_ hnew_; clear hg_ hnew_; (first | rw [← Ny184.out] at ho40 | (simp only [Int.reduceToNat] at ho40; rw [← Ny184.out] at ho40)); have n0_ := aj.mk (Kd.gK (RR HO174) (Kd.jG ho40) hb); have n1_ := aj.mk (Kd.dV (Kd.jN ho40 (Kd.oq (RR HO174))) (aW BL)); replace HB := BS (w := w) hb; clear HO174; have HO174 := n0_; have HO186 := n1_; clear n0_ n1_; clear hb ho40))
   go_ret2
   exact ⟨_, EWW, by (with_reducible repeat (first | apply Kd.bJ | apply Kd.bK | apply Kd.bV)); exact Kd.aQ HO186.out (fun _ hk => trivial), BL⟩
def cB.f (a0 a1 a2 : Int) : Option (Bool) := if a1 ≤ a0 then (some (decide (a0 ≤ a2))) else (some false)
theorem cB.calls (a0 a1 a2 : Int) (r : Bool) (w : World) (h : cB.f a0 a1 a2 = some r) :
  Calls Try.prog 65 #[.int .i64 a0, .int .i64 a1, .int .i64 a2] w fun e w' => e = .returned (.bool r) ∧ cu w w' := by
 unfold cB.f at h
 have H := h
 clear h
 replace H := aj.mk H
 go_enter Try.func65, Try.ntmps65
 replace H := H.out
 replace H := ifD H; rcases H with ⟨c4b0, H⟩ | ⟨c4b0, H⟩
 ·obtain rfl := Option.some.inj H
  try go_wp2
  go_ret
  exact ⟨EQ, DR⟩
 ·obtain rfl := Option.some.inj H
  try go_wp2
  go_ret
  exact ⟨EQ, DR⟩
def cO.f (a0 : Int) : Option (Bool) := if a0 ≥ 97 then (some (decide (a0 ≤ 122))) else (some false)
theorem cO.calls (a0 : Int) (r : Bool) (w : World) (h : cO.f a0 = some r) :
  Calls Try.prog 122 #[.int .u8 a0] w fun e w' => e = .returned (.bool r) ∧ cu w w' := by
 unfold cO.f at h
 have H := h
 clear h
 replace H := aj.mk H
 go_enter Try.func122, Try.ntmps122
 replace H := H.out
 by_cases c2 : a0 ≥ 97
 ·rw [if_pos c2] at H
  have c2b0 : decide (97 ≤ a0) = true := decide_eq_true c2
  clear c2
  obtain rfl := Option.some.inj H
  try go_wp2
  go_ret
  exact ⟨EQ, DR⟩
 ·rw [if_neg c2] at H
  have c2b0 : decide (97 ≤ a0) = false := decide_eq_false c2
  clear c2
  obtain rfl := Option.some.inj H
  try go_wp2
  go_ret
  exact ⟨EQ, DR⟩
end Go.Proofs.Ythjcicmmbmagbaa.PFnExactParsePlay
