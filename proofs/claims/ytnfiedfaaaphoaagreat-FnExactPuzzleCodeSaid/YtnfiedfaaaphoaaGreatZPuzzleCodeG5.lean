/- Walks of functions: what each computes. -/
import Derived.Test.YtnfiedfaaaphoaaGreatZPuzzleCodeG0
import Derived.Test.YtnfiedfaaaphoaaGreatZPuzzleCodeW
import Derived.Test.YtnfiedfaaaphoaaGreatZPuzzleCodeShelf
import Derived.Test.YtnfiedfaaaphoaaGreatZPuzzleCodeHandSort
import Derived.Test.YtnfiedfaaaphoaaGreatZPuzzleCodeHandForm
import Derived.Test.YtnfiedfaaaphoaaGreatZPuzzleCodeHandAlone
import Derived.Test.YtnfiedfaaaphoaaGreatZPuzzleCodeHandReach
import Derived.Test.YtnfiedfaaaphoaaGreatZPuzzleCodeHandPut
namespace Go.Proofs.YtnfiedfaaaphoaaGreat.PFnExactPuzzleCode
open Go.RowKit Go.Proofs.YtnfiedfaaaphoaaGreatW.PrintWords Go.Proofs.YtnfiedfaaaphoaaGreatW.PrintLast Go.Proofs.YtnfiedfaaaphoaaGreatW.PrintMore Go.Proofs.YtnfiedfaaaphoaaGreat.Sq
attribute [local go_sem] iH iJ jD jC gV gU iK iG
set_option maxHeartbeats 8000000
set_option maxRecDepth 100000
set_option linter.unusedVariables false
set_option linter.unusedSimpArgs false
def bH.l0 : Nat → ByteArray → Int → Option (Bool)
 | 0, _, _ => none
 | k + 1, a, b => if b < (a.size : Int) then (if 0 ≤ b then (if (bt a b) < 97 then (some false) else (if (bt a b) > 122 then (some false) else (bH.l0 k a (wrap64 (b + 1))))) else (none)) else (some true)
def bH.f (k : Nat) (a0 : ByteArray) : Option (Bool) := (bD.f (a0.size : Int) 1 8).bind fun t303 => (if t303 = true then (bH.l0 k a0 0) else (some false))
theorem bH.calls (k : Nat) (a0 : ByteArray) (r : Bool) (w : World) (h : bH.f k a0 = some r) :
  Calls Tryz.prog 140 #[.string a0] w fun e w' => e = .returned (.bool r) ∧ aC w w' := by
 unfold bH.f at h
 have H := h
 clear h
 replace H := be H; obtain ⟨t303, A2, H⟩ := H
 replace H := ah.mk H
 go_enter Tryz.func140, Tryz.ntmps140
 go_wp2_with (first | ((with_reducible refine ay (f := 86) rfl ?_); refine bq (some 6) Tryz.func86 #[.int .i64 (a0.size : Int), .int .i64 1, .int .i64 8] ?_; (with_reducible refine (bD.calls (a0.size : Int) 1 8 _ _ A2.out).mono ?_); rintro e w' ⟨rfl, ⟨nd, rfl⟩⟩; refine ⟨_, rfl, ?_⟩; refine bP ?_))
 refine Hide.mk ?_
 replace H := H.out
 replace H := ifB H; rcases H with ⟨rfl, H⟩ | ⟨rfl, H⟩
 ·have H' := ah.mk H
  clear H
  try go_wp2
  go_loopg [3] k (fun kq v3 w' => ∃ (x3_1 : Int), v3 = .int .i64 x3_1 ∧ ah (bH.l0 kq a0 x3_1 = some r) ∧ ah (kq ≤ k) ∧ aC w w')
  case atStart => exact ⟨(0), EQ, H', ⟨Nat.le_refl _⟩, by repeat (first | exact aC.refl _ | apply aC.step)⟩
  case round =>
   clear H'
   try clear c3
   obtain ⟨x3_1, rfl, HA, HK1, ⟨m1, rfl⟩⟩ := hrel
   cases gk with
   | zero => exact absurd HA.out (by simp [bH.l0])
   | succ k1 =>
    have H := HA.out
    clear HA
    simp only [bH.l0] at H
    replace H := ifD H; rcases H with ⟨c4b0, H⟩ | ⟨c4b0, H⟩
    ·replace H := ifN H; obtain ⟨c5b0, H⟩ := H
     have p6 : (0 ≤ (x3_1 : Int)) = True := OT
     have q6 : (x3_1 < (a0.size : Int)) = True := OT
     have hx6 := gI a0 x3_1
     replace H := ifD H; rcases H with ⟨c7b0, H⟩ | ⟨c7b0, H⟩
     ·obtain rfl := Option.some.inj H
      go_wp2
      go_ret
      exact ⟨by first | rfl | (simp; done) | (simp [*]; done), by repeat (first | exact aC.refl _ | apply aC.step)⟩
     ·have p8 : (0 ≤ (x3_1 : Int)) = True := OT
      have q8 : (x3_1 < (a0.size : Int)) = True := OT
      have hx8 := gI a0 x3_1
      by_cases c9 : (bt a0 x3_1) > 122
      ·rw [if_pos c9] at H
       have c9b0 : decide (122 < (bt a0 x3_1)) = true := decide_eq_true c9
       clear c9
       obtain rfl := Option.some.inj H
       go_wp2
       go_ret
       exact ⟨by first | rfl | (simp; done) | (simp [*]; done), by repeat (first | exact aC.refl _ | apply aC.step)⟩
      ·rw [if_neg c9] at H
       have c9b0 : decide (122 < (bt a0 x3_1)) = false := decide_eq_false c9
       clear c9
       have H' := ah.mk H
       clear H
       go_wp2
       go_roundg k1
       case measure => have := HK1.out; omega
       case rel => exact ⟨(wrap64 (x3_1 + 1)), EQ, H', ⟨by have := HK1.out; omega⟩, by repeat (first | exact aC.refl _ | apply aC.step)⟩
    ·obtain rfl := Option.some.inj H
     go_wp2
     go_ret
     exact ⟨by first | rfl | (simp; done) | (simp [*]; done), by repeat (first | exact aC.refl _ | apply aC.step)⟩
 ·obtain rfl := Option.some.inj H
  try go_wp2
  go_ret
  exact ⟨by first | rfl | (simp; done) | (simp [*]; done), by repeat (first | exact aC.refl _ | apply aC.step)⟩
mutual
def eT.j0 : Nat → List (bZ) → Int → Bool → Int → ByteArray → Int → Int → Option (Bool)
 | 0, _, _, _, _, _, _, _ => none
 | k + 1, a, b, c, d, e, f, g => if c = true then (some false) else (if d = 4 then (eT.j1 k a b true d e f g) else (eT.j1 k a b (d == 5) d e f g))
def eT.j1 : Nat → List (bZ) → Int → Bool → Int → ByteArray → Int → Int → Option (Bool)
 | 0, _, _, _, _, _, _, _ => none
 | k + 1, a, b, c, d, e, f, g => if d = 1 then (if f = 0 then (some (g == 0)) else (some false)) else ((bD.f f 0 (wrap64 (b - 1))).bind fun h => (if h = true then (if c = true then ((bD.f g 0 (wrap64 (b - 1))).bind fun i => (if i = true then (some true) else (some false))) else (if g = 0 then (if d = 2 then (some true) else (if 0 ≤ f then (if f < (a.length : Int) then (some (((aj a f).f0) == 1)) else (none)) else (none))) else (some false))) else (some false)))
end
def eT.f (k : Nat) (l0 : List (bZ)) (a1 : Int) : Option (Bool) := if 0 ≤ a1 then (if a1 < (l0.length : Int) then ((bD.f ((aj l0 a1).f0) 1 9).bind fun t306 => (if t306 = true then ((bH.f k ((aj l0 a1).f1)).bind fun t307 => (if ((((aj l0 a1).f0) == 1) != t307) = true then (eT.j0 k l0 a1 true ((aj l0 a1).f0) ((aj l0 a1).f1) ((aj l0 a1).f2) ((aj l0 a1).f3)) else (if ((aj l0 a1).f0) = 1 then (eT.j0 k l0 a1 false ((aj l0 a1).f0) ((aj l0 a1).f1) ((aj l0 a1).f2) ((aj l0 a1).f3)) else (eT.j0 k l0 a1 (((aj l0 a1).f1).toList != ([] : List UInt8)) ((aj l0 a1).f0) ((aj l0 a1).f1) ((aj l0 a1).f2) ((aj l0 a1).f3))))) else (eT.j0 k l0 a1 true ((aj l0 a1).f0) ((aj l0 a1).f1) ((aj l0 a1).f2) ((aj l0 a1).f3)))) else (none)) else (none)
theorem eT.calls (k : Nat) (A0 : Option Addr) (c0 : Nat) (l0 : List (bZ)) (a1 : Int) (r : Bool) (w : World) (hr0 : Kd.C je w A0 l0.length l0) (hc0 : l0.length ≤ c0) (h : eT.f k l0 a1 = some r) :
  Calls Tryz.prog 192 #[.slice A0 l0.length c0, .int .i64 a1] w fun e w' => e = .returned (.bool r) ∧ Below w.heap.size w w' := by
 have hu141 := Tryz.underlying141
 have HR0 := ah.mk hr0
 have HC0 := ah.mk hc0
 clear hr0 hc0
 have HB := ah.mk (Below.refl w.heap.size w)
 unfold eT.f at h
 have H := h
 clear h
 replace H := ifN H; obtain ⟨c3b0, H⟩ := H
 replace H := ifN H; obtain ⟨c4b0, H⟩ := H
 have HC5 := ah.mk H
 clear H
 have p304 : 0 ≤ (a1 : Int) := OD
 have q304 : a1 < (l0.length : Int) := OD
 obtain ⟨ad304, e304, hx304_0, hx304_1, hx304_2, hx304_3⟩ := jh HR0.out a1 p304 q304
 cases e304
 replace p304 := eq_true p304
 replace q304 := eq_true q304
 go_enter Tryz.func192, Tryz.ntmps192
 go_upto_region 2 with (first | ((with_reducible refine aN (N := 5) rfl ?_); refine bC (N := 5) (cs := #[.int .i64 0, .string (⟨#[]⟩ : ByteArray), .int .i64 0, .int .i64 0]) (t := 141) ?_; intro gb305 hg w9000 hbox hb; have BK305 := ah.mk hbox; have GW305 := SZ (w := w) hg; have GE305 := GW305; replace HB := BS (w := w) hb; clear hb hbox hg; obtain ⟨hcz9001_0, hcz9001_1, hcz9001_2, hcz9001_3, hfz9001_0, hfz9001_1, hfz9001_2, hfz9001_3⟩ := cz4 BK305.out))
 repeat (go_quiet (first | ((with_reducible refine aN (N := 5) rfl ?_); refine bC (N := 5) (cs := #[.int .i64 0, .string (⟨#[]⟩ : ByteArray), .int .i64 0, .int .i64 0]) (t := 141) ?_; intro gb305 hg w9000 hbox hb; have BK305 := ah.mk hbox; have GW305 := SZ (w := w) hg; have GE305 := GW305; replace HB := BS (w := w) hb; clear hb hbox hg; obtain ⟨hcz9001_0, hcz9001_1, hcz9001_2, hcz9001_3, hfz9001_0, hfz9001_1, hfz9001_2, hfz9001_3⟩ := cz4 BK305.out)); go_upto_region 2 with (first | ((with_reducible refine aN (N := 5) rfl ?_); refine bC (N := 5) (cs := #[.int .i64 0, .string (⟨#[]⟩ : ByteArray), .int .i64 0, .int .i64 0]) (t := 141) ?_; intro gb305 hg w9000 hbox hb; have BK305 := ah.mk hbox; have GW305 := SZ (w := w) hg; have GE305 := GW305; replace HB := BS (w := w) hb; clear hb hbox hg; obtain ⟨hcz9001_0, hcz9001_1, hcz9001_2, hcz9001_3, hfz9001_0, hfz9001_1, hfz9001_2, hfz9001_3⟩ := cz4 BK305.out)))
 (try simp only [Act.put, List.setIfInBounds_toArray, List.set_cons_zero, List.set_cons_succ])
 go_cut [33] (fun v33 wc => ∃ (kq : Nat) (x33_4 : Bool), v33 = .bool x33_4 ∧ ah (eT.j0 kq l0 a1 x33_4 ((aj l0 a1).f0) ((aj l0 a1).f1) ((aj l0 a1).f2) ((aj l0 a1).f3) = some r) ∧ ah (kq ≤ k) ∧ ah (wc.heap[gb305]? = some (.cells #[.int .i64 ((aj l0 a1).f0), .string ((aj l0 a1).f1), .int .i64 ((aj l0 a1).f2), .int .i64 ((aj l0 a1).f3)] 141 (0, 0))) ∧ ah (Below w.heap.size w wc))
 case first =>
  have H := HC5.out
  clear HC5
  replace H := be H; obtain ⟨t306, A8, H⟩ := H
  obtain ⟨hcz9002_0, hcz9002_1, hcz9002_2, hcz9002_3, hfz9002_0, hfz9002_1, hfz9002_2, hfz9002_3⟩ := cz4 BK305.out
  replace H := ifB H; rcases H with ⟨rfl, H⟩ | ⟨rfl, H⟩
  ·replace H := be H; obtain ⟨t307, A10, H⟩ := H
   by_cases c11 : ((((aj l0 a1).f0) == 1) != t307) = true
   ·rw [if_pos c11] at H
    have c11b0 : ((((aj l0 a1).f0) == 1) != t307) = true := c11
    (try (have c11b1 : decide ((((aj l0 a1).f0) == 1) = t307) = false := by simpa using c11))
    (try (have c11b2 : ((((aj l0 a1).f0) == 1) == t307) = false := by simpa using c11))
    (try (have c11b3 : ¬ ((((aj l0 a1).f0) == 1) = t307) := by simpa using c11))
    clear c11
    (first | rw [c11b0] | (simp only [iV, jQ]; rw [c11b0]) | skip)
    have H' := ah.mk H
    clear H
    go_wp2_with (first | (go_at_call 86; (with_reducible refine (bD.calls ((aj l0 a1).f0) 1 9 _ _ A8.out).mono ?_); rintro e w' ⟨rfl, ⟨nd, rfl⟩⟩; (try first | exact ⟨rfl, _, World.drewN_drewN _ _ _⟩ | exact ⟨rfl, _, Eq.trans (World.drewN_drewN _ _ _) (congrArg (World.drewN _) (Nat.add_assoc _ _ _))⟩)) | (go_at_call 140; (with_reducible refine (bH.calls k ((aj l0 a1).f1) t307 _ A10.out).mono ?_); rintro e w' ⟨rfl, ⟨nd, rfl⟩⟩; (try first | exact ⟨rfl, _, World.drewN_drewN _ _ _⟩ | exact ⟨rfl, _, Eq.trans (World.drewN_drewN _ _ _) (congrArg (World.drewN _) (Nat.add_assoc _ _ _))⟩)))
    repeat (go_quiet (first | (go_at_call 86; (with_reducible refine (bD.calls ((aj l0 a1).f0) 1 9 _ _ A8.out).mono ?_); rintro e w' ⟨rfl, ⟨nd, rfl⟩⟩; (try first | exact ⟨rfl, _, World.drewN_drewN _ _ _⟩ | exact ⟨rfl, _, Eq.trans (World.drewN_drewN _ _ _) (congrArg (World.drewN _) (Nat.add_assoc _ _ _))⟩)) | (go_at_call 140; (with_reducible refine (bH.calls k ((aj l0 a1).f1) t307 _ A10.out).mono ?_); rintro e w' ⟨rfl, ⟨nd, rfl⟩⟩; (try first | exact ⟨rfl, _, World.drewN_drewN _ _ _⟩ | exact ⟨rfl, _, Eq.trans (World.drewN_drewN _ _ _) (congrArg (World.drewN _) (Nat.add_assoc _ _ _))⟩))); try go_wp2_with (first | (go_at_call 86; (with_reducible refine (bD.calls ((aj l0 a1).f0) 1 9 _ _ A8.out).mono ?_); rintro e w' ⟨rfl, ⟨nd, rfl⟩⟩; (try first | exact ⟨rfl, _, World.drewN_drewN _ _ _⟩ | exact ⟨rfl, _, Eq.trans (World.drewN_drewN _ _ _) (congrArg (World.drewN _) (Nat.add_assoc _ _ _))⟩)) | (go_at_call 140; (with_reducible refine (bH.calls k ((aj l0 a1).f1) t307 _ A10.out).mono ?_); rintro e w' ⟨rfl, ⟨nd, rfl⟩⟩; (try first | exact ⟨rfl, _, World.drewN_drewN _ _ _⟩ | exact ⟨rfl, _, Eq.trans (World.drewN_drewN _ _ _) (congrArg (World.drewN _) (Nat.add_assoc _ _ _))⟩))))
    go_meet
    case rel => exact ⟨_, (true), (by first | rfl | (simp; done) | (simp [*]; rw [Bool.eq_iff_iff]; simp [bne, List.isEmpty_iff]; done) | (simp [*]; done)), H', ⟨by first | omega | exact Nat.le_refl _⟩, ⟨by (with_reducible repeat (first | refine aG ?_ _ | refine aI ?_ | refine aD ?_ _)); refine aX (cs := #[.int .i64 ((aj l0 a1).f0), .string ((aj l0 a1).f1), .int .i64 ((aj l0 a1).f2), .int .i64 0]) ?_ 3 _ rfl; (with_reducible repeat (first | refine aG ?_ _ | refine aI ?_ | refine aD ?_ _)); refine aX (cs := #[.int .i64 ((aj l0 a1).f0), .string ((aj l0 a1).f1), .int .i64 0, .int .i64 0]) ?_ 2 _ rfl; (with_reducible repeat (first | refine aG ?_ _ | refine aI ?_ | refine aD ?_ _)); refine aX (cs := #[.int .i64 ((aj l0 a1).f0), .string (⟨#[]⟩ : ByteArray), .int .i64 0, .int .i64 0]) ?_ 1 _ rfl; (with_reducible repeat (first | refine aG ?_ _ | refine aI ?_ | refine aD ?_ _)); refine aX (cs := #[.int .i64 0, .string (⟨#[]⟩ : ByteArray), .int .i64 0, .int .i64 0]) ?_ 0 _ rfl; (with_reducible repeat (first | refine aG ?_ _ | refine aI ?_ | refine aD ?_ _)); exact BK305.out⟩, ⟨BL⟩⟩
   ·rw [if_neg c11] at H
    have c11b0 : ((((aj l0 a1).f0) == 1) != t307) = false := by simpa using c11
    (try (have c11b1 : decide ((((aj l0 a1).f0) == 1) = t307) = true := by simpa using c11))
    (try (have c11b2 : ((((aj l0 a1).f0) == 1) == t307) = true := by simpa using c11))
    clear c11
    (first | rw [c11b0] | (simp only [iV, jQ]; rw [c11b0]) | skip)
    by_cases c13 : ((aj l0 a1).f0) = 1
    ·rw [if_pos c13] at H
     have c13b0 : (((aj l0 a1).f0) == 1) = true := beq_iff_eq.mpr c13
     have c13b1 : (((aj l0 a1).f0) != 1) = false := bne_eq_false_iff_eq.mpr c13
     have cw_ : t307 = true := by simpa [c13b0] using c11b0   -- mended
     clear c13
     have H' := ah.mk H
     clear H
     go_wp2_with (first | (go_at_call 86; (with_reducible refine (bD.calls ((aj l0 a1).f0) 1 9 _ _ A8.out).mono ?_); rintro e w' ⟨rfl, ⟨nd, rfl⟩⟩; (try first | exact ⟨rfl, _, World.drewN_drewN _ _ _⟩ | exact ⟨rfl, _, Eq.trans (World.drewN_drewN _ _ _) (congrArg (World.drewN _) (Nat.add_assoc _ _ _))⟩)) | (go_at_call 140; (with_reducible refine (bH.calls k ((aj l0 a1).f1) t307 _ A10.out).mono ?_); rintro e w' ⟨rfl, ⟨nd, rfl⟩⟩; (try first | exact ⟨rfl, _, World.drewN_drewN _ _ _⟩ | exact ⟨rfl, _, Eq.trans (World.drewN_drewN _ _ _) (congrArg (World.drewN _) (Nat.add_assoc _ _ _))⟩)))
     repeat (go_quiet (first | (go_at_call 86; (with_reducible refine (bD.calls ((aj l0 a1).f0) 1 9 _ _ A8.out).mono ?_); rintro e w' ⟨rfl, ⟨nd, rfl⟩⟩; (try first | exact ⟨rfl, _, World.drewN_drewN _ _ _⟩ | exact ⟨rfl, _, Eq.trans (World.drewN_drewN _ _ _) (congrArg (World.drewN _) (Nat.add_assoc _ _ _))⟩)) | (go_at_call 140; (with_reducible refine (bH.calls k ((aj l0 a1).f1) t307 _ A10.out).mono ?_); rintro e w' ⟨rfl, ⟨nd, rfl⟩⟩; (try first | exact ⟨rfl, _, World.drewN_drewN _ _ _⟩ | exact ⟨rfl, _, Eq.trans (World.drewN_drewN _ _ _) (congrArg (World.drewN _) (Nat.add_assoc _ _ _))⟩))); try go_wp2_with (first | (go_at_call 86; (with_reducible refine (bD.calls ((aj l0 a1).f0) 1 9 _ _ A8.out).mono ?_); rintro e w' ⟨rfl, ⟨nd, rfl⟩⟩; (try first | exact ⟨rfl, _, World.drewN_drewN _ _ _⟩ | exact ⟨rfl, _, Eq.trans (World.drewN_drewN _ _ _) (congrArg (World.drewN _) (Nat.add_assoc _ _ _))⟩)) | (go_at_call 140; (with_reducible refine (bH.calls k ((aj l0 a1).f1) t307 _ A10.out).mono ?_); rintro e w' ⟨rfl, ⟨nd, rfl⟩⟩; (try first | exact ⟨rfl, _, World.drewN_drewN _ _ _⟩ | exact ⟨rfl, _, Eq.trans (World.drewN_drewN _ _ _) (congrArg (World.drewN _) (Nat.add_assoc _ _ _))⟩))))
     go_meet
     case rel => exact ⟨_, (false), (by first | rfl | (simp; done) | (simp [*]; rw [Bool.eq_iff_iff]; simp [bne, List.isEmpty_iff]; done) | (simp [*]; done)), H', ⟨by first | omega | exact Nat.le_refl _⟩, ⟨by (with_reducible repeat (first | refine aG ?_ _ | refine aI ?_ | refine aD ?_ _)); refine aX (cs := #[.int .i64 ((aj l0 a1).f0), .string ((aj l0 a1).f1), .int .i64 ((aj l0 a1).f2), .int .i64 0]) ?_ 3 _ rfl; (with_reducible repeat (first | refine aG ?_ _ | refine aI ?_ | refine aD ?_ _)); refine aX (cs := #[.int .i64 ((aj l0 a1).f0), .string ((aj l0 a1).f1), .int .i64 0, .int .i64 0]) ?_ 2 _ rfl; (with_reducible repeat (first | refine aG ?_ _ | refine aI ?_ | refine aD ?_ _)); refine aX (cs := #[.int .i64 ((aj l0 a1).f0), .string (⟨#[]⟩ : ByteArray), .int .i64 0, .int .i64 0]) ?_ 1 _ rfl; (with_reducible repeat (first | refine aG ?_ _ | refine aI ?_ | refine aD ?_ _)); refine aX (cs := #[.int .i64 0, .string (⟨#[]⟩ : ByteArray), .int .i64 0, .int .i64 0]) ?_ 0 _ rfl; (with_reducible repeat (first | refine aG ?_ _ | refine aI ?_ | refine aD ?_ _)); exact BK305.out⟩, ⟨BL⟩⟩
    ·rw [if_neg c13] at H
     have c13b0 : (((aj l0 a1).f0) == 1) = false := beq_eq_false_iff_ne.mpr c13
     have c13b1 : (((aj l0 a1).f0) != 1) = true := bne_iff_ne.mpr c13
     have cw_ : t307 = false := by simpa [c13b0] using c11b0   -- mended
     have H' := ah.mk H
     clear H
     go_wp2_with (first | (go_at_call 86; (with_reducible refine (bD.calls ((aj l0 a1).f0) 1 9 _ _ A8.out).mono ?_); rintro e w' ⟨rfl, ⟨nd, rfl⟩⟩; (try first | exact ⟨rfl, _, World.drewN_drewN _ _ _⟩ | exact ⟨rfl, _, Eq.trans (World.drewN_drewN _ _ _) (congrArg (World.drewN _) (Nat.add_assoc _ _ _))⟩)) | (go_at_call 140; (with_reducible refine (bH.calls k ((aj l0 a1).f1) t307 _ A10.out).mono ?_); rintro e w' ⟨rfl, ⟨nd, rfl⟩⟩; (try first | exact ⟨rfl, _, World.drewN_drewN _ _ _⟩ | exact ⟨rfl, _, Eq.trans (World.drewN_drewN _ _ _) (congrArg (World.drewN _) (Nat.add_assoc _ _ _))⟩)))
     repeat (go_quiet (first | (go_at_call 86; (with_reducible refine (bD.calls ((aj l0 a1).f0) 1 9 _ _ A8.out).mono ?_); rintro e w' ⟨rfl, ⟨nd, rfl⟩⟩; (try first | exact ⟨rfl, _, World.drewN_drewN _ _ _⟩ | exact ⟨rfl, _, Eq.trans (World.drewN_drewN _ _ _) (congrArg (World.drewN _) (Nat.add_assoc _ _ _))⟩)) | (go_at_call 140; (with_reducible refine (bH.calls k ((aj l0 a1).f1) t307 _ A10.out).mono ?_); rintro e w' ⟨rfl, ⟨nd, rfl⟩⟩; (try first | exact ⟨rfl, _, World.drewN_drewN _ _ _⟩ | exact ⟨rfl, _, Eq.trans (World.drewN_drewN _ _ _) (congrArg (World.drewN _) (Nat.add_assoc _ _ _))⟩))); try go_wp2_with (first | (go_at_call 86; (with_reducible refine (bD.calls ((aj l0 a1).f0) 1 9 _ _ A8.out).mono ?_); rintro e w' ⟨rfl, ⟨nd, rfl⟩⟩; (try first | exact ⟨rfl, _, World.drewN_drewN _ _ _⟩ | exact ⟨rfl, _, Eq.trans (World.drewN_drewN _ _ _) (congrArg (World.drewN _) (Nat.add_assoc _ _ _))⟩)) | (go_at_call 140; (with_reducible refine (bH.calls k ((aj l0 a1).f1) t307 _ A10.out).mono ?_); rintro e w' ⟨rfl, ⟨nd, rfl⟩⟩; (try first | exact ⟨rfl, _, World.drewN_drewN _ _ _⟩ | exact ⟨rfl, _, Eq.trans (World.drewN_drewN _ _ _) (congrArg (World.drewN _) (Nat.add_assoc _ _ _))⟩))))
     go_meet
     case rel => exact ⟨_, ((((aj l0 a1).f1).toList != ([] : List UInt8))), (by first | rfl | (simp; done) | (simp [*]; rw [Bool.eq_iff_iff]; simp [bne, List.isEmpty_iff]; done) | (simp [*]; done)), H', ⟨by first | omega | exact Nat.le_refl _⟩, ⟨by (with_reducible repeat (first | refine aG ?_ _ | refine aI ?_ | refine aD ?_ _)); refine aX (cs := #[.int .i64 ((aj l0 a1).f0), .string ((aj l0 a1).f1), .int .i64 ((aj l0 a1).f2), .int .i64 0]) ?_ 3 _ rfl; (with_reducible repeat (first | refine aG ?_ _ | refine aI ?_ | refine aD ?_ _)); refine aX (cs := #[.int .i64 ((aj l0 a1).f0), .string ((aj l0 a1).f1), .int .i64 0, .int .i64 0]) ?_ 2 _ rfl; (with_reducible repeat (first | refine aG ?_ _ | refine aI ?_ | refine aD ?_ _)); refine aX (cs := #[.int .i64 ((aj l0 a1).f0), .string (⟨#[]⟩ : ByteArray), .int .i64 0, .int .i64 0]) ?_ 1 _ rfl; (with_reducible repeat (first | refine aG ?_ _ | refine aI ?_ | refine aD ?_ _)); refine aX (cs := #[.int .i64 0, .string (⟨#[]⟩ : ByteArray), .int .i64 0, .int .i64 0]) ?_ 0 _ rfl; (with_reducible repeat (first | refine aG ?_ _ | refine aI ?_ | refine aD ?_ _)); exact BK305.out⟩, ⟨BL⟩⟩
  ·have H' := ah.mk H
   clear H
   go_wp2_with (first | (go_at_call 86; (with_reducible refine (bD.calls ((aj l0 a1).f0) 1 9 _ _ A8.out).mono ?_); rintro e w' ⟨rfl, ⟨nd, rfl⟩⟩; (try first | exact ⟨rfl, _, World.drewN_drewN _ _ _⟩ | exact ⟨rfl, _, Eq.trans (World.drewN_drewN _ _ _) (congrArg (World.drewN _) (Nat.add_assoc _ _ _))⟩)))
   repeat (go_quiet (first | (go_at_call 86; (with_reducible refine (bD.calls ((aj l0 a1).f0) 1 9 _ _ A8.out).mono ?_); rintro e w' ⟨rfl, ⟨nd, rfl⟩⟩; (try first | exact ⟨rfl, _, World.drewN_drewN _ _ _⟩ | exact ⟨rfl, _, Eq.trans (World.drewN_drewN _ _ _) (congrArg (World.drewN _) (Nat.add_assoc _ _ _))⟩))); try go_wp2_with (first | (go_at_call 86; (with_reducible refine (bD.calls ((aj l0 a1).f0) 1 9 _ _ A8.out).mono ?_); rintro e w' ⟨rfl, ⟨nd, rfl⟩⟩; (try first | exact ⟨rfl, _, World.drewN_drewN _ _ _⟩ | exact ⟨rfl, _, Eq.trans (World.drewN_drewN _ _ _) (congrArg (World.drewN _) (Nat.add_assoc _ _ _))⟩))))
   go_meet
   case rel => exact ⟨_, (true), (by first | rfl | (simp; done) | (simp [*]; rw [Bool.eq_iff_iff]; simp [bne, List.isEmpty_iff]; done) | (simp [*]; done)), H', ⟨by first | omega | exact Nat.le_refl _⟩, ⟨by (with_reducible repeat (first | refine aG ?_ _ | refine aI ?_ | refine aD ?_ _)); refine aX (cs := #[.int .i64 ((aj l0 a1).f0), .string ((aj l0 a1).f1), .int .i64 ((aj l0 a1).f2), .int .i64 0]) ?_ 3 _ rfl; (with_reducible repeat (first | refine aG ?_ _ | refine aI ?_ | refine aD ?_ _)); refine aX (cs := #[.int .i64 ((aj l0 a1).f0), .string ((aj l0 a1).f1), .int .i64 0, .int .i64 0]) ?_ 2 _ rfl; (with_reducible repeat (first | refine aG ?_ _ | refine aI ?_ | refine aD ?_ _)); refine aX (cs := #[.int .i64 ((aj l0 a1).f0), .string (⟨#[]⟩ : ByteArray), .int .i64 0, .int .i64 0]) ?_ 1 _ rfl; (with_reducible repeat (first | refine aG ?_ _ | refine aI ?_ | refine aD ?_ _)); refine aX (cs := #[.int .i64 0, .string (⟨#[]⟩ : ByteArray), .int .i64 0, .int .i64 0]) ?_ 0 _ rfl; (with_reducible repeat (first | refine aG ?_ _ | refine aI ?_ | refine aD ?_ _)); exact BK305.out⟩, ⟨BL⟩⟩
 case rest =>
  clear HC5
  try clear c3
  try clear c3b0
  try clear c4
  try clear c4b0
  try clear hcz9001_0
  try clear hcz9001_1
  try clear hcz9001_2
  try clear hcz9001_3
  try clear hfz9001_0
  try clear hfz9001_1
  try clear hfz9001_2
  try clear hfz9001_3
  try clear hx304_0
  try clear hx304_1
  try clear hx304_2
  try clear hx304_3
  try clear p304
  try clear q304
  obtain ⟨kq, x33_4, rfl, HA, HJ4, BK305, HB⟩ := hcut
  cases kq with
  | zero => exact absurd HA.out (by simp [eT.j0])
  | succ kj4 =>
   have H := HA.out
   clear HA
   simp only [eT.j0] at H
   replace H := ifB H; rcases H with ⟨rfl, H⟩ | ⟨rfl, H⟩
   ·obtain rfl := Option.some.inj H
    go_wp2
    repeat (go_quiet (fail); try go_wp2)
    go_ret
    exact ⟨EWW, BL⟩
   ·have HC18 := ah.mk H
    clear H
    go_upto_region 4 with (fail)
    repeat (go_quiet (fail); go_upto_region 4 with (fail))
    go_cut [6] (fun v6 wc => ∃ (kq : Nat) (x6_17 : Bool), v6 = .bool x6_17 ∧ ah (eT.j1 kq l0 a1 x6_17 ((aj l0 a1).f0) ((aj l0 a1).f1) ((aj l0 a1).f2) ((aj l0 a1).f3) = some r) ∧ ah (kq ≤ kj4) ∧ ah (wc.heap[gb305]? = some (.cells #[.int .i64 ((aj l0 a1).f0), .string ((aj l0 a1).f1), .int .i64 ((aj l0 a1).f2), .int .i64 ((aj l0 a1).f3)] 141 (0, 0))) ∧ ah (Below w.heap.size w wc))
    case first =>
     have H := HC18.out
     clear HC18
     obtain ⟨hcz9003_0, hcz9003_1, hcz9003_2, hcz9003_3, hfz9003_0, hfz9003_1, hfz9003_2, hfz9003_3⟩ := cz4 BK305.out
     replace H := ifE H; rcases H with ⟨c19b0, c19b1, H⟩ | ⟨c19, c19b0, c19b1, H⟩
     ·(first | rw [c19b0] | (simp only [iV, jQ]; rw [c19b0]) | skip)
      have H' := ah.mk H
      clear H
      go_wp2
      repeat (go_quiet (fail); try go_wp2)
      go_meet
      case rel => exact ⟨_, (true), (by first | rfl | (simp; done) | (simp [*]; rw [Bool.eq_iff_iff]; simp [bne, List.isEmpty_iff]; done) | (simp [*]; done)), H', ⟨by have := HJ4.out; first | omega | exact Nat.le_refl _⟩, ⟨BK⟩, ⟨BL⟩⟩
     ·(first | rw [c19b0] | (simp only [iV, jQ]; rw [c19b0]) | skip)
      have H' := ah.mk H
      clear H
      go_wp2
      repeat (go_quiet (fail); try go_wp2)
      go_meet
      case rel => exact ⟨_, ((((aj l0 a1).f0) == 5)), (by first | rfl | (simp; done) | (simp [*]; rw [Bool.eq_iff_iff]; simp [bne, List.isEmpty_iff]; done) | (simp [*]; done)), H', ⟨by have := HJ4.out; first | omega | exact Nat.le_refl _⟩, ⟨BK⟩, ⟨BL⟩⟩
    case rest =>
     clear HC18
     try clear c3
     try clear c3b0
     try clear c4
     try clear c4b0
     try clear c17
     try clear hcz9001_0
     try clear hcz9001_1
     try clear hcz9001_2
     try clear hcz9001_3
     try clear hfz9001_0
     try clear hfz9001_1
     try clear hfz9001_2
     try clear hfz9001_3
     try clear hx304_0
     try clear hx304_1
     try clear hx304_2
     try clear hx304_3
     try clear p304
     try clear q304
     obtain ⟨kq, x6_17, rfl, HA, HJ17, BK305, HB⟩ := hcut
     cases kq with
     | zero => exact absurd HA.out (by simp [eT.j1])
     | succ kj17 =>
      have H := HA.out
      clear HA
      simp only [eT.j1] at H
      obtain ⟨hcz9004_0, hcz9004_1, hcz9004_2, hcz9004_3, hfz9004_0, hfz9004_1, hfz9004_2, hfz9004_3⟩ := cz4 BK305.out
      replace H := ifE H; rcases H with ⟨c22b0, c22b1, H⟩ | ⟨c22, c22b0, c22b1, H⟩
      ·replace H := ifE H; rcases H with ⟨c23b0, c23b1, H⟩ | ⟨c23, c23b0, c23b1, H⟩
       ·obtain rfl := Option.some.inj H
        go_wp2
        repeat (go_quiet (fail); try go_wp2)
        go_ret
        exact ⟨EWW, BL⟩
       ·obtain rfl := Option.some.inj H
        go_wp2
        repeat (go_quiet (fail); try go_wp2)
        go_ret
        exact ⟨EWW, BL⟩
      ·replace H := be H; obtain ⟨t308, A26, H⟩ := H
       replace H := ifB H; rcases H with ⟨rfl, H⟩ | ⟨rfl, H⟩
       ·replace H := ifB H; rcases H with ⟨rfl, H⟩ | ⟨rfl, H⟩
        ·replace H := be H; obtain ⟨t309, A29, H⟩ := H
         replace H := ifB H; rcases H with ⟨rfl, H⟩ | ⟨rfl, H⟩
         ·obtain rfl := Option.some.inj H
          go_wp2_with (first | (go_at_call 86; (with_reducible refine (bD.calls ((aj l0 a1).f2) 0 (wrap64 (a1 - 1)) _ _ A26.out).mono ?_); rintro e w' ⟨rfl, ⟨nd, rfl⟩⟩; (try first | exact ⟨rfl, _, World.drewN_drewN _ _ _⟩ | exact ⟨rfl, _, Eq.trans (World.drewN_drewN _ _ _) (congrArg (World.drewN _) (Nat.add_assoc _ _ _))⟩)) | (go_at_call 86; (with_reducible refine (bD.calls ((aj l0 a1).f3) 0 (wrap64 (a1 - 1)) _ _ A29.out).mono ?_); rintro e w' ⟨rfl, ⟨nd, rfl⟩⟩; (try first | exact ⟨rfl, _, World.drewN_drewN _ _ _⟩ | exact ⟨rfl, _, Eq.trans (World.drewN_drewN _ _ _) (congrArg (World.drewN _) (Nat.add_assoc _ _ _))⟩)))
          repeat (go_quiet (first | (go_at_call 86; (with_reducible refine (bD.calls ((aj l0 a1).f2) 0 (wrap64 (a1 - 1)) _ _ A26.out).mono ?_); rintro e w' ⟨rfl, ⟨nd, rfl⟩⟩; (try first | exact ⟨rfl, _, World.drewN_drewN _ _ _⟩ | exact ⟨rfl, _, Eq.trans (World.drewN_drewN _ _ _) (congrArg (World.drewN _) (Nat.add_assoc _ _ _))⟩)) | (go_at_call 86; (with_reducible refine (bD.calls ((aj l0 a1).f3) 0 (wrap64 (a1 - 1)) _ _ A29.out).mono ?_); rintro e w' ⟨rfl, ⟨nd, rfl⟩⟩; (try first | exact ⟨rfl, _, World.drewN_drewN _ _ _⟩ | exact ⟨rfl, _, Eq.trans (World.drewN_drewN _ _ _) (congrArg (World.drewN _) (Nat.add_assoc _ _ _))⟩))); try go_wp2_with (first | (go_at_call 86; (with_reducible refine (bD.calls ((aj l0 a1).f2) 0 (wrap64 (a1 - 1)) _ _ A26.out).mono ?_); rintro e w' ⟨rfl, ⟨nd, rfl⟩⟩; (try first | exact ⟨rfl, _, World.drewN_drewN _ _ _⟩ | exact ⟨rfl, _, Eq.trans (World.drewN_drewN _ _ _) (congrArg (World.drewN _) (Nat.add_assoc _ _ _))⟩)) | (go_at_call 86; (with_reducible refine (bD.calls ((aj l0 a1).f3) 0 (wrap64 (a1 - 1)) _ _ A29.out).mono ?_); rintro e w' ⟨rfl, ⟨nd, rfl⟩⟩; (try first | exact ⟨rfl, _, World.drewN_drewN _ _ _⟩ | exact ⟨rfl, _, Eq.trans (World.drewN_drewN _ _ _) (congrArg (World.drewN _) (Nat.add_assoc _ _ _))⟩))))
          go_ret
          exact ⟨EWW, BL⟩
         ·obtain rfl := Option.some.inj H
          go_wp2_with (first | (go_at_call 86; (with_reducible refine (bD.calls ((aj l0 a1).f2) 0 (wrap64 (a1 - 1)) _ _ A26.out).mono ?_); rintro e w' ⟨rfl, ⟨nd, rfl⟩⟩; (try first | exact ⟨rfl, _, World.drewN_drewN _ _ _⟩ | exact ⟨rfl, _, Eq.trans (World.drewN_drewN _ _ _) (congrArg (World.drewN _) (Nat.add_assoc _ _ _))⟩)) | (go_at_call 86; (with_reducible refine (bD.calls ((aj l0 a1).f3) 0 (wrap64 (a1 - 1)) _ _ A29.out).mono ?_); rintro e w' ⟨rfl, ⟨nd, rfl⟩⟩; (try first | exact ⟨rfl, _, World.drewN_drewN _ _ _⟩ | exact ⟨rfl, _, Eq.trans (World.drewN_drewN _ _ _) (congrArg (World.drewN _) (Nat.add_assoc _ _ _))⟩)))
          repeat (go_quiet (first | (go_at_call 86; (with_reducible refine (bD.calls ((aj l0 a1).f2) 0 (wrap64 (a1 - 1)) _ _ A26.out).mono ?_); rintro e w' ⟨rfl, ⟨nd, rfl⟩⟩; (try first | exact ⟨rfl, _, World.drewN_drewN _ _ _⟩ | exact ⟨rfl, _, Eq.trans (World.drewN_drewN _ _ _) (congrArg (World.drewN _) (Nat.add_assoc _ _ _))⟩)) | (go_at_call 86; (with_reducible refine (bD.calls ((aj l0 a1).f3) 0 (wrap64 (a1 - 1)) _ _ A29.out).mono ?_); rintro e w' ⟨rfl, ⟨nd, rfl⟩⟩; (try first | exact ⟨rfl, _, World.drewN_drewN _ _ _⟩ | exact ⟨rfl, _, Eq.trans (World.drewN_drewN _ _ _) (congrArg (World.drewN _) (Nat.add_assoc _ _ _))⟩))); try go_wp2_with (first | (go_at_call 86; (with_reducible refine (bD.calls ((aj l0 a1).f2) 0 (wrap64 (a1 - 1)) _ _ A26.out).mono ?_); rintro e w' ⟨rfl, ⟨nd, rfl⟩⟩; (try first | exact ⟨rfl, _, World.drewN_drewN _ _ _⟩ | exact ⟨rfl, _, Eq.trans (World.drewN_drewN _ _ _) (congrArg (World.drewN _) (Nat.add_assoc _ _ _))⟩)) | (go_at_call 86; (with_reducible refine (bD.calls ((aj l0 a1).f3) 0 (wrap64 (a1 - 1)) _ _ A29.out).mono ?_); rintro e w' ⟨rfl, ⟨nd, rfl⟩⟩; (try first | exact ⟨rfl, _, World.drewN_drewN _ _ _⟩ | exact ⟨rfl, _, Eq.trans (World.drewN_drewN _ _ _) (congrArg (World.drewN _) (Nat.add_assoc _ _ _))⟩))))
          go_ret
          exact ⟨EWW, BL⟩
        ·replace H := ifE H; rcases H with ⟨c33b0, c33b1, H⟩ | ⟨c33, c33b0, c33b1, H⟩
         ·replace H := ifE H; rcases H with ⟨c34b0, c34b1, H⟩ | ⟨c34, c34b0, c34b1, H⟩
          ·obtain rfl := Option.some.inj H
           go_wp2_with (first | (go_at_call 86; (with_reducible refine (bD.calls ((aj l0 a1).f2) 0 (wrap64 (a1 - 1)) _ _ A26.out).mono ?_); rintro e w' ⟨rfl, ⟨nd, rfl⟩⟩; (try first | exact ⟨rfl, _, World.drewN_drewN _ _ _⟩ | exact ⟨rfl, _, Eq.trans (World.drewN_drewN _ _ _) (congrArg (World.drewN _) (Nat.add_assoc _ _ _))⟩)))
           repeat (go_quiet (first | (go_at_call 86; (with_reducible refine (bD.calls ((aj l0 a1).f2) 0 (wrap64 (a1 - 1)) _ _ A26.out).mono ?_); rintro e w' ⟨rfl, ⟨nd, rfl⟩⟩; (try first | exact ⟨rfl, _, World.drewN_drewN _ _ _⟩ | exact ⟨rfl, _, Eq.trans (World.drewN_drewN _ _ _) (congrArg (World.drewN _) (Nat.add_assoc _ _ _))⟩))); try go_wp2_with (first | (go_at_call 86; (with_reducible refine (bD.calls ((aj l0 a1).f2) 0 (wrap64 (a1 - 1)) _ _ A26.out).mono ?_); rintro e w' ⟨rfl, ⟨nd, rfl⟩⟩; (try first | exact ⟨rfl, _, World.drewN_drewN _ _ _⟩ | exact ⟨rfl, _, Eq.trans (World.drewN_drewN _ _ _) (congrArg (World.drewN _) (Nat.add_assoc _ _ _))⟩))))
           go_ret
           exact ⟨EWW, BL⟩
          ·replace H := ifN H; obtain ⟨c36b0, H⟩ := H
           replace H := ifN H; obtain ⟨c37b0, H⟩ := H
           obtain rfl := Option.some.inj H
           go_wp2_with (first | (go_at_call 86; (with_reducible refine (bD.calls ((aj l0 a1).f2) 0 (wrap64 (a1 - 1)) _ _ A26.out).mono ?_); rintro e w' ⟨rfl, ⟨nd, rfl⟩⟩; (try first | exact ⟨rfl, _, World.drewN_drewN _ _ _⟩ | exact ⟨rfl, _, Eq.trans (World.drewN_drewN _ _ _) (congrArg (World.drewN _) (Nat.add_assoc _ _ _))⟩); have p310 : 0 ≤ (((aj l0 a1).f2) : Int) := OD; have q310 : ((aj l0 a1).f2) < (l0.length : Int) := OD; obtain ⟨ad310, e310, hx310_0, hx310_1, hx310_2, hx310_3⟩ := jh HR0.out ((aj l0 a1).f2) p310 q310; obtain rfl : ad304 = ad310 := (by injection e310); replace hx310_0 := (HB.out.cell (World.block_lt_of_cell? w _ hx310_0)).trans hx310_0; replace hx310_1 := (HB.out.cell (World.block_lt_of_cell? w _ hx310_1)).trans hx310_1; replace hx310_2 := (HB.out.cell (World.block_lt_of_cell? w _ hx310_2)).trans hx310_2; replace hx310_3 := (HB.out.cell (World.block_lt_of_cell? w _ hx310_3)).trans hx310_3; replace p310 := eq_true p310; replace q310 := eq_true q310))
           repeat (go_quiet (first | (go_at_call 86; (with_reducible refine (bD.calls ((aj l0 a1).f2) 0 (wrap64 (a1 - 1)) _ _ A26.out).mono ?_); rintro e w' ⟨rfl, ⟨nd, rfl⟩⟩; (try first | exact ⟨rfl, _, World.drewN_drewN _ _ _⟩ | exact ⟨rfl, _, Eq.trans (World.drewN_drewN _ _ _) (congrArg (World.drewN _) (Nat.add_assoc _ _ _))⟩); have p310 : 0 ≤ (((aj l0 a1).f2) : Int) := OD; have q310 : ((aj l0 a1).f2) < (l0.length : Int) := OD; obtain ⟨ad310, e310, hx310_0, hx310_1, hx310_2, hx310_3⟩ := jh HR0.out ((aj l0 a1).f2) p310 q310; obtain rfl : ad304 = ad310 := (by injection e310); replace hx310_0 := (HB.out.cell (World.block_lt_of_cell? w _ hx310_0)).trans hx310_0; replace hx310_1 := (HB.out.cell (World.block_lt_of_cell? w _ hx310_1)).trans hx310_1; replace hx310_2 := (HB.out.cell (World.block_lt_of_cell? w _ hx310_2)).trans hx310_2; replace hx310_3 := (HB.out.cell (World.block_lt_of_cell? w _ hx310_3)).trans hx310_3; replace p310 := eq_true p310; replace q310 := eq_true q310)); try go_wp2_with (first | (go_at_call 86; (with_reducible refine (bD.calls ((aj l0 a1).f2) 0 (wrap64 (a1 - 1)) _ _ A26.out).mono ?_); rintro e w' ⟨rfl, ⟨nd, rfl⟩⟩; (try first | exact ⟨rfl, _, World.drewN_drewN _ _ _⟩ | exact ⟨rfl, _, Eq.trans (World.drewN_drewN _ _ _) (congrArg (World.drewN _) (Nat.add_assoc _ _ _))⟩); have p310 : 0 ≤ (((aj l0 a1).f2) : Int) := OD; have q310 : ((aj l0 a1).f2) < (l0.length : Int) := OD; obtain ⟨ad310, e310, hx310_0, hx310_1, hx310_2, hx310_3⟩ := jh HR0.out ((aj l0 a1).f2) p310 q310; obtain rfl : ad304 = ad310 := (by injection e310); replace hx310_0 := (HB.out.cell (World.block_lt_of_cell? w _ hx310_0)).trans hx310_0; replace hx310_1 := (HB.out.cell (World.block_lt_of_cell? w _ hx310_1)).trans hx310_1; replace hx310_2 := (HB.out.cell (World.block_lt_of_cell? w _ hx310_2)).trans hx310_2; replace hx310_3 := (HB.out.cell (World.block_lt_of_cell? w _ hx310_3)).trans hx310_3; replace p310 := eq_true p310; replace q310 := eq_true q310)))
           go_ret
           exact ⟨EWW, BL⟩
         ·obtain rfl := Option.some.inj H
          go_wp2_with (first | (go_at_call 86; (with_reducible refine (bD.calls ((aj l0 a1).f2) 0 (wrap64 (a1 - 1)) _ _ A26.out).mono ?_); rintro e w' ⟨rfl, ⟨nd, rfl⟩⟩; (try first | exact ⟨rfl, _, World.drewN_drewN _ _ _⟩ | exact ⟨rfl, _, Eq.trans (World.drewN_drewN _ _ _) (congrArg (World.drewN _) (Nat.add_assoc _ _ _))⟩)))
          repeat (go_quiet (first | (go_at_call 86; (with_reducible refine (bD.calls ((aj l0 a1).f2) 0 (wrap64 (a1 - 1)) _ _ A26.out).mono ?_); rintro e w' ⟨rfl, ⟨nd, rfl⟩⟩; (try first | exact ⟨rfl, _, World.drewN_drewN _ _ _⟩ | exact ⟨rfl, _, Eq.trans (World.drewN_drewN _ _ _) (congrArg (World.drewN _) (Nat.add_assoc _ _ _))⟩))); try go_wp2_with (first | (go_at_call 86; (with_reducible refine (bD.calls ((aj l0 a1).f2) 0 (wrap64 (a1 - 1)) _ _ A26.out).mono ?_); rintro e w' ⟨rfl, ⟨nd, rfl⟩⟩; (try first | exact ⟨rfl, _, World.drewN_drewN _ _ _⟩ | exact ⟨rfl, _, Eq.trans (World.drewN_drewN _ _ _) (congrArg (World.drewN _) (Nat.add_assoc _ _ _))⟩))))
          go_ret
          exact ⟨EWW, BL⟩
       ·obtain rfl := Option.some.inj H
        go_wp2_with (first | (go_at_call 86; (with_reducible refine (bD.calls ((aj l0 a1).f2) 0 (wrap64 (a1 - 1)) _ _ A26.out).mono ?_); rintro e w' ⟨rfl, ⟨nd, rfl⟩⟩; (try first | exact ⟨rfl, _, World.drewN_drewN _ _ _⟩ | exact ⟨rfl, _, Eq.trans (World.drewN_drewN _ _ _) (congrArg (World.drewN _) (Nat.add_assoc _ _ _))⟩)))
        repeat (go_quiet (first | (go_at_call 86; (with_reducible refine (bD.calls ((aj l0 a1).f2) 0 (wrap64 (a1 - 1)) _ _ A26.out).mono ?_); rintro e w' ⟨rfl, ⟨nd, rfl⟩⟩; (try first | exact ⟨rfl, _, World.drewN_drewN _ _ _⟩ | exact ⟨rfl, _, Eq.trans (World.drewN_drewN _ _ _) (congrArg (World.drewN _) (Nat.add_assoc _ _ _))⟩))); try go_wp2_with (first | (go_at_call 86; (with_reducible refine (bD.calls ((aj l0 a1).f2) 0 (wrap64 (a1 - 1)) _ _ A26.out).mono ?_); rintro e w' ⟨rfl, ⟨nd, rfl⟩⟩; (try first | exact ⟨rfl, _, World.drewN_drewN _ _ _⟩ | exact ⟨rfl, _, Eq.trans (World.drewN_drewN _ _ _) (congrArg (World.drewN _) (Nat.add_assoc _ _ _))⟩))))
        go_ret
        exact ⟨EWW, BL⟩
mutual
def cZ.l0 : Nat → List (bZ) → Int → Option (Bool)
 | 0, _, _ => none
 | k + 1, a, b => if b < (a.length : Int) then (cZ.j1 k a b (decide ((a.length : Int) ≤ 9))) else (cZ.j1 k a b false)
def cZ.j1 : Nat → List (bZ) → Int → Bool → Option (Bool)
 | 0, _, _, _ => none
 | k + 1, a, b, c => if c = true then ((eT.f k a b).bind fun d => (if d = true then (cZ.l0 k a (wrap64 (b + 1))) else (some false))) else ((bD.f (a.length : Int) 1 9).bind fun e => (some e))
end
def cZ.f (k : Nat) (l0 : List (bZ)) : Option (Bool) := cZ.l0 k l0 0
theorem cZ.calls (k : Nat) (A0 : Option Addr) (c0 : Nat) (l0 : List (bZ)) (r : Bool) (w : World) (hr0 : Kd.C je w A0 l0.length l0) (hc0 : l0.length ≤ c0) (h : cZ.f k l0 = some r) :
  Calls Tryz.prog 158 #[.slice A0 l0.length c0] w fun e w' => e = .returned (.bool r) ∧ Below w.heap.size w w' := by
 have HR0 := ah.mk hr0
 have HC0 := ah.mk hc0
 clear hr0 hc0
 have HB := ah.mk (Below.refl w.heap.size w)
 have H : (cZ.l0 k l0 0) = some r := h
 clear h
 have H' := ah.mk H
 clear H
 go_enter Tryz.func158, Tryz.ntmps158
 go_wp2
 go_loopg [3] k (fun kq v3 w' => ∃ (x3_1 : Int), v3 = .int .i64 x3_1 ∧ ah (cZ.l0 kq l0 x3_1 = some r) ∧ ah (kq ≤ k) ∧ ah (Below w.heap.size w w'))
 case atStart => exact ⟨(0), EQ, H', ⟨Nat.le_refl _⟩, ⟨BL⟩⟩
 case round =>
  clear H'
  obtain ⟨x3_1, rfl, HA, HK1, HB⟩ := hrel
  cases gk with
  | zero => exact absurd HA.out (by simp [cZ.l0])
  | succ k1 =>
   have H := HA.out
   clear HA
   simp only [cZ.l0] at H
   have HC2 := ah.mk H
   clear H
   go_upto_region 2 with (fail)
   go_cut [12] (fun v12 wc => ∃ (kq : Nat) (x12_1 : Bool), v12 = .bool x12_1 ∧ ah (cZ.j1 kq l0 x3_1 x12_1 = some r) ∧ ah (kq ≤ k1) ∧ ah (Below w.heap.size w wc))
   case first =>
    have H := HC2.out
    clear HC2
    replace H := ifD H; rcases H with ⟨c3b0, H⟩ | ⟨c3b0, H⟩
    ·(first | rw [c3b0] | (simp only [iV, jQ]; rw [c3b0]) | skip)
     have H' := ah.mk H
     clear H
     go_wp2
     go_meet
     case rel => exact ⟨_, (decide ((l0.length : Int) ≤ 9)), EQ, H', ⟨by have := HK1.out; first | omega | exact Nat.le_refl _⟩, ⟨BL⟩⟩
    ·(first | rw [c3b0] | (simp only [iV, jQ]; rw [c3b0]) | skip)
     have H' := ah.mk H
     clear H
     go_wp2
     go_meet
     case rel => exact ⟨_, (false), EQ, H', ⟨by have := HK1.out; first | omega | exact Nat.le_refl _⟩, ⟨BL⟩⟩
   case rest =>
    clear HC2
    obtain ⟨kq, x12_1, rfl, HA, HJ1, HB⟩ := hcut
    cases kq with
    | zero => exact absurd HA.out (by simp [cZ.j1])
    | succ kj1 =>
     have H := HA.out
     clear HA
     simp only [cZ.j1] at H
     replace H := ifB H; rcases H with ⟨rfl, H⟩ | ⟨rfl, H⟩
     ·replace H := be H; obtain ⟨t311, A5, H⟩ := H
      replace H := ah.mk H
      go_wp2_with (first | ((with_reducible refine ay (f := 192) rfl ?_); refine bq (some 17) Tryz.func192 #[.slice A0 l0.length c0, .int .i64 x3_1] ?_; (with_reducible refine (eT.calls kj1 _ _ l0 x3_1 _ _ ?side1 ?side2 A5.out).mono ?_); (case side1 => exact CB HR0); (case side2 => exact HC0.out); rintro e w5000 ⟨rfl, hb⟩; refine ⟨_, rfl, ?_⟩; replace HB := BS (w := w) hb; (try clear hb); refine bP ?_))
      refine Hide.mk ?_
      replace H := H.out
      replace H := ifB H; rcases H with ⟨rfl, H⟩ | ⟨rfl, H⟩
      ·have H' := ah.mk H
       clear H
       try go_wp2
       go_roundg kj1
       case measure => have := HK1.out; have := HJ1.out; omega
       case rel => exact ⟨(wrap64 (x3_1 + 1)), EQ, H', ⟨by have := HK1.out; have := HJ1.out; omega⟩, ⟨BL⟩⟩
      ·obtain rfl := Option.some.inj H
       try go_wp2
       go_ret
       exact ⟨EWW, BL⟩
     ·replace H := be H; obtain ⟨t312, A9, H⟩ := H
      obtain rfl := Option.some.inj H
      go_wp2_with (first | ((with_reducible refine ay (f := 86) rfl ?_); refine bq (some 21) Tryz.func86 #[.int .i64 (l0.length : Int), .int .i64 1, .int .i64 9] ?_; (with_reducible refine (bD.calls (l0.length : Int) 1 9 t312 _ A9.out).mono ?_); rintro e w' ⟨rfl, ⟨nd, rfl⟩⟩; refine ⟨_, rfl, ?_⟩))
      go_ret
      exact ⟨EWW, BL⟩
def jG.f (k : Nat) (EU : Int) (E8 : List (bZ)) : Option (Bool) := (bD.f EU 1 99).bind fun t314 => (if t314 = true then ((cZ.f k E8).bind fun t315 => (some t315)) else (some false))
theorem jG.calls (k : Nat) (EU : Int) (A0_1 : Option Addr) (c0_1 : Nat) (E8 : List (bZ)) (r : Bool) (w : World) (hr0_1 : Kd.C je w A0_1 E8.length E8) (hc0_1 : E8.length ≤ c0_1) (h : jG.f k EU E8 = some r) :
  Calls Tryz.prog 102 #[.agg #[.int .i64 EU, .slice A0_1 E8.length c0_1]] w fun e w' => e = .returned (.bool r) ∧ Below w.heap.size w w' := by
 have hu82 := Tryz.underlying82
 have HR0_1 := ah.mk hr0_1
 have HC0_1 := ah.mk hc0_1
 clear hr0_1 hc0_1
 have HB := ah.mk (Below.refl w.heap.size w)
 unfold jG.f at h
 have H := h
 clear h
 replace H := be H; obtain ⟨t314, A2, H⟩ := H
 replace H := ah.mk H
 go_enter Tryz.func102, Tryz.ntmps102
 go_wp2_with (first | ((with_reducible refine aN (N := 1) rfl ?_); refine bC (N := 1) (cs := #[.int .i64 EU, .slice A0_1 E8.length c0_1]) (t := 82) ?_; intro gb313 hg w9000 hbox hb; have BK313 := ah.mk hbox; have GW313 := SZ (w := w) hg; have GE313 := GW313; replace HB := BS (w := w) hb; clear hb hbox hg; obtain ⟨hcz9001_0, hcz9001_1, hfz9001_0, hfz9001_1⟩ := cz2 BK313.out) | ((with_reducible refine ay (f := 86) rfl ?_); refine bq (some 5) Tryz.func86 #[.int .i64 EU, .int .i64 1, .int .i64 99] ?_; (with_reducible refine (bD.calls EU 1 99 _ _ A2.out).mono ?_); rintro e w' ⟨rfl, ⟨nd, rfl⟩⟩; refine ⟨_, rfl, ?_⟩; refine bP ?_))
 refine Hide.mk ?_
 replace H := H.out
 replace H := ifB H; rcases H with ⟨rfl, H⟩ | ⟨rfl, H⟩
 ·replace H := be H; obtain ⟨t315, A4, H⟩ := H
  obtain rfl := Option.some.inj H
  try go_wp2_with (first | (go_at_call 158; (with_reducible refine (cZ.calls k _ _ E8 t315 _ ?side1 ?side2 A4.out).mono ?_); (case side1 => repeat (first | exact (Kd.gP HR0_1.out BL) | (with_reducible refine Kd.eG ?_ _) | (with_reducible refine Kd.eH ?_ _) | (with_reducible refine Kd.fP ?_))); (case side2 => exact HC0_1.out); rintro e w9002 ⟨rfl, hb⟩; replace BK313 := KB BK313 hb; replace HB := BS (w := w) hb; (try clear hb)))
  go_ret
  exact ⟨EWW, BL⟩
 ·obtain rfl := Option.some.inj H
  try go_wp2
  go_ret
  exact ⟨EWW, BL⟩
def dY.l0 : Nat → List (S84) → ByteArray → Int → Int → Option (Bool)
 | 0, _, _, _, _ => none
 | k + 1, a, b, c, d => if d < (a.length : Int) then (if 0 ≤ d then (if ((fK a d).f0).toList = b.toList then (if ((fK a d).f1) = c then (some true) else (dY.l0 k a b c (wrap64 (d + 1)))) else (dY.l0 k a b c (wrap64 (d + 1)))) else (none)) else (some false)
def dY.f (k : Nat) (l0 : List (S84)) (a1 : ByteArray) (a2 : Int) : Option (Bool) := dY.l0 k l0 a1 a2 0
theorem dY.calls (k : Nat) (A0 : Option Addr) (c0 : Nat) (l0 : List (S84)) (a1 : ByteArray) (a2 : Int) (r : Bool) (w : World) (hr0 : Kd.C k84 w A0 l0.length l0) (hc0 : l0.length ≤ c0) (h : dY.f k l0 a1 a2 = some r) :
  Calls Tryz.prog 103 #[.slice A0 l0.length c0, .string a1, .int .i64 a2] w fun e w' => e = .returned (.bool r) ∧ aC w w' := by
 have HR0 := ah.mk hr0
 have HC0 := ah.mk hc0
 clear hr0 hc0
 have H : (dY.l0 k l0 a1 a2 0) = some r := h
 clear h
 have H' := ah.mk H
 clear H
 go_enter Tryz.func103, Tryz.ntmps103
 go_wp2
 go_loopg [7] k (fun kq v7 w' => ∃ (x7_1 : Int), v7 = .int .i64 x7_1 ∧ ah (dY.l0 kq l0 a1 a2 x7_1 = some r) ∧ ah (kq ≤ k) ∧ aC w w')
 case atStart => exact ⟨(0), EQ, H', ⟨Nat.le_refl _⟩, by repeat (first | exact aC.refl _ | apply aC.step)⟩
 case round =>
  clear H'
  obtain ⟨x7_1, rfl, HA, HK1, ⟨m1, rfl⟩⟩ := hrel
  cases gk with
  | zero => exact absurd HA.out (by simp [dY.l0])
  | succ k1 =>
   have H := HA.out
   clear HA
   simp only [dY.l0] at H
   replace H := ifD H; rcases H with ⟨c4b0, H⟩ | ⟨c4b0, H⟩
   ·replace H := ifN H; obtain ⟨c5b0, H⟩ := H
    have p316 : 0 ≤ (x7_1 : Int) := OD
    have q316 : x7_1 < (l0.length : Int) := OD
    obtain ⟨ad316, e316, hx316_0, hx316_1⟩ := vR HR0.out x7_1 p316 q316
    cases e316
    replace p316 := eq_true p316
    replace q316 := eq_true q316
    replace H := ifE H; rcases H with ⟨c6b0, c6b1, H⟩ | ⟨c6, c6b0, c6b1, H⟩
    ·have p317 : 0 ≤ (x7_1 : Int) := OD
     have q317 : x7_1 < (l0.length : Int) := OD
     obtain ⟨ad317, e317, hx317_0, hx317_1⟩ := vR HR0.out x7_1 p317 q317
     obtain rfl : ad316 = ad317 := (by injection e317)
     replace p317 := eq_true p317
     replace q317 := eq_true q317
     replace H := ifE H; rcases H with ⟨c7b0, c7b1, H⟩ | ⟨c7, c7b0, c7b1, H⟩
     ·obtain rfl := Option.some.inj H
      go_wp2
      go_ret
      exact ⟨by first | rfl | (simp; done) | (simp [*]; done), by repeat (first | exact aC.refl _ | apply aC.step)⟩
     ·have H' := ah.mk H
      clear H
      go_wp2
      go_roundg k1
      case measure => have := HK1.out; omega
      case rel => exact ⟨(wrap64 (x7_1 + 1)), EQ, H', ⟨by have := HK1.out; omega⟩, by repeat (first | exact aC.refl _ | apply aC.step)⟩
    ·have H' := ah.mk H
     clear H
     go_wp2
     go_roundg k1
     case measure => have := HK1.out; omega
     case rel => exact ⟨(wrap64 (x7_1 + 1)), EQ, H', ⟨by have := HK1.out; omega⟩, by repeat (first | exact aC.refl _ | apply aC.step)⟩
   ·obtain rfl := Option.some.inj H
    go_wp2
    go_ret
    exact ⟨by first | rfl | (simp; done) | (simp [*]; done), by repeat (first | exact aC.refl _ | apply aC.step)⟩
mutual
def aT.l0 : Nat → ByteArray → ByteArray → Int → Option (ByteArray)
 | 0, _, _, _ => none
 | k + 1, a, b, c => if c ≤ 122 then ((bH.f k a).bind fun d => (aT.j1 k a b c d)) else (aT.j1 k a b c false)
def aT.j1 : Nat → ByteArray → ByteArray → Int → Bool → Option (ByteArray)
 | 0, _, _, _, _ => none
 | k + 1, a, b, c, d => if d = true then (aT.l1 k a b c 0) else (some b)
def aT.l1 : Nat → ByteArray → ByteArray → Int → Int → Option (ByteArray)
 | 0, _, _, _, _ => none
 | k + 1, a, b, c, d => if d < (a.size : Int) then (if 0 ≤ d then (if (wrap32 (bt a d)) = c then (if d ≤ (wrap64 (d + 1)) then (if (wrap64 (d + 1)) ≤ (a.size : Int) then (if b.size + (a.extract (d : Int).toNat ((wrap64 (d + 1)) : Int).toNat).size ≤ 9223372036854775807 then (aT.l1 k a (b ++ (a.extract (d : Int).toNat ((wrap64 (d + 1)) : Int).toNat)) c (wrap64 (d + 1))) else (none)) else (none)) else (none)) else (aT.l1 k a b c (wrap64 (d + 1)))) else (none)) else (aT.l0 k a b (wrap32 (c + 1)))
end
def aT.f (k : Nat) (a0 : ByteArray) : Option (ByteArray) := aT.l0 k a0 (⟨#[]⟩ : ByteArray) 97
theorem aT.calls (k : Nat) (a0 r : ByteArray) (w : World) (h : aT.f k a0 = some r) :
  Calls Tryz.prog 214 #[.string a0] w fun e w' => e = .returned (.string r) ∧ aC w w' := by
 unfold aT.f at h
 have H := h
 clear h
 have H' := ah.mk H
 clear H
 go_enter Tryz.func214, Tryz.ntmps214
 go_wp2
 go_loopg [3, 4] k (fun kq v3 v4 w' => ∃ (x3_1 : ByteArray) (x4_1 : Int), v3 = .string x3_1 ∧ v4 = .int .i32 x4_1 ∧ ah (aT.l0 kq a0 x3_1 x4_1 = some r) ∧ ah (kq ≤ k) ∧ aC w w')
 case atStart => exact ⟨((⟨#[]⟩ : ByteArray)), (97), EQ, EQ, H', ⟨Nat.le_refl _⟩, by repeat (first | exact aC.refl _ | apply aC.step)⟩
 case round =>
  clear H'
  obtain ⟨x3_1, x4_1, rfl, rfl, HA, HK1, ⟨m1, rfl⟩⟩ := hrel
  cases gk with
  | zero => exact absurd HA.out (by simp [aT.l0])
  | succ k1 =>
   have H := HA.out
   clear HA
   simp only [aT.l0] at H
   have HC2 := ah.mk H
   clear H
   go_upto_region 3 with (fail)
   go_cut [11] (fun v11 wc => ∃ (kq : Nat) (x11_1 : Bool), v11 = .bool x11_1 ∧ ah (aT.j1 kq a0 x3_1 x4_1 x11_1 = some r) ∧ ah (kq ≤ k1) ∧ aC w wc)
   case first =>
    have H := HC2.out
    clear HC2
    replace H := ifD H; rcases H with ⟨c3b0, H⟩ | ⟨c3b0, H⟩
    ·(first | rw [c3b0] | (simp only [iV, jQ]; rw [c3b0]) | skip)
     replace H := be H; obtain ⟨t318, A4, H⟩ := H
     have H' := ah.mk H
     clear H
     go_wp2_with (first | (go_at_call 140; (with_reducible refine (bH.calls k1 a0 t318 _ A4.out).mono ?_); rintro e w' ⟨rfl, ⟨nd, rfl⟩⟩))
     go_meet
     case rel => exact ⟨_, (t318), EQ, H', ⟨by have := HK1.out; first | omega | exact Nat.le_refl _⟩, by repeat (first | exact aC.refl _ | apply aC.step)⟩
    ·(first | rw [c3b0] | (simp only [iV, jQ]; rw [c3b0]) | skip)
     have H' := ah.mk H
     clear H
     go_wp2
     go_meet
     case rel => exact ⟨_, (false), EQ, H', ⟨by have := HK1.out; first | omega | exact Nat.le_refl _⟩, by repeat (first | exact aC.refl _ | apply aC.step)⟩
   case rest =>
    clear HC2
    obtain ⟨kq, x11_1, rfl, HA, HJ1, ⟨mc1, rfl⟩⟩ := hcut
    cases kq with
    | zero => exact absurd HA.out (by simp [aT.j1])
    | succ kj1 =>
     have H := HA.out
     clear HA
     simp only [aT.j1] at H
     replace H := ifB H; rcases H with ⟨rfl, H⟩ | ⟨rfl, H⟩
     ·have H' := ah.mk H
      clear H
      go_wp2
      go_loopg [3, 5] kj1 (fun kq v3 v5 w' => ∃ (x3_3 : ByteArray) (x5_3 : Int), v3 = .string x3_3 ∧ v5 = .int .i64 x5_3 ∧ ah (aT.l1 kq a0 x3_3 x4_1 x5_3 = some r) ∧ ah (kq ≤ kj1) ∧ aC w w')
      case atStart => exact ⟨(x3_1), (0), EQ, EQ, H', ⟨Nat.le_refl _⟩, by repeat (first | exact aC.refl _ | apply aC.step)⟩
      case round =>
       clear H'
       try clear c5
       obtain ⟨x3_3, x5_3, rfl, rfl, HA, HK3, ⟨m3, rfl⟩⟩ := hrel
       cases gk with
       | zero => exact absurd HA.out (by simp [aT.l1])
       | succ k3 =>
        have H := HA.out
        clear HA
        simp only [aT.l1] at H
        replace H := ifD H; rcases H with ⟨c6b0, H⟩ | ⟨c6b0, H⟩
        ·replace H := ifN H; obtain ⟨c7b0, H⟩ := H
         have p8 : (0 ≤ (x5_3 : Int)) = True := OT
         have q8 : (x5_3 < (a0.size : Int)) = True := OT
         have hx8 := gI a0 x5_3
         replace H := ifE H; rcases H with ⟨c9b0, c9b1, H⟩ | ⟨c9, c9b0, c9b1, H⟩
         ·have c10b0 := eq_true (OD : 0 ≤ x5_3)
          replace H := ifP H; obtain ⟨c11, H⟩ := H
          have c11b0 := eq_true c11
          have c11b1 : decide (x5_3 ≤ (wrap64 (x5_3 + 1))) = true := decide_eq_true c11
          replace H := ifP H; obtain ⟨c12, H⟩ := H
          have c12b0 := eq_true c12
          have c12b1 : decide ((wrap64 (x5_3 + 1)) ≤ (a0.size : Int)) = true := decide_eq_true c12
          replace H := ifP H; obtain ⟨c13, H⟩ := H
          have c13b0 := eq_true c13
          have c13b1 : decide (x3_3.size + (a0.extract (x5_3 : Int).toNat ((wrap64 (x5_3 + 1)) : Int).toNat).size ≤ 9223372036854775807) = true := decide_eq_true c13
          try have c13b2 : (9223372036854775807 < x3_3.size + (a0.extract (x5_3 : Int).toNat ((wrap64 (x5_3 + 1)) : Int).toNat).size) = False := eq_false (Nat.not_lt.2 c13)
          have H' := ah.mk H
          clear H
          go_wp2
          go_roundg k3
          case measure => have := HK1.out; have := HJ1.out; have := HK3.out; omega
          case rel => exact ⟨(x3_3 ++ (a0.extract (x5_3 : Int).toNat ((wrap64 (x5_3 + 1)) : Int).toNat)), (wrap64 (x5_3 + 1)), EQ, EQ, H', ⟨by have := HK1.out; have := HJ1.out; have := HK3.out; omega⟩, by repeat (first | exact aC.refl _ | apply aC.step)⟩
         ·have H' := ah.mk H
          clear H
          go_wp2
          go_roundg k3
          case measure => have := HK1.out; have := HJ1.out; have := HK3.out; omega
          case rel => exact ⟨(x3_3), (wrap64 (x5_3 + 1)), EQ, EQ, H', ⟨by have := HK1.out; have := HJ1.out; have := HK3.out; omega⟩, by repeat (first | exact aC.refl _ | apply aC.step)⟩
        ·have H' := ah.mk H
         clear H
         go_wp2
         go_roundg k3
         case measure => have := HK1.out; have := HJ1.out; have := HK3.out; omega
         case rel => exact ⟨(x3_3), (wrap32 (x4_1 + 1)), EQ, EQ, H', ⟨by have := HK1.out; have := HJ1.out; have := HK3.out; omega⟩, by repeat (first | exact aC.refl _ | apply aC.step)⟩
     ·obtain rfl := Option.some.inj H
      go_wp2
      go_ret
      exact ⟨by first | rfl | (simp; done) | (simp [*]; done), by repeat (first | exact aC.refl _ | apply aC.step)⟩
def gN.f (k : Nat) (a0 a1 : ByteArray) : Option (Bool) := (bH.f k a0).bind fun t319 => (if t319 = true then ((bH.f k a1).bind fun t320 => (if t320 = true then (if a0.toList = a1.toList then (some false) else ((aT.f k a0).bind fun t321 => ((aT.f k a1).bind fun t322 => (some (t321.toList == t322.toList))))) else (some false))) else (some false))
theorem gN.calls (k : Nat) (a0 a1 : ByteArray) (r : Bool) (w : World) (h : gN.f k a0 a1 = some r) :
  Calls Tryz.prog 193 #[.string a0, .string a1] w fun e w' => e = .returned (.bool r) ∧ aC w w' := by
 unfold gN.f at h
 have H := h
 clear h
 replace H := be H; obtain ⟨t319, A3, H⟩ := H
 replace H := ah.mk H
 go_enter Tryz.func193, Tryz.ntmps193
 go_wp2_with (first | ((with_reducible refine ay (f := 140) rfl ?_); refine bq (some 6) Tryz.func140 #[.string a0] ?_; (with_reducible refine (bH.calls k a0 _ _ A3.out).mono ?_); rintro e w' ⟨rfl, ⟨nd, rfl⟩⟩; refine ⟨_, rfl, ?_⟩; refine bP ?_))
 refine Hide.mk ?_
 replace H := H.out
 replace H := ifB H; rcases H with ⟨rfl, H⟩ | ⟨rfl, H⟩
 ·replace H := be H; obtain ⟨t320, A5, H⟩ := H
  replace H := ah.mk H
  go_wp2_with (first | (go_at_call 140; (with_reducible refine (bH.calls k a1 _ _ A5.out).mono ?_); rintro e w' ⟨rfl, ⟨nd, rfl⟩⟩; refine bP ?_))
  refine Hide.mk ?_
  replace H := H.out
  replace H := ifB H; rcases H with ⟨rfl, H⟩ | ⟨rfl, H⟩
  ·replace H := ifE H; rcases H with ⟨c7b0, c7b1, H⟩ | ⟨c7, c7b0, c7b1, H⟩
   ·obtain rfl := Option.some.inj H
    try go_wp2
    go_ret
    exact ⟨by first | rfl | (simp; done) | (simp [*]; done), by repeat (first | exact aC.refl _ | apply aC.step)⟩
   ·replace H := be H; obtain ⟨t321, A8, H⟩ := H
    replace H := be H; obtain ⟨t322, A9, H⟩ := H
    obtain rfl := Option.some.inj H
    try go_wp2_with (first | (go_at_call 214; (with_reducible refine (aT.calls k a0 t321 _ A8.out).mono ?_); rintro e w' ⟨rfl, ⟨nd, rfl⟩⟩) | (go_at_call 214; (with_reducible refine (aT.calls k a1 t322 _ A9.out).mono ?_); rintro e w' ⟨rfl, ⟨nd, rfl⟩⟩))
    go_ret
    exact ⟨by first | rfl | (simp; done) | (simp [*]; done), by repeat (first | exact aC.refl _ | apply aC.step)⟩
  ·obtain rfl := Option.some.inj H
   try go_wp2
   go_ret
   exact ⟨by first | rfl | (simp; done) | (simp [*]; done), by repeat (first | exact aC.refl _ | apply aC.step)⟩
 ·obtain rfl := Option.some.inj H
  try go_wp2
  go_ret
  exact ⟨by first | rfl | (simp; done) | (simp [*]; done), by repeat (first | exact aC.refl _ | apply aC.step)⟩
end Go.Proofs.YtnfiedfaaaphoaaGreat.PFnExactPuzzleCode
