/- Walks of functions: what each computes. -/
import Derived.Test.YtnfiedfaaaphoaaGreatZOneRoundG0
import Derived.Test.YtnfiedfaaaphoaaGreatZOneRoundG1
import Derived.Test.YtnfiedfaaaphoaaGreatZOneRoundG2
import Derived.Test.YtnfiedfaaaphoaaGreatZOneRoundW
import Derived.Test.YtnfiedfaaaphoaaGreatZOneRoundShelf
import Derived.Test.YtnfiedfaaaphoaaGreatZOneRoundHandSort
import Derived.Test.YtnfiedfaaaphoaaGreatZOneRoundHandForm
import Derived.Test.YtnfiedfaaaphoaaGreatZOneRoundHandAlone
import Derived.Test.YtnfiedfaaaphoaaGreatZOneRoundHandReach
import Derived.Test.YtnfiedfaaaphoaaGreatZOneRoundHandPut
namespace Go.Proofs.YtnfiedfaaaphoaaGreat.PFnExactOneRound
open Go.RowKit Go.Proofs.YtnfiedfaaaphoaaGreatW.PrintWords Go.Proofs.YtnfiedfaaaphoaaGreatW.PrintLast Go.Proofs.YtnfiedfaaaphoaaGreatW.PrintMore Go.Proofs.YtnfiedfaaaphoaaGreat.Sq
attribute [local go_sem] lK lG ng mY kD kE lJ lF
set_option maxHeartbeats 8000000
set_option maxRecDepth 100000
set_option linter.unusedVariables false
set_option linter.unusedSimpArgs false
mutual
def bN.l0 (M : Nat → List (dB) → Int → ByteArray → Option Bool) : Nat → List (dB) → ByteArray → Int → Int → ByteArray → Int → Int → Option (Bool)
 | 0, _, _, _, _, _, _, _ => none
 | k + 1, a, b, c, d, e, f, g => if c < (b.size : Int) then (bN.l1 M k a b c (wrap64 (c + 1)) d e f g) else (some false)
def bN.l1 (M : Nat → List (dB) → Int → ByteArray → Option Bool) : Nat → List (dB) → ByteArray → Int → Int → Int → ByteArray → Int → Int → Option (Bool)
 | 0, _, _, _, _, _, _, _, _ => none
 | k + 1, a, b, c, d, e, f, g, h => if d < (b.size : Int) then (if 0 ≤ c then (if c ≤ d then (if d ≤ (b.size : Int) then ((M k a h (b.extract (c : Int).toNat (d : Int).toNat)).bind fun i => (if i = true then (if c ≤ (b.size : Int) then (if 0 ≤ d then (if (b.extract 0 (c : Int).toNat).size + (b.extract (d : Int).toNat b.size).size ≤ 9223372036854775807 then ((M k a g ((b.extract 0 (c : Int).toNat) ++ (b.extract (d : Int).toNat b.size))).bind fun j => (if j = true then (some true) else (bN.l1 M k a b c (wrap64 (d + 1)) e f g h))) else (none)) else (none)) else (none)) else (bN.l1 M k a b c (wrap64 (d + 1)) e f g h))) else (none)) else (none)) else (none)) else (bN.l0 M k a b (wrap64 (c + 1)) e f g h)
end
def bN.f (M : Nat → List (dB) → Int → ByteArray → Option Bool) (k : Nat) (l0 : List (dB)) (FY : Int) (FZ : ByteArray) (F3 a1_3 : Int) (a2 : ByteArray) : Option (Bool) := bN.l0 M k l0 a2 1 FY FZ F3 a1_3
def bN.T7 : Bool × List (List Nat × List Nat) := (true, [([], []), ([], []), ([1], [1]), ([], []), ([], []), ([], []), ([3, 4, 5], [3, 4, 5]), ([0, 2, 6], [0, 2, 6]), ([7, 7], [7]), ([8], [8]), ([8], [8]), ([10, 8], [8, 10]), ([8], [8]), ([8], [8]), ([12, 13, 8], [8, 12, 13]), ([8], [8]), ([8], [8]), ([15, 16, 8], [8, 15, 16]), ([14, 17, 8], [8, 14, 17]), ([9, 11, 18, 8, 8], [8, 9, 11, 18]), ([8, 19], [8, 19])])
def bN.B7 : List Nat := [0, 0, 2, 0, 0, 0, 56, 127, 255, 511, 511, 1535, 511, 511, 12799, 511, 511, 98815, 258559, 524287, 1048575]
theorem bN.EO : kG .any (opsOf Tryz.f195 7) = bN.T7 := by kernel_rfl
theorem bN.Di : iW bN.T7.2 bN.B7 = true := by kernel_rfl
theorem bN.calls (M : Nat → List (dB) → Int → ByteArray → Option Bool) (hM : ∀ (j : Nat) (A : Option Addr) (c : Nat) (l : List (dB)) (i : Int) (s : ByteArray) (b : Bool) (W : World), Kd.C jw W A l.length l → l.length ≤ c → M j l i s = some b → Calls Tryz.prog 159 #[.slice A l.length c, .int .i64 i, .string s] W fun e w' => e = .returned (.bool b) ∧ Below W.heap.size W w') (k : Nat) (A0 : Option Addr) (c0 : Nat) (l0 : List (dB)) (FY : Int) (FZ : ByteArray) (F3 a1_3 : Int) (a2 : ByteArray) (r : Bool) (w : World) (hr0 : Kd.C jw w A0 l0.length l0) (hc0 : l0.length ≤ c0) (h : bN.f M k l0 FY FZ F3 a1_3 a2 = some r) :
  Calls Tryz.prog 195 #[.slice A0 l0.length c0, .agg #[.int .i64 FY, .string FZ, .int .i64 F3, .int .i64 a1_3], .string a2] w fun e w' => e = .returned (.bool r) ∧ Below w.heap.size w w' := by
 have hu141 := Tryz.underlying141
 have HR0 := ah.mk hr0
 have HC0 := ah.mk hc0
 clear hr0 hc0
 have HB := ah.mk (Below.refl w.heap.size w)
 have HMM := ah.mk hM
 clear hM
 unfold bN.f at h
 have H := h
 clear h
 have H' := ah.mk H
 clear H
 go_enter Tryz.func195, Tryz.ntmps195
 go_wp2_with (first | ((with_reducible refine aJ (N := 4) rfl ?_); refine bg (N := 4) (cs := #[.int .i64 FY, .string FZ, .int .i64 F3, .int .i64 a1_3]) (t := 141) ?_; intro gb341 hg w4 hbox hb; have BK341 := ah.mk hbox; have GW341 := SZ (w := w) hg; have GE341 := GW341; replace HB := BS (w := w) hb; clear hb hbox hg))
 go_loopg [7] k (fun kq v7 w' => ∃ (x7_1 : Int), v7 = .int .i64 x7_1 ∧ ah (bN.l0 M kq l0 a2 x7_1 FY FZ F3 a1_3 = some r) ∧ ah (kq ≤ k) ∧ ah (w'.heap[gb341]? = some (.cells #[.int .i64 FY, .string FZ, .int .i64 F3, .int .i64 a1_3] 141 (0, 0))) ∧ ah (Below w.heap.size w w'))
 case atStart => exact ⟨(1), EQ, H', ⟨Nat.le_refl _⟩, ⟨BK⟩, ⟨BL⟩⟩
 case round =>
  clear H'
  obtain ⟨x7_1, rfl, HA, HK1, BK341, HB⟩ := hrel
  cases gk with
  | zero => exact absurd HA.out (by simp [bN.l0])
  | succ k1 =>
   have H := HA.out
   clear HA
   simp only [bN.l0] at H
   replace H := ifD H; rcases H with ⟨c5b0, H⟩ | ⟨c5b0, H⟩
   ·have H' := ah.mk H
    clear H
    go_wp2
    go_loopg [8] k1 (fun kq v8 w' => ∃ (x8_2 : Int), v8 = .int .i64 x8_2 ∧ ah (bN.l1 M kq l0 a2 x7_1 x8_2 FY FZ F3 a1_3 = some r) ∧ ah (kq ≤ k1) ∧ ah (w'.heap[gb341]? = some (.cells #[.int .i64 FY, .string FZ, .int .i64 F3, .int .i64 a1_3] 141 (0, 0))) ∧ ah (Below w.heap.size w w'))
    case atStart => exact ⟨(wrap64 (x7_1 + 1)), EQ, H', ⟨Nat.le_refl _⟩, ⟨BK⟩, ⟨BL⟩⟩
    case round =>
     clear H'
     try clear c5
     try clear c5b0
     obtain ⟨x8_2, rfl, HA, HK2, BK341, HB⟩ := hrel
     cases gk with
     | zero => exact absurd HA.out (by simp [bN.l1])
     | succ k2 =>
      have H := HA.out
      clear HA
      simp only [bN.l1] at H
      replace H := ifD H; rcases H with ⟨c6b0, H⟩ | ⟨c6b0, H⟩
      ·replace H := ifP H; obtain ⟨c7, H⟩ := H
       have c7b0 := eq_true c7
       have c7b1 : decide (0 ≤ x7_1) = true := decide_eq_true c7
       clear c7
       replace H := ifP H; obtain ⟨c8, H⟩ := H
       have c8b0 := eq_true c8
       have c8b1 : decide (x7_1 ≤ x8_2) = true := decide_eq_true c8
       clear c8
       replace H := ifP H; obtain ⟨c9, H⟩ := H
       have c9b0 := eq_true c9
       have c9b1 : decide (x8_2 ≤ (a2.size : Int)) = true := decide_eq_true c9
       clear c9
       replace H := be H; obtain ⟨t342, A10, H⟩ := H
       replace H := ah.mk H
       try go_wp2
       replace BK341 := ah.mk (aH BK341.out)
       replace HB := ah.mk (dH HB.out)
       refine ji (n := 21) (S := fun w' => w'.cell? ⟨gb341, 0, none⟩ = some (.int .i64 FY) ∧ w'.cell? ⟨gb341, 1, none⟩ = some (.string FZ) ∧ w'.cell? ⟨gb341, 2, none⟩ = some (.int .i64 F3) ∧ w'.cell? ⟨gb341, 3, none⟩ = some (.int .i64 a1_3)) (ds := []) #[F,F,F,F,F,F,F,F,F,F,F,F,F,F,F,F,F,F,F,F,F] (by kernel_rfl) rfl rfl ⟨(ak BK341.out 0).trans rfl, (ak BK341.out 1).trans rfl, (ak BK341.out 2).trans rfl, (ak BK341.out 3).trans rfl⟩ (fun hHeld => ?_); refine iI bN.EO bN.Di (fun HT_ HW_ => ?_)
       generalize wr.drew = w7000 at BK341 HB hHeld ⊢
       refine puS (i := 0) (N := some 23) #[T,F,F,F,F,F,F,F,F,F,F,F,F,F,F,F,F,F,F,F,F] (aK HT_.out (by kernel_rfl)) ?_
       refine puS (i := 1) (N := some 24) #[T,T,F,F,F,F,F,F,F,F,F,F,F,F,F,F,F,F,F,F,F] (aK HT_.out (by kernel_rfl)) ?_
       refine puS (i := 3) (N := some 26) #[T,T,F,T,F,F,F,F,F,F,F,F,F,F,F,F,F,F,F,F,F] (aK HT_.out (by kernel_rfl)) ?_
       refine puS (i := 4) (N := some 27) #[T,T,F,T,T,F,F,F,F,F,F,F,F,F,F,F,F,F,F,F,F] (aK HT_.out (by kernel_rfl)) ?_
       refine puS (i := 5) (N := some 28) #[T,T,F,T,T,T,F,F,F,F,F,F,F,F,F,F,F,F,F,F,F] (aK HT_.out (by kernel_rfl)) ?_
       refine puS (i := 6) (N := some 29) #[T,T,F,T,T,T,T,F,F,F,F,F,F,F,F,F,F,F,F,F,F] (aK HT_.out (by kernel_rfl)) ?_
       refine taS (i := 2) (N := some 25) #[T,T,T,T,T,T,T,F,F,F,F,F,F,F,F,F,F,F,F,F,F] (eF HT_.out HW_.out (by kernel_rfl)) hHeld ?_
       refine kW (i := 7) (N := some 30) #[T,T,T,T,T,T,T,T,F,F,F,F,F,F,F,F,F,F,F,F,F] rfl rfl (jf HT_.out (by kernel_rfl)) (by decide) (fun K hK => ?_)
       refine iZ Tryz.func159 #[.slice A0 l0.length c0, .int .i64 a1_3, .string (a2.extract (x7_1 : Int).toNat (x8_2 : Int).toNat)] ?_
       replace H := H.out
       replace H := ifB H; rcases H with ⟨rfl, H⟩ | ⟨rfl, H⟩
       ·have c12b0 := eq_true (OD : 0 ≤ x7_1)
        replace H := ifP H; obtain ⟨c13, H⟩ := H
        have c13b0 := eq_true c13
        have c13b1 : decide (x7_1 ≤ (a2.size : Int)) = true := decide_eq_true c13
        clear c13
        replace H := ifP H; obtain ⟨c14, H⟩ := H
        have c14b0 := eq_true c14
        have c14b1 : decide (0 ≤ x8_2) = true := decide_eq_true c14
        clear c14
        have c15b0 := eq_true (OD : x8_2 ≤ (a2.size : Int))
        by_cases c16 : (a2.extract 0 (x7_1 : Int).toNat).size + (a2.extract (x8_2 : Int).toNat a2.size).size ≤ 9223372036854775807
        ·rw [if_pos c16] at H
         have c16b0 := eq_true c16
         have c16b1 : decide ((a2.extract 0 (x7_1 : Int).toNat).size + (a2.extract (x8_2 : Int).toNat a2.size).size ≤ 9223372036854775807) = true := decide_eq_true c16
         try have c16b2 : (9223372036854775807 < (a2.extract 0 (x7_1 : Int).toNat).size + (a2.extract (x8_2 : Int).toNat a2.size).size) = False := eq_false (Nat.not_lt.2 c16)
         have c16b3d : (9223372036854775807 < x7_1.toNat + (a2.size - x8_2.toNat)) = False := by
          have hx_ : x7_1 ≤ (a2.size : Int) := OD
          have h_ := of_decide_eq_true c16b1
          simp only [ByteArray.size_extract] at h_
          exact eq_false (by omega)
         replace H := be H; obtain ⟨t343, A17, H⟩ := H
         replace H := ah.mk H
         with_reducible refine (HMM.out k2 _ _ l0 a1_3 (a2.extract (x7_1 : Int).toNat (x8_2 : Int).toNat) true _ ?side1 ?side2 A10.out).mono ?_
         (case side1 => exact CB HR0)
         (case side2 => exact HC0.out)
         rintro e w7001 ⟨rfl, hb⟩
         refine ⟨_, rfl, ?_⟩
         replace BK341 := KB BK341 hb
         replace HB := BS (w := w) hb
         (try clear hb)
         refine hK.out _ _ ⟨(ak BK341.out 0).trans rfl, (ak BK341.out 1).trans rfl, (ak BK341.out 2).trans rfl, (ak BK341.out 3).trans rfl⟩ (fun hHeld => ?_)
         clear hK K
         refine nrm (some 30) ?_
         refine puS (i := 8) (N := some 31) #[T,T,T,T,T,T,T,T,T,F,F,F,F,F,F,F,F,F,F,F,F] (aK HT_.out (by kernel_rfl)) ?_
         refine puS (i := 9) (N := some 32) #[T,T,T,T,T,T,T,T,T,T,F,F,F,F,F,F,F,F,F,F,F] (aK HT_.out (by kernel_rfl)) ?_
         refine puS (i := 10) (N := some 33) #[T,T,T,T,T,T,T,T,T,T,T,F,F,F,F,F,F,F,F,F,F] (aK HT_.out (by kernel_rfl)) ?_
         refine puS (i := 12) (N := some 35) #[T,T,T,T,T,T,T,T,T,T,T,F,T,F,F,F,F,F,F,F,F] (aK HT_.out (by kernel_rfl)) ?_
         refine puS (i := 13) (N := some 36) #[T,T,T,T,T,T,T,T,T,T,T,F,T,T,F,F,F,F,F,F,F] (aK HT_.out (by kernel_rfl)) ?_
         refine puS (i := 14) (N := some 37) #[T,T,T,T,T,T,T,T,T,T,T,F,T,T,T,F,F,F,F,F,F] (aK HT_.out (by kernel_rfl)) ?_
         refine puS (i := 15) (N := some 38) #[T,T,T,T,T,T,T,T,T,T,T,F,T,T,T,T,F,F,F,F,F] (aK HT_.out (by kernel_rfl)) ?_
         refine puS (i := 16) (N := some 39) #[T,T,T,T,T,T,T,T,T,T,T,F,T,T,T,T,T,F,F,F,F] (aK HT_.out (by kernel_rfl)) ?_
         refine puS (i := 17) (N := some 40) #[T,T,T,T,T,T,T,T,T,T,T,F,T,T,T,T,T,T,F,F,F] (aK HT_.out (by kernel_rfl)) ?_
         refine puS (i := 18) (N := some 41) #[T,T,T,T,T,T,T,T,T,T,T,F,T,T,T,T,T,T,T,F,F] (aK HT_.out (by kernel_rfl)) ?_
         refine taS (i := 11) (N := some 34) #[T,T,T,T,T,T,T,T,T,T,T,T,T,T,T,T,T,T,T,F,F] (eF HT_.out HW_.out (by kernel_rfl)) hHeld ?_
         refine kW (i := 19) (N := some 42) #[T,T,T,T,T,T,T,T,T,T,T,T,T,T,T,T,T,T,T,T,F] rfl rfl (jf HT_.out (by kernel_rfl)) (by decide) (fun K hK => ?_)
         refine iZ Tryz.func159 #[.slice A0 l0.length c0, .int .i64 F3, .string ((a2.extract 0 (x7_1 : Int).toNat) ++ (a2.extract (x8_2 : Int).toNat a2.size))] ?_
         replace H := H.out
         replace H := ifB H; rcases H with ⟨rfl, H⟩ | ⟨rfl, H⟩
         ·obtain rfl := Option.some.inj H
          with_reducible refine (HMM.out k2 _ _ l0 F3 ((a2.extract 0 (x7_1 : Int).toNat) ++ (a2.extract (x8_2 : Int).toNat a2.size)) true _ ?side1 ?side2 A17.out).mono ?_
          (case side1 => exact CB HR0)
          (case side2 => exact HC0.out)
          rintro e w7002 ⟨rfl, hb⟩
          refine ⟨_, rfl, ?_⟩
          replace BK341 := KB BK341 hb
          replace HB := BS (w := w) hb
          (try clear hb)
          refine hK.out _ _ ⟨(ak BK341.out 0).trans rfl, (ak BK341.out 1).trans rfl, (ak BK341.out 2).trans rfl, (ak BK341.out 3).trans rfl⟩ (fun hHeld => ?_)
          clear hK K
          refine nrm (some 42) ?_
          refine puS (i := 20) (N := some 43) #[T,T,T,T,T,T,T,T,T,T,T,T,T,T,T,T,T,T,T,T,T] (aK HT_.out (by kernel_rfl)) ?_
          refine iD (gG HT_.out (by kernel_rfl)) ?_
          try go_wp2
          go_ret
          exact ⟨EWW, BL⟩
         ·have H' := ah.mk H
          clear H
          with_reducible refine (HMM.out k2 _ _ l0 F3 ((a2.extract 0 (x7_1 : Int).toNat) ++ (a2.extract (x8_2 : Int).toNat a2.size)) false _ ?side1 ?side2 A17.out).mono ?_
          (case side1 => exact CB HR0)
          (case side2 => exact HC0.out)
          rintro e w7002 ⟨rfl, hb⟩
          refine ⟨_, rfl, ?_⟩
          replace BK341 := KB BK341 hb
          replace HB := BS (w := w) hb
          (try clear hb)
          refine hK.out _ _ ⟨(ak BK341.out 0).trans rfl, (ak BK341.out 1).trans rfl, (ak BK341.out 2).trans rfl, (ak BK341.out 3).trans rfl⟩ (fun hHeld => ?_)
          clear hK K
          refine nrm (some 42) ?_
          refine puS (i := 20) (N := some 43) #[T,T,T,T,T,T,T,T,T,T,T,T,T,T,T,T,T,T,T,T,T] (aK HT_.out (by kernel_rfl)) ?_
          refine iD (gG HT_.out (by kernel_rfl)) ?_
          try go_wp2
          go_roundg k2
          case measure => have := HK1.out; have := HK2.out; omega
          case rel => exact ⟨(wrap64 (x8_2 + 1)), EQ, H', ⟨by have := HK1.out; have := HK2.out; omega⟩, ⟨BK⟩, ⟨BL⟩⟩
        ·rw [if_neg c16] at H
         exact absurd H (by simp)
       ·have H' := ah.mk H
        clear H
        with_reducible refine (HMM.out k2 _ _ l0 a1_3 (a2.extract (x7_1 : Int).toNat (x8_2 : Int).toNat) false _ ?side1 ?side2 A10.out).mono ?_
        (case side1 => exact CB HR0)
        (case side2 => exact HC0.out)
        rintro e w7001 ⟨rfl, hb⟩
        refine ⟨_, rfl, ?_⟩
        replace BK341 := KB BK341 hb
        replace HB := BS (w := w) hb
        (try clear hb)
        refine hK.out _ _ ⟨(ak BK341.out 0).trans rfl, (ak BK341.out 1).trans rfl, (ak BK341.out 2).trans rfl, (ak BK341.out 3).trans rfl⟩ (fun hHeld => ?_)
        clear hK K
        refine nrm (some 30) ?_
        refine puS (i := 8) (N := some 31) #[T,T,T,T,T,T,T,T,T,F,F,F,F,F,F,F,F,F,F,F,F] (aK HT_.out (by kernel_rfl)) ?_
        refine puU (i := 9) (N := some 32) #[T,T,T,T,T,T,T,T,T,T,F,F,F,F,F,F,F,F,F,F,F] (aK HT_.out (by kernel_rfl)) ?_
        refine puU (i := 10) (N := some 33) #[T,T,T,T,T,T,T,T,T,T,T,F,F,F,F,F,F,F,F,F,F] (aK HT_.out (by kernel_rfl)) ?_
        refine puU (i := 11) (N := some 34) #[T,T,T,T,T,T,T,T,T,T,T,T,F,F,F,F,F,F,F,F,F] (aK HT_.out (by kernel_rfl)) ?_
        refine puU (i := 12) (N := some 35) #[T,T,T,T,T,T,T,T,T,T,T,T,T,F,F,F,F,F,F,F,F] (aK HT_.out (by kernel_rfl)) ?_
        refine puU (i := 13) (N := some 36) #[T,T,T,T,T,T,T,T,T,T,T,T,T,T,F,F,F,F,F,F,F] (aK HT_.out (by kernel_rfl)) ?_
        refine puU (i := 14) (N := some 37) #[T,T,T,T,T,T,T,T,T,T,T,T,T,T,T,F,F,F,F,F,F] (aK HT_.out (by kernel_rfl)) ?_
        refine puU (i := 15) (N := some 38) #[T,T,T,T,T,T,T,T,T,T,T,T,T,T,T,T,F,F,F,F,F] (aK HT_.out (by kernel_rfl)) ?_
        refine puU (i := 16) (N := some 39) #[T,T,T,T,T,T,T,T,T,T,T,T,T,T,T,T,T,F,F,F,F] (aK HT_.out (by kernel_rfl)) ?_
        refine puU (i := 17) (N := some 40) #[T,T,T,T,T,T,T,T,T,T,T,T,T,T,T,T,T,T,F,F,F] (aK HT_.out (by kernel_rfl)) ?_
        refine puU (i := 18) (N := some 41) #[T,T,T,T,T,T,T,T,T,T,T,T,T,T,T,T,T,T,T,F,F] (aK HT_.out (by kernel_rfl)) ?_
        refine puU (i := 19) (N := some 42) #[T,T,T,T,T,T,T,T,T,T,T,T,T,T,T,T,T,T,T,T,F] (aK HT_.out (by kernel_rfl)) ?_
        refine puS (i := 20) (N := some 43) #[T,T,T,T,T,T,T,T,T,T,T,T,T,T,T,T,T,T,T,T,T] (aK HT_.out (by kernel_rfl)) ?_
        refine iD (gG HT_.out (by kernel_rfl)) ?_
        try go_wp2
        go_roundg k2
        case measure => have := HK1.out; have := HK2.out; omega
        case rel => exact ⟨(wrap64 (x8_2 + 1)), EQ, H', ⟨by have := HK1.out; have := HK2.out; omega⟩, ⟨BK⟩, ⟨BL⟩⟩
      ·have H' := ah.mk H
       clear H
       go_wp2
       go_roundg k2
       case measure => have := HK1.out; have := HK2.out; omega
       case rel => exact ⟨(wrap64 (x7_1 + 1)), EQ, H', ⟨by have := HK1.out; have := HK2.out; omega⟩, ⟨BK⟩, ⟨BL⟩⟩
   ·obtain rfl := Option.some.inj H
    go_wp2
    go_ret
    exact ⟨EWW, BL⟩
def jT.f (k : Nat) (a0 : ByteArray) : Option (ByteArray) := (bC.f k a0).bind fun t344 => (if t344 = true then (if 0 ≤ 1 then (if 1 ≤ (a0.size : Int) then (some (a0.extract 0 1)) else (none)) else (none)) else (some (⟨#[]⟩ : ByteArray)))
theorem jT.calls (k : Nat) (a0 r : ByteArray) (w : World) (h : jT.f k a0 = some r) :
  Calls Tryz.prog 196 #[.string a0] w fun e w' => e = .returned (.string r) ∧ cK w w' := by
 unfold jT.f at h
 have H := h
 clear h
 replace H := be H; obtain ⟨t344, A2, H⟩ := H
 replace H := ah.mk H
 go_enter Tryz.func196, Tryz.ntmps196
 go_wp2_with (first | ((with_reducible refine ay (f := 140) rfl ?_); refine bE (some 4) Tryz.func140 #[.string a0] ?_; (with_reducible refine (bC.calls k a0 _ _ A2.out).mono ?_); rintro e w' ⟨rfl, ⟨nd, rfl⟩⟩; refine ⟨_, rfl, ?_⟩; refine bU ?_))
 refine Hide.mk ?_
 replace H := H.out
 replace H := ifB H; rcases H with ⟨rfl, H⟩ | ⟨rfl, H⟩
 ·replace H := ifP H; obtain ⟨c4, H⟩ := H
  have c4b0 := eq_true c4
  have c4b1 : decide (0 ≤ 1) = true := decide_eq_true c4
  clear c4
  replace H := ifP H; obtain ⟨c5, H⟩ := H
  have c5b0 := eq_true c5
  have c5b1 : decide (1 ≤ (a0.size : Int)) = true := decide_eq_true c5
  clear c5
  obtain rfl := Option.some.inj H
  try go_wp2
  go_ret
  exact ⟨EQ, DR⟩
 ·obtain rfl := Option.some.inj H
  try go_wp2
  go_ret
  exact ⟨EQ, DR⟩
def iJ.f (k : Nat) (a0 : ByteArray) : Option (ByteArray) := (bC.f k a0).bind fun t345 => (if t345 = true then (if 1 ≤ (a0.size : Int) then (some (a0.extract 1 a0.size)) else (none)) else (some (⟨#[]⟩ : ByteArray)))
theorem iJ.calls (k : Nat) (a0 r : ByteArray) (w : World) (h : iJ.f k a0 = some r) :
  Calls Tryz.prog 197 #[.string a0] w fun e w' => e = .returned (.string r) ∧ cK w w' := by
 unfold iJ.f at h
 have H := h
 clear h
 replace H := be H; obtain ⟨t345, A2, H⟩ := H
 replace H := ah.mk H
 go_enter Tryz.func197, Tryz.ntmps197
 go_wp2_with (first | ((with_reducible refine ay (f := 140) rfl ?_); refine bE (some 4) Tryz.func140 #[.string a0] ?_; (with_reducible refine (bC.calls k a0 _ _ A2.out).mono ?_); rintro e w' ⟨rfl, ⟨nd, rfl⟩⟩; refine ⟨_, rfl, ?_⟩; refine bU ?_))
 refine Hide.mk ?_
 replace H := H.out
 replace H := ifB H; rcases H with ⟨rfl, H⟩ | ⟨rfl, H⟩
 ·replace H := ifP H; obtain ⟨c4, H⟩ := H
  have c4b0 := eq_true c4
  have c4b1 : decide (1 ≤ (a0.size : Int)) = true := decide_eq_true c4
  clear c4
  obtain rfl := Option.some.inj H
  try go_wp2
  go_ret
  exact ⟨EQ, DR⟩
 ·obtain rfl := Option.some.inj H
  try go_wp2
  go_ret
  exact ⟨EQ, DR⟩
def iE.f (k : Nat) (a0 : ByteArray) : Option (ByteArray) := (bC.f k a0).bind fun t346 => (if t346 = true then (if 0 ≤ (wrap64 ((a0.size : Int) - 1)) then (if (wrap64 ((a0.size : Int) - 1)) ≤ (a0.size : Int) then (some (a0.extract 0 ((wrap64 ((a0.size : Int) - 1)) : Int).toNat)) else (none)) else (none)) else (some (⟨#[]⟩ : ByteArray)))
theorem iE.calls (k : Nat) (a0 r : ByteArray) (w : World) (h : iE.f k a0 = some r) :
  Calls Tryz.prog 198 #[.string a0] w fun e w' => e = .returned (.string r) ∧ cK w w' := by
 unfold iE.f at h
 have H := h
 clear h
 replace H := be H; obtain ⟨t346, A2, H⟩ := H
 replace H := ah.mk H
 go_enter Tryz.func198, Tryz.ntmps198
 go_wp2_with (first | ((with_reducible refine ay (f := 140) rfl ?_); refine bE (some 4) Tryz.func140 #[.string a0] ?_; (with_reducible refine (bC.calls k a0 _ _ A2.out).mono ?_); rintro e w' ⟨rfl, ⟨nd, rfl⟩⟩; refine ⟨_, rfl, ?_⟩; refine bU ?_))
 refine Hide.mk ?_
 replace H := H.out
 replace H := ifB H; rcases H with ⟨rfl, H⟩ | ⟨rfl, H⟩
 ·obtain ⟨ji4, hji4⟩ : ∃ j_ : Int, (wrap64 ((a0.size : Int) - 1)) = j_ := ⟨_, rfl⟩
  replace H : (if 0 ≤ (ji4) then (if (ji4) ≤ (a0.size : Int) then (some (a0.extract 0 ((ji4) : Int).toNat)) else (none)) else (none)) = some r := by first | (rw [hji4] at H; exact H) | (simp only [hji4] at H ⊢; exact H)
  (try rw [hji4] at A2)
  have hji4w : (IntKind.i64.wrap ((a0.size : Int) - 1)) = ji4 := (iC _).trans hji4
  replace H := ifP H; obtain ⟨c5, H⟩ := H
  have c5b0 := eq_true c5
  have c5b1 : decide (0 ≤ (ji4)) = true := decide_eq_true c5
  clear c5
  replace H := ifP H; obtain ⟨c6, H⟩ := H
  have c6b0 := eq_true c6
  have c6b1 : decide ((ji4) ≤ (a0.size : Int)) = true := decide_eq_true c6
  clear c6
  obtain rfl := Option.some.inj H
  try go_wp2
  go_ret
  exact ⟨by first | rfl | (simp; done) | (simp only [← hji4] <;> (first | rfl | simp)) | (simp [*]; done), DR⟩
 ·obtain rfl := Option.some.inj H
  try go_wp2
  go_ret
  exact ⟨EQ, DR⟩
mutual
def dw.j0 : Nat → ByteArray → ByteArray → Bool → Option (Bool)
 | 0, _, _, _ => none
 | k + 1, a, b, c => if c = true then (some false) else (dw.l0 k a b 1)
def dw.l0 : Nat → ByteArray → ByteArray → Int → Option (Bool)
 | 0, _, _, _ => none
 | k + 1, a, b, c => if (wrap64 (c + (a.size : Int))) < (b.size : Int) then (if 0 ≤ c then (if c ≤ (wrap64 (c + (a.size : Int))) then (if (wrap64 (c + (a.size : Int))) ≤ (b.size : Int) then (if (b.extract (c : Int).toNat ((wrap64 (c + (a.size : Int))) : Int).toNat).toList = a.toList then (some true) else (dw.l0 k a b (wrap64 (c + 1)))) else (none)) else (none)) else (none)) else (some false)
end
def dw.f (k : Nat) (a0 a1 : ByteArray) : Option (Bool) := (bC.f k a0).bind fun t347 => (if t347 = true then ((bC.f k a1).bind fun t348 => (dw.j0 k a0 a1 (!t348))) else (dw.j0 k a0 a1 true))
theorem dw.calls (k : Nat) (a0 a1 : ByteArray) (r : Bool) (w : World) (h : dw.f k a0 a1 = some r) :
  Calls Tryz.prog 199 #[.string a0, .string a1] w fun e w' => e = .returned (.bool r) ∧ cK w w' := by
 unfold dw.f at h
 have H := h
 clear h
 have HC3 := ah.mk H
 clear H
 go_enter Tryz.func199, Tryz.ntmps199
 go_upto_region 1 with (fail)
 go_cut [13] (fun v13 wc => ∃ (kq : Nat) (x13_2 : Bool), v13 = .bool x13_2 ∧ ah (dw.j0 kq a0 a1 x13_2 = some r) ∧ ah (kq ≤ k) ∧ cK w wc)
 case first =>
  have H := HC3.out
  clear HC3
  replace H := be H; obtain ⟨t347, A4, H⟩ := H
  replace H := ah.mk H
  go_wp2_with (first | ((with_reducible refine ay (f := 140) rfl ?_); refine bE (some 7) Tryz.func140 #[.string a0] ?_; (with_reducible refine (bC.calls k a0 _ _ A4.out).mono ?_); rintro e w' ⟨rfl, ⟨nd, rfl⟩⟩; refine ⟨_, rfl, ?_⟩; refine bU ?_))
  refine Hide.mk ?_
  replace H := H.out
  replace H := ifB H; rcases H with ⟨rfl, H⟩ | ⟨rfl, H⟩
  ·replace H := be H; obtain ⟨t348, A6, H⟩ := H
   have H' := ah.mk H
   clear H
   try go_wp2_with (first | (go_at_call 140; (with_reducible refine (bC.calls k a1 t348 _ A6.out).mono ?_); rintro e w' ⟨rfl, ⟨nd, rfl⟩⟩))
   go_meet
   case rel => exact ⟨_, (!t348), EQ, H', ⟨by first | omega | exact Nat.le_refl _⟩, DR⟩
  ·have H' := ah.mk H
   clear H
   try go_wp2
   go_meet
   case rel => exact ⟨_, (true), EQ, H', ⟨by first | omega | exact Nat.le_refl _⟩, DR⟩
 case rest =>
  clear HC3
  obtain ⟨kq, x13_2, rfl, HA, HJ2, ⟨mc2, rfl⟩⟩ := hcut
  cases kq with
  | zero => exact absurd HA.out (by simp [dw.j0])
  | succ kj2 =>
   have H := HA.out
   clear HA
   simp only [dw.j0] at H
   replace H := ifB H; rcases H with ⟨rfl, H⟩ | ⟨rfl, H⟩
   ·obtain rfl := Option.some.inj H
    go_wp2
    go_ret
    exact ⟨EQ, DR⟩
   ·have H' := ah.mk H
    clear H
    go_wp2
    go_loopg [5] kj2 (fun kq v5 w' => ∃ (x5_2 : Int), v5 = .int .i64 x5_2 ∧ ah (dw.l0 kq a0 a1 x5_2 = some r) ∧ ah (kq ≤ kj2) ∧ cK w w')
    case atStart => exact ⟨(1), EQ, H', ⟨Nat.le_refl _⟩, DR⟩
    case round =>
     clear H'
     try clear c7
     obtain ⟨x5_2, rfl, HA, HK2, ⟨m2, rfl⟩⟩ := hrel
     cases gk with
     | zero => exact absurd HA.out (by simp [dw.l0])
     | succ k2 =>
      have H := HA.out
      clear HA
      simp only [dw.l0] at H
      replace H := ifD H; rcases H with ⟨c8b0, H⟩ | ⟨c8b0, H⟩
      ·replace H := ifP H; obtain ⟨c9, H⟩ := H
       have c9b0 := eq_true c9
       have c9b1 : decide (0 ≤ x5_2) = true := decide_eq_true c9
       clear c9
       replace H := ifP H; obtain ⟨c10, H⟩ := H
       have c10b0 := eq_true c10
       have c10b1 : decide (x5_2 ≤ (wrap64 (x5_2 + (a0.size : Int)))) = true := decide_eq_true c10
       replace H := ifP H; obtain ⟨c11, H⟩ := H
       have c11b0 := eq_true c11
       have c11b1 : decide ((wrap64 (x5_2 + (a0.size : Int))) ≤ (a1.size : Int)) = true := decide_eq_true c11
       replace H := ifE H; rcases H with ⟨c12b0, c12b1, H⟩ | ⟨c12, c12b0, c12b1, H⟩
       ·obtain rfl := Option.some.inj H
        go_wp2
        go_ret
        exact ⟨EQ, DR⟩
       ·have H' := ah.mk H
        clear H
        go_wp2
        go_roundg k2
        case measure => have := HJ2.out; have := HK2.out; omega
        case rel => exact ⟨(wrap64 (x5_2 + 1)), EQ, H', ⟨by have := HJ2.out; have := HK2.out; omega⟩, DR⟩
      ·obtain rfl := Option.some.inj H
       go_wp2
       go_ret
       exact ⟨EQ, DR⟩
def bQ.f : Nat → List (dB) → Int → ByteArray → Option (Bool)
 | 0, _, _, _ => none
 | k + 1, a, b, c => if 0 ≤ b then (if b < (a.length : Int) then (if ((aj a b).f0) = 1 then (some (((aj a b).f1).toList == c.toList)) else (if ((aj a b).f0) = 2 then ((dR.f k c).bind fun d => ((bQ.f k a ((aj a b).f2) d).bind fun e => (some e))) else (if ((aj a b).f0) = 3 then (if 0 ≤ ((aj a b).f2) then (if ((aj a b).f2) < (a.length : Int) then ((iw.f k ((aj a ((aj a b).f2)).f1) c).bind fun f => (some f)) else (none)) else (none)) else (if ((aj a b).f0) = 4 then ((bY.f (fun _ => bQ.f k) k a ((aj a b).f0) ((aj a b).f1) ((aj a b).f2) ((aj a b).f3) c).bind fun g => (some g)) else (if ((aj a b).f0) = 5 then ((bN.f (fun _ => bQ.f k) k a ((aj a b).f0) ((aj a b).f1) ((aj a b).f2) ((aj a b).f3) c).bind fun h => (some h)) else (if ((aj a b).f0) = 6 then (if 0 ≤ ((aj a b).f2) then (if ((aj a b).f2) < (a.length : Int) then ((jT.f k ((aj a ((aj a b).f2)).f1)).bind fun i => (some (i.toList == c.toList))) else (none)) else (none)) else (if ((aj a b).f0) = 7 then (if 0 ≤ ((aj a b).f2) then (if ((aj a b).f2) < (a.length : Int) then ((iJ.f k ((aj a ((aj a b).f2)).f1)).bind fun j => (some (j.toList == c.toList))) else (none)) else (none)) else (if ((aj a b).f0) = 8 then (if 0 ≤ ((aj a b).f2) then (if ((aj a b).f2) < (a.length : Int) then ((iE.f k ((aj a ((aj a b).f2)).f1)).bind fun l => (some (l.toList == c.toList))) else (none)) else (none)) else (if 0 ≤ ((aj a b).f2) then (if ((aj a b).f2) < (a.length : Int) then ((dw.f k c ((aj a ((aj a b).f2)).f1)).bind fun m => (some m)) else (none)) else (none)))))))))) else (none)) else (none)
theorem bQ.calls (k : Nat) : ∀ (A0 : Option Addr) (c0 : Nat) (l0 : List (dB)) (a1 : Int) (a2 : ByteArray) (r : Bool) (w : World) (hr0 : Kd.C jw w A0 l0.length l0) (hc0 : l0.length ≤ c0) (h : bQ.f k l0 a1 a2 = some r),
  Calls Tryz.prog 159 #[.slice A0 l0.length c0, .int .i64 a1, .string a2] w fun e w' => e = .returned (.bool r) ∧ Below w.heap.size w w' := by
 induction k using Nat.strongRecOn with
 | _ k ih =>
 intro A0 c0 l0 a1 a2 r w hr0 hc0 h
 cases k with
 | zero => exact absurd h (by simp [bQ.f])
 | succ k =>
 simp only [bQ.f] at h
 have hu141 := Tryz.underlying141
 have HR0 := ah.mk hr0
 have HC0 := ah.mk hc0
 clear hr0 hc0
 have HB := ah.mk (Below.refl w.heap.size w)
 have H : (if 0 ≤ a1 then (if a1 < (l0.length : Int) then (if ((aj l0 a1).f0) = 1 then (some (((aj l0 a1).f1).toList == a2.toList)) else (if ((aj l0 a1).f0) = 2 then ((dR.f k a2).bind fun t351 => ((bQ.f k l0 ((aj l0 a1).f2) t351).bind fun t352 => (some t352))) else (if ((aj l0 a1).f0) = 3 then (if 0 ≤ ((aj l0 a1).f2) then (if ((aj l0 a1).f2) < (l0.length : Int) then ((iw.f k ((aj l0 ((aj l0 a1).f2)).f1) a2).bind fun t354 => (some t354)) else (none)) else (none)) else (if ((aj l0 a1).f0) = 4 then ((bY.f (fun _ => bQ.f k) k l0 ((aj l0 a1).f0) ((aj l0 a1).f1) ((aj l0 a1).f2) ((aj l0 a1).f3) a2).bind fun t355 => (some t355)) else (if ((aj l0 a1).f0) = 5 then ((bN.f (fun _ => bQ.f k) k l0 ((aj l0 a1).f0) ((aj l0 a1).f1) ((aj l0 a1).f2) ((aj l0 a1).f3) a2).bind fun t356 => (some t356)) else (if ((aj l0 a1).f0) = 6 then (if 0 ≤ ((aj l0 a1).f2) then (if ((aj l0 a1).f2) < (l0.length : Int) then ((jT.f k ((aj l0 ((aj l0 a1).f2)).f1)).bind fun t358 => (some (t358.toList == a2.toList))) else (none)) else (none)) else (if ((aj l0 a1).f0) = 7 then (if 0 ≤ ((aj l0 a1).f2) then (if ((aj l0 a1).f2) < (l0.length : Int) then ((iJ.f k ((aj l0 ((aj l0 a1).f2)).f1)).bind fun t360 => (some (t360.toList == a2.toList))) else (none)) else (none)) else (if ((aj l0 a1).f0) = 8 then (if 0 ≤ ((aj l0 a1).f2) then (if ((aj l0 a1).f2) < (l0.length : Int) then ((iE.f k ((aj l0 ((aj l0 a1).f2)).f1)).bind fun t362 => (some (t362.toList == a2.toList))) else (none)) else (none)) else (if 0 ≤ ((aj l0 a1).f2) then (if ((aj l0 a1).f2) < (l0.length : Int) then ((dw.f k a2 ((aj l0 ((aj l0 a1).f2)).f1)).bind fun t364 => (some t364)) else (none)) else (none)))))))))) else (none)) else (none)) = some r := h
 clear h
 replace H := ifN H; obtain ⟨c4b0, H⟩ := H
 replace H := ifN H; obtain ⟨c5b0, H⟩ := H
 have p349 : 0 ≤ (a1 : Int) := OD
 have q349 : a1 < (l0.length : Int) := OD
 obtain ⟨ad349, e349, hx349_0, hx349_1, hx349_2, hx349_3⟩ := jN HR0.out a1 p349 q349
 cases e349
 replace p349 := eq_true p349
 replace q349 := eq_true q349
 replace H := ah.mk H
 go_enter Tryz.func159, Tryz.ntmps159
 replace H := H.out
 replace H := ifE H; rcases H with ⟨c6b0, c6b1, H⟩ | ⟨c6, c6b0, c6b1, H⟩
 ·obtain rfl := Option.some.inj H
  try go_wp2_with (first | ((with_reducible refine aJ (N := 7) rfl ?_); refine bg (N := 7) (cs := #[.int .i64 0, .string (⟨#[]⟩ : ByteArray), .int .i64 0, .int .i64 0]) (t := 141) ?_; intro gb350 hg w9000 hbox hb; have BK350 := ah.mk hbox; have GW350 := SZ (w := w) hg; have GE350 := GW350; replace HB := BS (w := w) hb; clear hb hbox hg; obtain ⟨hcz9001_0, hcz9001_1, hcz9001_2, hcz9001_3, hfz9001_0, hfz9001_1, hfz9001_2, hfz9001_3⟩ := cz4 BK350.out))
  go_ret
  exact ⟨EWW, BL⟩
 ·replace H := ifE H; rcases H with ⟨c9b0, c9b1, H⟩ | ⟨c9, c9b0, c9b1, H⟩
  ·replace H := be H; obtain ⟨t351, A10, H⟩ := H
   replace H := be H; obtain ⟨t352, A11, H⟩ := H
   obtain rfl := Option.some.inj H
   try go_wp2_with (first | ((with_reducible refine aJ (N := 7) rfl ?_); refine bg (N := 7) (cs := #[.int .i64 0, .string (⟨#[]⟩ : ByteArray), .int .i64 0, .int .i64 0]) (t := 141) ?_; intro gb350 hg w9000 hbox hb; have BK350 := ah.mk hbox; have GW350 := SZ (w := w) hg; have GE350 := GW350; replace HB := BS (w := w) hb; clear hb hbox hg; obtain ⟨hcz9001_0, hcz9001_1, hcz9001_2, hcz9001_3, hfz9001_0, hfz9001_1, hfz9001_2, hfz9001_3⟩ := cz4 BK350.out))
   have n0_ : ah (((((w9000.setCell ⟨gb350, 0, none⟩ (.int .i64 ((aj l0 a1).f0))).setCell ⟨gb350, 1, none⟩ (.string ((aj l0 a1).f1))).setCell ⟨gb350, 2, none⟩ (.int .i64 ((aj l0 a1).f2))).setCell ⟨gb350, 3, none⟩ (.int .i64 ((aj l0 a1).f3))).heap[gb350]? = some (.cells #[.int .i64 ((aj l0 a1).f0), .string ((aj l0 a1).f1), .int .i64 ((aj l0 a1).f2), .int .i64 ((aj l0 a1).f3)] 141 (0, 0))) := ⟨by (with_reducible repeat (first | refine aG ?_ _ | refine aH ?_ | refine aD ?_ _)); refine aY (cs := #[.int .i64 ((aj l0 a1).f0), .string ((aj l0 a1).f1), .int .i64 ((aj l0 a1).f2), .int .i64 0]) ?_ 3 _ rfl; (with_reducible repeat (first | refine aG ?_ _ | refine aH ?_ | refine aD ?_ _)); refine aY (cs := #[.int .i64 ((aj l0 a1).f0), .string ((aj l0 a1).f1), .int .i64 0, .int .i64 0]) ?_ 2 _ rfl; (with_reducible repeat (first | refine aG ?_ _ | refine aH ?_ | refine aD ?_ _)); refine aY (cs := #[.int .i64 ((aj l0 a1).f0), .string (⟨#[]⟩ : ByteArray), .int .i64 0, .int .i64 0]) ?_ 1 _ rfl; (with_reducible repeat (first | refine aG ?_ _ | refine aH ?_ | refine aD ?_ _)); refine aY (cs := #[.int .i64 0, .string (⟨#[]⟩ : ByteArray), .int .i64 0, .int .i64 0]) ?_ 0 _ rfl; (with_reducible repeat (first | refine aG ?_ _ | refine aH ?_ | refine aD ?_ _)); exact BK350.out⟩
   have n1_ : ah (Below w.heap.size w ((((w9000.setCell ⟨gb350, 0, none⟩ (.int .i64 ((aj l0 a1).f0))).setCell ⟨gb350, 1, none⟩ (.string ((aj l0 a1).f1))).setCell ⟨gb350, 2, none⟩ (.int .i64 ((aj l0 a1).f2))).setCell ⟨gb350, 3, none⟩ (.int .i64 ((aj l0 a1).f3)))) := ⟨BL⟩
   (try clear BK350)
   (try clear HB)
   generalize ((((w9000.setCell ⟨gb350, 0, none⟩ (.int .i64 ((aj l0 a1).f0))).setCell ⟨gb350, 1, none⟩ (.string ((aj l0 a1).f1))).setCell ⟨gb350, 2, none⟩ (.int .i64 ((aj l0 a1).f2))).setCell ⟨gb350, 3, none⟩ (.int .i64 ((aj l0 a1).f3))) = w9002 at n0_ n1_ ⊢
   have BK350 := n0_
   have HB := n1_
   clear n0_ n1_
   replace BK350 := ah.mk (aH BK350.out)
   replace HB := ah.mk (dH HB.out)
   refine ji (n := 7) (S := fun w' => w'.cell? ⟨gb350, 0, none⟩ = some (.int .i64 ((aj l0 a1).f0)) ∧ w'.cell? ⟨gb350, 1, none⟩ = some (.string ((aj l0 a1).f1)) ∧ w'.cell? ⟨gb350, 2, none⟩ = some (.int .i64 ((aj l0 a1).f2)) ∧ w'.cell? ⟨gb350, 3, none⟩ = some (.int .i64 ((aj l0 a1).f3))) (ds := []) #[F,F,F,F,F,F,F] (by kernel_rfl) rfl rfl ⟨(ak BK350.out 0).trans rfl, (ak BK350.out 1).trans rfl, (ak BK350.out 2).trans rfl, (ak BK350.out 3).trans rfl⟩ (fun hHeld => ?_)
   generalize w9002.drew = w9003 at BK350 HB hHeld ⊢
   refine puS (i := 0) (N := some 22) #[T,F,F,F,F,F,F] (by kernel_rfl) ?_
   refine puS (i := 1) (N := some 23) #[T,T,F,F,F,F,F] (by kernel_rfl) ?_
   refine puS (i := 3) (N := some 25) #[T,T,F,T,F,F,F] (by kernel_rfl) ?_
   refine taS (i := 2) (N := some 24) #[T,T,T,T,F,F,F] (by kernel_rfl) hHeld ?_
   refine kW (i := 4) (N := some 26) #[T,T,T,T,T,F,F] rfl rfl (by kernel_rfl) (by decide) (fun K hK => ?_)
   refine iZ Tryz.func188 #[.string a2] ?_
   with_reducible refine (dR.calls k a2 t351 _ A10.out).mono ?_
   rintro e w' ⟨rfl, ⟨nd, rfl⟩⟩
   refine ⟨_, rfl, ?_⟩
   refine hK.out _ _ ⟨(ak BK350.out 0).trans rfl, (ak BK350.out 1).trans rfl, (ak BK350.out 2).trans rfl, (ak BK350.out 3).trans rfl⟩ (fun hHeld => ?_)
   clear hK K
   refine nrm (some 26) ?_
   refine kW (i := 5) (N := some 27) #[T,T,T,T,T,T,F] rfl rfl (by kernel_rfl) (by decide) (fun K hK => ?_)
   refine iZ Tryz.func159 #[.slice (some ad349) l0.length c0, .int .i64 ((aj l0 a1).f2), .string t351] ?_
   with_reducible refine (ih k (by omega) _ _ l0 ((aj l0 a1).f2) t351 t352 _ ?side1 ?side2 A11.out).mono ?_
   (case side1 => repeat (first | exact (Kd.eO HR0.out BL) | (with_reducible refine Kd.gy ?_ _) | (with_reducible refine Kd.gD ?_ _) | (with_reducible refine Kd.ig ?_)))
   (case side2 => exact HC0.out)
   rintro e w9004 ⟨rfl, hb⟩
   refine ⟨_, rfl, ?_⟩
   replace BK350 := KB BK350 hb
   replace HB := BS (w := w) hb
   (try clear hb)
   refine hK.out _ _ ⟨(ak BK350.out 0).trans rfl, (ak BK350.out 1).trans rfl, (ak BK350.out 2).trans rfl, (ak BK350.out 3).trans rfl⟩ (fun hHeld => ?_)
   clear hK K
   refine nrm (some 27) ?_
   refine puS (i := 6) (N := some 6) #[T,T,T,T,T,T,T] (by kernel_rfl) ?_
   refine iD (by kernel_rfl) ?_
   try go_wp2
   go_ret
   exact ⟨EWW, BL⟩
  ·replace H := ifE H; rcases H with ⟨c17b0, c17b1, H⟩ | ⟨c17, c17b0, c17b1, H⟩
   ·replace H := ifN H; obtain ⟨c18b0, H⟩ := H
    replace H := ifN H; obtain ⟨c19b0, H⟩ := H
    replace H := be H; obtain ⟨t354, A20, H⟩ := H
    obtain rfl := Option.some.inj H
    try go_wp2_with (first | ((with_reducible refine aJ (N := 7) rfl ?_); refine bg (N := 7) (cs := #[.int .i64 0, .string (⟨#[]⟩ : ByteArray), .int .i64 0, .int .i64 0]) (t := 141) ?_; intro gb350 hg w9000 hbox hb; have BK350 := ah.mk hbox; have GW350 := SZ (w := w) hg; have GE350 := GW350; replace HB := BS (w := w) hb; clear hb hbox hg; obtain ⟨hcz9001_0, hcz9001_1, hcz9001_2, hcz9001_3, hfz9001_0, hfz9001_1, hfz9001_2, hfz9001_3⟩ := cz4 BK350.out; have p353 : 0 ≤ (((aj l0 a1).f2) : Int) := OD; have q353 : ((aj l0 a1).f2) < (l0.length : Int) := OD; obtain ⟨ad353, e353, hx353_0, hx353_1, hx353_2, hx353_3⟩ := jN HR0.out ((aj l0 a1).f2) p353 q353; obtain rfl : ad349 = ad353 := (by injection e353); have hn353_0 : ad349.block ≠ gb350 := Nat.ne_of_lt (Nat.lt_of_lt_of_le (by have := World.block_lt_of_cell? _ _ hx353_0; first | rwa [add_block] at this | exact this) GW350.out); have hn353_1 : ad349.block ≠ gb350 := Nat.ne_of_lt (Nat.lt_of_lt_of_le (by have := World.block_lt_of_cell? _ _ hx353_0; first | rwa [add_block] at this | exact this) GW350.out); have hn353_2 : ad349.block ≠ gb350 := Nat.ne_of_lt (Nat.lt_of_lt_of_le (by have := World.block_lt_of_cell? _ _ hx353_0; first | rwa [add_block] at this | exact this) GW350.out); have hn353_3 : ad349.block ≠ gb350 := Nat.ne_of_lt (Nat.lt_of_lt_of_le (by have := World.block_lt_of_cell? _ _ hx353_0; first | rwa [add_block] at this | exact this) GW350.out); replace hx353_0 := (HB.out.cell (World.block_lt_of_cell? w _ hx353_0)).trans hx353_0; replace hx353_1 := (HB.out.cell (World.block_lt_of_cell? w _ hx353_1)).trans hx353_1; replace hx353_2 := (HB.out.cell (World.block_lt_of_cell? w _ hx353_2)).trans hx353_2; replace hx353_3 := (HB.out.cell (World.block_lt_of_cell? w _ hx353_3)).trans hx353_3; replace hx353_0 := (cell_far (p := ⟨gb350, 0, none⟩) AB (.int .i64 ((aj l0 a1).f0))).trans hx353_0; replace hx353_1 := (cell_far (p := ⟨gb350, 0, none⟩) AB (.int .i64 ((aj l0 a1).f0))).trans hx353_1; replace hx353_2 := (cell_far (p := ⟨gb350, 0, none⟩) AB (.int .i64 ((aj l0 a1).f0))).trans hx353_2; replace hx353_3 := (cell_far (p := ⟨gb350, 0, none⟩) AB (.int .i64 ((aj l0 a1).f0))).trans hx353_3; replace hx353_0 := (cell_far (p := ⟨gb350, 1, none⟩) AB (.string ((aj l0 a1).f1))).trans hx353_0; replace hx353_1 := (cell_far (p := ⟨gb350, 1, none⟩) AB (.string ((aj l0 a1).f1))).trans hx353_1; replace hx353_2 := (cell_far (p := ⟨gb350, 1, none⟩) AB (.string ((aj l0 a1).f1))).trans hx353_2; replace hx353_3 := (cell_far (p := ⟨gb350, 1, none⟩) AB (.string ((aj l0 a1).f1))).trans hx353_3; replace hx353_0 := (cell_far (p := ⟨gb350, 2, none⟩) AB (.int .i64 ((aj l0 a1).f2))).trans hx353_0; replace hx353_1 := (cell_far (p := ⟨gb350, 2, none⟩) AB (.int .i64 ((aj l0 a1).f2))).trans hx353_1; replace hx353_2 := (cell_far (p := ⟨gb350, 2, none⟩) AB (.int .i64 ((aj l0 a1).f2))).trans hx353_2; replace hx353_3 := (cell_far (p := ⟨gb350, 2, none⟩) AB (.int .i64 ((aj l0 a1).f2))).trans hx353_3; replace hx353_0 := (cell_far (p := ⟨gb350, 3, none⟩) AB (.int .i64 ((aj l0 a1).f3))).trans hx353_0; replace hx353_1 := (cell_far (p := ⟨gb350, 3, none⟩) AB (.int .i64 ((aj l0 a1).f3))).trans hx353_1; replace hx353_2 := (cell_far (p := ⟨gb350, 3, none⟩) AB (.int .i64 ((aj l0 a1).f3))).trans hx353_2; replace hx353_3 := (cell_far (p := ⟨gb350, 3, none⟩) AB (.int .i64 ((aj l0 a1).f3))).trans hx353_3; clear hn353_0 hn353_1 hn353_2 hn353_3; replace p353 := eq_true p353; replace q353 := eq_true q353) | ((with_reducible refine ay (f := 193) rfl ?_); refine bE (some 37) Tryz.func193 #[.string ((aj l0 ((aj l0 a1).f2)).f1), .string a2] ?_; (with_reducible refine (iw.calls k ((aj l0 ((aj l0 a1).f2)).f1) a2 t354 _ A20.out).mono ?_); rintro e w' ⟨rfl, ⟨nd, rfl⟩⟩; refine ⟨_, rfl, ?_⟩))
    go_ret
    exact ⟨EWW, BL⟩
   ·replace H := ifE H; rcases H with ⟨c23b0, c23b1, H⟩ | ⟨c23, c23b0, c23b1, H⟩
    ·replace H := be H; obtain ⟨t355, A24, H⟩ := H
     obtain rfl := Option.some.inj H
     try go_wp2_with (first | ((with_reducible refine aJ (N := 7) rfl ?_); refine bg (N := 7) (cs := #[.int .i64 0, .string (⟨#[]⟩ : ByteArray), .int .i64 0, .int .i64 0]) (t := 141) ?_; intro gb350 hg w9000 hbox hb; have BK350 := ah.mk hbox; have GW350 := SZ (w := w) hg; have GE350 := GW350; replace HB := BS (w := w) hb; clear hb hbox hg; obtain ⟨hcz9001_0, hcz9001_1, hcz9001_2, hcz9001_3, hfz9001_0, hfz9001_1, hfz9001_2, hfz9001_3⟩ := cz4 BK350.out) | ((with_reducible refine ay (f := 194) rfl ?_); refine bE (some 43) Tryz.func194 #[.slice (some ad349) l0.length c0, .agg #[.int .i64 ((aj l0 a1).f0), .string ((aj l0 a1).f1), .int .i64 ((aj l0 a1).f2), .int .i64 ((aj l0 a1).f3)], .string a2] ?_; (with_reducible refine (bY.calls (fun _ => bQ.f k) (fun _ A_ c_ l_ i_ s_ b_ W_ hr_ hc_ h_ => ih k (by omega) A_ c_ l_ i_ s_ b_ W_ hr_ hc_ h_) k _ _ l0 ((aj l0 a1).f0) ((aj l0 a1).f1) ((aj l0 a1).f2) ((aj l0 a1).f3) a2 t355 _ ?side1 ?side2 A24.out).mono ?_); (case side1 => exact Kd.eO HR0.out BL); (case side2 => exact HC0.out); rintro e w9002 ⟨rfl, hb⟩; refine ⟨_, rfl, ?_⟩; have n0_ := ah.mk (aR (g := gb350) (o := .cells #[.int .i64 ((aj l0 a1).f0), .string ((aj l0 a1).f1), .int .i64 ((aj l0 a1).f2), .int .i64 ((aj l0 a1).f3)] 141 (0, 0)) (by (with_reducible repeat (first | refine aG ?_ _ | refine aH ?_ | refine aD ?_ _)); refine aY (cs := #[.int .i64 ((aj l0 a1).f0), .string ((aj l0 a1).f1), .int .i64 ((aj l0 a1).f2), .int .i64 0]) ?_ 3 _ rfl; (with_reducible repeat (first | refine aG ?_ _ | refine aH ?_ | refine aD ?_ _)); refine aY (cs := #[.int .i64 ((aj l0 a1).f0), .string ((aj l0 a1).f1), .int .i64 0, .int .i64 0]) ?_ 2 _ rfl; (with_reducible repeat (first | refine aG ?_ _ | refine aH ?_ | refine aD ?_ _)); refine aY (cs := #[.int .i64 ((aj l0 a1).f0), .string (⟨#[]⟩ : ByteArray), .int .i64 0, .int .i64 0]) ?_ 1 _ rfl; (with_reducible repeat (first | refine aG ?_ _ | refine aH ?_ | refine aD ?_ _)); refine aY (cs := #[.int .i64 0, .string (⟨#[]⟩ : ByteArray), .int .i64 0, .int .i64 0]) ?_ 0 _ rfl; (with_reducible repeat (first | refine aG ?_ _ | refine aH ?_ | refine aD ?_ _)); exact BK350.out) hb); replace HB := BS (w := w) hb; clear BK350; have BK350 := n0_; clear n0_; (try clear hb)))
     go_ret
     exact ⟨EWW, BL⟩
    ·replace H := ifE H; rcases H with ⟨c28b0, c28b1, H⟩ | ⟨c28, c28b0, c28b1, H⟩
     ·replace H := be H; obtain ⟨t356, A29, H⟩ := H
      obtain rfl := Option.some.inj H
      try go_wp2_with (first | ((with_reducible refine aJ (N := 7) rfl ?_); refine bg (N := 7) (cs := #[.int .i64 0, .string (⟨#[]⟩ : ByteArray), .int .i64 0, .int .i64 0]) (t := 141) ?_; intro gb350 hg w9000 hbox hb; have BK350 := ah.mk hbox; have GW350 := SZ (w := w) hg; have GE350 := GW350; replace HB := BS (w := w) hb; clear hb hbox hg; obtain ⟨hcz9001_0, hcz9001_1, hcz9001_2, hcz9001_3, hfz9001_0, hfz9001_1, hfz9001_2, hfz9001_3⟩ := cz4 BK350.out) | ((with_reducible refine ay (f := 195) rfl ?_); refine bE (some 49) Tryz.func195 #[.slice (some ad349) l0.length c0, .agg #[.int .i64 ((aj l0 a1).f0), .string ((aj l0 a1).f1), .int .i64 ((aj l0 a1).f2), .int .i64 ((aj l0 a1).f3)], .string a2] ?_; (with_reducible refine (bN.calls (fun _ => bQ.f k) (fun _ A_ c_ l_ i_ s_ b_ W_ hr_ hc_ h_ => ih k (by omega) A_ c_ l_ i_ s_ b_ W_ hr_ hc_ h_) k _ _ l0 ((aj l0 a1).f0) ((aj l0 a1).f1) ((aj l0 a1).f2) ((aj l0 a1).f3) a2 t356 _ ?side1 ?side2 A29.out).mono ?_); (case side1 => exact Kd.eO HR0.out BL); (case side2 => exact HC0.out); rintro e w9002 ⟨rfl, hb⟩; refine ⟨_, rfl, ?_⟩; have n0_ := ah.mk (aR (g := gb350) (o := .cells #[.int .i64 ((aj l0 a1).f0), .string ((aj l0 a1).f1), .int .i64 ((aj l0 a1).f2), .int .i64 ((aj l0 a1).f3)] 141 (0, 0)) (by (with_reducible repeat (first | refine aG ?_ _ | refine aH ?_ | refine aD ?_ _)); refine aY (cs := #[.int .i64 ((aj l0 a1).f0), .string ((aj l0 a1).f1), .int .i64 ((aj l0 a1).f2), .int .i64 0]) ?_ 3 _ rfl; (with_reducible repeat (first | refine aG ?_ _ | refine aH ?_ | refine aD ?_ _)); refine aY (cs := #[.int .i64 ((aj l0 a1).f0), .string ((aj l0 a1).f1), .int .i64 0, .int .i64 0]) ?_ 2 _ rfl; (with_reducible repeat (first | refine aG ?_ _ | refine aH ?_ | refine aD ?_ _)); refine aY (cs := #[.int .i64 ((aj l0 a1).f0), .string (⟨#[]⟩ : ByteArray), .int .i64 0, .int .i64 0]) ?_ 1 _ rfl; (with_reducible repeat (first | refine aG ?_ _ | refine aH ?_ | refine aD ?_ _)); refine aY (cs := #[.int .i64 0, .string (⟨#[]⟩ : ByteArray), .int .i64 0, .int .i64 0]) ?_ 0 _ rfl; (with_reducible repeat (first | refine aG ?_ _ | refine aH ?_ | refine aD ?_ _)); exact BK350.out) hb); replace HB := BS (w := w) hb; clear BK350; have BK350 := n0_; clear n0_; (try clear hb)))
      go_ret
      exact ⟨EWW, BL⟩
     ·replace H := ifE H; rcases H with ⟨c33b0, c33b1, H⟩ | ⟨c33, c33b0, c33b1, H⟩
      ·replace H := ifN H; obtain ⟨c34b0, H⟩ := H
       replace H := ifN H; obtain ⟨c35b0, H⟩ := H
       replace H := be H; obtain ⟨t358, A36, H⟩ := H
       obtain rfl := Option.some.inj H
       try go_wp2_with (first | ((with_reducible refine aJ (N := 7) rfl ?_); refine bg (N := 7) (cs := #[.int .i64 0, .string (⟨#[]⟩ : ByteArray), .int .i64 0, .int .i64 0]) (t := 141) ?_; intro gb350 hg w9000 hbox hb; have BK350 := ah.mk hbox; have GW350 := SZ (w := w) hg; have GE350 := GW350; replace HB := BS (w := w) hb; clear hb hbox hg; obtain ⟨hcz9001_0, hcz9001_1, hcz9001_2, hcz9001_3, hfz9001_0, hfz9001_1, hfz9001_2, hfz9001_3⟩ := cz4 BK350.out; have p357 : 0 ≤ (((aj l0 a1).f2) : Int) := OD; have q357 : ((aj l0 a1).f2) < (l0.length : Int) := OD; obtain ⟨ad357, e357, hx357_0, hx357_1, hx357_2, hx357_3⟩ := jN HR0.out ((aj l0 a1).f2) p357 q357; obtain rfl : ad349 = ad357 := (by injection e357); have hn357_0 : ad349.block ≠ gb350 := Nat.ne_of_lt (Nat.lt_of_lt_of_le (by have := World.block_lt_of_cell? _ _ hx357_0; first | rwa [add_block] at this | exact this) GW350.out); have hn357_1 : ad349.block ≠ gb350 := Nat.ne_of_lt (Nat.lt_of_lt_of_le (by have := World.block_lt_of_cell? _ _ hx357_0; first | rwa [add_block] at this | exact this) GW350.out); have hn357_2 : ad349.block ≠ gb350 := Nat.ne_of_lt (Nat.lt_of_lt_of_le (by have := World.block_lt_of_cell? _ _ hx357_0; first | rwa [add_block] at this | exact this) GW350.out); have hn357_3 : ad349.block ≠ gb350 := Nat.ne_of_lt (Nat.lt_of_lt_of_le (by have := World.block_lt_of_cell? _ _ hx357_0; first | rwa [add_block] at this | exact this) GW350.out); replace hx357_0 := (HB.out.cell (World.block_lt_of_cell? w _ hx357_0)).trans hx357_0; replace hx357_1 := (HB.out.cell (World.block_lt_of_cell? w _ hx357_1)).trans hx357_1; replace hx357_2 := (HB.out.cell (World.block_lt_of_cell? w _ hx357_2)).trans hx357_2; replace hx357_3 := (HB.out.cell (World.block_lt_of_cell? w _ hx357_3)).trans hx357_3; replace hx357_0 := (cell_far (p := ⟨gb350, 0, none⟩) AB (.int .i64 ((aj l0 a1).f0))).trans hx357_0; replace hx357_1 := (cell_far (p := ⟨gb350, 0, none⟩) AB (.int .i64 ((aj l0 a1).f0))).trans hx357_1; replace hx357_2 := (cell_far (p := ⟨gb350, 0, none⟩) AB (.int .i64 ((aj l0 a1).f0))).trans hx357_2; replace hx357_3 := (cell_far (p := ⟨gb350, 0, none⟩) AB (.int .i64 ((aj l0 a1).f0))).trans hx357_3; replace hx357_0 := (cell_far (p := ⟨gb350, 1, none⟩) AB (.string ((aj l0 a1).f1))).trans hx357_0; replace hx357_1 := (cell_far (p := ⟨gb350, 1, none⟩) AB (.string ((aj l0 a1).f1))).trans hx357_1; replace hx357_2 := (cell_far (p := ⟨gb350, 1, none⟩) AB (.string ((aj l0 a1).f1))).trans hx357_2; replace hx357_3 := (cell_far (p := ⟨gb350, 1, none⟩) AB (.string ((aj l0 a1).f1))).trans hx357_3; replace hx357_0 := (cell_far (p := ⟨gb350, 2, none⟩) AB (.int .i64 ((aj l0 a1).f2))).trans hx357_0; replace hx357_1 := (cell_far (p := ⟨gb350, 2, none⟩) AB (.int .i64 ((aj l0 a1).f2))).trans hx357_1; replace hx357_2 := (cell_far (p := ⟨gb350, 2, none⟩) AB (.int .i64 ((aj l0 a1).f2))).trans hx357_2; replace hx357_3 := (cell_far (p := ⟨gb350, 2, none⟩) AB (.int .i64 ((aj l0 a1).f2))).trans hx357_3; replace hx357_0 := (cell_far (p := ⟨gb350, 3, none⟩) AB (.int .i64 ((aj l0 a1).f3))).trans hx357_0; replace hx357_1 := (cell_far (p := ⟨gb350, 3, none⟩) AB (.int .i64 ((aj l0 a1).f3))).trans hx357_1; replace hx357_2 := (cell_far (p := ⟨gb350, 3, none⟩) AB (.int .i64 ((aj l0 a1).f3))).trans hx357_2; replace hx357_3 := (cell_far (p := ⟨gb350, 3, none⟩) AB (.int .i64 ((aj l0 a1).f3))).trans hx357_3; clear hn357_0 hn357_1 hn357_2 hn357_3; replace p357 := eq_true p357; replace q357 := eq_true q357) | ((with_reducible refine ay (f := 196) rfl ?_); refine bE (some 58) Tryz.func196 #[.string ((aj l0 ((aj l0 a1).f2)).f1)] ?_; (with_reducible refine (jT.calls k ((aj l0 ((aj l0 a1).f2)).f1) t358 _ A36.out).mono ?_); rintro e w' ⟨rfl, ⟨nd, rfl⟩⟩; refine ⟨_, rfl, ?_⟩))
       go_ret
       exact ⟨EWW, BL⟩
      ·replace H := ifE H; rcases H with ⟨c39b0, c39b1, H⟩ | ⟨c39, c39b0, c39b1, H⟩
       ·replace H := ifN H; obtain ⟨c40b0, H⟩ := H
        replace H := ifN H; obtain ⟨c41b0, H⟩ := H
        replace H := be H; obtain ⟨t360, A42, H⟩ := H
        obtain rfl := Option.some.inj H
        try go_wp2_with (first | ((with_reducible refine aJ (N := 7) rfl ?_); refine bg (N := 7) (cs := #[.int .i64 0, .string (⟨#[]⟩ : ByteArray), .int .i64 0, .int .i64 0]) (t := 141) ?_; intro gb350 hg w9000 hbox hb; have BK350 := ah.mk hbox; have GW350 := SZ (w := w) hg; have GE350 := GW350; replace HB := BS (w := w) hb; clear hb hbox hg; obtain ⟨hcz9001_0, hcz9001_1, hcz9001_2, hcz9001_3, hfz9001_0, hfz9001_1, hfz9001_2, hfz9001_3⟩ := cz4 BK350.out; have p359 : 0 ≤ (((aj l0 a1).f2) : Int) := OD; have q359 : ((aj l0 a1).f2) < (l0.length : Int) := OD; obtain ⟨ad359, e359, hx359_0, hx359_1, hx359_2, hx359_3⟩ := jN HR0.out ((aj l0 a1).f2) p359 q359; obtain rfl : ad349 = ad359 := (by injection e359); have hn359_0 : ad349.block ≠ gb350 := Nat.ne_of_lt (Nat.lt_of_lt_of_le (by have := World.block_lt_of_cell? _ _ hx359_0; first | rwa [add_block] at this | exact this) GW350.out); have hn359_1 : ad349.block ≠ gb350 := Nat.ne_of_lt (Nat.lt_of_lt_of_le (by have := World.block_lt_of_cell? _ _ hx359_0; first | rwa [add_block] at this | exact this) GW350.out); have hn359_2 : ad349.block ≠ gb350 := Nat.ne_of_lt (Nat.lt_of_lt_of_le (by have := World.block_lt_of_cell? _ _ hx359_0; first | rwa [add_block] at this | exact this) GW350.out); have hn359_3 : ad349.block ≠ gb350 := Nat.ne_of_lt (Nat.lt_of_lt_of_le (by have := World.block_lt_of_cell? _ _ hx359_0; first | rwa [add_block] at this | exact this) GW350.out); replace hx359_0 := (HB.out.cell (World.block_lt_of_cell? w _ hx359_0)).trans hx359_0; replace hx359_1 := (HB.out.cell (World.block_lt_of_cell? w _ hx359_1)).trans hx359_1; replace hx359_2 := (HB.out.cell (World.block_lt_of_cell? w _ hx359_2)).trans hx359_2; replace hx359_3 := (HB.out.cell (World.block_lt_of_cell? w _ hx359_3)).trans hx359_3; replace hx359_0 := (cell_far (p := ⟨gb350, 0, none⟩) AB (.int .i64 ((aj l0 a1).f0))).trans hx359_0; replace hx359_1 := (cell_far (p := ⟨gb350, 0, none⟩) AB (.int .i64 ((aj l0 a1).f0))).trans hx359_1; replace hx359_2 := (cell_far (p := ⟨gb350, 0, none⟩) AB (.int .i64 ((aj l0 a1).f0))).trans hx359_2; replace hx359_3 := (cell_far (p := ⟨gb350, 0, none⟩) AB (.int .i64 ((aj l0 a1).f0))).trans hx359_3; replace hx359_0 := (cell_far (p := ⟨gb350, 1, none⟩) AB (.string ((aj l0 a1).f1))).trans hx359_0; replace hx359_1 := (cell_far (p := ⟨gb350, 1, none⟩) AB (.string ((aj l0 a1).f1))).trans hx359_1; replace hx359_2 := (cell_far (p := ⟨gb350, 1, none⟩) AB (.string ((aj l0 a1).f1))).trans hx359_2; replace hx359_3 := (cell_far (p := ⟨gb350, 1, none⟩) AB (.string ((aj l0 a1).f1))).trans hx359_3; replace hx359_0 := (cell_far (p := ⟨gb350, 2, none⟩) AB (.int .i64 ((aj l0 a1).f2))).trans hx359_0; replace hx359_1 := (cell_far (p := ⟨gb350, 2, none⟩) AB (.int .i64 ((aj l0 a1).f2))).trans hx359_1; replace hx359_2 := (cell_far (p := ⟨gb350, 2, none⟩) AB (.int .i64 ((aj l0 a1).f2))).trans hx359_2; replace hx359_3 := (cell_far (p := ⟨gb350, 2, none⟩) AB (.int .i64 ((aj l0 a1).f2))).trans hx359_3; replace hx359_0 := (cell_far (p := ⟨gb350, 3, none⟩) AB (.int .i64 ((aj l0 a1).f3))).trans hx359_0; replace hx359_1 := (cell_far (p := ⟨gb350, 3, none⟩) AB (.int .i64 ((aj l0 a1).f3))).trans hx359_1; replace hx359_2 := (cell_far (p := ⟨gb350, 3, none⟩) AB (.int .i64 ((aj l0 a1).f3))).trans hx359_2; replace hx359_3 := (cell_far (p := ⟨gb350, 3, none⟩) AB (.int .i64 ((aj l0 a1).f3))).trans hx359_3; clear hn359_0 hn359_1 hn359_2 hn359_3; replace p359 := eq_true p359; replace q359 := eq_true q359) | ((with_reducible refine ay (f := 197) rfl ?_); refine bE (some 69) Tryz.func197 #[.string ((aj l0 ((aj l0 a1).f2)).f1)] ?_; (with_reducible refine (iJ.calls k ((aj l0 ((aj l0 a1).f2)).f1) t360 _ A42.out).mono ?_); rintro e w' ⟨rfl, ⟨nd, rfl⟩⟩; refine ⟨_, rfl, ?_⟩))
        go_ret
        exact ⟨EWW, BL⟩
       ·replace H := ifE H; rcases H with ⟨c45b0, c45b1, H⟩ | ⟨c45, c45b0, c45b1, H⟩
        ·replace H := ifN H; obtain ⟨c46b0, H⟩ := H
         replace H := ifN H; obtain ⟨c47b0, H⟩ := H
         replace H := be H; obtain ⟨t362, A48, H⟩ := H
         obtain rfl := Option.some.inj H
         try go_wp2_with (first | ((with_reducible refine aJ (N := 7) rfl ?_); refine bg (N := 7) (cs := #[.int .i64 0, .string (⟨#[]⟩ : ByteArray), .int .i64 0, .int .i64 0]) (t := 141) ?_; intro gb350 hg w9000 hbox hb; have BK350 := ah.mk hbox; have GW350 := SZ (w := w) hg; have GE350 := GW350; replace HB := BS (w := w) hb; clear hb hbox hg; obtain ⟨hcz9001_0, hcz9001_1, hcz9001_2, hcz9001_3, hfz9001_0, hfz9001_1, hfz9001_2, hfz9001_3⟩ := cz4 BK350.out; have p361 : 0 ≤ (((aj l0 a1).f2) : Int) := OD; have q361 : ((aj l0 a1).f2) < (l0.length : Int) := OD; obtain ⟨ad361, e361, hx361_0, hx361_1, hx361_2, hx361_3⟩ := jN HR0.out ((aj l0 a1).f2) p361 q361; obtain rfl : ad349 = ad361 := (by injection e361); have hn361_0 : ad349.block ≠ gb350 := Nat.ne_of_lt (Nat.lt_of_lt_of_le (by have := World.block_lt_of_cell? _ _ hx361_0; first | rwa [add_block] at this | exact this) GW350.out); have hn361_1 : ad349.block ≠ gb350 := Nat.ne_of_lt (Nat.lt_of_lt_of_le (by have := World.block_lt_of_cell? _ _ hx361_0; first | rwa [add_block] at this | exact this) GW350.out); have hn361_2 : ad349.block ≠ gb350 := Nat.ne_of_lt (Nat.lt_of_lt_of_le (by have := World.block_lt_of_cell? _ _ hx361_0; first | rwa [add_block] at this | exact this) GW350.out); have hn361_3 : ad349.block ≠ gb350 := Nat.ne_of_lt (Nat.lt_of_lt_of_le (by have := World.block_lt_of_cell? _ _ hx361_0; first | rwa [add_block] at this | exact this) GW350.out); replace hx361_0 := (HB.out.cell (World.block_lt_of_cell? w _ hx361_0)).trans hx361_0; replace hx361_1 := (HB.out.cell (World.block_lt_of_cell? w _ hx361_1)).trans hx361_1; replace hx361_2 := (HB.out.cell (World.block_lt_of_cell? w _ hx361_2)).trans hx361_2; replace hx361_3 := (HB.out.cell (World.block_lt_of_cell? w _ hx361_3)).trans hx361_3; replace hx361_0 := (cell_far (p := ⟨gb350, 0, none⟩) AB (.int .i64 ((aj l0 a1).f0))).trans hx361_0; replace hx361_1 := (cell_far (p := ⟨gb350, 0, none⟩) AB (.int .i64 ((aj l0 a1).f0))).trans hx361_1; replace hx361_2 := (cell_far (p := ⟨gb350, 0, none⟩) AB (.int .i64 ((aj l0 a1).f0))).trans hx361_2; replace hx361_3 := (cell_far (p := ⟨gb350, 0, none⟩) AB (.int .i64 ((aj l0 a1).f0))).trans hx361_3; replace hx361_0 := (cell_far (p := ⟨gb350, 1, none⟩) AB (.string ((aj l0 a1).f1))).trans hx361_0; replace hx361_1 := (cell_far (p := ⟨gb350, 1, none⟩) AB (.string ((aj l0 a1).f1))).trans hx361_1; replace hx361_2 := (cell_far (p := ⟨gb350, 1, none⟩) AB (.string ((aj l0 a1).f1))).trans hx361_2; replace hx361_3 := (cell_far (p := ⟨gb350, 1, none⟩) AB (.string ((aj l0 a1).f1))).trans hx361_3; replace hx361_0 := (cell_far (p := ⟨gb350, 2, none⟩) AB (.int .i64 ((aj l0 a1).f2))).trans hx361_0; replace hx361_1 := (cell_far (p := ⟨gb350, 2, none⟩) AB (.int .i64 ((aj l0 a1).f2))).trans hx361_1; replace hx361_2 := (cell_far (p := ⟨gb350, 2, none⟩) AB (.int .i64 ((aj l0 a1).f2))).trans hx361_2; replace hx361_3 := (cell_far (p := ⟨gb350, 2, none⟩) AB (.int .i64 ((aj l0 a1).f2))).trans hx361_3; replace hx361_0 := (cell_far (p := ⟨gb350, 3, none⟩) AB (.int .i64 ((aj l0 a1).f3))).trans hx361_0; replace hx361_1 := (cell_far (p := ⟨gb350, 3, none⟩) AB (.int .i64 ((aj l0 a1).f3))).trans hx361_1; replace hx361_2 := (cell_far (p := ⟨gb350, 3, none⟩) AB (.int .i64 ((aj l0 a1).f3))).trans hx361_2; replace hx361_3 := (cell_far (p := ⟨gb350, 3, none⟩) AB (.int .i64 ((aj l0 a1).f3))).trans hx361_3; clear hn361_0 hn361_1 hn361_2 hn361_3; replace p361 := eq_true p361; replace q361 := eq_true q361) | ((with_reducible refine ay (f := 198) rfl ?_); refine bE (some 80) Tryz.func198 #[.string ((aj l0 ((aj l0 a1).f2)).f1)] ?_; (with_reducible refine (iE.calls k ((aj l0 ((aj l0 a1).f2)).f1) t362 _ A48.out).mono ?_); rintro e w' ⟨rfl, ⟨nd, rfl⟩⟩; refine ⟨_, rfl, ?_⟩))
         go_ret
         exact ⟨EWW, BL⟩
        ·replace H := ifN H; obtain ⟨c51b0, H⟩ := H
         replace H := ifN H; obtain ⟨c52b0, H⟩ := H
         replace H := be H; obtain ⟨t364, A53, H⟩ := H
         obtain rfl := Option.some.inj H
         try go_wp2_with (first | ((with_reducible refine aJ (N := 7) rfl ?_); refine bg (N := 7) (cs := #[.int .i64 0, .string (⟨#[]⟩ : ByteArray), .int .i64 0, .int .i64 0]) (t := 141) ?_; intro gb350 hg w9000 hbox hb; have BK350 := ah.mk hbox; have GW350 := SZ (w := w) hg; have GE350 := GW350; replace HB := BS (w := w) hb; clear hb hbox hg; obtain ⟨hcz9001_0, hcz9001_1, hcz9001_2, hcz9001_3, hfz9001_0, hfz9001_1, hfz9001_2, hfz9001_3⟩ := cz4 BK350.out; have p363 : 0 ≤ (((aj l0 a1).f2) : Int) := OD; have q363 : ((aj l0 a1).f2) < (l0.length : Int) := OD; obtain ⟨ad363, e363, hx363_0, hx363_1, hx363_2, hx363_3⟩ := jN HR0.out ((aj l0 a1).f2) p363 q363; obtain rfl : ad349 = ad363 := (by injection e363); have hn363_0 : ad349.block ≠ gb350 := Nat.ne_of_lt (Nat.lt_of_lt_of_le (by have := World.block_lt_of_cell? _ _ hx363_0; first | rwa [add_block] at this | exact this) GW350.out); have hn363_1 : ad349.block ≠ gb350 := Nat.ne_of_lt (Nat.lt_of_lt_of_le (by have := World.block_lt_of_cell? _ _ hx363_0; first | rwa [add_block] at this | exact this) GW350.out); have hn363_2 : ad349.block ≠ gb350 := Nat.ne_of_lt (Nat.lt_of_lt_of_le (by have := World.block_lt_of_cell? _ _ hx363_0; first | rwa [add_block] at this | exact this) GW350.out); have hn363_3 : ad349.block ≠ gb350 := Nat.ne_of_lt (Nat.lt_of_lt_of_le (by have := World.block_lt_of_cell? _ _ hx363_0; first | rwa [add_block] at this | exact this) GW350.out); replace hx363_0 := (HB.out.cell (World.block_lt_of_cell? w _ hx363_0)).trans hx363_0; replace hx363_1 := (HB.out.cell (World.block_lt_of_cell? w _ hx363_1)).trans hx363_1; replace hx363_2 := (HB.out.cell (World.block_lt_of_cell? w _ hx363_2)).trans hx363_2; replace hx363_3 := (HB.out.cell (World.block_lt_of_cell? w _ hx363_3)).trans hx363_3; replace hx363_0 := (cell_far (p := ⟨gb350, 0, none⟩) AB (.int .i64 ((aj l0 a1).f0))).trans hx363_0; replace hx363_1 := (cell_far (p := ⟨gb350, 0, none⟩) AB (.int .i64 ((aj l0 a1).f0))).trans hx363_1; replace hx363_2 := (cell_far (p := ⟨gb350, 0, none⟩) AB (.int .i64 ((aj l0 a1).f0))).trans hx363_2; replace hx363_3 := (cell_far (p := ⟨gb350, 0, none⟩) AB (.int .i64 ((aj l0 a1).f0))).trans hx363_3; replace hx363_0 := (cell_far (p := ⟨gb350, 1, none⟩) AB (.string ((aj l0 a1).f1))).trans hx363_0; replace hx363_1 := (cell_far (p := ⟨gb350, 1, none⟩) AB (.string ((aj l0 a1).f1))).trans hx363_1; replace hx363_2 := (cell_far (p := ⟨gb350, 1, none⟩) AB (.string ((aj l0 a1).f1))).trans hx363_2; replace hx363_3 := (cell_far (p := ⟨gb350, 1, none⟩) AB (.string ((aj l0 a1).f1))).trans hx363_3; replace hx363_0 := (cell_far (p := ⟨gb350, 2, none⟩) AB (.int .i64 ((aj l0 a1).f2))).trans hx363_0; replace hx363_1 := (cell_far (p := ⟨gb350, 2, none⟩) AB (.int .i64 ((aj l0 a1).f2))).trans hx363_1; replace hx363_2 := (cell_far (p := ⟨gb350, 2, none⟩) AB (.int .i64 ((aj l0 a1).f2))).trans hx363_2; replace hx363_3 := (cell_far (p := ⟨gb350, 2, none⟩) AB (.int .i64 ((aj l0 a1).f2))).trans hx363_3; replace hx363_0 := (cell_far (p := ⟨gb350, 3, none⟩) AB (.int .i64 ((aj l0 a1).f3))).trans hx363_0; replace hx363_1 := (cell_far (p := ⟨gb350, 3, none⟩) AB (.int .i64 ((aj l0 a1).f3))).trans hx363_1; replace hx363_2 := (cell_far (p := ⟨gb350, 3, none⟩) AB (.int .i64 ((aj l0 a1).f3))).trans hx363_2; replace hx363_3 := (cell_far (p := ⟨gb350, 3, none⟩) AB (.int .i64 ((aj l0 a1).f3))).trans hx363_3; clear hn363_0 hn363_1 hn363_2 hn363_3; replace p363 := eq_true p363; replace q363 := eq_true q363) | ((with_reducible refine ay (f := 199) rfl ?_); refine bE (some 90) Tryz.func199 #[.string a2, .string ((aj l0 ((aj l0 a1).f2)).f1)] ?_; (with_reducible refine (dw.calls k a2 ((aj l0 ((aj l0 a1).f2)).f1) t364 _ A53.out).mono ?_); rintro e w' ⟨rfl, ⟨nd, rfl⟩⟩; refine ⟨_, rfl, ?_⟩))
         go_ret
         exact ⟨EWW, BL⟩
def lT.f (k : Nat) (l0 : List (dB)) (a1 : ByteArray) : Option (Bool) := (dz.f k l0).bind fun t365 => (if t365 = true then ((bC.f k a1).bind fun t366 => (if t366 = true then ((bQ.f k l0 (wrap64 ((l0.length : Int) - 1)) a1).bind fun t367 => (some t367)) else (some false))) else (some false))
theorem lT.calls (k : Nat) (A0 : Option Addr) (c0 : Nat) (l0 : List (dB)) (a1 : ByteArray) (r : Bool) (w : World) (hr0 : Kd.C jw w A0 l0.length l0) (hc0 : l0.length ≤ c0) (h : lT.f k l0 a1 = some r) :
  Calls Tryz.prog 104 #[.slice A0 l0.length c0, .string a1] w fun e w' => e = .returned (.bool r) ∧ Below w.heap.size w w' := by
 have HR0 := ah.mk hr0
 have HC0 := ah.mk hc0
 clear hr0 hc0
 have HB := ah.mk (Below.refl w.heap.size w)
 unfold lT.f at h
 have H := h
 clear h
 replace H := be H; obtain ⟨t365, A3, H⟩ := H
 replace H := ah.mk H
 go_enter Tryz.func104, Tryz.ntmps104
 go_wp2_with (first | ((with_reducible refine ay (f := 158) rfl ?_); refine bE (some 6) Tryz.func158 #[.slice A0 l0.length c0] ?_; (with_reducible refine (dz.calls k _ _ l0 _ _ ?side1 ?side2 A3.out).mono ?_); (case side1 => repeat (first | exact HR0.out | (with_reducible refine Kd.gy ?_ _) | (with_reducible refine Kd.gD ?_ _) | (with_reducible refine Kd.ig ?_))); (case side2 => exact HC0.out); rintro e w9000 ⟨rfl, hb⟩; refine ⟨_, rfl, ?_⟩; replace HB := BS (w := w) hb; (try clear hb); refine bU ?_))
 refine Hide.mk ?_
 replace H := H.out
 replace H := ifB H; rcases H with ⟨rfl, H⟩ | ⟨rfl, H⟩
 ·replace H := be H; obtain ⟨t366, A5, H⟩ := H
  replace H := ah.mk H
  go_wp2_with (first | (go_at_call 140; (with_reducible refine (bC.calls k a1 _ _ A5.out).mono ?_); rintro e w' ⟨rfl, ⟨nd, rfl⟩⟩; refine bU ?_))
  refine Hide.mk ?_
  replace H := H.out
  replace H := ifB H; rcases H with ⟨rfl, H⟩ | ⟨rfl, H⟩
  ·replace H := be H; obtain ⟨t367, A7, H⟩ := H
   obtain rfl := Option.some.inj H
   try go_wp2_with (first | (go_at_call 159; (with_reducible refine (bQ.calls k _ _ l0 (wrap64 ((l0.length : Int) - 1)) a1 t367 _ ?side1 ?side2 A7.out).mono ?_); (case side1 => repeat (first | exact (Kd.eO HR0.out BL) | (with_reducible refine Kd.gy ?_ _) | (with_reducible refine Kd.gD ?_ _) | (with_reducible refine Kd.ig ?_))); (case side2 => exact HC0.out); rintro e w9001 ⟨rfl, hb⟩; replace HB := BS (w := w) hb; (try clear hb)))
   go_ret
   exact ⟨EWW, BL⟩
  ·obtain rfl := Option.some.inj H
   try go_wp2
   go_ret
   exact ⟨EWW, BL⟩
 ·obtain rfl := Option.some.inj H
  try go_wp2
  go_ret
  exact ⟨EWW, BL⟩
def bW.l0 : Nat → ByteArray → Int → Option (Bool)
 | 0, _, _ => none
 | k + 1, a, b => if b < (a.size : Int) then (if 0 ≤ b then (if (bt a b) = 63 then (bW.l0 k a (wrap64 (b + 1))) else (if (bt a b) < 97 then (some false) else (if (bt a b) > 122 then (some false) else (bW.l0 k a (wrap64 (b + 1)))))) else (none)) else (some true)
def bW.f (k : Nat) (a0 : ByteArray) : Option (Bool) := (bB.f (a0.size : Int) 1 8).bind fun t368 => (if t368 = true then (bW.l0 k a0 0) else (some false))
theorem bW.calls (k : Nat) (a0 : ByteArray) (r : Bool) (w : World) (h : bW.f k a0 = some r) :
  Calls Tryz.prog 174 #[.string a0] w fun e w' => e = .returned (.bool r) ∧ cK w w' := by
 unfold bW.f at h
 have H := h
 clear h
 replace H := be H; obtain ⟨t368, A2, H⟩ := H
 replace H := ah.mk H
 go_enter Tryz.func174, Tryz.ntmps174
 go_wp2_with (first | ((with_reducible refine ay (f := 86) rfl ?_); refine bE (some 6) Tryz.func86 #[.int .i64 (a0.size : Int), .int .i64 1, .int .i64 8] ?_; (with_reducible refine (bB.calls (a0.size : Int) 1 8 _ _ A2.out).mono ?_); rintro e w' ⟨rfl, ⟨nd, rfl⟩⟩; refine ⟨_, rfl, ?_⟩; refine bU ?_))
 refine Hide.mk ?_
 replace H := H.out
 replace H := ifB H; rcases H with ⟨rfl, H⟩ | ⟨rfl, H⟩
 ·have H' := ah.mk H
  clear H
  try go_wp2
  go_loopg [3] k (fun kq v3 w' => ∃ (x3_1 : Int), v3 = .int .i64 x3_1 ∧ ah (bW.l0 kq a0 x3_1 = some r) ∧ ah (kq ≤ k) ∧ cK w w')
  case atStart => exact ⟨(0), EQ, H', ⟨Nat.le_refl _⟩, DR⟩
  case round =>
   clear H'
   try clear c3
   obtain ⟨x3_1, rfl, HA, HK1, ⟨m1, rfl⟩⟩ := hrel
   cases gk with
   | zero => exact absurd HA.out (by simp [bW.l0])
   | succ k1 =>
    have H := HA.out
    clear HA
    simp only [bW.l0] at H
    replace H := ifD H; rcases H with ⟨c4b0, H⟩ | ⟨c4b0, H⟩
    ·replace H := ifN H; obtain ⟨c5b0, H⟩ := H
     have p6 : (0 ≤ (x3_1 : Int)) = True := OT
     have q6 : (x3_1 < (a0.size : Int)) = True := OT
     have hx6 := fO a0 x3_1
     replace H := ifE H; rcases H with ⟨c7b0, c7b1, H⟩ | ⟨c7, c7b0, c7b1, H⟩
     ·have H' := ah.mk H
      clear H
      go_wp2
      go_roundg k1
      case measure => have := HK1.out; omega
      case rel => exact ⟨(wrap64 (x3_1 + 1)), EQ, H', ⟨by have := HK1.out; omega⟩, DR⟩
     ·have p8 : (0 ≤ (x3_1 : Int)) = True := OT
      have q8 : (x3_1 < (a0.size : Int)) = True := OT
      have hx8 := fO a0 x3_1
      replace H := ifD H; rcases H with ⟨c9b0, H⟩ | ⟨c9b0, H⟩
      ·obtain rfl := Option.some.inj H
       go_wp2
       go_ret
       exact ⟨EQ, DR⟩
      ·have p10 : (0 ≤ (x3_1 : Int)) = True := OT
       have q10 : (x3_1 < (a0.size : Int)) = True := OT
       have hx10 := fO a0 x3_1
       by_cases c11 : (bt a0 x3_1) > 122
       ·rw [if_pos c11] at H
        have c11b0 : decide (122 < (bt a0 x3_1)) = true := decide_eq_true c11
        clear c11
        obtain rfl := Option.some.inj H
        go_wp2
        go_ret
        exact ⟨EQ, DR⟩
       ·rw [if_neg c11] at H
        have c11b0 : decide (122 < (bt a0 x3_1)) = false := decide_eq_false c11
        clear c11
        have H' := ah.mk H
        clear H
        go_wp2
        go_roundg k1
        case measure => have := HK1.out; omega
        case rel => exact ⟨(wrap64 (x3_1 + 1)), EQ, H', ⟨by have := HK1.out; omega⟩, DR⟩
    ·obtain rfl := Option.some.inj H
     go_wp2
     go_ret
     exact ⟨EQ, DR⟩
 ·obtain rfl := Option.some.inj H
  try go_wp2
  go_ret
  exact ⟨EQ, DR⟩
mutual
def bF.j0 : Nat → ByteArray → ByteArray → Bool → Option (Bool)
 | 0, _, _, _ => none
 | k + 1, a, b, c => if c = true then (some false) else (bF.l0 k a b 0)
def bF.l0 : Nat → ByteArray → ByteArray → Int → Option (Bool)
 | 0, _, _, _ => none
 | k + 1, a, b, c => if c < (a.size : Int) then (if 0 ≤ c then (if (bt a c) = 63 then (bF.l0 k a b (wrap64 (c + 1))) else (if c < (b.size : Int) then (if (bt a c) = (bt b c) then (bF.l0 k a b (wrap64 (c + 1))) else (some false)) else (none))) else (none)) else (some true)
end
def bF.f (k : Nat) (a0 a1 : ByteArray) : Option (Bool) := (bW.f k a0).bind fun t369 => (if t369 = true then ((bC.f k a1).bind fun t370 => (if t370 = true then (bF.j0 k a0 a1 ((a0.size : Int) != (a1.size : Int))) else (bF.j0 k a0 a1 true))) else (bF.j0 k a0 a1 true))
theorem bF.calls (k : Nat) (a0 a1 : ByteArray) (r : Bool) (w : World) (h : bF.f k a0 a1 = some r) :
  Calls Tryz.prog 126 #[.string a0, .string a1] w fun e w' => e = .returned (.bool r) ∧ cK w w' := by
 unfold bF.f at h
 have H := h
 clear h
 have HC3 := ah.mk H
 clear H
 go_enter Tryz.func126, Tryz.ntmps126
 go_upto_region 1 with (fail)
 repeat (go_quiet (fail); go_upto_region 1 with (fail))
 go_cut [20] (fun v20 wc => ∃ (kq : Nat) (x20_2 : Bool), v20 = .bool x20_2 ∧ ah (bF.j0 kq a0 a1 x20_2 = some r) ∧ ah (kq ≤ k) ∧ cK w wc)
 case first =>
  have H := HC3.out
  clear HC3
  replace H := be H; obtain ⟨t369, A4, H⟩ := H
  replace H := ifB H; rcases H with ⟨rfl, H⟩ | ⟨rfl, H⟩
  ·replace H := be H; obtain ⟨t370, A6, H⟩ := H
   replace H := ifB H; rcases H with ⟨rfl, H⟩ | ⟨rfl, H⟩
   ·have H' := ah.mk H
    clear H
    repeat (go_wp2_with (first | (go_at_call 174; (with_reducible refine (bW.calls k a0 _ _ A4.out).mono ?_); rintro e w' ⟨rfl, ⟨nd, rfl⟩⟩; (try first | exact da | exact DD)) | (go_at_call 140; (with_reducible refine (bC.calls k a1 _ _ A6.out).mono ?_); rintro e w' ⟨rfl, ⟨nd, rfl⟩⟩; (try first | exact da | exact DD))); go_quiet (first | (go_at_call 174; (with_reducible refine (bW.calls k a0 _ _ A4.out).mono ?_); rintro e w' ⟨rfl, ⟨nd, rfl⟩⟩; (try first | exact da | exact DD)) | (go_at_call 140; (with_reducible refine (bC.calls k a1 _ _ A6.out).mono ?_); rintro e w' ⟨rfl, ⟨nd, rfl⟩⟩; (try first | exact da | exact DD))))
    go_wp2_with (first | (go_at_call 174; (with_reducible refine (bW.calls k a0 _ _ A4.out).mono ?_); rintro e w' ⟨rfl, ⟨nd, rfl⟩⟩; (try first | exact da | exact DD)) | (go_at_call 140; (with_reducible refine (bC.calls k a1 _ _ A6.out).mono ?_); rintro e w' ⟨rfl, ⟨nd, rfl⟩⟩; (try first | exact da | exact DD)))
    go_meet
    case rel => exact ⟨_, (((a0.size : Int) != (a1.size : Int))), EQ, H', ⟨by first | omega | exact Nat.le_refl _⟩, DR⟩
   ·have H' := ah.mk H
    clear H
    repeat (go_wp2_with (first | (go_at_call 174; (with_reducible refine (bW.calls k a0 _ _ A4.out).mono ?_); rintro e w' ⟨rfl, ⟨nd, rfl⟩⟩; (try first | exact da | exact DD)) | (go_at_call 140; (with_reducible refine (bC.calls k a1 _ _ A6.out).mono ?_); rintro e w' ⟨rfl, ⟨nd, rfl⟩⟩; (try first | exact da | exact DD))); go_quiet (first | (go_at_call 174; (with_reducible refine (bW.calls k a0 _ _ A4.out).mono ?_); rintro e w' ⟨rfl, ⟨nd, rfl⟩⟩; (try first | exact da | exact DD)) | (go_at_call 140; (with_reducible refine (bC.calls k a1 _ _ A6.out).mono ?_); rintro e w' ⟨rfl, ⟨nd, rfl⟩⟩; (try first | exact da | exact DD))))
    go_wp2_with (first | (go_at_call 174; (with_reducible refine (bW.calls k a0 _ _ A4.out).mono ?_); rintro e w' ⟨rfl, ⟨nd, rfl⟩⟩; (try first | exact da | exact DD)) | (go_at_call 140; (with_reducible refine (bC.calls k a1 _ _ A6.out).mono ?_); rintro e w' ⟨rfl, ⟨nd, rfl⟩⟩; (try first | exact da | exact DD)))
    go_meet
    case rel => exact ⟨_, (true), EQ, H', ⟨by first | omega | exact Nat.le_refl _⟩, DR⟩
  ·have H' := ah.mk H
   clear H
   repeat (go_wp2_with (first | (go_at_call 174; (with_reducible refine (bW.calls k a0 _ _ A4.out).mono ?_); rintro e w' ⟨rfl, ⟨nd, rfl⟩⟩; (try first | exact da | exact DD))); go_quiet (first | (go_at_call 174; (with_reducible refine (bW.calls k a0 _ _ A4.out).mono ?_); rintro e w' ⟨rfl, ⟨nd, rfl⟩⟩; (try first | exact da | exact DD))))
   go_wp2_with (first | (go_at_call 174; (with_reducible refine (bW.calls k a0 _ _ A4.out).mono ?_); rintro e w' ⟨rfl, ⟨nd, rfl⟩⟩; (try first | exact da | exact DD)))
   go_meet
   case rel => exact ⟨_, (true), EQ, H', ⟨by first | omega | exact Nat.le_refl _⟩, DR⟩
 case rest =>
  clear HC3
  obtain ⟨kq, x20_2, rfl, HA, HJ2, ⟨mc2, rfl⟩⟩ := hcut
  cases kq with
  | zero => exact absurd HA.out (by simp [bF.j0])
  | succ kj2 =>
   have H := HA.out
   clear HA
   simp only [bF.j0] at H
   replace H := ifB H; rcases H with ⟨rfl, H⟩ | ⟨rfl, H⟩
   ·obtain rfl := Option.some.inj H
    go_wp2
    repeat (go_quiet (fail); try go_wp2)
    go_ret
    exact ⟨EQ, DR⟩
   ·have H' := ah.mk H
    clear H
    go_wp2
    repeat (go_quiet (fail); try go_wp2)
    go_loopg [5] kj2 (fun kq v5 w' => ∃ (x5_2 : Int), v5 = .int .i64 x5_2 ∧ ah (bF.l0 kq a0 a1 x5_2 = some r) ∧ ah (kq ≤ kj2) ∧ cK w w')
    case atStart => exact ⟨(0), EQ, H', ⟨Nat.le_refl _⟩, DR⟩
    case round =>
     clear H'
     try clear c8
     obtain ⟨x5_2, rfl, HA, HK2, ⟨m2, rfl⟩⟩ := hrel
     cases gk with
     | zero => exact absurd HA.out (by simp [bF.l0])
     | succ k2 =>
      have H := HA.out
      clear HA
      simp only [bF.l0] at H
      replace H := ifD H; rcases H with ⟨c9b0, H⟩ | ⟨c9b0, H⟩
      ·replace H := ifN H; obtain ⟨c10b0, H⟩ := H
       have p11 : (0 ≤ (x5_2 : Int)) = True := OT
       have q11 : (x5_2 < (a0.size : Int)) = True := OT
       have hx11 := fO a0 x5_2
       replace H := ifE H; rcases H with ⟨c12b0, c12b1, H⟩ | ⟨c12, c12b0, c12b1, H⟩
       ·have H' := ah.mk H
        clear H
        go_wp2
        repeat (go_quiet (fail); try go_wp2)
        go_roundg k2
        case measure => have := HJ2.out; have := HK2.out; omega
        case rel => exact ⟨(wrap64 (x5_2 + 1)), EQ, H', ⟨by have := HJ2.out; have := HK2.out; omega⟩, DR⟩
       ·replace H := ifN H; obtain ⟨c14b0, H⟩ := H
        have p13 : (0 ≤ (x5_2 : Int)) = True := OT
        have q13 : (x5_2 < (a0.size : Int)) = True := OT
        have hx13 := fO a0 x5_2
        have p15 : (0 ≤ (x5_2 : Int)) = True := OT
        have q15 : (x5_2 < (a1.size : Int)) = True := OT
        have hx15 := fO a1 x5_2
        replace H := ifE H; rcases H with ⟨c16b0, c16b1, H⟩ | ⟨c16, c16b0, c16b1, H⟩
        ·have H' := ah.mk H
         clear H
         go_wp2
         repeat (go_quiet (fail); try go_wp2)
         go_roundg k2
         case measure => have := HJ2.out; have := HK2.out; omega
         case rel => exact ⟨(wrap64 (x5_2 + 1)), EQ, H', ⟨by have := HJ2.out; have := HK2.out; omega⟩, DR⟩
        ·obtain rfl := Option.some.inj H
         go_wp2
         repeat (go_quiet (fail); try go_wp2)
         go_ret
         exact ⟨EQ, DR⟩
      ·obtain rfl := Option.some.inj H
       go_wp2
       repeat (go_quiet (fail); try go_wp2)
       go_ret
       exact ⟨EQ, DR⟩
mutual
def aV.l0 : Nat → List (S84) → List ByteArray → ByteArray → Int → List ByteArray → Int → Int → List (dB) → Option (List ByteArray)
 | 0, _, _, _, _, _, _, _, _ => none
 | k + 1, a, b, c, d, e, f, g, h => if f < (b.length : Int) then ((bB.f d 0 3).bind fun i => (aV.j1 k a b c d e f i g h)) else (aV.j1 k a b c d e f false g h)
def aV.j1 : Nat → List (S84) → List ByteArray → ByteArray → Int → List ByteArray → Int → Bool → Int → List (dB) → Option (List ByteArray)
 | 0, _, _, _, _, _, _, _, _, _ => none
 | k + 1, a, b, c, d, e, f, g, h, i => if g = true then (if 0 ≤ f then (if f < (b.length : Int) then (if (Int.tmod d 2) = 0 then (aV.j2 k a b c d e f (fA ByteArray.empty b f) true h i) else ((fB.f k a (fA ByteArray.empty b f) h).bind fun j => (aV.j2 k a b c d e f (fA ByteArray.empty b f) j h i))) else (none)) else (none)) else (some e)
def aV.j2 : Nat → List (S84) → List ByteArray → ByteArray → Int → List ByteArray → Int → ByteArray → Bool → Int → List (dB) → Option (List ByteArray)
 | 0, _, _, _, _, _, _, _, _, _, _ => none
 | k + 1, a, b, c, d, e, f, g, h, i, j => if d < 2 then (aV.j3 k a b c d e f g h true i j) else ((lT.f k j g).bind fun l => (aV.j3 k a b c d e f g h l i j))
def aV.j3 : Nat → List (S84) → List ByteArray → ByteArray → Int → List ByteArray → Int → ByteArray → Bool → Bool → Int → List (dB) → Option (List ByteArray)
 | 0, _, _, _, _, _, _, _, _, _, _, _ => none
 | k + 1, a, b, c, d, e, f, g, h, i, j, l => (bF.f k c g).bind fun m => (if m = true then (if h = true then (if i = true then ((fZ.f k e g).bind fun n => (if n = true then (aV.l0 k a b c d e (wrap64 (f + 1)) j l) else (if e.length < 8796093022208 then (aV.l0 k a b c d (e ++ [g]) (wrap64 (f + 1)) j l) else (none)))) else (aV.l0 k a b c d e (wrap64 (f + 1)) j l)) else (aV.l0 k a b c d e (wrap64 (f + 1)) j l)) else (aV.l0 k a b c d e (wrap64 (f + 1)) j l))
end
def aV.f (k : Nat) (FV : Int) (F7 : List (dB)) (l1 : List (S84)) (l2 : List ByteArray) (a3 : ByteArray) (a4 : Int) : Option (List ByteArray) := aV.l0 k l1 l2 a3 a4 (([] : List ByteArray)) 0 FV F7
theorem aV.calls (k : Nat) (FV : Int) (A0_1 : Option Addr) (c0_1 : Nat) (F7 : List (dB)) (A1 : Option Addr) (c1 : Nat) (l1 : List (S84)) (A2 : Option Addr) (c2 : Nat) (l2 : List ByteArray) (a3 : ByteArray) (a4 : Int) (r : List ByteArray) (w : World) (hr0_1 : Kd.C jw w A0_1 F7.length F7) (hc0_1 : F7.length ≤ c0_1) (hr1 : Kd.C k84 w A1 l1.length l1) (hc1 : l1.length ≤ c1) (hr2 : Kd.C Kd.string w A2 l2.length l2) (hc2 : l2.length ≤ c2) (h : aV.f k FV F7 l1 l2 a3 a4 = some r) :
  Calls Tryz.prog 67 #[.agg #[.int .i64 FV, .slice A0_1 F7.length c0_1], .slice A1 l1.length c1, .slice A2 l2.length c2, .string a3, .int .i64 a4] w fun e w' => ∃ v0_ : Value, e = .returned (v0_) ∧ Kd.R Kd.string 9 w' w.heap.size (fun _ => True) v0_ r ∧ Below w.heap.size w w' := by
 have hu82 := Tryz.underlying82
 have HR0_1 := ah.mk hr0_1
 have HC0_1 := ah.mk hc0_1
 clear hr0_1 hc0_1
 have HR1 := ah.mk hr1
 have HC1 := ah.mk hc1
 clear hr1 hc1
 have HR2 := ah.mk hr2
 have HC2 := ah.mk hc2
 clear hr2 hc2
 have HB := ah.mk (Below.refl w.heap.size w)
 unfold aV.f at h
 have H := h
 clear h
 obtain ⟨y372, hy372⟩ : ∃ y_ : List ByteArray, y_ = (([] : List ByteArray)) := ⟨_, rfl⟩
 replace H : (aV.l0 k l1 l2 a3 a4 y372 0 FV F7) = some r := by first | (rw [hy372]; with_reducible exact H) | (have H2_ := (Option.bind_some _ _).symm.trans H; rw [hy372]; with_reducible exact H2_) | (have H2_ := (Option.bind_some _ _).symm.trans H; with_reducible exact H2_) | with_reducible exact H | (rw [hy372]; exact H) | exact H
 have Ny372 := ah.mk hy372
 clear hy372
 have H' := ah.mk H
 clear H
 go_enter Tryz.func67, Tryz.ntmps67
 go_wp2_with (first | ((with_reducible refine aJ (N := 5) rfl ?_); refine bg (N := 5) (cs := #[.int .i64 FV, .slice A0_1 F7.length c0_1]) (t := 82) ?_; intro gb371 hg w6 hbox hb; have BK371 := ah.mk hbox; have GW371 := SZ (w := w) hg; have GE371 := GW371; replace HB := BS (w := w) hb; clear hb hbox hg) | ((with_reducible refine aJ (N := 16) rfl ?_); refine Kd.sK Kd.string _ 9 ?hg (N := 16) ?hd (xs := ([] : List ByteArray)) (inner := []) (ok := fun _ => True) (okp := fun _ => True) ?hr ?hp (fun _ hk => hk) trivial (Below.refl _ _) (Nat.le_refl _) (by simp) ?_; (case hd => rfl); (case hg => rfl); (case hr => first | (go_simp; done) | (go_simp; rfl)); (case hp => exact (gX.none _ _)); intro v373 w7 ho8 hb hg_ hnew_; clear hg_ hnew_; (first | rw [← Ny372.out] at ho8 | (simp only [Int.reduceToNat] at ho8; rw [← Ny372.out] at ho8)); have n0_ := ah.mk (Kd.cO ho8 (aQ BL)); replace BK371 := KB BK371 hb; replace HB := BS (w := w) hb; have HO374 := n0_; clear n0_; clear hb ho8))
 go_loopg [11, 12] k (fun kq v11 v12 w' => ∃ (x11_1 : List ByteArray) (x12_1 : Int), v12 = .int .i64 x12_1 ∧ ah (aV.l0 kq l1 l2 a3 a4 x11_1 x12_1 FV F7 = some r) ∧ ah (kq ≤ k) ∧ ah (Kd.R Kd.string 9 w' w.heap.size (fun _ => True) v11 x11_1) ∧ ah (w'.heap[gb371]? = some (.cells #[.int .i64 FV, (.slice A0_1 F7.length c0_1)] 82 (0, 0))) ∧ ah (Below w.heap.size w w'))
 case atStart => exact ⟨(y372), (0), EQ, H', ⟨Nat.le_refl _⟩, ⟨(RR HO374)⟩, ⟨BK⟩, ⟨BL⟩⟩
 case round =>
  clear H'
  try clear c1
  try clear c2
  obtain ⟨x11_1, x12_1, rfl, HA, HK1, HO_11, BK371, HB⟩ := hrel
  cases gk with
  | zero => exact absurd HA.out (by simp [aV.l0])
  | succ k1 =>
   have H := HA.out
   clear HA
   simp only [aV.l0] at H
   have HC9 := ah.mk H
   clear H
   go_upto_region 3 with (fail)
   go_cut [24] (fun v24 wc => ∃ (kq : Nat) (x24_8 : Bool), v24 = .bool x24_8 ∧ ah (aV.j1 kq l1 l2 a3 a4 x11_1 x12_1 x24_8 FV F7 = some r) ∧ ah (kq ≤ k1) ∧ ah (Kd.R Kd.string 9 wc w.heap.size (fun _ => True) u11 x11_1) ∧ ah (wc.heap[gb371]? = some (.cells #[.int .i64 FV, (.slice A0_1 F7.length c0_1)] 82 (0, 0))) ∧ ah (Below w.heap.size w wc))
   case first =>
    have H := HC9.out
    clear HC9
    replace H := ifD H; rcases H with ⟨c10b0, H⟩ | ⟨c10b0, H⟩
    ·(first | rw [c10b0] | (simp only [iC, jg]; rw [c10b0]) | skip)
     replace H := be H; obtain ⟨t375, A11, H⟩ := H
     have H' := ah.mk H
     clear H
     go_wp2_with (first | (go_at_call 86; (with_reducible refine (bB.calls a4 0 3 t375 _ A11.out).mono ?_); rintro e w' ⟨rfl, ⟨nd, rfl⟩⟩))
     go_meet
     case rel => exact ⟨_, (t375), EQ, H', ⟨by have := HK1.out; first | omega | exact Nat.le_refl _⟩, ⟨(RR HO_11)⟩, ⟨BK⟩, ⟨BL⟩⟩
    ·(first | rw [c10b0] | (simp only [iC, jg]; rw [c10b0]) | skip)
     have H' := ah.mk H
     clear H
     go_wp2
     go_meet
     case rel => exact ⟨_, (false), EQ, H', ⟨by have := HK1.out; first | omega | exact Nat.le_refl _⟩, ⟨(RR HO_11)⟩, ⟨BK⟩, ⟨BL⟩⟩
   case rest =>
    clear HC9
    try clear c1
    try clear c2
    obtain ⟨kq, x24_8, rfl, HA, HJ8, HO_11, BK371, HB⟩ := hcut
    cases kq with
    | zero => exact absurd HA.out (by simp [aV.j1])
    | succ kj8 =>
     have H := HA.out
     clear HA
     simp only [aV.j1] at H
     replace H := ifB H; rcases H with ⟨rfl, H⟩ | ⟨rfl, H⟩
     ·replace H := ifN H; obtain ⟨c13b0, H⟩ := H
      replace H := ifN H; obtain ⟨c14b0, H⟩ := H
      have HC15 := ah.mk H
      clear H
      have p376 : 0 ≤ (x12_1 : Int) := OD
      have q376 : x12_1 < (l2.length : Int) := OD
      obtain ⟨ad376, e376, hx376_0⟩ := Kd.jo HR2.out x12_1 p376 q376
      cases e376
      try replace hx376_0 := (HB.out.cell (World.block_lt_of_cell? w _ hx376_0)).trans hx376_0
      replace p376 := eq_true p376
      replace q376 := eq_true q376
      go_upto_region 6 with (fail)
      go_cut [14] (fun v14 wc => ∃ (kq : Nat) (x14_14 : Bool), v14 = .bool x14_14 ∧ ah (aV.j2 kq l1 l2 a3 a4 x11_1 x12_1 (fA ByteArray.empty l2 x12_1) x14_14 FV F7 = some r) ∧ ah (kq ≤ kj8) ∧ ah (Kd.R Kd.string 9 wc w.heap.size (fun _ => True) u11 x11_1) ∧ ah (wc.heap[gb371]? = some (.cells #[.int .i64 FV, (.slice A0_1 F7.length c0_1)] 82 (0, 0))) ∧ ah (Below w.heap.size w wc))
      case first =>
       have H := HC15.out
       clear HC15
       replace H := ifE H; rcases H with ⟨c16b0, c16b1, H⟩ | ⟨c16, c16b0, c16b1, H⟩
       ·(first | rw [c16b0] | (simp only [iC, jg]; rw [c16b0]) | skip)
        have H' := ah.mk H
        clear H
        go_wp2
        go_meet
        case rel => exact ⟨_, (true), EQ, H', ⟨by have := HK1.out; have := HJ8.out; first | omega | exact Nat.le_refl _⟩, ⟨(RR HO_11)⟩, ⟨BK⟩, ⟨BL⟩⟩
       ·(first | rw [c16b0] | (simp only [iC, jg]; rw [c16b0]) | skip)
        replace H := be H; obtain ⟨t377, A17, H⟩ := H
        have H' := ah.mk H
        clear H
        obtain ⟨hcz5000_0, hcz5000_1, hfz5000_0, hfz5000_1⟩ := cz2 BK371.out
        go_wp2_with (first | (go_at_call 103; (with_reducible refine (fB.calls kj8 _ _ l1 (fA ByteArray.empty l2 x12_1) FV t377 _ ?side1 ?side2 A17.out).mono ?_); (case side1 => exact CB HR1); (case side2 => exact HC1.out); rintro e w' ⟨rfl, ⟨nd, rfl⟩⟩))
        go_meet
        case rel => exact ⟨_, (t377), EQ, H', ⟨by have := HK1.out; have := HJ8.out; first | omega | exact Nat.le_refl _⟩, ⟨(RR HO_11)⟩, ⟨BK⟩, ⟨BL⟩⟩
      case rest =>
       clear HC15
       try clear c1
       try clear c2
       try clear c12
       try clear c13
       try clear c13b0
       try clear c14
       try clear c14b0
       try clear hx376_0
       try clear p376
       try clear q376
       obtain ⟨kq, x14_14, rfl, HA, HJ14, HO_11, BK371, HB⟩ := hcut
       cases kq with
       | zero => exact absurd HA.out (by simp [aV.j2])
       | succ kj14 =>
        have H := HA.out
        clear HA
        simp only [aV.j2] at H
        have HC19 := ah.mk H
        clear H
        go_upto_region 7 with (fail)
        go_cut [15] (fun v15 wc => ∃ (kq : Nat) (x15_18 : Bool), v15 = .bool x15_18 ∧ ah (aV.j3 kq l1 l2 a3 a4 x11_1 x12_1 (fA ByteArray.empty l2 x12_1) x14_14 x15_18 FV F7 = some r) ∧ ah (kq ≤ kj14) ∧ ah (Kd.R Kd.string 9 wc w.heap.size (fun _ => True) u11 x11_1) ∧ ah (wc.heap[gb371]? = some (.cells #[.int .i64 FV, (.slice A0_1 F7.length c0_1)] 82 (0, 0))) ∧ ah (Below w.heap.size w wc))
        case first =>
         have H := HC19.out
         clear HC19
         replace H := ifD H; rcases H with ⟨c20b0, H⟩ | ⟨c20b0, H⟩
         ·(first | rw [c20b0] | (simp only [iC, jg]; rw [c20b0]) | skip)
          have H' := ah.mk H
          clear H
          go_wp2
          go_meet
          case rel => exact ⟨_, (true), EQ, H', ⟨by have := HK1.out; have := HJ8.out; have := HJ14.out; first | omega | exact Nat.le_refl _⟩, ⟨(RR HO_11)⟩, ⟨BK⟩, ⟨BL⟩⟩
         ·(first | rw [c20b0] | (simp only [iC, jg]; rw [c20b0]) | skip)
          replace H := be H; obtain ⟨t378, A21, H⟩ := H
          have H' := ah.mk H
          clear H
          obtain ⟨hcz5001_0, hcz5001_1, hfz5001_0, hfz5001_1⟩ := cz2 BK371.out
          go_wp2_with (first | (go_at_call 104; (with_reducible refine (lT.calls kj14 _ _ F7 (fA ByteArray.empty l2 x12_1) t378 _ ?side1 ?side2 A21.out).mono ?_); (case side1 => exact CB HR0_1); (case side2 => exact HC0_1.out); rintro e w5002 ⟨rfl, hb⟩; replace HO_11 := RB HO_11 hb; replace BK371 := KB BK371 hb; replace HB := BS (w := w) hb; (try clear hb); (try clear hb2); (try clear hk); (try clear hi)))
          go_meet
          case rel => exact ⟨_, (t378), EQ, H', ⟨by have := HK1.out; have := HJ8.out; have := HJ14.out; first | omega | exact Nat.le_refl _⟩, ⟨(RR HO_11)⟩, ⟨BK⟩, ⟨BL⟩⟩
        case rest =>
         clear HC19
         try clear c1
         try clear c2
         try clear c12
         try clear c13
         try clear c13b0
         try clear c14
         try clear c14b0
         try clear hx376_0
         try clear p376
         try clear q376
         obtain ⟨kq, x15_18, rfl, HA, HJ18, HO_11, BK371, HB⟩ := hcut
         cases kq with
         | zero => exact absurd HA.out (by simp [aV.j3])
         | succ kj18 =>
          have H := HA.out
          clear HA
          simp only [aV.j3] at H
          replace H := be H; obtain ⟨t379, A24, H⟩ := H
          replace H := ah.mk H
          go_wp2_with (first | ((with_reducible refine ay (f := 126) rfl ?_); refine bE (some 51) Tryz.func126 #[.string a3, .string (fA ByteArray.empty l2 x12_1)] ?_; (with_reducible refine (bF.calls kj18 a3 (fA ByteArray.empty l2 x12_1) _ _ A24.out).mono ?_); rintro e w' ⟨rfl, ⟨nd, rfl⟩⟩; refine ⟨_, rfl, ?_⟩; refine bU ?_))
          refine Hide.mk ?_
          replace H := H.out
          replace H := ifB H; rcases H with ⟨rfl, H⟩ | ⟨rfl, H⟩
          ·replace H := ifB H; rcases H with ⟨rfl, H⟩ | ⟨rfl, H⟩
           ·replace H := ifB H; rcases H with ⟨rfl, H⟩ | ⟨rfl, H⟩
            ·replace H := be H; obtain ⟨t380, A28, H⟩ := H
             replace H := ah.mk H
             obtain ⟨Ao5003, co5003, eo5003⟩ := Kd.dL HO_11.out
             subst eo5003
             go_wp2_with (first | (go_at_call 51; (with_reducible refine (fZ.calls kj18 _ _ x11_1 (fA ByteArray.empty l2 x12_1) _ _ ?side1 ?side2 A28.out).mono ?_); (case side1 => exact CR2 HO_11); (case side2 => exact (Kd.bP HO_11.out).2.1); rintro e w' ⟨rfl, ⟨nd, rfl⟩⟩; refine bU ?_))
             refine Hide.mk ?_
             replace H := H.out
             replace H := ifB H; rcases H with ⟨rfl, H⟩ | ⟨rfl, H⟩
             ·have H' := ah.mk H
              clear H
              try go_wp2
              go_roundg kj18
              case measure => have := HK1.out; have := HJ8.out; have := HJ14.out; have := HJ18.out; omega
              case rel => exact ⟨(x11_1), (wrap64 (x12_1 + 1)), EQ, H', ⟨by have := HK1.out; have := HJ8.out; have := HJ14.out; have := HJ18.out; omega⟩, ⟨(RR HO_11)⟩, ⟨BK⟩, ⟨BL⟩⟩
             ·replace H := ifP H; obtain ⟨c31, H⟩ := H
              have LMc31 := ah.mk c31
              clear c31
              obtain ⟨y381, hy381⟩ : ∃ y_ : List ByteArray, y_ = (x11_1 ++ [(fA ByteArray.empty l2 x12_1)]) := ⟨_, rfl⟩
              replace H : (aV.l0 kj18 l1 l2 a3 a4 y381 (wrap64 (x12_1 + 1)) FV F7) = some r := by first | (rw [hy381]; with_reducible exact H) | (have H2_ := (Option.bind_some _ _).symm.trans H; rw [hy381]; with_reducible exact H2_) | (have H2_ := (Option.bind_some _ _).symm.trans H; with_reducible exact H2_) | with_reducible exact H | (rw [hy381]; exact H) | exact H
              have Ny381 := ah.mk hy381
              clear hy381
              have H' := ah.mk H
              clear H
              try go_wp2_with (first | ((with_reducible refine dQ (b := .append) (xs := #[.tmp 64, .tmp 66]) rfl ?_); at_builtin; refine Kd.gU Kd.string (w0 := w) w.heap.size rfl (.tmp 64) (.tmp 66) 26 9 (.string ⟨#[]⟩) 16 rfl Tryz.underlying26 zA rfl (by decide) (by omega) (.slice Ao5003 x11_1.length co5003) x11_1 (fA ByteArray.empty l2 x12_1) [.string (fA ByteArray.empty l2 x12_1)] (fun _ => True) (fun _ => False) rfl rfl ?aP (fun _ hk => hk.elim) ?aF ?aO ?aB ?aS ?aL ?_; (case aP => exact rfl); (case aB => exact BL); (case aF => exact (fun _ _ => trivial)); (case aO => exact (RR HO_11)); (case aS => exact (aQ BL)); (case aL => have := LMc31.out; omega); intro v382 w5004 ho hb hg hat; rw [← Ny381.out] at ho; have n0_ := ah.mk (d9 (g := gb371) (o := .cells #[.int .i64 FV, .slice A0_1 F7.length c0_1] 82 (0, 0)) BK hg (Kd.mg HO_11.out BK371.out (by decide))); have n1_ := ah.mk (hb); have n2_ := ah.mk (ho); clear BK371 HB HO_11; have BK371 := n0_; have HB := n1_; have HO383 := n2_; clear n0_ n1_ n2_; clear ho hb hg hat))
              go_roundg kj18
              case measure => have := HK1.out; have := HJ8.out; have := HJ14.out; have := HJ18.out; omega
              case rel => exact ⟨(y381), (wrap64 (x12_1 + 1)), EQ, H', ⟨by have := HK1.out; have := HJ8.out; have := HJ14.out; have := HJ18.out; omega⟩, ⟨(RR HO383)⟩, ⟨BK⟩, ⟨BL⟩⟩
            ·have H' := ah.mk H
             clear H
             try go_wp2
             go_roundg kj18
             case measure => have := HK1.out; have := HJ8.out; have := HJ14.out; have := HJ18.out; omega
             case rel => exact ⟨(x11_1), (wrap64 (x12_1 + 1)), EQ, H', ⟨by have := HK1.out; have := HJ8.out; have := HJ14.out; have := HJ18.out; omega⟩, ⟨(RR HO_11)⟩, ⟨BK⟩, ⟨BL⟩⟩
           ·have H' := ah.mk H
            clear H
            try go_wp2
            go_roundg kj18
            case measure => have := HK1.out; have := HJ8.out; have := HJ14.out; have := HJ18.out; omega
            case rel => exact ⟨(x11_1), (wrap64 (x12_1 + 1)), EQ, H', ⟨by have := HK1.out; have := HJ8.out; have := HJ14.out; have := HJ18.out; omega⟩, ⟨(RR HO_11)⟩, ⟨BK⟩, ⟨BL⟩⟩
          ·have H' := ah.mk H
           clear H
           try go_wp2
           go_roundg kj18
           case measure => have := HK1.out; have := HJ8.out; have := HJ14.out; have := HJ18.out; omega
           case rel => exact ⟨(x11_1), (wrap64 (x12_1 + 1)), EQ, H', ⟨by have := HK1.out; have := HJ8.out; have := HJ14.out; have := HJ18.out; omega⟩, ⟨(RR HO_11)⟩, ⟨BK⟩, ⟨BL⟩⟩
     ·obtain rfl := Option.some.inj H
      go_wp2
      go_ret
      exact ⟨_, EWW, (RR HO_11), BL⟩
def gu.l0 : Nat → ByteArray → Int → Option (Bool)
 | 0, _, _ => none
 | k + 1, a, b => if b < (a.size : Int) then (if 0 ≤ b then (if (bt a b) = 63 then (some true) else (gu.l0 k a (wrap64 (b + 1)))) else (none)) else (some false)
def gu.f (k : Nat) (a0 : ByteArray) : Option (Bool) := gu.l0 k a0 0
theorem gu.calls (k : Nat) (a0 : ByteArray) (r : Bool) (w : World) (h : gu.f k a0 = some r) :
  Calls Tryz.prog 68 #[.string a0] w fun e w' => e = .returned (.bool r) ∧ cK w w' := by
 have H : (gu.l0 k a0 0) = some r := h
 clear h
 have H' := ah.mk H
 clear H
 go_enter Tryz.func68, Tryz.ntmps68
 go_wp2
 go_loopg [3] k (fun kq v3 w' => ∃ (x3_1 : Int), v3 = .int .i64 x3_1 ∧ ah (gu.l0 kq a0 x3_1 = some r) ∧ ah (kq ≤ k) ∧ cK w w')
 case atStart => exact ⟨(0), EQ, H', ⟨Nat.le_refl _⟩, DR⟩
 case round =>
  clear H'
  obtain ⟨x3_1, rfl, HA, HK1, ⟨m1, rfl⟩⟩ := hrel
  cases gk with
  | zero => exact absurd HA.out (by simp [gu.l0])
  | succ k1 =>
   have H := HA.out
   clear HA
   simp only [gu.l0] at H
   replace H := ifD H; rcases H with ⟨c2b0, H⟩ | ⟨c2b0, H⟩
   ·replace H := ifN H; obtain ⟨c3b0, H⟩ := H
    have p4 : (0 ≤ (x3_1 : Int)) = True := OT
    have q4 : (x3_1 < (a0.size : Int)) = True := OT
    have hx4 := fO a0 x3_1
    replace H := ifE H; rcases H with ⟨c5b0, c5b1, H⟩ | ⟨c5, c5b0, c5b1, H⟩
    ·obtain rfl := Option.some.inj H
     go_wp2
     go_ret
     exact ⟨EQ, DR⟩
    ·have H' := ah.mk H
     clear H
     go_wp2
     go_roundg k1
     case measure => have := HK1.out; omega
     case rel => exact ⟨(wrap64 (x3_1 + 1)), EQ, H', ⟨by have := HK1.out; omega⟩, DR⟩
   ·obtain rfl := Option.some.inj H
    go_wp2
    go_ret
    exact ⟨EQ, DR⟩
def bO.l0 : Nat → ByteArray → ByteArray → List Int → Int → Option (ByteArray × Bool)
 | 0, _, _, _, _ => none
 | k + 1, a, b, c, d => if d < (c.length : Int) then (if 0 ≤ d then (if 0 ≤ (rd c d) then (if (rd c d) ≤ (a.size : Int) then (if d ≤ (wrap64 (d + 1)) then (if (wrap64 (d + 1)) ≤ (b.size : Int) then (if (a.extract 0 ((rd c d) : Int).toNat).size + (b.extract (d : Int).toNat ((wrap64 (d + 1)) : Int).toNat).size ≤ 9223372036854775807 then (if 0 ≤ (wrap64 ((rd c d) + 1)) then (if (wrap64 ((rd c d) + 1)) ≤ (a.size : Int) then (if ((a.extract 0 ((rd c d) : Int).toNat) ++ (b.extract (d : Int).toNat ((wrap64 (d + 1)) : Int).toNat)).size + (a.extract ((wrap64 ((rd c d) + 1)) : Int).toNat a.size).size ≤ 9223372036854775807 then (bO.l0 k (((a.extract 0 ((rd c d) : Int).toNat) ++ (b.extract (d : Int).toNat ((wrap64 (d + 1)) : Int).toNat)) ++ (a.extract ((wrap64 ((rd c d) + 1)) : Int).toNat a.size)) b c (wrap64 (d + 1))) else (none)) else (none)) else (none)) else (none)) else (none)) else (none)) else (none)) else (none)) else (none)) else (some (a, true))
def bO.f (k : Nat) (FV FW : Int) (FX a1 : ByteArray) (a2 : Int) (a3 : ByteArray) : Option (ByteArray × Bool) := (bq.f k FV FW FX a1 a2).bind fun t385 => ((bF.f k t385 a3).bind fun t386 => (if t386 = true then ((aT.f k FV FW FX).bind fun t387 => (if 0 ≤ a2 then (if a2 < (t387.length : Int) then ((bK.f k FV FW FX ((aM t387 a2).f0) ((aM t387 a2).f1) ((aM t387 a2).f2) ((aM t387 a2).f3)).bind fun t391 => (bO.l0 k a1 a3 t391 0)) else (none)) else (none))) else (some (a1, false))))
def bO.T3 : Bool × List (List Nat × List Nat) := (true, [([], []), ([], []), ([1], [1]), ([], []), ([2, 3], [2, 3]), ([4], [4]), ([0, 5, 2], [0, 5]), ([6, 6, 0, 1, 2, 3, 4, 5, 6], [6])])
def bO.B3 : List Nat := [0, 0, 2, 0, 14, 30, 63, 127]
theorem bO.FN : kG .any (opsOf Tryz.f69 3) = bO.T3 := by kernel_rfl
theorem bO.FJ : iW bO.T3.2 bO.B3 = true := by kernel_rfl
def bO.T7 : Bool × List (List Nat × List Nat) := (true, [([], []), ([], []), ([], []), ([1, 2], [1, 2]), ([3], [3]), ([0, 4], [0, 4]), ([], []), ([], []), ([], []), ([8], [8]), ([6, 7, 9], [6, 7, 9]), ([5, 10], [5, 10]), ([], []), ([], []), ([], []), ([13, 14], [13, 14]), ([15], [15]), ([16], [16]), ([12, 17], [12, 17]), ([11, 18], [11, 18]), ([19, 0, 1, 2, 3, 4, 5, 6, 7, 8, 9, 10, 11, 12, 13, 14, 15, 16, 17, 18, 19], [0, 12, 19])])
def bO.B7 : List Nat := [0, 0, 0, 6, 14, 31, 0, 0, 0, 256, 960, 2047, 0, 0, 0, 24576, 57344, 122880, 258048, 524287, 1048575]
theorem bO.EO : kG .any (opsOf Tryz.f69 7) = bO.T7 := by kernel_rfl
theorem bO.Di : iW bO.T7.2 bO.B7 = true := by kernel_rfl
theorem bO.calls (k : Nat) (FV FW : Int) (FX a1 : ByteArray) (a2 : Int) (a3 r1 : ByteArray) (r2 : Bool) (w : World) (h : bO.f k FV FW FX a1 a2 a3 = some (r1, r2)) :
  Calls Tryz.prog 69 #[.agg #[.int .i64 FV, .int .i64 FW, .string FX], .string a1, .int .i64 a2, .string a3] w fun e w' => e = .returned (.tuple #[.string r1, .bool r2]) ∧ Below w.heap.size w w' := by
 have hu32 := Tryz.underlying32
 have hu115 := Tryz.underlying115
 have HB := ah.mk (Below.refl w.heap.size w)
 unfold bO.f at h
 have H := h
 clear h
 replace H := be H; obtain ⟨t385, A5, H⟩ := H
 replace H := be H; obtain ⟨t386, A6, H⟩ := H
 replace H := ah.mk H
 go_enter Tryz.func69, Tryz.ntmps69
 go_wp2_with (first | ((with_reducible refine aJ (N := 4) rfl ?_); refine bg (N := 4) (cs := #[.int .i64 FV, .int .i64 FW, .string FX]) (t := 32) ?_; intro gb384 hg w9000 hbox hb; have BK384 := ah.mk hbox; have GW384 := SZ (w := w) hg; have GE384 := GW384; replace HB := BS (w := w) hb; clear hb hbox hg; obtain ⟨hcz9001_0, hcz9001_1, hcz9001_2, hfz9001_0, hfz9001_1, hfz9001_2⟩ := cz3 BK384.out) | ((with_reducible refine ay (f := 66) rfl ?_); refine bE (some 15) Tryz.func66 #[.agg #[.int .i64 FV, .int .i64 FW, .string FX], .string a1, .int .i64 a2] ?_; (with_reducible refine (bq.calls k FV FW FX a1 a2 t385 _ A5.out).mono ?_); rintro e w9002 ⟨rfl, hb⟩; refine ⟨_, rfl, ?_⟩; replace BK384 := KB BK384 hb; replace HB := BS (w := w) hb; (try clear hb)) | ((with_reducible refine ay (f := 126) rfl ?_); refine bE (some 17) Tryz.func126 #[.string t385, .string a3] ?_; (with_reducible refine (bF.calls k t385 a3 _ _ A6.out).mono ?_); rintro e w' ⟨rfl, ⟨nd, rfl⟩⟩; refine ⟨_, rfl, ?_⟩; refine bU ?_))
 refine Hide.mk ?_
 replace H := H.out
 replace H := ifB H; rcases H with ⟨rfl, H⟩ | ⟨rfl, H⟩
 ·replace H := be H; obtain ⟨t387, A8, H⟩ := H
  replace H := ifN H; obtain ⟨c9b0, H⟩ := H
  replace H := ifN H; obtain ⟨c10b0, H⟩ := H
  replace H := be H; obtain ⟨t391, A11, H⟩ := H
  have H' := ah.mk H
  clear H
  try go_wp2
  (try (rw [oo w9002]; generalize hq_ : World.drewN w9002 _ = w9002; have n0_ : ah (w9002.heap[gb384]? = some (.cells #[.int .i64 FV, .int .i64 FW, .string FX] 32 (0, 0))) := ⟨by rw [← hq_]; exact BK⟩; have n1_ : ah (Below w.heap.size w w9002) := ⟨by rw [← hq_]; exact BL⟩; clear BK384 HB hq_; have BK384 := n0_; have HB := n1_; clear n0_ n1_))
  replace BK384 := ah.mk (aH BK384.out)
  replace HB := ah.mk (dH HB.out)
  refine ji (n := 8) (S := fun w' => w'.cell? ⟨gb384, 0, none⟩ = some (.int .i64 FV) ∧ w'.cell? ⟨gb384, 1, none⟩ = some (.int .i64 FW) ∧ w'.cell? ⟨gb384, 2, none⟩ = some (.string FX)) (ds := []) #[F,F,F,F,F,F,F,F] (by kernel_rfl) rfl rfl ⟨(ak BK384.out 0).trans rfl, (ak BK384.out 1).trans rfl, (ak BK384.out 2).trans rfl⟩ (fun hHeld => ?_); refine iI bO.FN bO.FJ (fun HT_ HW_ => ?_)
  generalize w9002.drew = w9003 at BK384 HB hHeld ⊢
  refine puS (i := 3) (N := some 23) #[F,F,F,T,F,F,F,F] (aK HT_.out (by kernel_rfl)) ?_
  refine taS (i := 0) (N := some 20) #[T,F,F,T,F,F,F,F] (eF HT_.out HW_.out (by kernel_rfl)) hHeld ?_
  refine taS (i := 1) (N := some 21) #[T,T,F,T,F,F,F,F] (eF HT_.out HW_.out (by kernel_rfl)) hHeld ?_
  refine kW (i := 2) (N := some 22) #[T,T,T,T,F,F,F,F] rfl rfl (jf HT_.out (by kernel_rfl)) (by decide) (fun K hK => ?_)
  refine iZ Tryz.func49 #[.agg #[.int .i64 FV, .int .i64 FW, .string FX]] ?_
  with_reducible refine (aT.calls k FV FW FX t387 _ A8.out).mono ?_
  rintro e w9004 ⟨v388, rfl, ho0, hb⟩
  refine ⟨_, rfl, ?_⟩
  have n0_ := ah.mk (Kd.cO ho0 (aQ BL))
  have n1_ := KB BK384 hb
  have n2_ := BS (w := w) hb
  clear BK384
  clear HB
  have HO389 := n0_
  have BK384 := n1_
  have HB := n2_
  clear n0_ n1_ n2_
  (try clear hb)
  (try clear ho0)
  obtain ⟨Ao9005, co9005, eo9005⟩ := Kd.dL HO389.out
  (first | subst eo9005 | (injection eo9005 with f1_ f2_ f3_; have f4_ := f1_.symm; have f5_ := f3_.symm; clear f1_ f2_ f3_; subst f4_; subst f5_))
  have p390 : 0 ≤ (a2 : Int) := OD
  have q390 : a2 < (t387.length : Int) := OD
  obtain ⟨ad390, e390, hx390_0, hx390_1, hx390_2, hx390_3⟩ := nu (Kd.bP HO389.out).2.2 a2 p390 q390
  cases e390
  replace p390 := eq_true p390
  replace q390 := eq_true q390
  refine hK.out _ _ ⟨(ak BK384.out 0).trans rfl, (ak BK384.out 1).trans rfl, (ak BK384.out 2).trans rfl⟩ (fun hHeld => ?_)
  clear hK K
  refine nrm (some 22) ?_
  refine puS (i := 4) (N := some 24) #[T,T,T,T,T,F,F,F] (aK HT_.out (by kernel_rfl)) ?_
  refine kW (i := 5) (N := some 25) #[T,T,T,T,T,T,F,F] rfl rfl (jf HT_.out (by kernel_rfl)) (by decide) (fun K hK => ?_)
  refine Ew (v := ?_) (w1 := w9004) (by rfl) (by rfl) ?_ ?_
  rotate_left
  ·go_simp
   with_reducible rfl
  refine hK.out _ _ ⟨(ak BK384.out 0).trans rfl, (ak BK384.out 1).trans rfl, (ak BK384.out 2).trans rfl⟩ (fun hHeld => ?_)
  clear hK K
  refine nrm (some 25) ?_
  refine kW (i := 6) (N := some 26) #[T,T,T,T,T,T,T,F] rfl rfl (jf HT_.out (by kernel_rfl)) (by decide) (fun K hK => ?_)
  refine iZ Tryz.func125 #[.agg #[.int .i64 FV, .int .i64 FW, .string FX], .agg #[.int .i64 ((aM t387 a2).f0), .bool ((aM t387 a2).f1), .int .i64 ((aM t387 a2).f2), .int .i64 ((aM t387 a2).f3)]] ?_
  with_reducible refine (bK.calls k FV FW FX ((aM t387 a2).f0) ((aM t387 a2).f1) ((aM t387 a2).f2) ((aM t387 a2).f3) t391 _ A11.out).mono ?_
  rintro e w9006 ⟨v392, rfl, ho0, hb⟩
  refine ⟨_, rfl, ?_⟩
  have n0_ := RB HO389 hb
  have n1_ := ah.mk (Kd.cO ho0 (aQ BL))
  have n2_ := KB BK384 hb
  have n3_ := BS (w := w) hb
  clear HO389
  clear BK384
  clear HB
  have HO389 := n0_
  have HO393 := n1_
  have BK384 := n2_
  have HB := n3_
  clear n0_ n1_ n2_ n3_
  (try clear hb)
  (try clear ho0)
  refine hK.out _ _ ⟨(ak BK384.out 0).trans rfl, (ak BK384.out 1).trans rfl, (ak BK384.out 2).trans rfl⟩ (fun hHeld => ?_)
  clear hK K
  refine nrm (some 26) ?_
  refine puS (i := 7) (N := some 10) #[T,T,T,T,T,T,T,T] (aK HT_.out (by kernel_rfl)) ?_
  refine iD (gG HT_.out (by kernel_rfl)) ?_
  try go_wp2
  go_loopg [1, 11] k (fun kq v1 v11 w' => ∃ (x1_1 : ByteArray) (x11_1 : Int), v1 = .string x1_1 ∧ v11 = .int .i64 x11_1 ∧ ah (bO.l0 kq x1_1 a3 t391 x11_1 = some (r1, r2)) ∧ ah (kq ≤ k) ∧ ah (Kd.R (Kd.int .i64) 3 w' w.heap.size (fun _ => True) v392 t391) ∧ ah (w'.heap[gb384]? = some (.cells #[.int .i64 FV, .int .i64 FW, .string FX] 32 (0, 0))) ∧ ah (Below w.heap.size w w'))
  case atStart => exact ⟨(a1), (0), EQ, EQ, H', ⟨Nat.le_refl _⟩, ⟨(RR HO393)⟩, ⟨BK⟩, ⟨BL⟩⟩
  case round =>
   clear H'
   try clear c7
   try clear c9
   try clear c9b0
   try clear c10
   try clear c10b0
   try clear hcz9001_0
   try clear hcz9001_1
   try clear hcz9001_2
   try clear hfz9001_0
   try clear hfz9001_1
   try clear hfz9001_2
   try clear hx390_0
   try clear hx390_1
   try clear hx390_2
   try clear hx390_3
   try clear p390
   try clear q390
   obtain ⟨x1_1, x11_1, rfl, rfl, HA, HK1, HO_10, BK384, HB⟩ := hrel
   cases gk with
   | zero => exact absurd HA.out (by simp [bO.l0])
   | succ k1 =>
    have H := HA.out
    clear HA
    simp only [bO.l0] at H
    obtain ⟨Ao9007, co9007, eo9007⟩ := Kd.dL HO_10.out
    subst eo9007
    replace H := ifD H; rcases H with ⟨c19b0, H⟩ | ⟨c19b0, H⟩
    ·replace H := ifN H; obtain ⟨c20b0, H⟩ := H
     replace H := ifP H; obtain ⟨c21, H⟩ := H
     have c21b0 := eq_true c21
     have c21b1 : decide (0 ≤ (rd t391 x11_1)) = true := decide_eq_true c21
     clear c21
     replace H := ifP H; obtain ⟨c22, H⟩ := H
     have c22b0 := eq_true c22
     have c22b1 : decide ((rd t391 x11_1) ≤ (x1_1.size : Int)) = true := decide_eq_true c22
     clear c22
     have c23b0 := eq_true (OD : 0 ≤ x11_1)
     replace H := ifP H; obtain ⟨c24, H⟩ := H
     have c24b0 := eq_true c24
     have c24b1 : decide (x11_1 ≤ (wrap64 (x11_1 + 1))) = true := decide_eq_true c24
     replace H := ifP H; obtain ⟨c25, H⟩ := H
     have c25b0 := eq_true c25
     have c25b1 : decide ((wrap64 (x11_1 + 1)) ≤ (a3.size : Int)) = true := decide_eq_true c25
     by_cases c26 : (x1_1.extract 0 ((rd t391 x11_1) : Int).toNat).size + (a3.extract (x11_1 : Int).toNat ((wrap64 (x11_1 + 1)) : Int).toNat).size ≤ 9223372036854775807
     ·rw [if_pos c26] at H
      have c26b0 := eq_true c26
      have c26b1 : decide ((x1_1.extract 0 ((rd t391 x11_1) : Int).toNat).size + (a3.extract (x11_1 : Int).toNat ((wrap64 (x11_1 + 1)) : Int).toNat).size ≤ 9223372036854775807) = true := decide_eq_true c26
      try have c26b2 : (9223372036854775807 < (x1_1.extract 0 ((rd t391 x11_1) : Int).toNat).size + (a3.extract (x11_1 : Int).toNat ((wrap64 (x11_1 + 1)) : Int).toNat).size) = False := eq_false (Nat.not_lt.2 c26)
      have c26b3 : (9223372036854775807 < ((rd t391 x11_1)).toNat + (((wrap64 (x11_1 + 1))).toNat - (x11_1).toNat)) = False := eq_false (by
       have h1_ : (rd t391 x11_1) ≤ (x1_1.size : Int) := OD
       have h2_ : (wrap64 (x11_1 + 1)) ≤ (a3.size : Int) := OD
       have h_ := c26
       simp only [ByteArray.size_extract] at h_
       omega)
      obtain ⟨ji27, hji27⟩ : ∃ j_ : Int, (wrap64 ((rd t391 x11_1) + 1)) = j_ := ⟨_, rfl⟩
      replace H : (if 0 ≤ (ji27) then (if (ji27) ≤ (x1_1.size : Int) then (if ((x1_1.extract 0 ((rd t391 x11_1) : Int).toNat) ++ (a3.extract (x11_1 : Int).toNat ((wrap64 (x11_1 + 1)) : Int).toNat)).size + (x1_1.extract ((ji27) : Int).toNat x1_1.size).size ≤ 9223372036854775807 then (bO.l0 k1 (((x1_1.extract 0 ((rd t391 x11_1) : Int).toNat) ++ (a3.extract (x11_1 : Int).toNat ((wrap64 (x11_1 + 1)) : Int).toNat)) ++ (x1_1.extract ((ji27) : Int).toNat x1_1.size)) a3 t391 (wrap64 (x11_1 + 1))) else (none)) else (none)) else (none)) = some (r1, r2) := by first | (rw [hji27] at H; exact H) | (simp only [hji27] at H ⊢; exact H)
      have hji27w : (IntKind.i64.wrap ((rd t391 x11_1) + 1)) = ji27 := (iC _).trans hji27
      replace H := ifP H; obtain ⟨c28, H⟩ := H
      have c28b0 := eq_true c28
      have c28b1 : decide (0 ≤ (ji27)) = true := decide_eq_true c28
      clear c28
      replace H := ifP H; obtain ⟨c29, H⟩ := H
      have c29b0 := eq_true c29
      have c29b1 : decide ((ji27) ≤ (x1_1.size : Int)) = true := decide_eq_true c29
      clear c29
      by_cases c30 : ((x1_1.extract 0 ((rd t391 x11_1) : Int).toNat) ++ (a3.extract (x11_1 : Int).toNat ((wrap64 (x11_1 + 1)) : Int).toNat)).size + (x1_1.extract ((ji27) : Int).toNat x1_1.size).size ≤ 9223372036854775807
      ·rw [if_pos c30] at H
       have c30b0 := eq_true c30
       have c30b1 : decide (((x1_1.extract 0 ((rd t391 x11_1) : Int).toNat) ++ (a3.extract (x11_1 : Int).toNat ((wrap64 (x11_1 + 1)) : Int).toNat)).size + (x1_1.extract ((ji27) : Int).toNat x1_1.size).size ≤ 9223372036854775807) = true := decide_eq_true c30
       try have c30b2 : (9223372036854775807 < ((x1_1.extract 0 ((rd t391 x11_1) : Int).toNat) ++ (a3.extract (x11_1 : Int).toNat ((wrap64 (x11_1 + 1)) : Int).toNat)).size + (x1_1.extract ((ji27) : Int).toNat x1_1.size).size) = False := eq_false (Nat.not_lt.2 c30)
       have c30b3 : (9223372036854775807 < ((rd t391 x11_1)).toNat + (((wrap64 (x11_1 + 1))).toNat - (x11_1).toNat) + (x1_1.size - (ji27).toNat)) = False := eq_false (by
        have h1_ : (rd t391 x11_1) ≤ (x1_1.size : Int) := OD
        have h2_ : (wrap64 (x11_1 + 1)) ≤ (a3.size : Int) := OD
        have h_ := c30
        simp only [ByteArray.size_append, ByteArray.size_extract] at h_
        omega)
       have H' := ah.mk H
       clear H
       try go_wp2
       replace HO_10 := ah.mk (Kd.eu HO_10.out)
       replace BK384 := ah.mk (aH BK384.out)
       replace HB := ah.mk (dH HB.out)
       have p394 : 0 ≤ (x11_1 : Int) := OD
       have q394 : x11_1 < (t391.length : Int) := OD
       obtain ⟨ad394, e394, hx394_0⟩ := Kd.mG (Kd.bP HO_10.out).2.2 x11_1 p394 q394
       cases e394
       replace p394 := eq_true p394
       replace q394 := eq_true q394
       have p395 : 0 ≤ (x11_1 : Int) := OD
       have q395 : x11_1 < (t391.length : Int) := OD
       obtain ⟨ad395, e395, hx395_0⟩ := Kd.mG (Kd.bP HO_10.out).2.2 x11_1 p395 q395
       obtain rfl : ad394 = ad395 := (by injection e395)
       replace p395 := eq_true p395
       replace q395 := eq_true q395
       refine ji (n := 21) (S := fun w' => w'.cell? (ad394.add (x11_1).toNat) = some (.int .i64 (rd t391 x11_1)) ∧ w'.cell? (ad394.add (x11_1).toNat) = some (.int .i64 (rd t391 x11_1))) (ds := []) #[F,F,F,F,F,F,F,F,F,F,F,F,F,F,F,F,F,F,F,F,F] (by kernel_rfl) rfl rfl ⟨hx394_0, hx395_0⟩ (fun hHeld => ?_); refine iI bO.EO bO.Di (fun HT_ HW_ => ?_)
       generalize wr.drew = w9008 at HO_10 BK384 HB hx394_0 hx395_0 hHeld ⊢
       refine puS (i := 0) (N := some 33) #[T,F,F,F,F,F,F,F,F,F,F,F,F,F,F,F,F,F,F,F,F] (aK HT_.out (by kernel_rfl)) ?_
       refine puS (i := 1) (N := some 34) #[T,T,F,F,F,F,F,F,F,F,F,F,F,F,F,F,F,F,F,F,F] (aK HT_.out (by kernel_rfl)) ?_
       refine puS (i := 2) (N := some 35) #[T,T,T,F,F,F,F,F,F,F,F,F,F,F,F,F,F,F,F,F,F] (aK HT_.out (by kernel_rfl)) ?_
       refine puS (i := 3) (N := some 36) #[T,T,T,T,F,F,F,F,F,F,F,F,F,F,F,F,F,F,F,F,F] (aK HT_.out (by kernel_rfl)) ?_
       refine puS (i := 6) (N := some 39) #[T,T,T,T,F,F,T,F,F,F,F,F,F,F,F,F,F,F,F,F,F] (aK HT_.out (by kernel_rfl)) ?_
       refine puS (i := 7) (N := some 40) #[T,T,T,T,F,F,T,T,F,F,F,F,F,F,F,F,F,F,F,F,F] (aK HT_.out (by kernel_rfl)) ?_
       refine puS (i := 8) (N := some 41) #[T,T,T,T,F,F,T,T,T,F,F,F,F,F,F,F,F,F,F,F,F] (aK HT_.out (by kernel_rfl)) ?_
       refine puS (i := 9) (N := some 42) #[T,T,T,T,F,F,T,T,T,T,F,F,F,F,F,F,F,F,F,F,F] (aK HT_.out (by kernel_rfl)) ?_
       refine puS (i := 10) (N := some 43) #[T,T,T,T,F,F,T,T,T,T,T,F,F,F,F,F,F,F,F,F,F] (aK HT_.out (by kernel_rfl)) ?_
       refine puS (i := 12) (N := some 45) #[T,T,T,T,F,F,T,T,T,T,T,F,T,F,F,F,F,F,F,F,F] (aK HT_.out (by kernel_rfl)) ?_
       refine puS (i := 13) (N := some 46) #[T,T,T,T,F,F,T,T,T,T,T,F,T,T,F,F,F,F,F,F,F] (aK HT_.out (by kernel_rfl)) ?_
       refine puS (i := 14) (N := some 47) #[T,T,T,T,F,F,T,T,T,T,T,F,T,T,T,F,F,F,F,F,F] (aK HT_.out (by kernel_rfl)) ?_
       refine puS (i := 15) (N := some 48) #[T,T,T,T,F,F,T,T,T,T,T,F,T,T,T,T,F,F,F,F,F] (aK HT_.out (by kernel_rfl)) ?_
       refine taS (i := 4) (N := some 37) #[T,T,T,T,T,F,T,T,T,T,T,F,T,T,T,T,F,F,F,F,F] (eF HT_.out HW_.out (by kernel_rfl)) hHeld ?_
       refine puS (i := 5) (N := some 38) #[T,T,T,T,T,T,T,T,T,T,T,F,T,T,T,T,F,F,F,F,F] (aK HT_.out (by kernel_rfl)) ?_
       refine puS (i := 11) (N := some 44) #[T,T,T,T,T,T,T,T,T,T,T,T,T,T,T,T,F,F,F,F,F] (aK HT_.out (by kernel_rfl)) ?_
       refine taS (i := 16) (N := some 49) #[T,T,T,T,T,T,T,T,T,T,T,T,T,T,T,T,T,F,F,F,F] (eF HT_.out HW_.out (by kernel_rfl)) hHeld ?_
       refine puS (i := 17) (N := some 50) #[T,T,T,T,T,T,T,T,T,T,T,T,T,T,T,T,T,T,F,F,F] (aK HT_.out (by kernel_rfl)) ?_
       refine puS (i := 18) (N := some 51) #[T,T,T,T,T,T,T,T,T,T,T,T,T,T,T,T,T,T,T,F,F] (aK HT_.out (by kernel_rfl)) ?_
       refine puS (i := 19) (N := some 52) #[T,T,T,T,T,T,T,T,T,T,T,T,T,T,T,T,T,T,T,T,F] (aK HT_.out (by kernel_rfl)) ?_
       refine puS (i := 20) (N := some 1) #[T,T,T,T,T,T,T,T,T,T,T,T,T,T,T,T,T,T,T,T,T] (aK HT_.out (by kernel_rfl)) ?_
       refine iD (gG HT_.out (by kernel_rfl)) ?_
       try go_wp2
       go_roundg k1
       case measure => have := HK1.out; omega
       case rel => exact ⟨(((x1_1.extract 0 ((rd t391 x11_1) : Int).toNat) ++ (a3.extract (x11_1 : Int).toNat ((wrap64 (x11_1 + 1)) : Int).toNat)) ++ (x1_1.extract ((ji27) : Int).toNat x1_1.size)), (wrap64 (x11_1 + 1)), (by first | rfl | (simp; done) | (simp only [← hji27] <;> (first | rfl | simp)) | (simp [*]; done)), EQ, H', ⟨by have := HK1.out; omega⟩, ⟨(RR HO_10)⟩, ⟨BK⟩, ⟨BL⟩⟩
      ·rw [if_neg c30] at H
       exact absurd H (by simp)
     ·rw [if_neg c26] at H
      exact absurd H (by simp)
    ·simp only [Option.some.injEq, Prod.mk.injEq] at H
     obtain ⟨rfl, rfl⟩ := H
     go_wp2
     go_ret2
     exact ⟨EWW, BL⟩
 ·simp only [Option.some.injEq, Prod.mk.injEq] at H
  obtain ⟨rfl, rfl⟩ := H
  try go_wp2
  go_ret2
  exact ⟨EWW, BL⟩
end Go.Proofs.YtnfiedfaaaphoaaGreat.PFnExactOneRound
