/- Walks of functions: what each computes. -/
import Derived.Test.YtnfiedfaaaphoaaGreatZPuzzleCodeG0
import Derived.Test.YtnfiedfaaaphoaaGreatZPuzzleCodeG5
import Derived.Test.YtnfiedfaaaphoaaGreatZPuzzleCodeW
import Derived.Test.YtnfiedfaaaphoaaGreatZPuzzleCodeShelf
import Derived.Test.YtnfiedfaaaphoaaGreatZPuzzleCodeHandSort
import Derived.Test.YtnfiedfaaaphoaaGreatZPuzzleCodeHandForm
import Derived.Test.YtnfiedfaaaphoaaGreatZPuzzleCodeHandAlone
import Derived.Test.YtnfiedfaaaphoaaGreatZPuzzleCodeHandReach
import Derived.Test.YtnfiedfaaaphoaaGreatZPuzzleCodeHandPut
namespace Go.Proofs.YtnfiedfaaaphoaaGreat.PFnExactPuzzleCode
open Go.RowKit Go.Proofs.YtnfiedfaaaphoaaGreatW.PrintWords Go.Proofs.YtnfiedfaaaphoaaGreatW.PrintLast Go.Proofs.YtnfiedfaaaphoaaGreatW.PrintMore Go.Proofs.YtnfiedfaaaphoaaGreat.Sq
attribute [local go_sem] iH iJ jD jC gV gU iK iG
set_option maxHeartbeats 8000000
set_option maxRecDepth 100000
set_option linter.unusedVariables false
set_option linter.unusedSimpArgs false
def bT.l0 (M : Nat → List (bZ) → Int → ByteArray → Option Bool) : Nat → List (bZ) → ByteArray → Int → Int → ByteArray → Int → Int → Option (Bool)
 | 0, _, _, _, _, _, _, _ => none
 | k + 1, a, b, c, d, e, f, g => if c < (b.size : Int) then (if 0 ≤ c then (if c ≤ (b.size : Int) then ((M k a f (b.extract 0 (c : Int).toNat)).bind fun h => (if h = true then ((M k a g (b.extract (c : Int).toNat b.size)).bind fun i => (if i = true then (some true) else (bT.l0 M k a b (wrap64 (c + 1)) d e f g))) else (bT.l0 M k a b (wrap64 (c + 1)) d e f g))) else (none)) else (none)) else (some false)
def bT.f (M : Nat → List (bZ) → Int → ByteArray → Option Bool) (k : Nat) (l0 : List (bZ)) (EY : Int) (EZ : ByteArray) (E5 a1_3 : Int) (a2 : ByteArray) : Option (Bool) := bT.l0 M k l0 a2 1 EY EZ E5 a1_3
def bT.T4 : Bool × List (List Nat × List Nat) := (true, [([], []), ([], []), ([1], [1]), ([], []), ([], []), ([3, 4], [3, 4]), ([0, 2, 5], [0, 2, 5]), ([6, 6], [6]), ([7], [7]), ([7], [7]), ([9, 7], [7, 9]), ([7], [7]), ([7], [7]), ([11, 12, 7], [7, 11, 12]), ([8, 10, 13, 7, 7], [7, 8, 10, 13]), ([7, 14], [7, 14])])
def bT.B4 : List Nat := [0, 0, 2, 0, 0, 24, 63, 127, 255, 255, 767, 255, 255, 6399, 16383, 32767]
theorem bT.ET : kD .any (opsOf Tryz.f194 4) = bT.T4 := by kernel_rfl
theorem bT.EM : iZ bT.T4.2 bT.B4 = true := by kernel_rfl
theorem bT.calls (M : Nat → List (bZ) → Int → ByteArray → Option Bool) (hM : ∀ (j : Nat) (A : Option Addr) (c : Nat) (l : List (bZ)) (i : Int) (s : ByteArray) (b : Bool) (W : World), Kd.C je W A l.length l → l.length ≤ c → M j l i s = some b → Calls Tryz.prog 159 #[.slice A l.length c, .int .i64 i, .string s] W fun e w' => e = .returned (.bool b) ∧ Below W.heap.size W w') (k : Nat) (A0 : Option Addr) (c0 : Nat) (l0 : List (bZ)) (EY : Int) (EZ : ByteArray) (E5 a1_3 : Int) (a2 : ByteArray) (r : Bool) (w : World) (hr0 : Kd.C je w A0 l0.length l0) (hc0 : l0.length ≤ c0) (h : bT.f M k l0 EY EZ E5 a1_3 a2 = some r) :
  Calls Tryz.prog 194 #[.slice A0 l0.length c0, .agg #[.int .i64 EY, .string EZ, .int .i64 E5, .int .i64 a1_3], .string a2] w fun e w' => e = .returned (.bool r) ∧ Below w.heap.size w w' := by
 have hu141 := Tryz.underlying141
 have HR0 := ah.mk hr0
 have HC0 := ah.mk hc0
 clear hr0 hc0
 have HB := ah.mk (Below.refl w.heap.size w)
 have HMM := ah.mk hM
 clear hM
 unfold bT.f at h
 have H := h
 clear h
 have H' := ah.mk H
 clear H
 go_enter Tryz.func194, Tryz.ntmps194
 go_wp2_with (first | ((with_reducible refine aN (N := 4) rfl ?_); refine bC (N := 4) (cs := #[.int .i64 EY, .string EZ, .int .i64 E5, .int .i64 a1_3]) (t := 141) ?_; intro gb323 hg w4 hbox hb; have BK323 := ah.mk hbox; have GW323 := SZ (w := w) hg; have GE323 := GW323; replace HB := BS (w := w) hb; clear hb hbox hg))
 go_loopg [7] k (fun kq v7 w' => ∃ (x7_1 : Int), v7 = .int .i64 x7_1 ∧ ah (bT.l0 M kq l0 a2 x7_1 EY EZ E5 a1_3 = some r) ∧ ah (kq ≤ k) ∧ ah (w'.heap[gb323]? = some (.cells #[.int .i64 EY, .string EZ, .int .i64 E5, .int .i64 a1_3] 141 (0, 0))) ∧ ah (Below w.heap.size w w'))
 case atStart => exact ⟨(1), EQ, H', ⟨Nat.le_refl _⟩, ⟨BK⟩, ⟨BL⟩⟩
 case round =>
  clear H'
  obtain ⟨x7_1, rfl, HA, HK1, BK323, HB⟩ := hrel
  cases gk with
  | zero => exact absurd HA.out (by simp [bT.l0])
  | succ k1 =>
   have H := HA.out
   clear HA
   simp only [bT.l0] at H
   replace H := ifD H; rcases H with ⟨c5b0, H⟩ | ⟨c5b0, H⟩
   ·replace H := ifP H; obtain ⟨c6, H⟩ := H
    have c6b0 := eq_true c6
    have c6b1 : decide (0 ≤ x7_1) = true := decide_eq_true c6
    clear c6
    replace H := ifP H; obtain ⟨c7, H⟩ := H
    have c7b0 := eq_true c7
    have c7b1 : decide (x7_1 ≤ (a2.size : Int)) = true := decide_eq_true c7
    clear c7
    replace H := be H; obtain ⟨t324, A8, H⟩ := H
    replace H := ah.mk H
    try go_wp2
    replace BK323 := ah.mk (aI BK323.out)
    replace HB := ah.mk (dL HB.out)
    refine ji (n := 16) (S := fun w' => w'.cell? ⟨gb323, 0, none⟩ = some (.int .i64 EY) ∧ w'.cell? ⟨gb323, 1, none⟩ = some (.string EZ) ∧ w'.cell? ⟨gb323, 2, none⟩ = some (.int .i64 E5) ∧ w'.cell? ⟨gb323, 3, none⟩ = some (.int .i64 a1_3)) (ds := []) #[F,F,F,F,F,F,F,F,F,F,F,F,F,F,F,F] (by kernel_rfl) rfl rfl ⟨(av BK323.out 0).trans rfl, (av BK323.out 1).trans rfl, (av BK323.out 2).trans rfl, (av BK323.out 3).trans rfl⟩ (fun hHeld => ?_); refine gT bT.ET bT.EM (fun HT_ HW_ => ?_)
    generalize wr.drew = w7000 at BK323 HB hHeld ⊢
    refine puS (i := 0) (N := some 14) #[T,F,F,F,F,F,F,F,F,F,F,F,F,F,F,F] (aJ HT_.out (by kernel_rfl)) ?_
    refine puS (i := 1) (N := some 15) #[T,T,F,F,F,F,F,F,F,F,F,F,F,F,F,F] (aJ HT_.out (by kernel_rfl)) ?_
    refine puS (i := 3) (N := some 17) #[T,T,F,T,F,F,F,F,F,F,F,F,F,F,F,F] (aJ HT_.out (by kernel_rfl)) ?_
    refine puS (i := 4) (N := some 18) #[T,T,F,T,T,F,F,F,F,F,F,F,F,F,F,F] (aJ HT_.out (by kernel_rfl)) ?_
    refine puS (i := 5) (N := some 19) #[T,T,F,T,T,T,F,F,F,F,F,F,F,F,F,F] (aJ HT_.out (by kernel_rfl)) ?_
    refine taS (i := 2) (N := some 16) #[T,T,T,T,T,T,F,F,F,F,F,F,F,F,F,F] (dJ HT_.out HW_.out (by kernel_rfl)) hHeld ?_
    refine kH (i := 6) (N := some 20) #[T,T,T,T,T,T,T,F,F,F,F,F,F,F,F,F] rfl rfl (iO HT_.out (by kernel_rfl)) (by decide) (fun K hK => ?_)
    refine iU Tryz.func159 #[.slice A0 l0.length c0, .int .i64 E5, .string (a2.extract 0 (x7_1 : Int).toNat)] ?_
    replace H := H.out
    replace H := ifB H; rcases H with ⟨rfl, H⟩ | ⟨rfl, H⟩
    ·have c10b0 := eq_true (OD : 0 ≤ x7_1)
     have c11b0 := eq_true (OD : x7_1 ≤ (a2.size : Int))
     replace H := be H; obtain ⟨t325, A12, H⟩ := H
     replace H := ah.mk H
     with_reducible refine (HMM.out k1 _ _ l0 E5 (a2.extract 0 (x7_1 : Int).toNat) true _ ?side1 ?side2 A8.out).mono ?_
     (case side1 => exact CB HR0)
     (case side2 => exact HC0.out)
     rintro e w7001 ⟨rfl, hb⟩
     refine ⟨_, rfl, ?_⟩
     replace BK323 := KB BK323 hb
     replace HB := BS (w := w) hb
     (try clear hb)
     refine hK.out _ _ ⟨(av BK323.out 0).trans rfl, (av BK323.out 1).trans rfl, (av BK323.out 2).trans rfl, (av BK323.out 3).trans rfl⟩ (fun hHeld => ?_)
     clear hK K
     refine nrm (some 20) ?_
     refine puS (i := 7) (N := some 21) #[T,T,T,T,T,T,T,T,F,F,F,F,F,F,F,F] (aJ HT_.out (by kernel_rfl)) ?_
     refine puS (i := 8) (N := some 22) #[T,T,T,T,T,T,T,T,T,F,F,F,F,F,F,F] (aJ HT_.out (by kernel_rfl)) ?_
     refine puS (i := 9) (N := some 23) #[T,T,T,T,T,T,T,T,T,T,F,F,F,F,F,F] (aJ HT_.out (by kernel_rfl)) ?_
     refine puS (i := 11) (N := some 25) #[T,T,T,T,T,T,T,T,T,T,F,T,F,F,F,F] (aJ HT_.out (by kernel_rfl)) ?_
     refine puS (i := 12) (N := some 26) #[T,T,T,T,T,T,T,T,T,T,F,T,T,F,F,F] (aJ HT_.out (by kernel_rfl)) ?_
     refine puS (i := 13) (N := some 27) #[T,T,T,T,T,T,T,T,T,T,F,T,T,T,F,F] (aJ HT_.out (by kernel_rfl)) ?_
     refine taS (i := 10) (N := some 24) #[T,T,T,T,T,T,T,T,T,T,T,T,T,T,F,F] (dJ HT_.out HW_.out (by kernel_rfl)) hHeld ?_
     refine kH (i := 14) (N := some 28) #[T,T,T,T,T,T,T,T,T,T,T,T,T,T,T,F] rfl rfl (iO HT_.out (by kernel_rfl)) (by decide) (fun K hK => ?_)
     refine iU Tryz.func159 #[.slice A0 l0.length c0, .int .i64 a1_3, .string (a2.extract (x7_1 : Int).toNat a2.size)] ?_
     replace H := H.out
     replace H := ifB H; rcases H with ⟨rfl, H⟩ | ⟨rfl, H⟩
     ·obtain rfl := Option.some.inj H
      with_reducible refine (HMM.out k1 _ _ l0 a1_3 (a2.extract (x7_1 : Int).toNat a2.size) true _ ?side1 ?side2 A12.out).mono ?_
      (case side1 => exact CB HR0)
      (case side2 => exact HC0.out)
      rintro e w7002 ⟨rfl, hb⟩
      refine ⟨_, rfl, ?_⟩
      replace BK323 := KB BK323 hb
      replace HB := BS (w := w) hb
      (try clear hb)
      refine hK.out _ _ ⟨(av BK323.out 0).trans rfl, (av BK323.out 1).trans rfl, (av BK323.out 2).trans rfl, (av BK323.out 3).trans rfl⟩ (fun hHeld => ?_)
      clear hK K
      refine nrm (some 28) ?_
      refine puS (i := 15) (N := some 29) #[T,T,T,T,T,T,T,T,T,T,T,T,T,T,T,T] (aJ HT_.out (by kernel_rfl)) ?_
      refine gX (fH HT_.out (by kernel_rfl)) ?_
      try go_wp2
      go_ret
      exact ⟨EWW, BL⟩
     ·have H' := ah.mk H
      clear H
      with_reducible refine (HMM.out k1 _ _ l0 a1_3 (a2.extract (x7_1 : Int).toNat a2.size) false _ ?side1 ?side2 A12.out).mono ?_
      (case side1 => exact CB HR0)
      (case side2 => exact HC0.out)
      rintro e w7002 ⟨rfl, hb⟩
      refine ⟨_, rfl, ?_⟩
      replace BK323 := KB BK323 hb
      replace HB := BS (w := w) hb
      (try clear hb)
      refine hK.out _ _ ⟨(av BK323.out 0).trans rfl, (av BK323.out 1).trans rfl, (av BK323.out 2).trans rfl, (av BK323.out 3).trans rfl⟩ (fun hHeld => ?_)
      clear hK K
      refine nrm (some 28) ?_
      refine puS (i := 15) (N := some 29) #[T,T,T,T,T,T,T,T,T,T,T,T,T,T,T,T] (aJ HT_.out (by kernel_rfl)) ?_
      refine gX (fH HT_.out (by kernel_rfl)) ?_
      try go_wp2
      go_roundg k1
      case measure => have := HK1.out; omega
      case rel => exact ⟨(wrap64 (x7_1 + 1)), EQ, H', ⟨by have := HK1.out; omega⟩, ⟨BK⟩, ⟨BL⟩⟩
    ·have H' := ah.mk H
     clear H
     with_reducible refine (HMM.out k1 _ _ l0 E5 (a2.extract 0 (x7_1 : Int).toNat) false _ ?side1 ?side2 A8.out).mono ?_
     (case side1 => exact CB HR0)
     (case side2 => exact HC0.out)
     rintro e w7001 ⟨rfl, hb⟩
     refine ⟨_, rfl, ?_⟩
     replace BK323 := KB BK323 hb
     replace HB := BS (w := w) hb
     (try clear hb)
     refine hK.out _ _ ⟨(av BK323.out 0).trans rfl, (av BK323.out 1).trans rfl, (av BK323.out 2).trans rfl, (av BK323.out 3).trans rfl⟩ (fun hHeld => ?_)
     clear hK K
     refine nrm (some 20) ?_
     refine puS (i := 7) (N := some 21) #[T,T,T,T,T,T,T,T,F,F,F,F,F,F,F,F] (aJ HT_.out (by kernel_rfl)) ?_
     refine puU (i := 8) (N := some 22) #[T,T,T,T,T,T,T,T,T,F,F,F,F,F,F,F] (aJ HT_.out (by kernel_rfl)) ?_
     refine puU (i := 9) (N := some 23) #[T,T,T,T,T,T,T,T,T,T,F,F,F,F,F,F] (aJ HT_.out (by kernel_rfl)) ?_
     refine puU (i := 10) (N := some 24) #[T,T,T,T,T,T,T,T,T,T,T,F,F,F,F,F] (aJ HT_.out (by kernel_rfl)) ?_
     refine puU (i := 11) (N := some 25) #[T,T,T,T,T,T,T,T,T,T,T,T,F,F,F,F] (aJ HT_.out (by kernel_rfl)) ?_
     refine puU (i := 12) (N := some 26) #[T,T,T,T,T,T,T,T,T,T,T,T,T,F,F,F] (aJ HT_.out (by kernel_rfl)) ?_
     refine puU (i := 13) (N := some 27) #[T,T,T,T,T,T,T,T,T,T,T,T,T,T,F,F] (aJ HT_.out (by kernel_rfl)) ?_
     refine puU (i := 14) (N := some 28) #[T,T,T,T,T,T,T,T,T,T,T,T,T,T,T,F] (aJ HT_.out (by kernel_rfl)) ?_
     refine puS (i := 15) (N := some 29) #[T,T,T,T,T,T,T,T,T,T,T,T,T,T,T,T] (aJ HT_.out (by kernel_rfl)) ?_
     refine gX (fH HT_.out (by kernel_rfl)) ?_
     try go_wp2
     go_roundg k1
     case measure => have := HK1.out; omega
     case rel => exact ⟨(wrap64 (x7_1 + 1)), EQ, H', ⟨by have := HK1.out; omega⟩, ⟨BK⟩, ⟨BL⟩⟩
   ·obtain rfl := Option.some.inj H
    go_wp2
    go_ret
    exact ⟨EWW, BL⟩
mutual
def bJ.l0 (M : Nat → List (bZ) → Int → ByteArray → Option Bool) : Nat → List (bZ) → ByteArray → Int → Int → ByteArray → Int → Int → Option (Bool)
 | 0, _, _, _, _, _, _, _ => none
 | k + 1, a, b, c, d, e, f, g => if c < (b.size : Int) then (bJ.l1 M k a b c (wrap64 (c + 1)) d e f g) else (some false)
def bJ.l1 (M : Nat → List (bZ) → Int → ByteArray → Option Bool) : Nat → List (bZ) → ByteArray → Int → Int → Int → ByteArray → Int → Int → Option (Bool)
 | 0, _, _, _, _, _, _, _, _ => none
 | k + 1, a, b, c, d, e, f, g, h => if d < (b.size : Int) then (if 0 ≤ c then (if c ≤ d then (if d ≤ (b.size : Int) then ((M k a h (b.extract (c : Int).toNat (d : Int).toNat)).bind fun i => (if i = true then (if c ≤ (b.size : Int) then (if 0 ≤ d then (if (b.extract 0 (c : Int).toNat).size + (b.extract (d : Int).toNat b.size).size ≤ 9223372036854775807 then ((M k a g ((b.extract 0 (c : Int).toNat) ++ (b.extract (d : Int).toNat b.size))).bind fun j => (if j = true then (some true) else (bJ.l1 M k a b c (wrap64 (d + 1)) e f g h))) else (none)) else (none)) else (none)) else (bJ.l1 M k a b c (wrap64 (d + 1)) e f g h))) else (none)) else (none)) else (none)) else (bJ.l0 M k a b (wrap64 (c + 1)) e f g h)
end
def bJ.f (M : Nat → List (bZ) → Int → ByteArray → Option Bool) (k : Nat) (l0 : List (bZ)) (EY : Int) (EZ : ByteArray) (E5 a1_3 : Int) (a2 : ByteArray) : Option (Bool) := bJ.l0 M k l0 a2 1 EY EZ E5 a1_3
def bJ.T7 : Bool × List (List Nat × List Nat) := (true, [([], []), ([], []), ([1], [1]), ([], []), ([], []), ([], []), ([3, 4, 5], [3, 4, 5]), ([0, 2, 6], [0, 2, 6]), ([7, 7], [7]), ([8], [8]), ([8], [8]), ([10, 8], [8, 10]), ([8], [8]), ([8], [8]), ([12, 13, 8], [8, 12, 13]), ([8], [8]), ([8], [8]), ([15, 16, 8], [8, 15, 16]), ([14, 17, 8], [8, 14, 17]), ([9, 11, 18, 8, 8], [8, 9, 11, 18]), ([8, 19], [8, 19])])
def bJ.B7 : List Nat := [0, 0, 2, 0, 0, 0, 56, 127, 255, 511, 511, 1535, 511, 511, 12799, 511, 511, 98815, 258559, 524287, 1048575]
theorem bJ.EP : kD .any (opsOf Tryz.f195 7) = bJ.T7 := by kernel_rfl
theorem bJ.Et : iZ bJ.T7.2 bJ.B7 = true := by kernel_rfl
theorem bJ.calls (M : Nat → List (bZ) → Int → ByteArray → Option Bool) (hM : ∀ (j : Nat) (A : Option Addr) (c : Nat) (l : List (bZ)) (i : Int) (s : ByteArray) (b : Bool) (W : World), Kd.C je W A l.length l → l.length ≤ c → M j l i s = some b → Calls Tryz.prog 159 #[.slice A l.length c, .int .i64 i, .string s] W fun e w' => e = .returned (.bool b) ∧ Below W.heap.size W w') (k : Nat) (A0 : Option Addr) (c0 : Nat) (l0 : List (bZ)) (EY : Int) (EZ : ByteArray) (E5 a1_3 : Int) (a2 : ByteArray) (r : Bool) (w : World) (hr0 : Kd.C je w A0 l0.length l0) (hc0 : l0.length ≤ c0) (h : bJ.f M k l0 EY EZ E5 a1_3 a2 = some r) :
  Calls Tryz.prog 195 #[.slice A0 l0.length c0, .agg #[.int .i64 EY, .string EZ, .int .i64 E5, .int .i64 a1_3], .string a2] w fun e w' => e = .returned (.bool r) ∧ Below w.heap.size w w' := by
 have hu141 := Tryz.underlying141
 have HR0 := ah.mk hr0
 have HC0 := ah.mk hc0
 clear hr0 hc0
 have HB := ah.mk (Below.refl w.heap.size w)
 have HMM := ah.mk hM
 clear hM
 unfold bJ.f at h
 have H := h
 clear h
 have H' := ah.mk H
 clear H
 go_enter Tryz.func195, Tryz.ntmps195
 go_wp2_with (first | ((with_reducible refine aN (N := 4) rfl ?_); refine bC (N := 4) (cs := #[.int .i64 EY, .string EZ, .int .i64 E5, .int .i64 a1_3]) (t := 141) ?_; intro gb326 hg w4 hbox hb; have BK326 := ah.mk hbox; have GW326 := SZ (w := w) hg; have GE326 := GW326; replace HB := BS (w := w) hb; clear hb hbox hg))
 go_loopg [7] k (fun kq v7 w' => ∃ (x7_1 : Int), v7 = .int .i64 x7_1 ∧ ah (bJ.l0 M kq l0 a2 x7_1 EY EZ E5 a1_3 = some r) ∧ ah (kq ≤ k) ∧ ah (w'.heap[gb326]? = some (.cells #[.int .i64 EY, .string EZ, .int .i64 E5, .int .i64 a1_3] 141 (0, 0))) ∧ ah (Below w.heap.size w w'))
 case atStart => exact ⟨(1), EQ, H', ⟨Nat.le_refl _⟩, ⟨BK⟩, ⟨BL⟩⟩
 case round =>
  clear H'
  obtain ⟨x7_1, rfl, HA, HK1, BK326, HB⟩ := hrel
  cases gk with
  | zero => exact absurd HA.out (by simp [bJ.l0])
  | succ k1 =>
   have H := HA.out
   clear HA
   simp only [bJ.l0] at H
   replace H := ifD H; rcases H with ⟨c5b0, H⟩ | ⟨c5b0, H⟩
   ·have H' := ah.mk H
    clear H
    go_wp2
    go_loopg [8] k1 (fun kq v8 w' => ∃ (x8_2 : Int), v8 = .int .i64 x8_2 ∧ ah (bJ.l1 M kq l0 a2 x7_1 x8_2 EY EZ E5 a1_3 = some r) ∧ ah (kq ≤ k1) ∧ ah (w'.heap[gb326]? = some (.cells #[.int .i64 EY, .string EZ, .int .i64 E5, .int .i64 a1_3] 141 (0, 0))) ∧ ah (Below w.heap.size w w'))
    case atStart => exact ⟨(wrap64 (x7_1 + 1)), EQ, H', ⟨Nat.le_refl _⟩, ⟨BK⟩, ⟨BL⟩⟩
    case round =>
     clear H'
     try clear c5
     try clear c5b0
     obtain ⟨x8_2, rfl, HA, HK2, BK326, HB⟩ := hrel
     cases gk with
     | zero => exact absurd HA.out (by simp [bJ.l1])
     | succ k2 =>
      have H := HA.out
      clear HA
      simp only [bJ.l1] at H
      replace H := ifD H; rcases H with ⟨c6b0, H⟩ | ⟨c6b0, H⟩
      ·replace H := ifP H; obtain ⟨c7, H⟩ := H
       have c7b0 := eq_true c7
       have c7b1 : decide (0 ≤ x7_1) = true := decide_eq_true c7
       clear c7
       replace H := ifP H; obtain ⟨c8, H⟩ := H
       have c8b0 := eq_true c8
       have c8b1 : decide (x7_1 ≤ x8_2) = true := decide_eq_true c8
       clear c8
       replace H := ifP H; obtain ⟨c9, H⟩ := H
       have c9b0 := eq_true c9
       have c9b1 : decide (x8_2 ≤ (a2.size : Int)) = true := decide_eq_true c9
       clear c9
       replace H := be H; obtain ⟨t327, A10, H⟩ := H
       replace H := ah.mk H
       try go_wp2
       replace BK326 := ah.mk (aI BK326.out)
       replace HB := ah.mk (dL HB.out)
       refine ji (n := 21) (S := fun w' => w'.cell? ⟨gb326, 0, none⟩ = some (.int .i64 EY) ∧ w'.cell? ⟨gb326, 1, none⟩ = some (.string EZ) ∧ w'.cell? ⟨gb326, 2, none⟩ = some (.int .i64 E5) ∧ w'.cell? ⟨gb326, 3, none⟩ = some (.int .i64 a1_3)) (ds := []) #[F,F,F,F,F,F,F,F,F,F,F,F,F,F,F,F,F,F,F,F,F] (by kernel_rfl) rfl rfl ⟨(av BK326.out 0).trans rfl, (av BK326.out 1).trans rfl, (av BK326.out 2).trans rfl, (av BK326.out 3).trans rfl⟩ (fun hHeld => ?_); refine gT bJ.EP bJ.Et (fun HT_ HW_ => ?_)
       generalize wr.drew = w7000 at BK326 HB hHeld ⊢
       refine puS (i := 0) (N := some 23) #[T,F,F,F,F,F,F,F,F,F,F,F,F,F,F,F,F,F,F,F,F] (aJ HT_.out (by kernel_rfl)) ?_
       refine puS (i := 1) (N := some 24) #[T,T,F,F,F,F,F,F,F,F,F,F,F,F,F,F,F,F,F,F,F] (aJ HT_.out (by kernel_rfl)) ?_
       refine puS (i := 3) (N := some 26) #[T,T,F,T,F,F,F,F,F,F,F,F,F,F,F,F,F,F,F,F,F] (aJ HT_.out (by kernel_rfl)) ?_
       refine puS (i := 4) (N := some 27) #[T,T,F,T,T,F,F,F,F,F,F,F,F,F,F,F,F,F,F,F,F] (aJ HT_.out (by kernel_rfl)) ?_
       refine puS (i := 5) (N := some 28) #[T,T,F,T,T,T,F,F,F,F,F,F,F,F,F,F,F,F,F,F,F] (aJ HT_.out (by kernel_rfl)) ?_
       refine puS (i := 6) (N := some 29) #[T,T,F,T,T,T,T,F,F,F,F,F,F,F,F,F,F,F,F,F,F] (aJ HT_.out (by kernel_rfl)) ?_
       refine taS (i := 2) (N := some 25) #[T,T,T,T,T,T,T,F,F,F,F,F,F,F,F,F,F,F,F,F,F] (dJ HT_.out HW_.out (by kernel_rfl)) hHeld ?_
       refine kH (i := 7) (N := some 30) #[T,T,T,T,T,T,T,T,F,F,F,F,F,F,F,F,F,F,F,F,F] rfl rfl (iO HT_.out (by kernel_rfl)) (by decide) (fun K hK => ?_)
       refine iU Tryz.func159 #[.slice A0 l0.length c0, .int .i64 a1_3, .string (a2.extract (x7_1 : Int).toNat (x8_2 : Int).toNat)] ?_
       replace H := H.out
       replace H := ifB H; rcases H with ⟨rfl, H⟩ | ⟨rfl, H⟩
       ·have c12b0 := eq_true (OD : 0 ≤ x7_1)
        replace H := ifP H; obtain ⟨c13, H⟩ := H
        have c13b0 := eq_true c13
        have c13b1 : decide (x7_1 ≤ (a2.size : Int)) = true := decide_eq_true c13
        clear c13
        replace H := ifP H; obtain ⟨c14, H⟩ := H
        have c14b0 := eq_true c14
        have c14b1 : decide (0 ≤ x8_2) = true := decide_eq_true c14
        clear c14
        have c15b0 := eq_true (OD : x8_2 ≤ (a2.size : Int))
        by_cases c16 : (a2.extract 0 (x7_1 : Int).toNat).size + (a2.extract (x8_2 : Int).toNat a2.size).size ≤ 9223372036854775807
        ·rw [if_pos c16] at H
         have c16b0 := eq_true c16
         have c16b1 : decide ((a2.extract 0 (x7_1 : Int).toNat).size + (a2.extract (x8_2 : Int).toNat a2.size).size ≤ 9223372036854775807) = true := decide_eq_true c16
         try have c16b2 : (9223372036854775807 < (a2.extract 0 (x7_1 : Int).toNat).size + (a2.extract (x8_2 : Int).toNat a2.size).size) = False := eq_false (Nat.not_lt.2 c16)
         have c16b3d : (9223372036854775807 < x7_1.toNat + (a2.size - x8_2.toNat)) = False := by
          have hx_ : x7_1 ≤ (a2.size : Int) := OD
          have h_ := of_decide_eq_true c16b1
          simp only [ByteArray.size_extract] at h_
          exact eq_false (by omega)
         replace H := be H; obtain ⟨t328, A17, H⟩ := H
         replace H := ah.mk H
         with_reducible refine (HMM.out k2 _ _ l0 a1_3 (a2.extract (x7_1 : Int).toNat (x8_2 : Int).toNat) true _ ?side1 ?side2 A10.out).mono ?_
         (case side1 => exact CB HR0)
         (case side2 => exact HC0.out)
         rintro e w7001 ⟨rfl, hb⟩
         refine ⟨_, rfl, ?_⟩
         replace BK326 := KB BK326 hb
         replace HB := BS (w := w) hb
         (try clear hb)
         refine hK.out _ _ ⟨(av BK326.out 0).trans rfl, (av BK326.out 1).trans rfl, (av BK326.out 2).trans rfl, (av BK326.out 3).trans rfl⟩ (fun hHeld => ?_)
         clear hK K
         refine nrm (some 30) ?_
         refine puS (i := 8) (N := some 31) #[T,T,T,T,T,T,T,T,T,F,F,F,F,F,F,F,F,F,F,F,F] (aJ HT_.out (by kernel_rfl)) ?_
         refine puS (i := 9) (N := some 32) #[T,T,T,T,T,T,T,T,T,T,F,F,F,F,F,F,F,F,F,F,F] (aJ HT_.out (by kernel_rfl)) ?_
         refine puS (i := 10) (N := some 33) #[T,T,T,T,T,T,T,T,T,T,T,F,F,F,F,F,F,F,F,F,F] (aJ HT_.out (by kernel_rfl)) ?_
         refine puS (i := 12) (N := some 35) #[T,T,T,T,T,T,T,T,T,T,T,F,T,F,F,F,F,F,F,F,F] (aJ HT_.out (by kernel_rfl)) ?_
         refine puS (i := 13) (N := some 36) #[T,T,T,T,T,T,T,T,T,T,T,F,T,T,F,F,F,F,F,F,F] (aJ HT_.out (by kernel_rfl)) ?_
         refine puS (i := 14) (N := some 37) #[T,T,T,T,T,T,T,T,T,T,T,F,T,T,T,F,F,F,F,F,F] (aJ HT_.out (by kernel_rfl)) ?_
         refine puS (i := 15) (N := some 38) #[T,T,T,T,T,T,T,T,T,T,T,F,T,T,T,T,F,F,F,F,F] (aJ HT_.out (by kernel_rfl)) ?_
         refine puS (i := 16) (N := some 39) #[T,T,T,T,T,T,T,T,T,T,T,F,T,T,T,T,T,F,F,F,F] (aJ HT_.out (by kernel_rfl)) ?_
         refine puS (i := 17) (N := some 40) #[T,T,T,T,T,T,T,T,T,T,T,F,T,T,T,T,T,T,F,F,F] (aJ HT_.out (by kernel_rfl)) ?_
         refine puS (i := 18) (N := some 41) #[T,T,T,T,T,T,T,T,T,T,T,F,T,T,T,T,T,T,T,F,F] (aJ HT_.out (by kernel_rfl)) ?_
         refine taS (i := 11) (N := some 34) #[T,T,T,T,T,T,T,T,T,T,T,T,T,T,T,T,T,T,T,F,F] (dJ HT_.out HW_.out (by kernel_rfl)) hHeld ?_
         refine kH (i := 19) (N := some 42) #[T,T,T,T,T,T,T,T,T,T,T,T,T,T,T,T,T,T,T,T,F] rfl rfl (iO HT_.out (by kernel_rfl)) (by decide) (fun K hK => ?_)
         refine iU Tryz.func159 #[.slice A0 l0.length c0, .int .i64 E5, .string ((a2.extract 0 (x7_1 : Int).toNat) ++ (a2.extract (x8_2 : Int).toNat a2.size))] ?_
         replace H := H.out
         replace H := ifB H; rcases H with ⟨rfl, H⟩ | ⟨rfl, H⟩
         ·obtain rfl := Option.some.inj H
          with_reducible refine (HMM.out k2 _ _ l0 E5 ((a2.extract 0 (x7_1 : Int).toNat) ++ (a2.extract (x8_2 : Int).toNat a2.size)) true _ ?side1 ?side2 A17.out).mono ?_
          (case side1 => exact CB HR0)
          (case side2 => exact HC0.out)
          rintro e w7002 ⟨rfl, hb⟩
          refine ⟨_, rfl, ?_⟩
          replace BK326 := KB BK326 hb
          replace HB := BS (w := w) hb
          (try clear hb)
          refine hK.out _ _ ⟨(av BK326.out 0).trans rfl, (av BK326.out 1).trans rfl, (av BK326.out 2).trans rfl, (av BK326.out 3).trans rfl⟩ (fun hHeld => ?_)
          clear hK K
          refine nrm (some 42) ?_
          refine puS (i := 20) (N := some 43) #[T,T,T,T,T,T,T,T,T,T,T,T,T,T,T,T,T,T,T,T,T] (aJ HT_.out (by kernel_rfl)) ?_
          refine gX (fH HT_.out (by kernel_rfl)) ?_
          try go_wp2
          go_ret
          exact ⟨EWW, BL⟩
         ·have H' := ah.mk H
          clear H
          with_reducible refine (HMM.out k2 _ _ l0 E5 ((a2.extract 0 (x7_1 : Int).toNat) ++ (a2.extract (x8_2 : Int).toNat a2.size)) false _ ?side1 ?side2 A17.out).mono ?_
          (case side1 => exact CB HR0)
          (case side2 => exact HC0.out)
          rintro e w7002 ⟨rfl, hb⟩
          refine ⟨_, rfl, ?_⟩
          replace BK326 := KB BK326 hb
          replace HB := BS (w := w) hb
          (try clear hb)
          refine hK.out _ _ ⟨(av BK326.out 0).trans rfl, (av BK326.out 1).trans rfl, (av BK326.out 2).trans rfl, (av BK326.out 3).trans rfl⟩ (fun hHeld => ?_)
          clear hK K
          refine nrm (some 42) ?_
          refine puS (i := 20) (N := some 43) #[T,T,T,T,T,T,T,T,T,T,T,T,T,T,T,T,T,T,T,T,T] (aJ HT_.out (by kernel_rfl)) ?_
          refine gX (fH HT_.out (by kernel_rfl)) ?_
          try go_wp2
          go_roundg k2
          case measure => have := HK1.out; have := HK2.out; omega
          case rel => exact ⟨(wrap64 (x8_2 + 1)), EQ, H', ⟨by have := HK1.out; have := HK2.out; omega⟩, ⟨BK⟩, ⟨BL⟩⟩
        ·rw [if_neg c16] at H
         exact absurd H (by simp)
       ·have H' := ah.mk H
        clear H
        with_reducible refine (HMM.out k2 _ _ l0 a1_3 (a2.extract (x7_1 : Int).toNat (x8_2 : Int).toNat) false _ ?side1 ?side2 A10.out).mono ?_
        (case side1 => exact CB HR0)
        (case side2 => exact HC0.out)
        rintro e w7001 ⟨rfl, hb⟩
        refine ⟨_, rfl, ?_⟩
        replace BK326 := KB BK326 hb
        replace HB := BS (w := w) hb
        (try clear hb)
        refine hK.out _ _ ⟨(av BK326.out 0).trans rfl, (av BK326.out 1).trans rfl, (av BK326.out 2).trans rfl, (av BK326.out 3).trans rfl⟩ (fun hHeld => ?_)
        clear hK K
        refine nrm (some 30) ?_
        refine puS (i := 8) (N := some 31) #[T,T,T,T,T,T,T,T,T,F,F,F,F,F,F,F,F,F,F,F,F] (aJ HT_.out (by kernel_rfl)) ?_
        refine puU (i := 9) (N := some 32) #[T,T,T,T,T,T,T,T,T,T,F,F,F,F,F,F,F,F,F,F,F] (aJ HT_.out (by kernel_rfl)) ?_
        refine puU (i := 10) (N := some 33) #[T,T,T,T,T,T,T,T,T,T,T,F,F,F,F,F,F,F,F,F,F] (aJ HT_.out (by kernel_rfl)) ?_
        refine puU (i := 11) (N := some 34) #[T,T,T,T,T,T,T,T,T,T,T,T,F,F,F,F,F,F,F,F,F] (aJ HT_.out (by kernel_rfl)) ?_
        refine puU (i := 12) (N := some 35) #[T,T,T,T,T,T,T,T,T,T,T,T,T,F,F,F,F,F,F,F,F] (aJ HT_.out (by kernel_rfl)) ?_
        refine puU (i := 13) (N := some 36) #[T,T,T,T,T,T,T,T,T,T,T,T,T,T,F,F,F,F,F,F,F] (aJ HT_.out (by kernel_rfl)) ?_
        refine puU (i := 14) (N := some 37) #[T,T,T,T,T,T,T,T,T,T,T,T,T,T,T,F,F,F,F,F,F] (aJ HT_.out (by kernel_rfl)) ?_
        refine puU (i := 15) (N := some 38) #[T,T,T,T,T,T,T,T,T,T,T,T,T,T,T,T,F,F,F,F,F] (aJ HT_.out (by kernel_rfl)) ?_
        refine puU (i := 16) (N := some 39) #[T,T,T,T,T,T,T,T,T,T,T,T,T,T,T,T,T,F,F,F,F] (aJ HT_.out (by kernel_rfl)) ?_
        refine puU (i := 17) (N := some 40) #[T,T,T,T,T,T,T,T,T,T,T,T,T,T,T,T,T,T,F,F,F] (aJ HT_.out (by kernel_rfl)) ?_
        refine puU (i := 18) (N := some 41) #[T,T,T,T,T,T,T,T,T,T,T,T,T,T,T,T,T,T,T,F,F] (aJ HT_.out (by kernel_rfl)) ?_
        refine puU (i := 19) (N := some 42) #[T,T,T,T,T,T,T,T,T,T,T,T,T,T,T,T,T,T,T,T,F] (aJ HT_.out (by kernel_rfl)) ?_
        refine puS (i := 20) (N := some 43) #[T,T,T,T,T,T,T,T,T,T,T,T,T,T,T,T,T,T,T,T,T] (aJ HT_.out (by kernel_rfl)) ?_
        refine gX (fH HT_.out (by kernel_rfl)) ?_
        try go_wp2
        go_roundg k2
        case measure => have := HK1.out; have := HK2.out; omega
        case rel => exact ⟨(wrap64 (x8_2 + 1)), EQ, H', ⟨by have := HK1.out; have := HK2.out; omega⟩, ⟨BK⟩, ⟨BL⟩⟩
      ·have H' := ah.mk H
       clear H
       go_wp2
       go_roundg k2
       case measure => have := HK1.out; have := HK2.out; omega
       case rel => exact ⟨(wrap64 (x7_1 + 1)), EQ, H', ⟨by have := HK1.out; have := HK2.out; omega⟩, ⟨BK⟩, ⟨BL⟩⟩
   ·obtain rfl := Option.some.inj H
    go_wp2
    go_ret
    exact ⟨EWW, BL⟩
def jT.f (k : Nat) (a0 : ByteArray) : Option (ByteArray) := (bH.f k a0).bind fun t329 => (if t329 = true then (if 0 ≤ 1 then (if 1 ≤ (a0.size : Int) then (some (a0.extract 0 1)) else (none)) else (none)) else (some (⟨#[]⟩ : ByteArray)))
theorem jT.calls (k : Nat) (a0 r : ByteArray) (w : World) (h : jT.f k a0 = some r) :
  Calls Tryz.prog 196 #[.string a0] w fun e w' => e = .returned (.string r) ∧ aC w w' := by
 unfold jT.f at h
 have H := h
 clear h
 replace H := be H; obtain ⟨t329, A2, H⟩ := H
 replace H := ah.mk H
 go_enter Tryz.func196, Tryz.ntmps196
 go_wp2_with (first | ((with_reducible refine ay (f := 140) rfl ?_); refine bq (some 4) Tryz.func140 #[.string a0] ?_; (with_reducible refine (bH.calls k a0 _ _ A2.out).mono ?_); rintro e w' ⟨rfl, ⟨nd, rfl⟩⟩; refine ⟨_, rfl, ?_⟩; refine bP ?_))
 refine Hide.mk ?_
 replace H := H.out
 replace H := ifB H; rcases H with ⟨rfl, H⟩ | ⟨rfl, H⟩
 ·replace H := ifP H; obtain ⟨c4, H⟩ := H
  have c4b0 := eq_true c4
  have c4b1 : decide (0 ≤ 1) = true := decide_eq_true c4
  clear c4
  replace H := ifP H; obtain ⟨c5, H⟩ := H
  have c5b0 := eq_true c5
  have c5b1 : decide (1 ≤ (a0.size : Int)) = true := decide_eq_true c5
  clear c5
  obtain rfl := Option.some.inj H
  try go_wp2
  go_ret
  exact ⟨by first | rfl | (simp; done) | (simp [*]; done), by repeat (first | exact aC.refl _ | apply aC.step)⟩
 ·obtain rfl := Option.some.inj H
  try go_wp2
  go_ret
  exact ⟨by first | rfl | (simp; done) | (simp [*]; done), by repeat (first | exact aC.refl _ | apply aC.step)⟩
def iy.f (k : Nat) (a0 : ByteArray) : Option (ByteArray) := (bH.f k a0).bind fun t330 => (if t330 = true then (if 1 ≤ (a0.size : Int) then (some (a0.extract 1 a0.size)) else (none)) else (some (⟨#[]⟩ : ByteArray)))
theorem iy.calls (k : Nat) (a0 r : ByteArray) (w : World) (h : iy.f k a0 = some r) :
  Calls Tryz.prog 197 #[.string a0] w fun e w' => e = .returned (.string r) ∧ aC w w' := by
 unfold iy.f at h
 have H := h
 clear h
 replace H := be H; obtain ⟨t330, A2, H⟩ := H
 replace H := ah.mk H
 go_enter Tryz.func197, Tryz.ntmps197
 go_wp2_with (first | ((with_reducible refine ay (f := 140) rfl ?_); refine bq (some 4) Tryz.func140 #[.string a0] ?_; (with_reducible refine (bH.calls k a0 _ _ A2.out).mono ?_); rintro e w' ⟨rfl, ⟨nd, rfl⟩⟩; refine ⟨_, rfl, ?_⟩; refine bP ?_))
 refine Hide.mk ?_
 replace H := H.out
 replace H := ifB H; rcases H with ⟨rfl, H⟩ | ⟨rfl, H⟩
 ·replace H := ifP H; obtain ⟨c4, H⟩ := H
  have c4b0 := eq_true c4
  have c4b1 : decide (1 ≤ (a0.size : Int)) = true := decide_eq_true c4
  clear c4
  obtain rfl := Option.some.inj H
  try go_wp2
  go_ret
  exact ⟨by first | rfl | (simp; done) | (simp [*]; done), by repeat (first | exact aC.refl _ | apply aC.step)⟩
 ·obtain rfl := Option.some.inj H
  try go_wp2
  go_ret
  exact ⟨by first | rfl | (simp; done) | (simp [*]; done), by repeat (first | exact aC.refl _ | apply aC.step)⟩
end Go.Proofs.YtnfiedfaaaphoaaGreat.PFnExactPuzzleCode
