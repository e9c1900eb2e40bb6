/- Walks of functions: what each computes. -/
import Derived.Test.YtnfiedfaaaphoaaGreatZPuzzleCodeG0
import Derived.Test.YtnfiedfaaaphoaaGreatZPuzzleCodeG1
import Derived.Test.YtnfiedfaaaphoaaGreatZPuzzleCodeG3
import Derived.Test.YtnfiedfaaaphoaaGreatZPuzzleCodeG4
import Derived.Test.YtnfiedfaaaphoaaGreatZPuzzleCodeG8
import Derived.Test.YtnfiedfaaaphoaaGreatZPuzzleCodeW
import Derived.Test.YtnfiedfaaaphoaaGreatZPuzzleCodeShelf
import Derived.Test.YtnfiedfaaaphoaaGreatZPuzzleCodeHandSort
import Derived.Test.YtnfiedfaaaphoaaGreatZPuzzleCodeHandForm
import Derived.Test.YtnfiedfaaaphoaaGreatZPuzzleCodeHandAlone
import Derived.Test.YtnfiedfaaaphoaaGreatZPuzzleCodeHandReach
import Derived.Test.YtnfiedfaaaphoaaGreatZPuzzleCodeHandPut
namespace Go.Proofs.YtnfiedfaaaphoaaGreat.PFnExactPuzzleCode
open Go.RowKit Go.Proofs.YtnfiedfaaaphoaaGreatW.PrintWords Go.Proofs.YtnfiedfaaaphoaaGreatW.PrintLast Go.Proofs.YtnfiedfaaaphoaaGreatW.PrintMore Go.Proofs.YtnfiedfaaaphoaaGreat.Sq
attribute [local go_sem] iH iJ jD jC gV gU iK iG
set_option maxHeartbeats 8000000
set_option maxRecDepth 100000
set_option linter.unusedVariables false
set_option linter.unusedSimpArgs false
mutual
def aZ.l0 : Nat → List (S82) → List (S84) → List ByteArray → List ByteArray → Int → Option (Int)
 | 0, _, _, _, _, _ => none
 | k + 1, a, b, c, d, e => if e < (d.length : Int) then (if 0 ≤ e then ((cu.f k c (dD ByteArray.empty d e)).bind fun f => (if f = true then (aZ.l0 k a b c d (wrap64 (e + 1))) else (some 5))) else (none)) else (aZ.l1 k a b c d 0)
def aZ.l1 : Nat → List (S82) → List (S84) → List ByteArray → List ByteArray → Int → Option (Int)
 | 0, _, _, _, _, _ => none
 | k + 1, a, b, c, d, e => if e < (d.length : Int) then (if 0 ≤ e then (if e < (a.length : Int) then ((jL.f k ((dW a e).f0) ((dW a e).f1) b c (dD ByteArray.empty d e)).bind fun f => (if f = 0 then (aZ.l1 k a b c d (wrap64 (e + 1))) else (some 6))) else (none)) else (none)) else (some 0)
end
def aZ.f (k : Nat) (EU EW : Int) (EX a1 : ByteArray) (l2 : List (S82)) (l3 : List (S84)) (l4 : List ByteArray) : Option (Int) := (bW.f k EU EW EX a1).bind fun t390 => ((kL.f k EU EW EX).bind fun t393 => (if t393 = 0 then ((kN.f k EU EW EX a1).bind fun t394 => (if t394 = true then ((aR.f k EU EW EX).bind fun t395 => (if (l2.length : Int) = (t395.length : Int) then ((dS.f k t390).bind fun t398 => (if t398 = 0 then (aZ.l0 k l2 l3 l4 t390 0) else (some 4))) else (some 3))) else (some 2))) else (some 1)))
def aZ.T18 : Bool × List (List Nat × List Nat) := (true, [([], []), ([], []), ([0, 1], [0, 1]), ([2], [2]), ([], []), ([], []), ([], []), ([], []), ([6, 7], [6, 7]), ([8], [8]), ([3, 4, 5, 9], [3, 4, 5, 9]), ([10], [10])])
def aZ.B18 : List Nat := [0, 0, 3, 7, 0, 0, 0, 0, 192, 448, 1023, 2047]
theorem aZ.Ej : kD .any (opsOf Tryz.f13 18) = aZ.T18 := by kernel_rfl
theorem aZ.DJ : iZ aZ.T18.2 aZ.B18 = true := by kernel_rfl
theorem aZ.calls (k : Nat) (EU EW : Int) (EX a1 : ByteArray) (A2 : Option Addr) (c2 : Nat) (l2 : List (S82)) (A3 : Option Addr) (c3 : Nat) (l3 : List (S84)) (A4 : Option Addr) (c4 : Nat) (l4 : List ByteArray) (r : Int) (w : World) (hr2 : Kd.C k82 w A2 l2.length l2) (hc2 : l2.length ≤ c2) (hr3 : Kd.C k84 w A3 l3.length l3) (hc3 : l3.length ≤ c3) (hr4 : Kd.C Kd.string w A4 l4.length l4) (hc4 : l4.length ≤ c4) (h : aZ.f k EU EW EX a1 l2 l3 l4 = some r) :
  Calls Tryz.prog 13 #[.agg #[.int .i64 EU, .int .i64 EW, .string EX], .string a1, .slice A2 l2.length c2, .slice A3 l3.length c3, .slice A4 l4.length c4] w fun e w' => e = .returned (.int .i64 r) ∧ Below w.heap.size w w' := by
 have hu32 := Tryz.underlying32
 have hu82 := Tryz.underlying82
 have HR2 := ah.mk hr2
 have HC2 := ah.mk hc2
 clear hr2 hc2
 have HR3 := ah.mk hr3
 have HC3 := ah.mk hc3
 clear hr3 hc3
 have HR4 := ah.mk hr4
 have HC4 := ah.mk hc4
 clear hr4 hc4
 have HB := ah.mk (Below.refl w.heap.size w)
 unfold aZ.f at h
 have H := h
 clear h
 replace H := be H; obtain ⟨t390, A6, H⟩ := H
 replace H := be H; obtain ⟨t393, A7, H⟩ := H
 replace H := ah.mk H
 go_enter Tryz.func13, Tryz.ntmps13
 go_wp2_with (first | ((with_reducible refine aN (N := 5) rfl ?_); refine bC (N := 5) (cs := #[.int .i64 EU, .int .i64 EW, .string EX]) (t := 32) ?_; intro gb389 hg w9000 hbox hb; have BK389 := ah.mk hbox; have GW389 := SZ (w := w) hg; have GE389 := GW389; replace HB := BS (w := w) hb; clear hb hbox hg; obtain ⟨hcz9001_0, hcz9001_1, hcz9001_2, hfz9001_0, hfz9001_1, hfz9001_2⟩ := cz3 BK389.out) | ((with_reducible refine ay (f := 46) rfl ?_); refine bq (some 16) Tryz.func46 #[.agg #[.int .i64 EU, .int .i64 EW, .string EX], .string a1] ?_; (with_reducible refine (bW.calls k EU EW EX a1 t390 _ A6.out).mono ?_); rintro e w9002 ⟨v391, rfl, ho0, hb⟩; refine ⟨_, rfl, ?_⟩; have n0_ := ah.mk (Kd.cO ho0 (aQ BL)); replace BK389 := KB BK389 hb; replace HB := BS (w := w) hb; have HO392 := n0_; clear n0_; (try clear hb); (try clear ho0); obtain ⟨hcz9003_0, hcz9003_1, hcz9003_2, hfz9003_0, hfz9003_1, hfz9003_2⟩ := cz3 BK389.out) | ((with_reducible refine ay (f := 47) rfl ?_); refine bq (some 19) Tryz.func47 #[.agg #[.int .i64 EU, .int .i64 EW, .string EX]] ?_; (with_reducible refine (kL.calls k EU EW EX t393 _ A7.out).mono ?_); rintro e w9004 ⟨rfl, hb⟩; refine ⟨_, rfl, ?_⟩; replace HO392 := RB HO392 hb; replace BK389 := KB BK389 hb; replace HB := BS (w := w) hb; (try clear hb); obtain ⟨hcz9005_0, hcz9005_1, hcz9005_2, hfz9005_0, hfz9005_1, hfz9005_2⟩ := cz3 BK389.out; refine bP ?_))
 refine Hide.mk ?_
 replace H := H.out
 replace H := ifE H; rcases H with ⟨c8b0, c8b1, H⟩ | ⟨c8, c8b0, c8b1, H⟩
 ·replace H := be H; obtain ⟨t394, A9, H⟩ := H
  replace H := ah.mk H
  go_wp2_with (first | ((with_reducible refine ay (f := 48) rfl ?_); refine bq (some 24) Tryz.func48 #[.agg #[.int .i64 EU, .int .i64 EW, .string EX], .string a1] ?_; (with_reducible refine (kN.calls k EU EW EX a1 _ _ A9.out).mono ?_); rintro e w9006 ⟨rfl, hb⟩; refine ⟨_, rfl, ?_⟩; replace HO392 := RB HO392 hb; replace BK389 := KB BK389 hb; replace HB := BS (w := w) hb; (try clear hb); obtain ⟨hcz9007_0, hcz9007_1, hcz9007_2, hfz9007_0, hfz9007_1, hfz9007_2⟩ := cz3 BK389.out; refine bP ?_))
  refine Hide.mk ?_
  replace H := H.out
  replace H := ifB H; rcases H with ⟨rfl, H⟩ | ⟨rfl, H⟩
  ·replace H := be H; obtain ⟨t395, A11, H⟩ := H
   replace H := ah.mk H
   go_wp2_with (first | ((with_reducible refine ay (f := 49) rfl ?_); refine bq (some 30) Tryz.func49 #[.agg #[.int .i64 EU, .int .i64 EW, .string EX]] ?_; (with_reducible refine (aR.calls k EU EW EX t395 _ A11.out).mono ?_); rintro e w9008 ⟨v396, rfl, ho0, hb⟩; refine ⟨_, rfl, ?_⟩; have n1_ := ah.mk (Kd.cO ho0 (aQ BL)); replace HO392 := RB HO392 hb; replace BK389 := KB BK389 hb; replace HB := BS (w := w) hb; have HO397 := n1_; clear n1_; (try clear hb); (try clear ho0); obtain ⟨Ao9009, co9009, eo9009⟩ := Kd.dH HO397.out; subst eo9009; refine bP ?_))
   refine Hide.mk ?_
   replace H := H.out
   by_cases c12 : (l2.length : Int) = (t395.length : Int)
   ·rw [if_pos c12] at H
    have c12b0 : ((l2.length : Int) == (t395.length : Int)) = true := beq_iff_eq.mpr c12
    have c12b1 : ((l2.length : Int) != (t395.length : Int)) = false := bne_eq_false_iff_eq.mpr c12
    have c12b2 : (l2.length == t395.length) = true := by first | simpa using c12 | (simp at c12 ⊢; omega)
    clear c12
    replace H := be H; obtain ⟨t398, A13, H⟩ := H
    replace H := ah.mk H
    obtain ⟨Ao9010, co9010, eo9010⟩ := Kd.dH HO392.out
    subst eo9010
    go_wp2_with (first | ((with_reducible refine ay (f := 50) rfl ?_); refine bq (some 35) Tryz.func50 #[.slice Ao9010 t390.length co9010] ?_; (with_reducible refine (dS.calls k _ _ t390 t398 _ ?side1 ?side2 A13.out).mono ?_); (case side1 => exact CR2 HO392); (case side2 => exact (Kd.bN HO392.out).2.1); rintro e w' ⟨rfl, ⟨nd, rfl⟩⟩; refine ⟨_, rfl, ?_⟩; refine bP ?_))
    refine Hide.mk ?_
    replace H := H.out
    replace H := ifE H; rcases H with ⟨c14b0, c14b1, H⟩ | ⟨c14, c14b0, c14b1, H⟩
    ·have H' := ah.mk H
     clear H
     try go_wp2
     go_loopg [12] k (fun kq v12 w' => ∃ (x12_1 : Int), v12 = .int .i64 x12_1 ∧ ah (aZ.l0 kq l2 l3 l4 t390 x12_1 = some r) ∧ ah (kq ≤ k) ∧ ah (Kd.R Kd.string 9 w' w.heap.size (fun _ => True) (.slice Ao9010 t390.length co9010) t390) ∧ ah (w'.heap[gb389]? = some (.cells #[.int .i64 EU, .int .i64 EW, .string EX] 32 (0, 0))) ∧ ah (Below w.heap.size w w'))
     case atStart => exact ⟨(0), EQ, H', ⟨Nat.le_refl _⟩, ⟨(RR HO392)⟩, ⟨BK⟩, ⟨BL⟩⟩
     case round =>
      clear H'
      try clear c2
      try clear c3
      try clear c4
      try clear c8
      try clear c8b0
      try clear c8b1
      try clear c10
      try clear c12
      try clear c12b0
      try clear c12b1
      try clear c12b2
      try clear c14
      try clear c14b0
      try clear c14b1
      try clear hcz9001_0
      try clear hcz9001_1
      try clear hcz9001_2
      try clear hcz9003_0
      try clear hcz9003_1
      try clear hcz9003_2
      try clear hcz9005_0
      try clear hcz9005_1
      try clear hcz9005_2
      try clear hcz9007_0
      try clear hcz9007_1
      try clear hcz9007_2
      try clear hfz9001_0
      try clear hfz9001_1
      try clear hfz9001_2
      try clear hfz9003_0
      try clear hfz9003_1
      try clear hfz9003_2
      try clear hfz9005_0
      try clear hfz9005_1
      try clear hfz9005_2
      try clear hfz9007_0
      try clear hfz9007_1
      try clear hfz9007_2
      obtain ⟨x12_1, rfl, HA, HK1, HO_11, BK389, HB⟩ := hrel
      cases gk with
      | zero => exact absurd HA.out (by simp [aZ.l0])
      | succ k1 =>
       have H := HA.out
       clear HA
       simp only [aZ.l0] at H
       replace H := ifD H; rcases H with ⟨c26b0, H⟩ | ⟨c26b0, H⟩
       ·replace H := ifN H; obtain ⟨c27b0, H⟩ := H
        replace H := be H; obtain ⟨t400, A28, H⟩ := H
        have p399 : 0 ≤ (x12_1 : Int) := OD
        have q399 : x12_1 < (t390.length : Int) := OD
        obtain ⟨ad399, e399, hx399_0⟩ := Kd.gG (Kd.bN HO_11.out).2.2 x12_1 p399 q399
        cases e399
        replace p399 := eq_true p399
        replace q399 := eq_true q399
        replace H := ah.mk H
        go_wp2_with (first | ((with_reducible refine ay (f := 51) rfl ?_); refine bq (some 48) Tryz.func51 #[.slice A4 l4.length c4, .string (dD ByteArray.empty t390 x12_1)] ?_; (with_reducible refine (cu.calls k1 _ _ l4 (dD ByteArray.empty t390 x12_1) _ _ ?side1 ?side2 A28.out).mono ?_); (case side1 => exact CB HR4); (case side2 => exact HC4.out); rintro e w' ⟨rfl, ⟨nd, rfl⟩⟩; refine ⟨_, rfl, ?_⟩; refine bP ?_))
        refine Hide.mk ?_
        replace H := H.out
        replace H := ifB H; rcases H with ⟨rfl, H⟩ | ⟨rfl, H⟩
        ·have H' := ah.mk H
         clear H
         try go_wp2
         go_roundg k1
         case measure => have := HK1.out; omega
         case rel => exact ⟨(wrap64 (x12_1 + 1)), EQ, H', ⟨by have := HK1.out; omega⟩, ⟨(RR HO_11)⟩, ⟨BK⟩, ⟨BL⟩⟩
        ·obtain rfl := Option.some.inj H
         try go_wp2
         go_ret
         exact ⟨EWW, BL⟩
       ·have H' := ah.mk H
        clear H
        go_wp2
        go_loopg [13] k1 (fun kq v13 w' => ∃ (x13_2 : Int), v13 = .int .i64 x13_2 ∧ ah (aZ.l1 kq l2 l3 l4 t390 x13_2 = some r) ∧ ah (kq ≤ k1) ∧ ah (Kd.R Kd.string 9 w' w.heap.size (fun _ => True) (.slice Ao9010 t390.length co9010) t390) ∧ ah (w'.heap[gb389]? = some (.cells #[.int .i64 EU, .int .i64 EW, .string EX] 32 (0, 0))) ∧ ah (Below w.heap.size w w'))
        case atStart => exact ⟨(0), EQ, H', ⟨Nat.le_refl _⟩, ⟨(RR HO_11)⟩, ⟨BK⟩, ⟨BL⟩⟩
        case round =>
         clear H'
         try clear c2
         try clear c3
         try clear c4
         try clear c8
         try clear c8b0
         try clear c8b1
         try clear c10
         try clear c12
         try clear c12b0
         try clear c12b1
         try clear c12b2
         try clear c14
         try clear c14b0
         try clear c14b1
         try clear c26
         try clear c26b0
         try clear hcz9001_0
         try clear hcz9001_1
         try clear hcz9001_2
         try clear hcz9003_0
         try clear hcz9003_1
         try clear hcz9003_2
         try clear hcz9005_0
         try clear hcz9005_1
         try clear hcz9005_2
         try clear hcz9007_0
         try clear hcz9007_1
         try clear hcz9007_2
         try clear hfz9001_0
         try clear hfz9001_1
         try clear hfz9001_2
         try clear hfz9003_0
         try clear hfz9003_1
         try clear hfz9003_2
         try clear hfz9005_0
         try clear hfz9005_1
         try clear hfz9005_2
         try clear hfz9007_0
         try clear hfz9007_1
         try clear hfz9007_2
         obtain ⟨x13_2, rfl, HA, HK2, HO_11, BK389, HB⟩ := hrel
         cases gk with
         | zero => exact absurd HA.out (by simp [aZ.l1])
         | succ k2 =>
          have H := HA.out
          clear HA
          simp only [aZ.l1] at H
          replace H := ifD H; rcases H with ⟨c30b0, H⟩ | ⟨c30b0, H⟩
          ·replace H := ifN H; obtain ⟨c31b0, H⟩ := H
           replace H := ifN H; obtain ⟨c32b0, H⟩ := H
           replace H := be H; obtain ⟨t403, A33, H⟩ := H
           replace H := ah.mk H
           try go_wp2
           replace HO_11 := ah.mk (Kd.fM HO_11.out)
           replace BK389 := ah.mk (aI BK389.out)
           replace HB := ah.mk (dL HB.out)
           have p401 : 0 ≤ (x13_2 : Int) := OD
           have q401 : x13_2 < (l2.length : Int) := OD
           obtain ⟨ad401, A401_1, c401_1, e401, hx401_0, hx401_1, hl401_1, hi401_1⟩ := xR HR2.out x13_2 p401 q401
           have hw401_1 := hx401_1
           have hw401_0 := hx401_0
           cases e401
           try replace hx401_0 := (HB.out.cell (World.block_lt_of_cell? w _ hx401_0)).trans hx401_0
           try replace hx401_1 := (HB.out.cell (World.block_lt_of_cell? w _ hx401_1)).trans hx401_1
           have HR401_1 := ah.mk hi401_1
           have HC401_1 := ah.mk hl401_1
           clear hi401_1 hl401_1
           replace p401 := eq_true p401
           replace q401 := eq_true q401
           have p402 : 0 ≤ (x13_2 : Int) := OD
           have q402 : x13_2 < (t390.length : Int) := OD
           obtain ⟨ad402, e402, hx402_0⟩ := Kd.gG (Kd.bN HO_11.out).2.2 x13_2 p402 q402
           cases e402
           replace p402 := eq_true p402
           replace q402 := eq_true q402
           refine ji (n := 12) (S := fun w' => w'.cell? (ad401.add ((x13_2).toNat * 2)) = some (.int .i64 ((dW l2 x13_2).f0)) ∧ w'.cell? ⟨(ad401.add ((x13_2).toNat * 2)).block, (ad401.add ((x13_2).toNat * 2)).off + 1, none⟩ = some (.slice A401_1 ((dW l2 x13_2).f1).length c401_1) ∧ w'.cell? (ad402.add (x13_2).toNat) = some (.string (dD ByteArray.empty t390 x13_2))) (ds := []) #[F,F,F,F,F,F,F,F,F,F,F,F] (by kernel_rfl) rfl rfl ⟨((HB.out.cell (World.block_lt_of_cell? w _ hw401_0)).trans hw401_0), ((HB.out.cell (World.block_lt_of_cell? w _ hw401_1)).trans hw401_1), hx402_0⟩ (fun hHeld => ?_); refine gT aZ.Ej aZ.DJ (fun HT_ HW_ => ?_)
           generalize wr.drew = w9011 at HO_11 BK389 HB HR401_1 hx401_0 hx401_1 hx402_0 hHeld ⊢
           refine puS (i := 0) (N := some 56) #[T,F,F,F,F,F,F,F,F,F,F,F] (aJ HT_.out (by kernel_rfl)) ?_
           refine puS (i := 1) (N := some 57) #[T,T,F,F,F,F,F,F,F,F,F,F] (aJ HT_.out (by kernel_rfl)) ?_
           refine puS (i := 2) (N := some 58) #[T,T,T,F,F,F,F,F,F,F,F,F] (aJ HT_.out (by kernel_rfl)) ?_
           refine puS (i := 4) (N := some 60) #[T,T,T,F,T,F,F,F,F,F,F,F] (aJ HT_.out (by kernel_rfl)) ?_
           refine puS (i := 5) (N := some 61) #[T,T,T,F,T,T,F,F,F,F,F,F] (aJ HT_.out (by kernel_rfl)) ?_
           refine puS (i := 6) (N := some 62) #[T,T,T,F,T,T,T,F,F,F,F,F] (aJ HT_.out (by kernel_rfl)) ?_
           refine puS (i := 7) (N := some 63) #[T,T,T,F,T,T,T,T,F,F,F,F] (aJ HT_.out (by kernel_rfl)) ?_
           refine puS (i := 8) (N := some 64) #[T,T,T,F,T,T,T,T,T,F,F,F] (aJ HT_.out (by kernel_rfl)) ?_
           refine taS (i := 3) (N := some 59) #[T,T,T,T,T,T,T,T,T,F,F,F] (dJ HT_.out HW_.out (by kernel_rfl)) hHeld ?_
           refine taS (i := 9) (N := some 65) #[T,T,T,T,T,T,T,T,T,T,F,F] (dJ HT_.out HW_.out (by kernel_rfl)) hHeld ?_
           refine kH (i := 10) (N := some 66) #[T,T,T,T,T,T,T,T,T,T,T,F] rfl rfl (iO HT_.out (by kernel_rfl)) (by decide) (fun K hK => ?_)
           refine iU Tryz.func52 #[.agg #[.int .i64 ((dW l2 x13_2).f0), .slice A401_1 ((dW l2 x13_2).f1).length c401_1], .slice A3 l3.length c3, .slice A4 l4.length c4, .string (dD ByteArray.empty t390 x13_2)] ?_
           with_reducible refine (jL.calls k2 ((dW l2 x13_2).f0) _ _ ((dW l2 x13_2).f1) _ _ l3 _ _ l4 (dD ByteArray.empty t390 x13_2) t403 _ ?side1 ?side2 ?side3 ?side4 ?side5 ?side6 A33.out).mono ?_
           (case side1 => exact CB HR401_1)
           (case side2 => exact HC401_1.out)
           (case side3 => exact CB HR3)
           (case side4 => exact HC3.out)
           (case side5 => exact CB HR4)
           (case side6 => exact HC4.out)
           rintro e w9012 ⟨rfl, hb⟩
           have HS2_ := (hb.cell (World.block_lt_of_cell? _ _ (hHeld.2.2))).trans (hHeld.2.2)
           refine ⟨_, rfl, ?_⟩
           replace HO_11 := RB HO_11 hb
           replace BK389 := KB BK389 hb
           replace HB := BS (w := w) hb
           (try clear hb)
           refine hK.out _ _ ⟨((HB.out.cell (World.block_lt_of_cell? w _ hw401_0)).trans hw401_0), ((HB.out.cell (World.block_lt_of_cell? w _ hw401_1)).trans hw401_1), HS2_⟩ (fun hHeld => ?_)
           clear hK K
           refine nrm (some 66) ?_
           replace H := H.out
           replace H := ifE H; rcases H with ⟨c34b0, c34b1, H⟩ | ⟨c34, c34b0, c34b1, H⟩
           ·have H' := ah.mk H
            clear H
            refine puS (i := 11) (N := some 67) #[T,T,T,T,T,T,T,T,T,T,T,T] (aJ HT_.out (by kernel_rfl)) ?_
            refine gX (fH HT_.out (by kernel_rfl)) ?_
            try go_wp2
            go_roundg k2
            case measure => have := HK1.out; have := HK2.out; omega
            case rel => exact ⟨(wrap64 (x13_2 + 1)), EQ, H', ⟨by have := HK1.out; have := HK2.out; omega⟩, ⟨(RR HO_11)⟩, ⟨BK⟩, ⟨BL⟩⟩
           ·obtain rfl := Option.some.inj H
            refine puS (i := 11) (N := some 67) #[T,T,T,T,T,T,T,T,T,T,T,T] (aJ HT_.out (by kernel_rfl)) ?_
            refine gX (fH HT_.out (by kernel_rfl)) ?_
            try go_wp2
            go_ret
            exact ⟨EWW, BL⟩
          ·obtain rfl := Option.some.inj H
           go_wp2
           go_ret
           exact ⟨EWW, BL⟩
    ·obtain rfl := Option.some.inj H
     try go_wp2
     go_ret
     exact ⟨EWW, BL⟩
   ·rw [if_neg c12] at H
    have c12b0 : ((l2.length : Int) == (t395.length : Int)) = false := beq_eq_false_iff_ne.mpr c12
    have c12b1 : ((l2.length : Int) != (t395.length : Int)) = true := bne_iff_ne.mpr c12
    have c12b2 : (l2.length == t395.length) = false := by first | simpa using c12 | (simp at c12 ⊢; omega)
    obtain rfl := Option.some.inj H
    try go_wp2
    go_ret
    exact ⟨EWW, BL⟩
  ·obtain rfl := Option.some.inj H
   try go_wp2
   go_ret
   exact ⟨EWW, BL⟩
 ·obtain rfl := Option.some.inj H
  try go_wp2
  go_ret
  exact ⟨EWW, BL⟩
def jU.f (EU EW : Int) (EX : ByteArray) : Option (Int × Int × ByteArray) := some (EU, EW, EX)
theorem jU.calls (EU EW : Int) (EX : ByteArray) (r1 r2 : Int) (r3 : ByteArray) (w : World) (h : jU.f EU EW EX = some (r1, r2, r3)) :
  Calls Tryz.prog 14 #[.agg #[.int .i64 EU, .int .i64 EW, .string EX]] w fun e w' => e = .returned (.agg #[.int .i64 r1, .int .i64 r2, .string r3]) ∧ Below w.heap.size w w' := by
 have hu23 := Tryz.underlying23
 have hu32 := Tryz.underlying32
 have HB := ah.mk (Below.refl w.heap.size w)
 unfold jU.f at h
 have H := h
 clear h
 simp only [Option.some.injEq, Prod.mk.injEq] at H
 obtain ⟨rfl, rfl, rfl⟩ := H
 go_enter Tryz.func14, Tryz.ntmps14
 go_wp2_with (first | ((with_reducible refine aN (N := 1) rfl ?_); refine bC (N := 1) (cs := #[.int .i64 EU, .int .i64 EW, .string EX]) (t := 23) ?_; intro gb404 hg w2 hbox hb; have BK404 := ah.mk hbox; have GW404 := SZ (w := w) hg; have GE404 := GW404; replace HB := BS (w := w) hb; clear hb hbox hg) | ((with_reducible refine aN (N := 2) rfl ?_); refine bC (N := 2) (cs := #[.int .i64 0, .int .i64 0, .string (⟨#[]⟩ : ByteArray)]) (t := 32) ?_; intro gb405 hg w3 hbox hb; have n0_ := KB BK404 hb; have n1_ := BS (w := w) hb; have n2_ := ah.mk (hbox); have n3_ := SZ (w := w) hg; have n4_ := SZ (w := w) hg; have n5_ := NL BK404 hg; have n6_ := NG BK404 hg; clear BK404 HB; have BK404 := n0_; have HB := n1_; have BK405 := n2_; have GW405 := n3_; have GE405 := n4_; have NB404_405 := n5_; have NB405_404 := n6_; clear n0_ n1_ n2_ n3_ n4_ n5_ n6_; clear hb hbox hg) | ((with_reducible refine aN (N := 3) rfl ?_); refine bC (N := 3) (cs := #[.int .i64 0, .int .i64 0, .string (⟨#[]⟩ : ByteArray)]) (t := 32) ?_; intro gb406 hg w4 hbox hb; have n0_ := KB BK404 hb; have n1_ := KB BK405 hb; have n2_ := BS (w := w) hb; have n3_ := ah.mk (hbox); have n4_ := SZ (w := w) hg; have n5_ := SZ (w := w) hg; have n6_ := NL BK404 hg; have n7_ := NG BK404 hg; have n8_ := NL BK405 hg; have n9_ := NG BK405 hg; clear BK404 BK405 HB; have BK404 := n0_; have BK405 := n1_; have HB := n2_; have BK406 := n3_; have GW406 := n4_; have GE406 := n5_; have NB404_406 := n6_; have NB406_404 := n7_; have NB405_406 := n8_; have NB406_405 := n9_; clear n0_ n1_ n2_ n3_ n4_ n5_ n6_ n7_ n8_ n9_; clear hb hbox hg; have hnb5 := NB404_405.out; have hnc5 := NB405_404.out; have hnb6 := NB404_406.out; have hnc6 := NB406_404.out; obtain ⟨hcz7_0, hcz7_1, hcz7_2, hfz7_0, hfz7_1, hfz7_2⟩ := cz3 BK404.out; have hnb8 := NB406_405.out; have hnc8 := NB405_406.out; obtain ⟨hcz9_0, hcz9_1, hcz9_2, hfz9_0, hfz9_1, hfz9_2⟩ := cz3 BK406.out; obtain ⟨hcz10_0, hcz10_1, hcz10_2, hfz10_0, hfz10_1, hfz10_2⟩ := cz3 BK405.out))
 refine bodyPost_ret (results_cell_row rfl _ _ gb405 32 #[.int .i64 EU, .int .i64 EW, .string EX] (0, 0) _ rfl (by (with_reducible repeat (first | refine aG ?_ _ | refine aI ?_ | refine aD ?_ _)); refine aX (cs := #[.int .i64 EU, .int .i64 EW, .string (⟨#[]⟩ : ByteArray)]) ?_ 2 _ rfl; (with_reducible repeat (first | refine aG ?_ _ | refine aI ?_ | refine aD ?_ _)); refine aX (cs := #[.int .i64 EU, .int .i64 0, .string (⟨#[]⟩ : ByteArray)]) ?_ 1 _ rfl; (with_reducible repeat (first | refine aG ?_ _ | refine aI ?_ | refine aD ?_ _)); refine aX (cs := #[.int .i64 0, .int .i64 0, .string (⟨#[]⟩ : ByteArray)]) ?_ 0 _ rfl; (with_reducible repeat (first | refine aG ?_ _ | refine aI ?_ | refine aD ?_ _)); refine fI ?_ NB405_406.out _; (with_reducible repeat (first | refine aG ?_ _ | refine aI ?_ | refine aD ?_ _)); refine fI ?_ NB405_406.out _; (with_reducible repeat (first | refine aG ?_ _ | refine aI ?_ | refine aD ?_ _)); refine fI ?_ NB405_406.out _; (with_reducible repeat (first | refine aG ?_ _ | refine aI ?_ | refine aD ?_ _)); exact BK405.out) Tryz.underlying32 rfl (by kernel_rfl)) rfl ?_
 exact ⟨EWW, BL⟩
def lM.f (EU : Int) (EW : ByteArray) (EX a0_3 : Int) : Option (Int × ByteArray × Int × Int) := some (EU, EW, EX, a0_3)
theorem lM.calls (EU : Int) (EW : ByteArray) (EX a0_3 r1 : Int) (r2 : ByteArray) (r3 r4 : Int) (w : World) (h : lM.f EU EW EX a0_3 = some (r1, r2, r3, r4)) :
  Calls Tryz.prog 161 #[.agg #[.int .i64 EU, .string EW, .int .i64 EX, .int .i64 a0_3]] w fun e w' => e = .returned (.agg #[.int .i64 r1, .string r2, .int .i64 r3, .int .i64 r4]) ∧ Below w.heap.size w w' := by
 have hu143 := Tryz.underlying143
 have hu141 := Tryz.underlying141
 have HB := ah.mk (Below.refl w.heap.size w)
 unfold lM.f at h
 have H := h
 clear h
 simp only [Option.some.injEq, Prod.mk.injEq] at H
 obtain ⟨rfl, rfl, rfl, rfl⟩ := H
 go_enter Tryz.func161, Tryz.ntmps161
 go_wp2_with (first | ((with_reducible refine aN (N := 1) rfl ?_); refine bC (N := 1) (cs := #[.int .i64 EU, .string EW, .int .i64 EX, .int .i64 a0_3]) (t := 143) ?_; intro gb407 hg w2 hbox hb; have BK407 := ah.mk hbox; have GW407 := SZ (w := w) hg; have GE407 := GW407; replace HB := BS (w := w) hb; clear hb hbox hg) | ((with_reducible refine aN (N := 2) rfl ?_); refine bC (N := 2) (cs := #[.int .i64 0, .string (⟨#[]⟩ : ByteArray), .int .i64 0, .int .i64 0]) (t := 141) ?_; intro gb408 hg w3 hbox hb; have n0_ := KB BK407 hb; have n1_ := BS (w := w) hb; have n2_ := ah.mk (hbox); have n3_ := SZ (w := w) hg; have n4_ := SZ (w := w) hg; have n5_ := NL BK407 hg; have n6_ := NG BK407 hg; clear BK407 HB; have BK407 := n0_; have HB := n1_; have BK408 := n2_; have GW408 := n3_; have GE408 := n4_; have NB407_408 := n5_; have NB408_407 := n6_; clear n0_ n1_ n2_ n3_ n4_ n5_ n6_; clear hb hbox hg) | ((with_reducible refine aN (N := 3) rfl ?_); refine bC (N := 3) (cs := #[.int .i64 0, .string (⟨#[]⟩ : ByteArray), .int .i64 0, .int .i64 0]) (t := 141) ?_; intro gb409 hg w4 hbox hb; have n0_ := KB BK407 hb; have n1_ := KB BK408 hb; have n2_ := BS (w := w) hb; have n3_ := ah.mk (hbox); have n4_ := SZ (w := w) hg; have n5_ := SZ (w := w) hg; have n6_ := NL BK407 hg; have n7_ := NG BK407 hg; have n8_ := NL BK408 hg; have n9_ := NG BK408 hg; clear BK407 BK408 HB; have BK407 := n0_; have BK408 := n1_; have HB := n2_; have BK409 := n3_; have GW409 := n4_; have GE409 := n5_; have NB407_409 := n6_; have NB409_407 := n7_; have NB408_409 := n8_; have NB409_408 := n9_; clear n0_ n1_ n2_ n3_ n4_ n5_ n6_ n7_ n8_ n9_; clear hb hbox hg; have hnb5 := NB407_408.out; have hnc5 := NB408_407.out; have hnb6 := NB407_409.out; have hnc6 := NB409_407.out; obtain ⟨hcz7_0, hcz7_1, hcz7_2, hcz7_3, hfz7_0, hfz7_1, hfz7_2, hfz7_3⟩ := cz4 BK407.out; have hnb8 := NB409_408.out; have hnc8 := NB408_409.out; obtain ⟨hcz9_0, hcz9_1, hcz9_2, hcz9_3, hfz9_0, hfz9_1, hfz9_2, hfz9_3⟩ := cz4 BK409.out; obtain ⟨hcz10_0, hcz10_1, hcz10_2, hcz10_3, hfz10_0, hfz10_1, hfz10_2, hfz10_3⟩ := cz4 BK408.out))
 refine bodyPost_ret (results_cell_row rfl _ _ gb408 141 #[.int .i64 EU, .string EW, .int .i64 EX, .int .i64 a0_3] (0, 0) _ rfl (by (with_reducible repeat (first | refine aG ?_ _ | refine aI ?_ | refine aD ?_ _)); refine aX (cs := #[.int .i64 EU, .string EW, .int .i64 EX, .int .i64 0]) ?_ 3 _ rfl; (with_reducible repeat (first | refine aG ?_ _ | refine aI ?_ | refine aD ?_ _)); refine aX (cs := #[.int .i64 EU, .string EW, .int .i64 0, .int .i64 0]) ?_ 2 _ rfl; (with_reducible repeat (first | refine aG ?_ _ | refine aI ?_ | refine aD ?_ _)); refine aX (cs := #[.int .i64 EU, .string (⟨#[]⟩ : ByteArray), .int .i64 0, .int .i64 0]) ?_ 1 _ rfl; (with_reducible repeat (first | refine aG ?_ _ | refine aI ?_ | refine aD ?_ _)); refine aX (cs := #[.int .i64 0, .string (⟨#[]⟩ : ByteArray), .int .i64 0, .int .i64 0]) ?_ 0 _ rfl; (with_reducible repeat (first | refine aG ?_ _ | refine aI ?_ | refine aD ?_ _)); refine fI ?_ NB408_409.out _; (with_reducible repeat (first | refine aG ?_ _ | refine aI ?_ | refine aD ?_ _)); refine fI ?_ NB408_409.out _; (with_reducible repeat (first | refine aG ?_ _ | refine aI ?_ | refine aD ?_ _)); refine fI ?_ NB408_409.out _; (with_reducible repeat (first | refine aG ?_ _ | refine aI ?_ | refine aD ?_ _)); refine fI ?_ NB408_409.out _; (with_reducible repeat (first | refine aG ?_ _ | refine aI ?_ | refine aD ?_ _)); exact BK408.out) Tryz.underlying141 rfl (by kernel_rfl)) rfl ?_
 exact ⟨EWW, BL⟩
def fB.l0 : Nat → List (l8) → List (bZ) → Int → Option ((List (bZ)))
 | 0, _, _, _ => none
 | k + 1, a, b, c => if c < (a.length : Int) then (if 0 ≤ c then ((lM.f ((gq a c).f0) ((gq a c).f1) ((gq a c).f2) ((gq a c).f3)).bind fun d => (if c < (b.length : Int) then (fB.l0 k a (b.set (c : Int).toNat (⟨d.1, d.2.1, d.2.2.1, d.2.2.2⟩ : bZ)) (wrap64 (c + 1))) else (none))) else (none)) else (some b)
def fB.f (k : Nat) (l0 : List (l8)) : Option ((List (bZ))) := if 0 ≤ (l0.length : Int) then (if ((l0.length : Int) : Int).toNat ≤ 7036874417766 then (fB.l0 k l0 (List.replicate ((l0.length : Int) : Int).toNat z141) 0) else (none)) else (none)
theorem fB.calls (k : Nat) (A0 : Option Addr) (c0 : Nat) (l0 : List (l8)) (r : List (bZ)) (w : World) (hr0 : Kd.C xg w A0 l0.length l0) (hc0 : l0.length ≤ c0) (h : fB.f k l0 = some r) :
  Calls Tryz.prog 107 #[.slice A0 l0.length c0] w fun e w' => ∃ v0_ : Value, e = .returned (v0_) ∧ Kd.R je 141 w' w.heap.size (fun _ => True) v0_ r ∧ Below w.heap.size w w' := by
 have hu143 := Tryz.underlying143
 have hu141 := Tryz.underlying141
 have HR0 := ah.mk hr0
 have HC0 := ah.mk hc0
 clear hr0 hc0
 have HB := ah.mk (Below.refl w.heap.size w)
 unfold fB.f at h
 have H := h
 clear h
 replace H := ifP H; obtain ⟨c2, H⟩ := H
 have c2b0 := eq_true c2
 have c2b1 : decide (0 ≤ (l0.length : Int)) = true := decide_eq_true c2
 clear c2
 replace H := ifP H; obtain ⟨c3, H⟩ := H
 have c3b0 := eq_true c3
 have c3b1 : decide (((l0.length : Int) : Int).toNat ≤ 7036874417766) = true := decide_eq_true c3
 clear c3
 obtain ⟨y410, hy410⟩ : ∃ y_ : List (bZ), y_ = (List.replicate ((l0.length : Int) : Int).toNat z141) := ⟨_, rfl⟩
 replace H : (fB.l0 k l0 y410 0) = some r := by first | (rw [hy410]; with_reducible exact H) | (have H2_ := (Option.bind_some _ _).symm.trans H; rw [hy410]; with_reducible exact H2_) | (have H2_ := (Option.bind_some _ _).symm.trans H; with_reducible exact H2_) | with_reducible exact H | (rw [hy410]; exact H) | exact H
 have Ny410 := ah.mk hy410
 clear hy410
 have H' := ah.mk H
 clear H
 go_enter Tryz.func107, Tryz.ntmps107
 go_wp2_with (first | ((with_reducible refine aN (N := 7) rfl ?_); refine Kd.vY je _ 141 rfl (N := 7) rfl 80 _ _ rfl (l0.length : Int) rfl rfl Tryz.underlying80 (.agg #[(.int .i64 0), (.string ⟨#[]⟩), (.int .i64 0), (.int .i64 0)]) 40 Df rfl (by decide) (by omega) z141 (ok := fun _ => True) (okp := fun _ => True) (yN _ _ _ z141 ) (fun _ hk => hk) trivial (OD) (Nat.le_trans (Nat.mul_le_mul_right _ (OD : (l0.length : Int).toNat ≤ 7036874417766)) (by omega)) (Below.refl _ _) (Nat.le_refl _) ?_; intro v411 w9000 ho5 hb hg_ hnew_; clear hg_ hnew_; (first | rw [← Ny410.out] at ho5 | (simp only [Int.reduceToNat] at ho5; rw [← Ny410.out] at ho5)); have n0_ := ah.mk (Kd.cO ho5 (aQ BL)); replace HB := BS (w := w) hb; have HO412 := n0_; clear n0_; clear hb ho5))
 go_loopg [4] k (fun kq v4 w' => ∃ (x3_1 : List (bZ)) (x4_1 : Int), v4 = .int .i64 x4_1 ∧ ah (fB.l0 kq l0 x3_1 x4_1 = some r) ∧ ah (kq ≤ k) ∧ ah (Kd.R je 141 w' w.heap.size (fun _ => True) v411 x3_1) ∧ ah (Below w.heap.size w w'))
 case atStart => exact ⟨(y410), (0), EQ, H', ⟨Nat.le_refl _⟩, ⟨(RR HO412)⟩, ⟨BL⟩⟩
 case round =>
  clear H'
  try clear c2
  try clear c2b0
  try clear c2b1
  try clear c3
  try clear c3b0
  try clear c3b1
  obtain ⟨x3_1, x4_1, rfl, HA, HK1, HO_3, HB⟩ := hrel
  cases gk with
  | zero => exact absurd HA.out (by simp [fB.l0])
  | succ k1 =>
   have H := HA.out
   clear HA
   simp only [fB.l0] at H
   replace H := ifD H; rcases H with ⟨c6b0, H⟩ | ⟨c6b0, H⟩
   ·replace H := ifN H; obtain ⟨c7b0, H⟩ := H
    replace H := be H; obtain ⟨⟨t414, t415, t416, t417⟩, A8, H⟩ := H
    dsimp only at H
    replace H := ifN H; obtain ⟨c9b0, H⟩ := H
    obtain ⟨y418, hy418⟩ : ∃ y_ : List (bZ), y_ = (x3_1.set (x4_1 : Int).toNat (⟨t414, t415, t416, t417⟩ : bZ)) := ⟨_, rfl⟩
    replace H : (fB.l0 k1 l0 y418 (wrap64 (x4_1 + 1))) = some r := by first | (rw [hy418]; with_reducible exact H) | (have H2_ := (Option.bind_some _ _).symm.trans H; rw [hy418]; with_reducible exact H2_) | (have H2_ := (Option.bind_some _ _).symm.trans H; with_reducible exact H2_) | with_reducible exact H | (rw [hy418]; exact H) | exact H
    have Ny418 := ah.mk hy418
    clear hy418
    have H' := ah.mk H
    clear H
    have p413 : 0 ≤ (x4_1 : Int) := OD
    have q413 : x4_1 < (l0.length : Int) := OD
    obtain ⟨ad413, e413, hx413_0, hx413_1, hx413_2, hx413_3⟩ := zY HR0.out x4_1 p413 q413
    cases e413
    try replace hx413_0 := (HB.out.cell (World.block_lt_of_cell? w _ hx413_0)).trans hx413_0
    try replace hx413_1 := (HB.out.cell (World.block_lt_of_cell? w _ hx413_1)).trans hx413_1
    try replace hx413_2 := (HB.out.cell (World.block_lt_of_cell? w _ hx413_2)).trans hx413_2
    try replace hx413_3 := (HB.out.cell (World.block_lt_of_cell? w _ hx413_3)).trans hx413_3
    replace p413 := eq_true p413
    replace q413 := eq_true q413
    go_wp2_with (first | ((with_reducible refine ay (f := 161) rfl ?_); refine bq (some 20) Tryz.func161 #[.agg #[.int .i64 ((gq l0 x4_1).f0), .string ((gq l0 x4_1).f1), .int .i64 ((gq l0 x4_1).f2), .int .i64 ((gq l0 x4_1).f3)]] ?_; (with_reducible refine (lM.calls ((gq l0 x4_1).f0) ((gq l0 x4_1).f1) ((gq l0 x4_1).f2) ((gq l0 x4_1).f3) t414 t415 t416 t417 _ A8.out).mono ?_); rintro e w9001 ⟨rfl, hb⟩; refine ⟨_, rfl, ?_⟩; replace HO_3 := RB HO_3 hb; replace HB := BS (w := w) hb; (try clear hb); (try clear hk); have p10 : 0 ≤ (x4_1 : Int) := OD; have q10 : (x4_1 : Int) < ((x3_1.length : Int) : Int) := OD; obtain ⟨go10, co9002, eo9002, gb10, gl10, cl10, HG10⟩ := Kd.rG HO_3.out (by omega); (first | cases eo9002 | (injection eo9002 with ea_ en_ ec_; (first | subst ea_ | (injection ea_ with ea_; subst ea_)); subst ec_; clear en_)); have GB10 := ah.mk gb10; have GG10 := ah.mk HG10; clear gb10 gl10 HG10; obtain ⟨ce10, hcl10, hM10, hcc10, hfr10⟩ := Kd.tC HO_3.out z141 (x4_1 : Int) p10 q10; obtain rfl := wh hM10; have hx10_0 : w9001.cell? ⟨go10, (x4_1 : Int).toNat * 4, none⟩ = some (.int .i64 ((aj x3_1 x4_1).f0)) := hcc10 0 _ rfl; have hx10_1 : w9001.cell? ⟨go10, (x4_1 : Int).toNat * 4 + 1, none⟩ = some (.string ((aj x3_1 x4_1).f1)) := hcc10 1 _ rfl; have hx10_2 : w9001.cell? ⟨go10, (x4_1 : Int).toNat * 4 + 2, none⟩ = some (.int .i64 ((aj x3_1 x4_1).f2)) := hcc10 2 _ rfl; have hx10_3 : w9001.cell? ⟨go10, (x4_1 : Int).toNat * 4 + 3, none⟩ = some (.int .i64 ((aj x3_1 x4_1).f3)) := hcc10 3 _ rfl; have hf10_0 : w9001.frozen? ⟨go10, (x4_1 : Int).toNat * 4, none⟩ = false := hfr10 0; have hf10_1 : w9001.frozen? ⟨go10, (x4_1 : Int).toNat * 4 + 1, none⟩ = false := hfr10 1; have hf10_2 : w9001.frozen? ⟨go10, (x4_1 : Int).toNat * 4 + 2, none⟩ = false := hfr10 2; have hf10_3 : w9001.frozen? ⟨go10, (x4_1 : Int).toNat * 4 + 3, none⟩ = false := hfr10 3; clear hcl10 hcc10 hfr10 hM10; replace p10 := eq_true p10; replace q10 := eq_true q10; have HX12 := ah.mk (show Kd.R je 141 w9001 w.heap.size (fun _ => True) (.slice (some ⟨go10, 0, none⟩) x3_1.length co9002) x3_1 from (RR HO_3)); obtain ⟨ce12, hcl12, hM12, hcc12, hfr12⟩ := Kd.tC HX12.out z141 (x4_1 : Int) (OD) (by have h_ : (x4_1 : Int) < ((x3_1.length : Int) : Int) := OD; first | exact h_ | (have e_ := (Kd.bN HO_3.out).1; omega) | simpa using h_); obtain rfl := wh hM12; have HP12 := Kd.BG HX12.out (x4_1 : Int) (OD) (by have h_ : (x4_1 : Int) < ((x3_1.length : Int) : Int) := OD; first | exact h_ | (have e_ := (Kd.bN HO_3.out).1; omega) | simpa using h_) (seg := [.int .i64 t414, .string t415, .int .i64 t416, .int .i64 t417]) (j := 0) hcl12 hcc12 (show 4 ≤ 4 from by decide) (x' := (⟨t414, t415, t416, t417⟩ : bZ)) (yN _ _ _ (⟨t414, t415, t416, t417⟩ : bZ) ) (fun _ hk => hk); have hx12_0 := hcc12 0 _ rfl; (try simp only [show (je).sz = 4 from rfl, Nat.mul_one, Nat.add_zero] at hx12_0); have hf12_0 := hfr12 0; (try simp only [show (je).sz = 4 from rfl, Nat.mul_one, Nat.add_zero] at hf12_0); have hx12_1 := hcc12 1 _ rfl; (try simp only [show (je).sz = 4 from rfl, Nat.mul_one, Nat.add_zero] at hx12_1); have hf12_1 := hfr12 1; (try simp only [show (je).sz = 4 from rfl, Nat.mul_one, Nat.add_zero] at hf12_1); have hx12_2 := hcc12 2 _ rfl; (try simp only [show (je).sz = 4 from rfl, Nat.mul_one, Nat.add_zero] at hx12_2); have hf12_2 := hfr12 2; (try simp only [show (je).sz = 4 from rfl, Nat.mul_one, Nat.add_zero] at hf12_2); have hx12_3 := hcc12 3 _ rfl; (try simp only [show (je).sz = 4 from rfl, Nat.mul_one, Nat.add_zero] at hx12_3); have hf12_3 := hfr12 3; (try simp only [show (je).sz = 4 from rfl, Nat.mul_one, Nat.add_zero] at hf12_3); clear hcl12 hcc12 hfr12 hM12) | ((with_reducible refine kI (t := 141) (p := 21) rfl ?_); refine jW (t := 141) (p := 21) (v := ?vo_w13) (w1 := ((((w9001.setCell ⟨go10, (x4_1 : Int).toNat * 4, none⟩ (.int .i64 t414)).setCell ⟨go10, (x4_1 : Int).toNat * 4 + 1, none⟩ (.string t415)).setCell ⟨go10, (x4_1 : Int).toNat * 4 + 2, none⟩ (.int .i64 t416)).setCell ⟨go10, (x4_1 : Int).toNat * 4 + 3, none⟩ (.int .i64 t417))) ?hg ?ho ?hn ?hr ?_; (case ho => rfl); (case hg => rfl); (case hn => rfl); (case hr => first | (go_simp; done) | (go_simp; rfl)); intro w9003 hw; have hg : w9001.grownBy w9003 (some go10) := (by rw [hw]; exact HP12.2); have hp_ : Kd.R je 141 w9003 w.heap.size (fun _ => True) (.slice (some ⟨go10, 0, none⟩) x3_1.length co9002) y418 := (by rw [hw, Ny418.out]; exact HP12.1); clear HP12; have n0_ := ah.mk (hp_); have n1_ := ah.mk ((by rw [hw]; exact gQ (gQ (gQ (gQ (HB.out) GB10.out) GB10.out) GB10.out) GB10.out : Below w.heap.size w w9003)); clear HO_3 HB; have HO_3 := n0_; have HB := n1_; clear n0_ n1_; clear hg hw hp_))
    go_roundg k1
    case measure => have := HK1.out; omega
    case rel => exact ⟨(y418), (wrap64 (x4_1 + 1)), EQ, H', ⟨by have := HK1.out; omega⟩, ⟨(RR HO_3)⟩, ⟨BL⟩⟩
   ·obtain rfl := Option.some.inj H
    go_wp2
    go_ret
    exact ⟨_, EWW, (RR HO_3), BL⟩
def kR.f (k : Nat) (EU : Int) (E8 : List (l8)) : Option (Int × (List (bZ))) := (fB.f k E8).bind fun t422 => (some (EU, t422))
theorem kR.calls (k : Nat) (EU : Int) (A0_1 : Option Addr) (c0_1 : Nat) (E8 : List (l8)) (r1 : Int) (r2 : List (bZ)) (w : World) (hr0_1 : Kd.C xg w A0_1 E8.length E8) (hc0_1 : E8.length ≤ c0_1) (h : kR.f k EU E8 = some (r1, r2)) :
  Calls Tryz.prog 53 #[.agg #[.int .i64 EU, .slice A0_1 E8.length c0_1]] w fun e w' => ∃ v1_ : Value, e = .returned (.agg #[.int .i64 r1, v1_]) ∧ Kd.R je 141 w' w.heap.size (fun _ => True) v1_ r2 ∧ Below w.heap.size w w' := by
 have hu68 := Tryz.underlying68
 have hu82 := Tryz.underlying82
 have HR0_1 := ah.mk hr0_1
 have HC0_1 := ah.mk hc0_1
 clear hr0_1 hc0_1
 have HB := ah.mk (Below.refl w.heap.size w)
 unfold kR.f at h
 have H := h
 clear h
 replace H := be H; obtain ⟨t422, A2, H⟩ := H
 simp only [Option.some.injEq, Prod.mk.injEq] at H
 obtain ⟨rfl, rfl⟩ := H
 go_enter Tryz.func53, Tryz.ntmps53
 go_wp2_with (first | ((with_reducible refine aN (N := 1) rfl ?_); refine bC (N := 1) (cs := #[.int .i64 EU, .slice A0_1 E8.length c0_1]) (t := 68) ?_; intro gb419 hg w3 hbox hb; have BK419 := ah.mk hbox; have GW419 := SZ (w := w) hg; have GE419 := GW419; replace HB := BS (w := w) hb; clear hb hbox hg) | ((with_reducible refine aN (N := 2) rfl ?_); refine bC (N := 2) (cs := #[.int .i64 0, .slice none 0 0]) (t := 82) ?_; intro gb420 hg w4 hbox hb; have n0_ := KB BK419 hb; have n1_ := BS (w := w) hb; have n2_ := ah.mk (hbox); have n3_ := SZ (w := w) hg; have n4_ := SZ (w := w) hg; have n5_ := NL BK419 hg; have n6_ := NG BK419 hg; clear BK419 HB; have BK419 := n0_; have HB := n1_; have BK420 := n2_; have GW420 := n3_; have GE420 := n4_; have NB419_420 := n5_; have NB420_419 := n6_; clear n0_ n1_ n2_ n3_ n4_ n5_ n6_; clear hb hbox hg) | ((with_reducible refine aN (N := 3) rfl ?_); refine bC (N := 3) (cs := #[.int .i64 0, .slice none 0 0]) (t := 82) ?_; intro gb421 hg w5 hbox hb; have n0_ := KB BK419 hb; have n1_ := KB BK420 hb; have n2_ := BS (w := w) hb; have n3_ := ah.mk (hbox); have n4_ := SZ (w := w) hg; have n5_ := SZ (w := w) hg; have n6_ := NL BK419 hg; have n7_ := NG BK419 hg; have n8_ := NL BK420 hg; have n9_ := NG BK420 hg; clear BK419 BK420 HB; have BK419 := n0_; have BK420 := n1_; have HB := n2_; have BK421 := n3_; have GW421 := n4_; have GE421 := n5_; have NB419_421 := n6_; have NB421_419 := n7_; have NB420_421 := n8_; have NB421_420 := n9_; clear n0_ n1_ n2_ n3_ n4_ n5_ n6_ n7_ n8_ n9_; clear hb hbox hg; have hnb6 := NB419_420.out; have hnc6 := NB420_419.out; have hnb7 := NB419_421.out; have hnc7 := NB421_419.out; obtain ⟨hcz8_0, hcz8_1, hfz8_0, hfz8_1⟩ := cz2 BK419.out; have hnb9 := NB421_420.out; have hnc9 := NB420_421.out; obtain ⟨hcz10_0, hcz10_1, hfz10_0, hfz10_1⟩ := cz2 BK421.out) | ((with_reducible refine ay (f := 107) rfl ?_); refine bq (some 9) Tryz.func107 #[.slice A0_1 E8.length c0_1] ?_; (with_reducible refine (fB.calls k _ _ E8 t422 _ ?side1 ?side2 A2.out).mono ?_); (case side1 => exact Kd.gP HR0_1.out BL); (case side2 => exact HC0_1.out); rintro e w11 ⟨v423, rfl, ho0, hb⟩; refine ⟨_, rfl, ?_⟩; have n0_ := ah.mk (Kd.cO ho0 (aQ BL)); have n1_ := ah.mk (gW (g := gb419) (o := .cells #[.int .i64 EU, .slice A0_1 E8.length c0_1] 68 (0, 0)) (by (with_reducible repeat (first | refine aG ?_ _ | refine aI ?_ | refine aD ?_ _)); refine fI ?_ NB419_421.out _; (with_reducible repeat (first | refine aG ?_ _ | refine aI ?_ | refine aD ?_ _)); exact BK419.out) hb); have n2_ := ah.mk (gW (g := gb420) (o := .cells #[.int .i64 0, .slice none 0 0] 82 (0, 0)) (by (with_reducible repeat (first | refine aG ?_ _ | refine aI ?_ | refine aD ?_ _)); refine fI ?_ NB420_421.out _; (with_reducible repeat (first | refine aG ?_ _ | refine aI ?_ | refine aD ?_ _)); exact BK420.out) hb); have n3_ := ah.mk (gW (g := gb421) (o := .cells #[.int .i64 EU, .slice none 0 0] 82 (0, 0)) (by (with_reducible repeat (first | refine aG ?_ _ | refine aI ?_ | refine aD ?_ _)); refine aX (cs := #[.int .i64 0, .slice none 0 0]) ?_ 0 _ rfl; (with_reducible repeat (first | refine aG ?_ _ | refine aI ?_ | refine aD ?_ _)); exact BK421.out) hb); replace HB := BS (w := w) hb; clear BK419 BK420 BK421; have HO424 := n0_; have BK419 := n1_; have BK420 := n2_; have BK421 := n3_; clear n0_ n1_ n2_ n3_; (try clear hb); (try clear ho0); obtain ⟨Ao12, co12, eo12⟩ := Kd.dH HO424.out; subst eo12; obtain ⟨hcz13_0, hcz13_1, hfz13_0, hfz13_1⟩ := cz2 BK421.out; obtain ⟨hcz14_0, hcz14_1, hfz14_0, hfz14_1⟩ := cz2 BK420.out))
 refine bodyPost_ret (results_cell_row rfl _ _ gb420 82 #[.int .i64 EU, .slice Ao12 t422.length co12] (0, 0) _ rfl (by (with_reducible repeat (first | refine aG ?_ _ | refine aI ?_ | refine aD ?_ _)); refine aX (cs := #[.int .i64 EU, .slice none 0 0]) ?_ 1 _ rfl; (with_reducible repeat (first | refine aG ?_ _ | refine aI ?_ | refine aD ?_ _)); refine aX (cs := #[.int .i64 0, .slice none 0 0]) ?_ 0 _ rfl; (with_reducible repeat (first | refine aG ?_ _ | refine aI ?_ | refine aD ?_ _)); refine fI ?_ NB420_421.out _; (with_reducible repeat (first | refine aG ?_ _ | refine aI ?_ | refine aD ?_ _)); exact BK420.out) Tryz.underlying82 rfl (by kernel_rfl)) rfl ?_
 exact ⟨_, EWW, by (with_reducible repeat (first | apply Kd.gy | apply Kd.gu | apply Kd.fM)); exact Kd.eF (Kd.jH (p := ⟨gb420, 1, none⟩) (Kd.jH (p := ⟨gb420, 0, none⟩) (Kd.jH (p := ⟨gb421, 1, none⟩) (Kd.qp (Kd.qp HO424.out BK421.out (by decide)) BK420.out (by decide)) (fun _ hk => hk.1.2) (.slice Ao12 t422.length co12)) (fun _ hk => hk.2) (.int .i64 EU)) (fun _ hk => hk.2) (.slice Ao12 t422.length co12)) (fun _ hk => trivial), BL⟩
end Go.Proofs.YtnfiedfaaaphoaaGreat.PFnExactPuzzleCode
