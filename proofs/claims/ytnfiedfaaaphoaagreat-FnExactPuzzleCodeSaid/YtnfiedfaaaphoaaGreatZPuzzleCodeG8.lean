/- Walks of functions: what each computes. -/
import Derived.Test.YtnfiedfaaaphoaaGreatZPuzzleCodeG0
import Derived.Test.YtnfiedfaaaphoaaGreatZPuzzleCodeG4
import Derived.Test.YtnfiedfaaaphoaaGreatZPuzzleCodeG5
import Derived.Test.YtnfiedfaaaphoaaGreatZPuzzleCodeG7
import Derived.Test.YtnfiedfaaaphoaaGreatZPuzzleCodeW
import Derived.Test.YtnfiedfaaaphoaaGreatZPuzzleCodeShelf
import Derived.Test.YtnfiedfaaaphoaaGreatZPuzzleCodeHandSort
import Derived.Test.YtnfiedfaaaphoaaGreatZPuzzleCodeHandForm
import Derived.Test.YtnfiedfaaaphoaaGreatZPuzzleCodeHandAlone
import Derived.Test.YtnfiedfaaaphoaaGreatZPuzzleCodeHandReach
import Derived.Test.YtnfiedfaaaphoaaGreatZPuzzleCodeHandPut
namespace Go.Proofs.YtnfiedfaaaphoaaGreat.PFnExactPuzzleCode
open Go.RowKit Go.Proofs.YtnfiedfaaaphoaaGreatW.PrintWords Go.Proofs.YtnfiedfaaaphoaaGreatW.PrintLast Go.Proofs.YtnfiedfaaaphoaaGreatW.PrintMore Go.Proofs.YtnfiedfaaaphoaaGreat.Sq
attribute [local go_sem] iH iJ jD jC gV gU iK iG
set_option maxHeartbeats 8000000
set_option maxRecDepth 100000
set_option linter.unusedVariables false
set_option linter.unusedSimpArgs false
def bE.l0 : Nat → List (S84) → List ByteArray → List ByteArray → Int → Int → List (bZ) → Option (List ByteArray)
 | 0, _, _, _, _, _, _ => none
 | k + 1, a, b, c, d, e, f => if d < (b.length : Int) then (if 0 ≤ d then ((iR.f k e f a (dD ByteArray.empty b d)).bind fun g => (if g = true then ((cu.f k c (dD ByteArray.empty b d)).bind fun h => (if h = true then (bE.l0 k a b c (wrap64 (d + 1)) e f) else (if c.length < 8796093022208 then (bE.l0 k a b (c ++ [dD ByteArray.empty b d]) (wrap64 (d + 1)) e f) else (none)))) else (bE.l0 k a b c (wrap64 (d + 1)) e f))) else (none)) else (some c)
def bE.f (k : Nat) (EU : Int) (E8 : List (bZ)) (l1 : List (S84)) (l2 : List ByteArray) : Option (List ByteArray) := bE.l0 k l1 l2 (([] : List ByteArray)) 0 EU E8
def bE.T5 : Bool × List (List Nat × List Nat) := (true, [([], []), ([], []), ([], []), ([], []), ([2, 3], [2, 3]), ([4], [4]), ([0, 1, 5], [0, 1, 5]), ([6, 6], [6]), ([7], [7]), ([7], [7]), ([7], [7]), ([9, 10, 7], [7, 9, 10]), ([11, 7], [7, 11]), ([8, 12, 7, 7], [7, 8, 12]), ([13, 7], [7, 13]), ([7, 14], [7, 14])])
def bE.B5 : List Nat := [0, 0, 0, 0, 12, 28, 63, 127, 255, 255, 255, 1791, 3839, 8191, 16383, 32767]
theorem bE.Cq : kD .any (opsOf Tryz.f106 5) = bE.T5 := by kernel_rfl
theorem bE.yY : iZ bE.T5.2 bE.B5 = true := by kernel_rfl
theorem bE.calls (k : Nat) (EU : Int) (A0_1 : Option Addr) (c0_1 : Nat) (E8 : List (bZ)) (A1 : Option Addr) (c1 : Nat) (l1 : List (S84)) (A2 : Option Addr) (c2 : Nat) (l2 r : List ByteArray) (w : World) (hr0_1 : Kd.C je w A0_1 E8.length E8) (hc0_1 : E8.length ≤ c0_1) (hr1 : Kd.C k84 w A1 l1.length l1) (hc1 : l1.length ≤ c1) (hr2 : Kd.C Kd.string w A2 l2.length l2) (hc2 : l2.length ≤ c2) (h : bE.f k EU E8 l1 l2 = some r) :
  Calls Tryz.prog 106 #[.agg #[.int .i64 EU, .slice A0_1 E8.length c0_1], .slice A1 l1.length c1, .slice A2 l2.length c2] w fun e w' => ∃ v0_ : Value, e = .returned (v0_) ∧ Kd.R Kd.string 9 w' w.heap.size (fun _ => True) v0_ r ∧ Below w.heap.size w w' := by
 have hu82 := Tryz.underlying82
 have HR0_1 := ah.mk hr0_1
 have HC0_1 := ah.mk hc0_1
 clear hr0_1 hc0_1
 have HR1 := ah.mk hr1
 have HC1 := ah.mk hc1
 clear hr1 hc1
 have HR2 := ah.mk hr2
 have HC2 := ah.mk hc2
 clear hr2 hc2
 have HB := ah.mk (Below.refl w.heap.size w)
 unfold bE.f at h
 have H := h
 clear h
 obtain ⟨y366, hy366⟩ : ∃ y_ : List ByteArray, y_ = (([] : List ByteArray)) := ⟨_, rfl⟩
 replace H : (bE.l0 k l1 l2 y366 0 EU E8) = some r := by first | (rw [hy366]; with_reducible exact H) | (have H2_ := (Option.bind_some _ _).symm.trans H; rw [hy366]; with_reducible exact H2_) | (have H2_ := (Option.bind_some _ _).symm.trans H; with_reducible exact H2_) | with_reducible exact H | (rw [hy366]; exact H) | exact H
 have Ny366 := ah.mk hy366
 clear hy366
 have H' := ah.mk H
 clear H
 go_enter Tryz.func106, Tryz.ntmps106
 go_wp2_with (first | ((with_reducible refine aN (N := 3) rfl ?_); refine bC (N := 3) (cs := #[.int .i64 EU, .slice A0_1 E8.length c0_1]) (t := 82) ?_; intro gb365 hg w4 hbox hb; have BK365 := ah.mk hbox; have GW365 := SZ (w := w) hg; have GE365 := GW365; replace HB := BS (w := w) hb; clear hb hbox hg) | ((with_reducible refine aN (N := 9) rfl ?_); refine Kd.oq Kd.string _ 9 ?hg (N := 9) ?hd (xs := ([] : List ByteArray)) (inner := []) (ok := fun _ => True) (okp := fun _ => True) ?hr ?hp (fun _ hk => hk) trivial (Below.refl _ _) (Nat.le_refl _) (by simp) ?_; (case hd => rfl); (case hg => rfl); (case hr => first | (go_simp; done) | (go_simp; rfl)); (case hp => exact (gD.none _ _)); intro v367 w5 ho6 hb hg_ hnew_; clear hg_ hnew_; (first | rw [← Ny366.out] at ho6 | (simp only [Int.reduceToNat] at ho6; rw [← Ny366.out] at ho6)); have n0_ := ah.mk (Kd.cO ho6 (aQ BL)); replace BK365 := KB BK365 hb; replace HB := BS (w := w) hb; have HO368 := n0_; clear n0_; clear hb ho6))
 go_loopg [7, 8] k (fun kq v7 v8 w' => ∃ (x7_1 : List ByteArray) (x8_1 : Int), v8 = .int .i64 x8_1 ∧ ah (bE.l0 kq l1 l2 x7_1 x8_1 EU E8 = some r) ∧ ah (kq ≤ k) ∧ ah (Kd.R Kd.string 9 w' w.heap.size (fun _ => True) v7 x7_1) ∧ ah (w'.heap[gb365]? = some (.cells #[.int .i64 EU, (.slice A0_1 E8.length c0_1)] 82 (0, 0))) ∧ ah (Below w.heap.size w w'))
 case atStart => exact ⟨(y366), (0), EQ, H', ⟨Nat.le_refl _⟩, ⟨(RR HO368)⟩, ⟨BK⟩, ⟨BL⟩⟩
 case round =>
  clear H'
  try clear c1
  try clear c2
  obtain ⟨x7_1, x8_1, rfl, HA, HK1, HO_7, BK365, HB⟩ := hrel
  cases gk with
  | zero => exact absurd HA.out (by simp [bE.l0])
  | succ k1 =>
   have H := HA.out
   clear HA
   simp only [bE.l0] at H
   replace H := ifD H; rcases H with ⟨c7b0, H⟩ | ⟨c7b0, H⟩
   ·replace H := ifN H; obtain ⟨c8b0, H⟩ := H
    replace H := be H; obtain ⟨t370, A9, H⟩ := H
    replace H := ah.mk H
    try go_wp2
    replace HO_7 := ah.mk (Kd.fM HO_7.out)
    replace BK365 := ah.mk (aI BK365.out)
    replace HB := ah.mk (dL HB.out)
    have p369 : 0 ≤ (x8_1 : Int) := OD
    have q369 : x8_1 < (l2.length : Int) := OD
    obtain ⟨ad369, e369, hx369_0⟩ := Kd.gG HR2.out x8_1 p369 q369
    have hw369_0 := hx369_0
    cases e369
    try replace hx369_0 := (HB.out.cell (World.block_lt_of_cell? w _ hx369_0)).trans hx369_0
    replace p369 := eq_true p369
    replace q369 := eq_true q369
    replace H := H.out
    replace H := ifB H; rcases H with ⟨rfl, H⟩ | ⟨rfl, H⟩
    ·replace H := be H; obtain ⟨t372, A11, H⟩ := H
     replace H := ah.mk H
     have p371 : 0 ≤ (x8_1 : Int) := OD
     have q371 : x8_1 < (l2.length : Int) := OD
     obtain ⟨ad371, e371, hx371_0⟩ := Kd.gG HR2.out x8_1 p371 q371
     have hw371_0 := hx371_0
     replace H := H.out
     replace H := ifB H; rcases H with ⟨rfl, H⟩ | ⟨rfl, H⟩
     ·have H' := ah.mk H
      clear H
      obtain rfl : ad369 = ad371 := (by injection e371)
      try replace hx371_0 := (HB.out.cell (World.block_lt_of_cell? w _ hx371_0)).trans hx371_0
      replace p371 := eq_true p371
      replace q371 := eq_true q371
      refine ji (n := 16) (S := fun w' => w'.cell? ⟨gb365, 0, none⟩ = some (.int .i64 EU) ∧ w'.cell? ⟨gb365, 1, none⟩ = some (.slice A0_1 E8.length c0_1) ∧ w'.cell? (ad369.add (x8_1).toNat) = some (.string (dD ByteArray.empty l2 x8_1)) ∧ w'.cell? (ad369.add (x8_1).toNat) = some (.string (dD ByteArray.empty l2 x8_1))) (ds := []) #[F,F,F,F,F,F,F,F,F,F,F,F,F,F,F,F] (by kernel_rfl) rfl rfl ⟨(av BK365.out 0).trans rfl, (av BK365.out 1).trans rfl, ((HB.out.cell (World.block_lt_of_cell? w _ hw369_0)).trans hw369_0), ((HB.out.cell (World.block_lt_of_cell? w _ hw371_0)).trans hw371_0)⟩ (fun hHeld => ?_); refine gT bE.Cq bE.yY (fun HT_ HW_ => ?_)
      generalize wr.drew = w7000 at HO_7 BK365 HB hx369_0 hx371_0 hHeld ⊢
      refine puS (i := 1) (N := some 17) #[F,T,F,F,F,F,F,F,F,F,F,F,F,F,F,F] (aJ HT_.out (by kernel_rfl)) ?_
      refine puS (i := 2) (N := some 18) #[F,T,T,F,F,F,F,F,F,F,F,F,F,F,F,F] (aJ HT_.out (by kernel_rfl)) ?_
      refine puS (i := 3) (N := some 19) #[F,T,T,T,F,F,F,F,F,F,F,F,F,F,F,F] (aJ HT_.out (by kernel_rfl)) ?_
      refine puS (i := 4) (N := some 20) #[F,T,T,T,T,F,F,F,F,F,F,F,F,F,F,F] (aJ HT_.out (by kernel_rfl)) ?_
      refine taS (i := 0) (N := some 16) #[T,T,T,T,T,F,F,F,F,F,F,F,F,F,F,F] (dJ HT_.out HW_.out (by kernel_rfl)) hHeld ?_
      refine taS (i := 5) (N := some 21) #[T,T,T,T,T,T,F,F,F,F,F,F,F,F,F,F] (dJ HT_.out HW_.out (by kernel_rfl)) hHeld ?_
      refine kH (i := 6) (N := some 22) #[T,T,T,T,T,T,T,F,F,F,F,F,F,F,F,F] rfl rfl (iO HT_.out (by kernel_rfl)) (by decide) (fun K hK => ?_)
      refine iU Tryz.func160 #[.agg #[.int .i64 EU, .slice A0_1 E8.length c0_1], .slice A1 l1.length c1, .string (dD ByteArray.empty l2 x8_1)] ?_
      with_reducible refine (iR.calls k1 EU _ _ E8 _ _ l1 (dD ByteArray.empty l2 x8_1) _ _ ?side1 ?side2 ?side3 ?side4 A9.out).mono ?_
      (case side1 => exact CB HR0_1)
      (case side2 => exact HC0_1.out)
      (case side3 => exact CB HR1)
      (case side4 => exact HC1.out)
      rintro e w7001 ⟨rfl, hb⟩
      refine ⟨_, rfl, ?_⟩
      replace HO_7 := RB HO_7 hb
      replace BK365 := KB BK365 hb
      replace HB := BS (w := w) hb
      (try clear hb)
      obtain ⟨Ao7002, co7002, eo7002⟩ := Kd.dH HO_7.out
      (first | subst eo7002 | (injection eo7002 with f1_ f2_ f3_; have f4_ := f1_.symm; have f5_ := f3_.symm; clear f1_ f2_ f3_; subst f4_; subst f5_))
      refine hK.out _ _ ⟨(av BK365.out 0).trans rfl, (av BK365.out 1).trans rfl, ((HB.out.cell (World.block_lt_of_cell? w _ hw369_0)).trans hw369_0), ((HB.out.cell (World.block_lt_of_cell? w _ hw371_0)).trans hw371_0)⟩ (fun hHeld => ?_)
      clear hK K
      refine nrm (some 22) ?_
      refine puS (i := 7) (N := some 23) #[T,T,T,T,T,T,T,T,F,F,F,F,F,F,F,F] (aJ HT_.out (by kernel_rfl)) ?_
      refine puS (i := 8) (N := some 24) #[T,T,T,T,T,T,T,T,T,F,F,F,F,F,F,F] (aJ HT_.out (by kernel_rfl)) ?_
      refine puS (i := 9) (N := some 25) #[T,T,T,T,T,T,T,T,T,T,F,F,F,F,F,F] (aJ HT_.out (by kernel_rfl)) ?_
      refine puS (i := 10) (N := some 26) #[T,T,T,T,T,T,T,T,T,T,T,F,F,F,F,F] (aJ HT_.out (by kernel_rfl)) ?_
      refine puS (i := 11) (N := some 27) #[T,T,T,T,T,T,T,T,T,T,T,T,F,F,F,F] (aJ HT_.out (by kernel_rfl)) ?_
      refine taS (i := 12) (N := some 28) #[T,T,T,T,T,T,T,T,T,T,T,T,T,F,F,F] (dJ HT_.out HW_.out (by kernel_rfl)) hHeld ?_
      refine kH (i := 13) (N := some 29) #[T,T,T,T,T,T,T,T,T,T,T,T,T,T,F,F] rfl rfl (iO HT_.out (by kernel_rfl)) (by decide) (fun K hK => ?_)
      refine iU Tryz.func51 #[.slice Ao7002 x7_1.length co7002, .string (dD ByteArray.empty l2 x8_1)] ?_
      with_reducible refine (cu.calls k1 _ _ x7_1 (dD ByteArray.empty l2 x8_1) _ _ ?side1 ?side2 A11.out).mono ?_
      (case side1 => exact CR2 HO_7)
      (case side2 => exact (Kd.bN HO_7.out).2.1)
      rintro e w' ⟨rfl, ⟨nd, rfl⟩⟩
      refine ⟨_, rfl, ?_⟩
      refine hK.out _ _ ⟨(av BK365.out 0).trans rfl, (av BK365.out 1).trans rfl, ((HB.out.cell (World.block_lt_of_cell? w _ hw369_0)).trans hw369_0), ((HB.out.cell (World.block_lt_of_cell? w _ hw371_0)).trans hw371_0)⟩ (fun hHeld => ?_)
      clear hK K
      refine nrm (some 29) ?_
      refine puS (i := 14) (N := some 30) #[T,T,T,T,T,T,T,T,T,T,T,T,T,T,T,F] (aJ HT_.out (by kernel_rfl)) ?_
      refine puS (i := 15) (N := some 31) #[T,T,T,T,T,T,T,T,T,T,T,T,T,T,T,T] (aJ HT_.out (by kernel_rfl)) ?_
      refine gX (fH HT_.out (by kernel_rfl)) ?_
      try go_wp2
      go_roundg k1
      case measure => have := HK1.out; omega
      case rel => exact ⟨(x7_1), (wrap64 (x8_1 + 1)), EQ, H', ⟨by have := HK1.out; omega⟩, ⟨(RR HO_7)⟩, ⟨BK⟩, ⟨BL⟩⟩
     ·replace H := ifP H; obtain ⟨c16, H⟩ := H
      have LMc16 := ah.mk c16
      clear c16
      obtain ⟨y374, hy374⟩ : ∃ y_ : List ByteArray, y_ = (x7_1 ++ [dD ByteArray.empty l2 x8_1]) := ⟨_, rfl⟩
      replace H : (bE.l0 k1 l1 l2 y374 (wrap64 (x8_1 + 1)) EU E8) = some r := by first | (rw [hy374]; with_reducible exact H) | (have H2_ := (Option.bind_some _ _).symm.trans H; rw [hy374]; with_reducible exact H2_) | (have H2_ := (Option.bind_some _ _).symm.trans H; with_reducible exact H2_) | with_reducible exact H | (rw [hy374]; exact H) | exact H
      have Ny374 := ah.mk hy374
      clear hy374
      have H' := ah.mk H
      clear H
      obtain rfl : ad369 = ad371 := (by injection e371)
      try replace hx371_0 := (HB.out.cell (World.block_lt_of_cell? w _ hx371_0)).trans hx371_0
      replace p371 := eq_true p371
      replace q371 := eq_true q371
      refine ji (n := 16) (S := fun w' => w'.cell? ⟨gb365, 0, none⟩ = some (.int .i64 EU) ∧ w'.cell? ⟨gb365, 1, none⟩ = some (.slice A0_1 E8.length c0_1) ∧ w'.cell? (ad369.add (x8_1).toNat) = some (.string (dD ByteArray.empty l2 x8_1)) ∧ w'.cell? (ad369.add (x8_1).toNat) = some (.string (dD ByteArray.empty l2 x8_1))) (ds := []) #[F,F,F,F,F,F,F,F,F,F,F,F,F,F,F,F] (by kernel_rfl) rfl rfl ⟨(av BK365.out 0).trans rfl, (av BK365.out 1).trans rfl, ((HB.out.cell (World.block_lt_of_cell? w _ hw369_0)).trans hw369_0), ((HB.out.cell (World.block_lt_of_cell? w _ hw371_0)).trans hw371_0)⟩ (fun hHeld => ?_); refine gT bE.Cq bE.yY (fun HT_ HW_ => ?_)
      generalize wr.drew = w7000 at HO_7 BK365 HB hx369_0 hx371_0 hHeld ⊢
      refine puS (i := 1) (N := some 17) #[F,T,F,F,F,F,F,F,F,F,F,F,F,F,F,F] (aJ HT_.out (by kernel_rfl)) ?_
      refine puS (i := 2) (N := some 18) #[F,T,T,F,F,F,F,F,F,F,F,F,F,F,F,F] (aJ HT_.out (by kernel_rfl)) ?_
      refine puS (i := 3) (N := some 19) #[F,T,T,T,F,F,F,F,F,F,F,F,F,F,F,F] (aJ HT_.out (by kernel_rfl)) ?_
      refine puS (i := 4) (N := some 20) #[F,T,T,T,T,F,F,F,F,F,F,F,F,F,F,F] (aJ HT_.out (by kernel_rfl)) ?_
      refine taS (i := 0) (N := some 16) #[T,T,T,T,T,F,F,F,F,F,F,F,F,F,F,F] (dJ HT_.out HW_.out (by kernel_rfl)) hHeld ?_
      refine taS (i := 5) (N := some 21) #[T,T,T,T,T,T,F,F,F,F,F,F,F,F,F,F] (dJ HT_.out HW_.out (by kernel_rfl)) hHeld ?_
      refine kH (i := 6) (N := some 22) #[T,T,T,T,T,T,T,F,F,F,F,F,F,F,F,F] rfl rfl (iO HT_.out (by kernel_rfl)) (by decide) (fun K hK => ?_)
      refine iU Tryz.func160 #[.agg #[.int .i64 EU, .slice A0_1 E8.length c0_1], .slice A1 l1.length c1, .string (dD ByteArray.empty l2 x8_1)] ?_
      with_reducible refine (iR.calls k1 EU _ _ E8 _ _ l1 (dD ByteArray.empty l2 x8_1) _ _ ?side1 ?side2 ?side3 ?side4 A9.out).mono ?_
      (case side1 => exact CB HR0_1)
      (case side2 => exact HC0_1.out)
      (case side3 => exact CB HR1)
      (case side4 => exact HC1.out)
      rintro e w7001 ⟨rfl, hb⟩
      refine ⟨_, rfl, ?_⟩
      replace HO_7 := RB HO_7 hb
      replace BK365 := KB BK365 hb
      replace HB := BS (w := w) hb
      (try clear hb)
      obtain ⟨Ao7002, co7002, eo7002⟩ := Kd.dH HO_7.out
      (first | subst eo7002 | (injection eo7002 with f1_ f2_ f3_; have f4_ := f1_.symm; have f5_ := f3_.symm; clear f1_ f2_ f3_; subst f4_; subst f5_))
      refine hK.out _ _ ⟨(av BK365.out 0).trans rfl, (av BK365.out 1).trans rfl, ((HB.out.cell (World.block_lt_of_cell? w _ hw369_0)).trans hw369_0), ((HB.out.cell (World.block_lt_of_cell? w _ hw371_0)).trans hw371_0)⟩ (fun hHeld => ?_)
      clear hK K
      refine nrm (some 22) ?_
      refine puS (i := 7) (N := some 23) #[T,T,T,T,T,T,T,T,F,F,F,F,F,F,F,F] (aJ HT_.out (by kernel_rfl)) ?_
      refine puS (i := 8) (N := some 24) #[T,T,T,T,T,T,T,T,T,F,F,F,F,F,F,F] (aJ HT_.out (by kernel_rfl)) ?_
      refine puS (i := 9) (N := some 25) #[T,T,T,T,T,T,T,T,T,T,F,F,F,F,F,F] (aJ HT_.out (by kernel_rfl)) ?_
      refine puS (i := 10) (N := some 26) #[T,T,T,T,T,T,T,T,T,T,T,F,F,F,F,F] (aJ HT_.out (by kernel_rfl)) ?_
      refine puS (i := 11) (N := some 27) #[T,T,T,T,T,T,T,T,T,T,T,T,F,F,F,F] (aJ HT_.out (by kernel_rfl)) ?_
      refine taS (i := 12) (N := some 28) #[T,T,T,T,T,T,T,T,T,T,T,T,T,F,F,F] (dJ HT_.out HW_.out (by kernel_rfl)) hHeld ?_
      refine kH (i := 13) (N := some 29) #[T,T,T,T,T,T,T,T,T,T,T,T,T,T,F,F] rfl rfl (iO HT_.out (by kernel_rfl)) (by decide) (fun K hK => ?_)
      refine iU Tryz.func51 #[.slice Ao7002 x7_1.length co7002, .string (dD ByteArray.empty l2 x8_1)] ?_
      with_reducible refine (cu.calls k1 _ _ x7_1 (dD ByteArray.empty l2 x8_1) _ _ ?side1 ?side2 A11.out).mono ?_
      (case side1 => exact CR2 HO_7)
      (case side2 => exact (Kd.bN HO_7.out).2.1)
      rintro e w' ⟨rfl, ⟨nd, rfl⟩⟩
      refine ⟨_, rfl, ?_⟩
      refine hK.out _ _ ⟨(av BK365.out 0).trans rfl, (av BK365.out 1).trans rfl, ((HB.out.cell (World.block_lt_of_cell? w _ hw369_0)).trans hw369_0), ((HB.out.cell (World.block_lt_of_cell? w _ hw371_0)).trans hw371_0)⟩ (fun hHeld => ?_)
      clear hK K
      refine nrm (some 29) ?_
      refine puS (i := 14) (N := some 30) #[T,T,T,T,T,T,T,T,T,T,T,T,T,T,T,F] (aJ HT_.out (by kernel_rfl)) ?_
      refine puS (i := 15) (N := some 31) #[T,T,T,T,T,T,T,T,T,T,T,T,T,T,T,T] (aJ HT_.out (by kernel_rfl)) ?_
      refine gX (fH HT_.out (by kernel_rfl)) ?_
      have p373 : 0 ≤ (x8_1 : Int) := OD
      have q373 : x8_1 < (l2.length : Int) := OD
      obtain ⟨ad373, e373, hx373_0⟩ := Kd.gG HR2.out x8_1 p373 q373
      obtain rfl : ad369 = ad373 := (by injection e373)
      try replace hx373_0 := (HB.out.cell (World.block_lt_of_cell? w _ hx373_0)).trans hx373_0
      replace p373 := eq_true p373
      replace q373 := eq_true q373
      try go_wp2_with (first | ((with_reducible refine dn (b := .append) (xs := #[.tmp 32, .tmp 37]) rfl ?_); at_builtin; refine Kd.fT Kd.string (w0 := w) w.heap.size rfl (.tmp 32) (.tmp 37) 26 9 (.string ⟨#[]⟩) 16 rfl Tryz.underlying26 qX rfl (by decide) (by omega) (.slice Ao7002 x7_1.length co7002) x7_1 (dD ByteArray.empty l2 x8_1) [.string (dD ByteArray.empty l2 x8_1)] (fun _ => True) (fun _ => False) rfl rfl ?aP (fun _ hk => hk.elim) ?aF ?aO ?aB ?aS ?aL ?_; (case aP => exact rfl); (case aB => exact BL); (case aF => exact (fun _ _ => trivial)); (case aO => exact (RR HO_7)); (case aS => exact (aQ BL)); (case aL => have := LMc16.out; omega); intro v375 w7003 ho hb hg hat; rw [← Ny374.out] at ho; have n0_ := ah.mk (dK (g := gb365) (o := .cells #[.int .i64 EU, .slice A0_1 E8.length c0_1] 82 (0, 0)) BK hg (Kd.lq HO_7.out BK365.out (by decide))); have n1_ := ah.mk (hb); have n2_ := ah.mk (ho); clear BK365 HB HO_7; have BK365 := n0_; have HB := n1_; have HO376 := n2_; clear n0_ n1_ n2_; clear ho hb hg hat))
      go_roundg k1
      case measure => have := HK1.out; omega
      case rel => exact ⟨(y374), (wrap64 (x8_1 + 1)), EQ, H', ⟨by have := HK1.out; omega⟩, ⟨(RR HO376)⟩, ⟨BK⟩, ⟨BL⟩⟩
    ·have H' := ah.mk H
     clear H
     refine ji (n := 16) (S := fun w' => w'.cell? ⟨gb365, 0, none⟩ = some (.int .i64 EU) ∧ w'.cell? ⟨gb365, 1, none⟩ = some (.slice A0_1 E8.length c0_1) ∧ w'.cell? (ad369.add (x8_1).toNat) = some (.string (dD ByteArray.empty l2 x8_1))) (ds := []) #[F,F,F,F,F,F,F,F,F,F,F,F,F,F,F,F] (by kernel_rfl) rfl rfl ⟨(av BK365.out 0).trans rfl, (av BK365.out 1).trans rfl, ((HB.out.cell (World.block_lt_of_cell? w _ hw369_0)).trans hw369_0)⟩ (fun hHeld => ?_); refine gT bE.Cq bE.yY (fun HT_ HW_ => ?_)
     generalize wr.drew = w7000 at HO_7 BK365 HB hx369_0 hHeld ⊢
     refine puS (i := 1) (N := some 17) #[F,T,F,F,F,F,F,F,F,F,F,F,F,F,F,F] (aJ HT_.out (by kernel_rfl)) ?_
     refine puS (i := 2) (N := some 18) #[F,T,T,F,F,F,F,F,F,F,F,F,F,F,F,F] (aJ HT_.out (by kernel_rfl)) ?_
     refine puS (i := 3) (N := some 19) #[F,T,T,T,F,F,F,F,F,F,F,F,F,F,F,F] (aJ HT_.out (by kernel_rfl)) ?_
     refine puS (i := 4) (N := some 20) #[F,T,T,T,T,F,F,F,F,F,F,F,F,F,F,F] (aJ HT_.out (by kernel_rfl)) ?_
     refine taS (i := 0) (N := some 16) #[T,T,T,T,T,F,F,F,F,F,F,F,F,F,F,F] (dJ HT_.out HW_.out (by kernel_rfl)) hHeld ?_
     refine taS (i := 5) (N := some 21) #[T,T,T,T,T,T,F,F,F,F,F,F,F,F,F,F] (dJ HT_.out HW_.out (by kernel_rfl)) hHeld ?_
     refine kH (i := 6) (N := some 22) #[T,T,T,T,T,T,T,F,F,F,F,F,F,F,F,F] rfl rfl (iO HT_.out (by kernel_rfl)) (by decide) (fun K hK => ?_)
     refine iU Tryz.func160 #[.agg #[.int .i64 EU, .slice A0_1 E8.length c0_1], .slice A1 l1.length c1, .string (dD ByteArray.empty l2 x8_1)] ?_
     with_reducible refine (iR.calls k1 EU _ _ E8 _ _ l1 (dD ByteArray.empty l2 x8_1) _ _ ?side1 ?side2 ?side3 ?side4 A9.out).mono ?_
     (case side1 => exact CB HR0_1)
     (case side2 => exact HC0_1.out)
     (case side3 => exact CB HR1)
     (case side4 => exact HC1.out)
     rintro e w7001 ⟨rfl, hb⟩
     refine ⟨_, rfl, ?_⟩
     replace HO_7 := RB HO_7 hb
     replace BK365 := KB BK365 hb
     replace HB := BS (w := w) hb
     (try clear hb)
     refine hK.out _ _ ⟨(av BK365.out 0).trans rfl, (av BK365.out 1).trans rfl, ((HB.out.cell (World.block_lt_of_cell? w _ hw369_0)).trans hw369_0)⟩ (fun hHeld => ?_)
     clear hK K
     refine nrm (some 22) ?_
     refine puS (i := 7) (N := some 23) #[T,T,T,T,T,T,T,T,F,F,F,F,F,F,F,F] (aJ HT_.out (by kernel_rfl)) ?_
     refine puU (i := 8) (N := some 24) #[T,T,T,T,T,T,T,T,T,F,F,F,F,F,F,F] (aJ HT_.out (by kernel_rfl)) ?_
     refine puU (i := 9) (N := some 25) #[T,T,T,T,T,T,T,T,T,T,F,F,F,F,F,F] (aJ HT_.out (by kernel_rfl)) ?_
     refine puU (i := 10) (N := some 26) #[T,T,T,T,T,T,T,T,T,T,T,F,F,F,F,F] (aJ HT_.out (by kernel_rfl)) ?_
     refine puU (i := 11) (N := some 27) #[T,T,T,T,T,T,T,T,T,T,T,T,F,F,F,F] (aJ HT_.out (by kernel_rfl)) ?_
     refine puU (i := 12) (N := some 28) #[T,T,T,T,T,T,T,T,T,T,T,T,T,F,F,F] (aJ HT_.out (by kernel_rfl)) ?_
     refine puU (i := 13) (N := some 29) #[T,T,T,T,T,T,T,T,T,T,T,T,T,T,F,F] (aJ HT_.out (by kernel_rfl)) ?_
     refine puU (i := 14) (N := some 30) #[T,T,T,T,T,T,T,T,T,T,T,T,T,T,T,F] (aJ HT_.out (by kernel_rfl)) ?_
     refine puS (i := 15) (N := some 31) #[T,T,T,T,T,T,T,T,T,T,T,T,T,T,T,T] (aJ HT_.out (by kernel_rfl)) ?_
     refine gX (fH HT_.out (by kernel_rfl)) ?_
     try go_wp2
     go_roundg k1
     case measure => have := HK1.out; omega
     case rel => exact ⟨(x7_1), (wrap64 (x8_1 + 1)), EQ, H', ⟨by have := HK1.out; omega⟩, ⟨(RR HO_7)⟩, ⟨BK⟩, ⟨BL⟩⟩
   ·obtain rfl := Option.some.inj H
    go_wp2
    go_ret
    exact ⟨_, EWW, (RR HO_7), BL⟩
def jL.f (k : Nat) (EU : Int) (E8 : List (bZ)) (l1 : List (S84)) (l2 : List ByteArray) (a3 : ByteArray) : Option (Int) := (jG.f k EU E8).bind fun t378 => (if t378 = true then ((dY.f k l1 a3 EU).bind fun t379 => (if t379 = true then ((ko.f k E8 a3).bind fun t380 => (if t380 = true then ((dU.f k E8).bind fun t381 => ((cu.f k t381 a3).bind fun t384 => (if t384 = true then (some 4) else ((bE.f k EU E8 l1 l2).bind fun t385 => (if (t385.length : Int) = 1 then (if 0 < (t385.length : Int) then (if (dD ByteArray.empty t385 0).toList = a3.toList then (some 0) else (some 5)) else (none)) else (some 5)))))) else (some 3))) else (some 2))) else (some 1))
theorem jL.calls (k : Nat) (EU : Int) (A0_1 : Option Addr) (c0_1 : Nat) (E8 : List (bZ)) (A1 : Option Addr) (c1 : Nat) (l1 : List (S84)) (A2 : Option Addr) (c2 : Nat) (l2 : List ByteArray) (a3 : ByteArray) (r : Int) (w : World) (hr0_1 : Kd.C je w A0_1 E8.length E8) (hc0_1 : E8.length ≤ c0_1) (hr1 : Kd.C k84 w A1 l1.length l1) (hc1 : l1.length ≤ c1) (hr2 : Kd.C Kd.string w A2 l2.length l2) (hc2 : l2.length ≤ c2) (h : jL.f k EU E8 l1 l2 a3 = some r) :
  Calls Tryz.prog 52 #[.agg #[.int .i64 EU, .slice A0_1 E8.length c0_1], .slice A1 l1.length c1, .slice A2 l2.length c2, .string a3] w fun e w' => e = .returned (.int .i64 r) ∧ Below w.heap.size w w' := by
 have hu82 := Tryz.underlying82
 have HR0_1 := ah.mk hr0_1
 have HC0_1 := ah.mk hc0_1
 clear hr0_1 hc0_1
 have HR1 := ah.mk hr1
 have HC1 := ah.mk hc1
 clear hr1 hc1
 have HR2 := ah.mk hr2
 have HC2 := ah.mk hc2
 clear hr2 hc2
 have HB := ah.mk (Below.refl w.heap.size w)
 unfold jL.f at h
 have H := h
 clear h
 replace H := be H; obtain ⟨t378, A5, H⟩ := H
 replace H := ah.mk H
 go_enter Tryz.func52, Tryz.ntmps52
 go_wp2_with (first | ((with_reducible refine aN (N := 4) rfl ?_); refine bC (N := 4) (cs := #[.int .i64 EU, .slice A0_1 E8.length c0_1]) (t := 82) ?_; intro gb377 hg w9000 hbox hb; have BK377 := ah.mk hbox; have GW377 := SZ (w := w) hg; have GE377 := GW377; replace HB := BS (w := w) hb; clear hb hbox hg; obtain ⟨hcz9001_0, hcz9001_1, hfz9001_0, hfz9001_1⟩ := cz2 BK377.out) | ((with_reducible refine ay (f := 102) rfl ?_); refine bq (some 12) Tryz.func102 #[.agg #[.int .i64 EU, .slice A0_1 E8.length c0_1]] ?_; (with_reducible refine (jG.calls k EU _ _ E8 _ _ ?side1 ?side2 A5.out).mono ?_); (case side1 => exact CB HR0_1); (case side2 => exact HC0_1.out); rintro e w9002 ⟨rfl, hb⟩; refine ⟨_, rfl, ?_⟩; replace BK377 := KB BK377 hb; replace HB := BS (w := w) hb; (try clear hb); obtain ⟨hcz9003_0, hcz9003_1, hfz9003_0, hfz9003_1⟩ := cz2 BK377.out; refine bP ?_))
 refine Hide.mk ?_
 replace H := H.out
 replace H := ifB H; rcases H with ⟨rfl, H⟩ | ⟨rfl, H⟩
 ·replace H := be H; obtain ⟨t379, A7, H⟩ := H
  replace H := ah.mk H
  go_wp2_with (first | ((with_reducible refine ay (f := 103) rfl ?_); refine bq (some 19) Tryz.func103 #[.slice A1 l1.length c1, .string a3, .int .i64 EU] ?_; (with_reducible refine (dY.calls k _ _ l1 a3 EU _ _ ?side1 ?side2 A7.out).mono ?_); (case side1 => exact CB HR1); (case side2 => exact HC1.out); rintro e w' ⟨rfl, ⟨nd, rfl⟩⟩; refine ⟨_, rfl, ?_⟩; refine bP ?_))
  refine Hide.mk ?_
  replace H := H.out
  replace H := ifB H; rcases H with ⟨rfl, H⟩ | ⟨rfl, H⟩
  ·replace H := be H; obtain ⟨t380, A9, H⟩ := H
   replace H := ah.mk H
   go_wp2_with (first | ((with_reducible refine ay (f := 104) rfl ?_); refine bq (some 25) Tryz.func104 #[.slice A0_1 E8.length c0_1, .string a3] ?_; (with_reducible refine (ko.calls k _ _ E8 a3 _ _ ?side1 ?side2 A9.out).mono ?_); (case side1 => repeat (first | exact (Kd.gP HR0_1.out BL) | (with_reducible refine Kd.eG ?_ _) | (with_reducible refine Kd.eH ?_ _) | (with_reducible refine Kd.fP ?_))); (case side2 => exact HC0_1.out); rintro e w9004 ⟨rfl, hb⟩; refine ⟨_, rfl, ?_⟩; replace BK377 := KB BK377 hb; replace HB := BS (w := w) hb; (try clear hb); obtain ⟨hcz9005_0, hcz9005_1, hfz9005_0, hfz9005_1⟩ := cz2 BK377.out; refine bP ?_))
   refine Hide.mk ?_
   replace H := H.out
   replace H := ifB H; rcases H with ⟨rfl, H⟩ | ⟨rfl, H⟩
   ·replace H := be H; obtain ⟨t381, A11, H⟩ := H
    replace H := be H; obtain ⟨t384, A12, H⟩ := H
    replace H := ah.mk H
    go_wp2_with (first | ((with_reducible refine ay (f := 105) rfl ?_); refine bq (some 30) Tryz.func105 #[.slice A0_1 E8.length c0_1] ?_; (with_reducible refine (dU.calls k _ _ E8 t381 _ ?side1 ?side2 A11.out).mono ?_); (case side1 => exact CB HR0_1); (case side2 => exact HC0_1.out); rintro e w9006 ⟨v382, rfl, ho0, hb⟩; refine ⟨_, rfl, ?_⟩; have n0_ := ah.mk (Kd.cO ho0 (aQ BL)); replace BK377 := KB BK377 hb; replace HB := BS (w := w) hb; have HO383 := n0_; clear n0_; (try clear hb); (try clear ho0); obtain ⟨Ao9007, co9007, eo9007⟩ := Kd.dH HO383.out; subst eo9007) | ((with_reducible refine ay (f := 51) rfl ?_); refine bq (some 32) Tryz.func51 #[.slice Ao9007 t381.length co9007, .string a3] ?_; (with_reducible refine (cu.calls k _ _ t381 a3 _ _ ?side1 ?side2 A12.out).mono ?_); (case side1 => exact CR2 HO383); (case side2 => exact (Kd.bN HO383.out).2.1); rintro e w' ⟨rfl, ⟨nd, rfl⟩⟩; refine ⟨_, rfl, ?_⟩; obtain ⟨hcz9008_0, hcz9008_1, hfz9008_0, hfz9008_1⟩ := cz2 BK377.out; refine bP ?_))
    refine Hide.mk ?_
    replace H := H.out
    replace H := ifB H; rcases H with ⟨rfl, H⟩ | ⟨rfl, H⟩
    ·obtain rfl := Option.some.inj H
     try go_wp2
     go_ret
     exact ⟨EWW, BL⟩
    ·replace H := be H; obtain ⟨t385, A22, H⟩ := H
     replace H := ah.mk H
     go_wp2_with (first | ((with_reducible refine ay (f := 106) rfl ?_); refine bq (some 36) Tryz.func106 #[.agg #[.int .i64 EU, .slice A0_1 E8.length c0_1], .slice A1 l1.length c1, .slice A2 l2.length c2] ?_; (with_reducible refine (bE.calls k EU _ _ E8 _ _ l1 _ _ l2 t385 _ ?side1 ?side2 ?side3 ?side4 ?side5 ?side6 A22.out).mono ?_); (case side1 => repeat (first | exact (Kd.gP HR0_1.out BL) | (with_reducible refine Kd.eG ?_ _) | (with_reducible refine Kd.eH ?_ _) | (with_reducible refine Kd.fP ?_))); (case side2 => exact HC0_1.out); (case side3 => repeat (first | exact (Kd.gP HR1.out BL) | (with_reducible refine Kd.eG ?_ _) | (with_reducible refine Kd.eH ?_ _) | (with_reducible refine Kd.fP ?_))); (case side4 => exact HC1.out); (case side5 => repeat (first | exact (Kd.gP HR2.out BL) | (with_reducible refine Kd.eG ?_ _) | (with_reducible refine Kd.eH ?_ _) | (with_reducible refine Kd.fP ?_))); (case side6 => exact HC2.out); rintro e w9009 ⟨v386, rfl, ho0, hb⟩; refine ⟨_, rfl, ?_⟩; have n0_ := ah.mk (Kd.jB (RR HO383) (Kd.kK ho0) hb); have n1_ := ah.mk (Kd.cO (Kd.lG ho0 (Kd.oI (RR HO383))) (aQ BL)); replace BK377 := KB BK377 hb; replace HB := BS (w := w) hb; clear HO383; have HO383 := n0_; have HO387 := n1_; clear n0_ n1_; (try clear hb); (try clear ho0); obtain ⟨Ao9010, co9010, eo9010⟩ := Kd.dH HO387.out; subst eo9010; have p388 : 0 ≤ (0 : Int) := (by omega); refine bP ?_))
     refine Hide.mk ?_
     replace H := H.out
     replace H := ifE H; rcases H with ⟨c23b0, c23b1, H⟩ | ⟨c23, c23b0, c23b1, H⟩
     ·replace H := ifP H; obtain ⟨c24, H⟩ := H
      have c24b0 : decide (0 < (t385.length : Int)) = true := decide_eq_true c24
      have c24b1 : decide (0 < t385.length) = true := decide_eq_true (by omega)
      clear c24
      replace H := ah.mk H
      have q388 : 0 < (t385.length : Int) := OD
      obtain ⟨ad388, e388, hx388_0⟩ := Kd.gG (Kd.bN HO387.out).2.2 0 p388 q388
      cases e388
      have qi388 : (0 < t385.length) = True := eq_true (by omega)
      (try rw [show ((0 : Int)).toNat = 0 from rfl] at hx388_0)
      (try rw [Addr.add_zero'] at hx388_0)
      replace p388 := eq_true p388
      replace q388 := eq_true q388
      replace H := H.out
      replace H := ifE H; rcases H with ⟨c25b0, c25b1, H⟩ | ⟨c25, c25b0, c25b1, H⟩
      ·obtain rfl := Option.some.inj H
       try go_wp2
       go_ret
       exact ⟨EWW, BL⟩
      ·obtain rfl := Option.some.inj H
       try go_wp2
       go_ret
       exact ⟨EWW, BL⟩
     ·obtain rfl := Option.some.inj H
      try go_wp2
      go_ret
      exact ⟨EWW, BL⟩
   ·obtain rfl := Option.some.inj H
    try go_wp2
    go_ret
    exact ⟨EWW, BL⟩
  ·obtain rfl := Option.some.inj H
   try go_wp2
   go_ret
   exact ⟨EWW, BL⟩
 ·obtain rfl := Option.some.inj H
  try go_wp2
  go_ret
  exact ⟨EWW, BL⟩
end Go.Proofs.YtnfiedfaaaphoaaGreat.PFnExactPuzzleCode
