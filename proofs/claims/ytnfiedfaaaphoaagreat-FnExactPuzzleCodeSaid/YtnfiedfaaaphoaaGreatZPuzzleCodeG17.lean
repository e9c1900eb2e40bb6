/- Walks of functions: what each computes. -/
import Derived.Test.YtnfiedfaaaphoaaGreatZPuzzleCodeG0
import Derived.Test.YtnfiedfaaaphoaaGreatZPuzzleCodeG9
import Derived.Test.YtnfiedfaaaphoaaGreatZPuzzleCodeG10
import Derived.Test.YtnfiedfaaaphoaaGreatZPuzzleCodeG16
import Derived.Test.YtnfiedfaaaphoaaGreatZPuzzleCodeW
import Derived.Test.YtnfiedfaaaphoaaGreatZPuzzleCodeShelf
import Derived.Test.YtnfiedfaaaphoaaGreatZPuzzleCodeHandSort
import Derived.Test.YtnfiedfaaaphoaaGreatZPuzzleCodeHandForm
import Derived.Test.YtnfiedfaaaphoaaGreatZPuzzleCodeHandAlone
import Derived.Test.YtnfiedfaaaphoaaGreatZPuzzleCodeHandReach
import Derived.Test.YtnfiedfaaaphoaaGreatZPuzzleCodeHandPut
namespace Go.Proofs.YtnfiedfaaaphoaaGreat.PFnExactPuzzleCode
open Go.RowKit Go.Proofs.YtnfiedfaaaphoaaGreatW.PrintWords Go.Proofs.YtnfiedfaaaphoaaGreatW.PrintLast Go.Proofs.YtnfiedfaaaphoaaGreatW.PrintMore Go.Proofs.YtnfiedfaaaphoaaGreat.Sq
attribute [local go_sem] iH iJ jD jC gV gU iK iG
set_option maxHeartbeats 8000000
set_option maxRecDepth 100000
set_option linter.unusedVariables false
set_option linter.unusedSimpArgs false
def dA.l0 : Nat → List (bZ) → List (bZ) → Int → Option (Bool)
 | 0, _, _, _ => none
 | k + 1, a, b, c => if c < (a.length : Int) then (if 0 ≤ c then (if c < (b.length : Int) then ((lQ.f ((aj a c).f0) ((aj a c).f1) ((aj a c).f2) ((aj a c).f3) ((aj b c).f0) ((aj b c).f1) ((aj b c).f2) ((aj b c).f3)).bind fun d => (if d = true then (dA.l0 k a b (wrap64 (c + 1))) else (some false))) else (none)) else (none)) else (some true)
def dA.f (k : Nat) (l0 l1 : List (bZ)) : Option (Bool) := if (l0.length : Int) = (l1.length : Int) then (dA.l0 k l0 l1 0) else (some false)
def dA.T6 : Bool × List (List Nat × List Nat) := (true, [([], []), ([], []), ([0, 1], [0, 1]), ([2], [2]), ([], []), ([], []), ([4, 5], [4, 5]), ([6], [6]), ([3, 7], [3, 7]), ([8], [8])])
def dA.B6 : List Nat := [0, 0, 3, 7, 0, 0, 48, 112, 255, 511]
theorem dA.zN : kD .any (opsOf Tryz.f124 6) = dA.T6 := by kernel_rfl
theorem dA.wD : iZ dA.T6.2 dA.B6 = true := by kernel_rfl
theorem dA.calls (k : Nat) (A0 : Option Addr) (c0 : Nat) (l0 : List (bZ)) (A1 : Option Addr) (c1 : Nat) (l1 : List (bZ)) (r : Bool) (w : World) (hr0 : Kd.C je w A0 l0.length l0) (hc0 : l0.length ≤ c0) (hr1 : Kd.C je w A1 l1.length l1) (hc1 : l1.length ≤ c1) (h : dA.f k l0 l1 = some r) :
  Calls Tryz.prog 124 #[.slice A0 l0.length c0, .slice A1 l1.length c1] w fun e w' => e = .returned (.bool r) ∧ Below w.heap.size w w' := by
 have hu141 := Tryz.underlying141
 have HR0 := ah.mk hr0
 have HC0 := ah.mk hc0
 clear hr0 hc0
 have HR1 := ah.mk hr1
 have HC1 := ah.mk hc1
 clear hr1 hc1
 have HB := ah.mk (Below.refl w.heap.size w)
 unfold dA.f at h
 have H := h
 clear h
 replace H := ah.mk H
 go_enter Tryz.func124, Tryz.ntmps124
 replace H := H.out
 by_cases c3 : (l0.length : Int) = (l1.length : Int)
 ·rw [if_pos c3] at H
  have c3b0 : ((l0.length : Int) == (l1.length : Int)) = true := beq_iff_eq.mpr c3
  have c3b1 : ((l0.length : Int) != (l1.length : Int)) = false := bne_eq_false_iff_eq.mpr c3
  have c3b2 : (l0.length == l1.length) = true := by first | simpa using c3 | (simp at c3 ⊢; omega)
  clear c3
  have H' := ah.mk H
  clear H
  try go_wp2
  go_loopg [5] k (fun kq v5 w' => ∃ (x5_1 : Int), v5 = .int .i64 x5_1 ∧ ah (dA.l0 kq l0 l1 x5_1 = some r) ∧ ah (kq ≤ k) ∧ ah (Below w.heap.size w w'))
  case atStart => exact ⟨(0), EQ, H', ⟨Nat.le_refl _⟩, ⟨BL⟩⟩
  case round =>
   clear H'
   try clear c1
   try clear c3
   try clear c3b0
   try clear c3b1
   try clear c3b2
   obtain ⟨x5_1, rfl, HA, HK1, HB⟩ := hrel
   cases gk with
   | zero => exact absurd HA.out (by simp [dA.l0])
   | succ k1 =>
    have H := HA.out
    clear HA
    simp only [dA.l0] at H
    replace H := ifD H; rcases H with ⟨c4b0, H⟩ | ⟨c4b0, H⟩
    ·replace H := ifN H; obtain ⟨c5b0, H⟩ := H
     replace H := ifN H; obtain ⟨c6b0, H⟩ := H
     replace H := be H; obtain ⟨t658, A7, H⟩ := H
     replace H := ah.mk H
     try go_wp2
     replace HB := ah.mk (dL HB.out)
     have p656 : 0 ≤ (x5_1 : Int) := OD
     have q656 : x5_1 < (l0.length : Int) := OD
     obtain ⟨ad656, e656, hx656_0, hx656_1, hx656_2, hx656_3⟩ := jh HR0.out x5_1 p656 q656
     have hw656_3 := hx656_3
     have hw656_2 := hx656_2
     have hw656_1 := hx656_1
     have hw656_0 := hx656_0
     cases e656
     try replace hx656_0 := (HB.out.cell (World.block_lt_of_cell? w _ hx656_0)).trans hx656_0
     try replace hx656_1 := (HB.out.cell (World.block_lt_of_cell? w _ hx656_1)).trans hx656_1
     try replace hx656_2 := (HB.out.cell (World.block_lt_of_cell? w _ hx656_2)).trans hx656_2
     try replace hx656_3 := (HB.out.cell (World.block_lt_of_cell? w _ hx656_3)).trans hx656_3
     replace p656 := eq_true p656
     replace q656 := eq_true q656
     have p657 : 0 ≤ (x5_1 : Int) := OD
     have q657 : x5_1 < (l1.length : Int) := OD
     obtain ⟨ad657, e657, hx657_0, hx657_1, hx657_2, hx657_3⟩ := jh HR1.out x5_1 p657 q657
     have hw657_3 := hx657_3
     have hw657_2 := hx657_2
     have hw657_1 := hx657_1
     have hw657_0 := hx657_0
     cases e657
     try replace hx657_0 := (HB.out.cell (World.block_lt_of_cell? w _ hx657_0)).trans hx657_0
     try replace hx657_1 := (HB.out.cell (World.block_lt_of_cell? w _ hx657_1)).trans hx657_1
     try replace hx657_2 := (HB.out.cell (World.block_lt_of_cell? w _ hx657_2)).trans hx657_2
     try replace hx657_3 := (HB.out.cell (World.block_lt_of_cell? w _ hx657_3)).trans hx657_3
     replace p657 := eq_true p657
     replace q657 := eq_true q657
     refine ji (n := 10) (S := fun w' => w'.cell? (ad656.add ((x5_1).toNat * 4)) = some (.int .i64 ((aj l0 x5_1).f0)) ∧ w'.cell? ⟨(ad656.add ((x5_1).toNat * 4)).block, (ad656.add ((x5_1).toNat * 4)).off + 1, none⟩ = some (.string ((aj l0 x5_1).f1)) ∧ w'.cell? ⟨(ad656.add ((x5_1).toNat * 4)).block, (ad656.add ((x5_1).toNat * 4)).off + 2, none⟩ = some (.int .i64 ((aj l0 x5_1).f2)) ∧ w'.cell? ⟨(ad656.add ((x5_1).toNat * 4)).block, (ad656.add ((x5_1).toNat * 4)).off + 3, none⟩ = some (.int .i64 ((aj l0 x5_1).f3)) ∧ w'.cell? (ad657.add ((x5_1).toNat * 4)) = some (.int .i64 ((aj l1 x5_1).f0)) ∧ w'.cell? ⟨(ad657.add ((x5_1).toNat * 4)).block, (ad657.add ((x5_1).toNat * 4)).off + 1, none⟩ = some (.string ((aj l1 x5_1).f1)) ∧ w'.cell? ⟨(ad657.add ((x5_1).toNat * 4)).block, (ad657.add ((x5_1).toNat * 4)).off + 2, none⟩ = some (.int .i64 ((aj l1 x5_1).f2)) ∧ w'.cell? ⟨(ad657.add ((x5_1).toNat * 4)).block, (ad657.add ((x5_1).toNat * 4)).off + 3, none⟩ = some (.int .i64 ((aj l1 x5_1).f3))) (ds := []) #[F,F,F,F,F,F,F,F,F,F] (by kernel_rfl) rfl rfl ⟨((HB.out.cell (World.block_lt_of_cell? w _ hw656_0)).trans hw656_0), ((HB.out.cell (World.block_lt_of_cell? w _ hw656_1)).trans hw656_1), ((HB.out.cell (World.block_lt_of_cell? w _ hw656_2)).trans hw656_2), ((HB.out.cell (World.block_lt_of_cell? w _ hw656_3)).trans hw656_3), ((HB.out.cell (World.block_lt_of_cell? w _ hw657_0)).trans hw657_0), ((HB.out.cell (World.block_lt_of_cell? w _ hw657_1)).trans hw657_1), ((HB.out.cell (World.block_lt_of_cell? w _ hw657_2)).trans hw657_2), ((HB.out.cell (World.block_lt_of_cell? w _ hw657_3)).trans hw657_3)⟩ (fun hHeld => ?_); refine gT dA.zN dA.wD (fun HT_ HW_ => ?_)
     generalize wr.drew = w9000 at HB hx656_0 hx656_1 hx656_2 hx656_3 hx657_0 hx657_1 hx657_2 hx657_3 hHeld ⊢
     refine puS (i := 0) (N := some 17) #[T,F,F,F,F,F,F,F,F,F] (aJ HT_.out (by kernel_rfl)) ?_
     refine puS (i := 1) (N := some 18) #[T,T,F,F,F,F,F,F,F,F] (aJ HT_.out (by kernel_rfl)) ?_
     refine puS (i := 2) (N := some 19) #[T,T,T,F,F,F,F,F,F,F] (aJ HT_.out (by kernel_rfl)) ?_
     refine puS (i := 4) (N := some 21) #[T,T,T,F,T,F,F,F,F,F] (aJ HT_.out (by kernel_rfl)) ?_
     refine puS (i := 5) (N := some 22) #[T,T,T,F,T,T,F,F,F,F] (aJ HT_.out (by kernel_rfl)) ?_
     refine puS (i := 6) (N := some 23) #[T,T,T,F,T,T,T,F,F,F] (aJ HT_.out (by kernel_rfl)) ?_
     refine taS (i := 3) (N := some 20) #[T,T,T,T,T,T,T,F,F,F] (dJ HT_.out HW_.out (by kernel_rfl)) hHeld ?_
     refine taS (i := 7) (N := some 24) #[T,T,T,T,T,T,T,T,F,F] (dJ HT_.out HW_.out (by kernel_rfl)) hHeld ?_
     refine kH (i := 8) (N := some 25) #[T,T,T,T,T,T,T,T,T,F] rfl rfl (iO HT_.out (by kernel_rfl)) (by decide) (fun K hK => ?_)
     refine iU Tryz.func173 #[.agg #[.int .i64 ((aj l0 x5_1).f0), .string ((aj l0 x5_1).f1), .int .i64 ((aj l0 x5_1).f2), .int .i64 ((aj l0 x5_1).f3)], .agg #[.int .i64 ((aj l1 x5_1).f0), .string ((aj l1 x5_1).f1), .int .i64 ((aj l1 x5_1).f2), .int .i64 ((aj l1 x5_1).f3)]] ?_
     with_reducible refine (lQ.calls ((aj l0 x5_1).f0) ((aj l0 x5_1).f1) ((aj l0 x5_1).f2) ((aj l0 x5_1).f3) ((aj l1 x5_1).f0) ((aj l1 x5_1).f1) ((aj l1 x5_1).f2) ((aj l1 x5_1).f3) _ _ A7.out).mono ?_
     rintro e w9001 ⟨rfl, hb⟩
     refine ⟨_, rfl, ?_⟩
     replace HB := BS (w := w) hb
     (try clear hb)
     refine hK.out _ _ ⟨((HB.out.cell (World.block_lt_of_cell? w _ hw656_0)).trans hw656_0), ((HB.out.cell (World.block_lt_of_cell? w _ hw656_1)).trans hw656_1), ((HB.out.cell (World.block_lt_of_cell? w _ hw656_2)).trans hw656_2), ((HB.out.cell (World.block_lt_of_cell? w _ hw656_3)).trans hw656_3), ((HB.out.cell (World.block_lt_of_cell? w _ hw657_0)).trans hw657_0), ((HB.out.cell (World.block_lt_of_cell? w _ hw657_1)).trans hw657_1), ((HB.out.cell (World.block_lt_of_cell? w _ hw657_2)).trans hw657_2), ((HB.out.cell (World.block_lt_of_cell? w _ hw657_3)).trans hw657_3)⟩ (fun hHeld => ?_)
     clear hK K
     refine nrm (some 25) ?_
     replace H := H.out
     replace H := ifB H; rcases H with ⟨rfl, H⟩ | ⟨rfl, H⟩
     ·have H' := ah.mk H
      clear H
      refine puS (i := 9) (N := some 26) #[T,T,T,T,T,T,T,T,T,T] (aJ HT_.out (by kernel_rfl)) ?_
      refine gX (fH HT_.out (by kernel_rfl)) ?_
      try go_wp2
      go_roundg k1
      case measure => have := HK1.out; omega
      case rel => exact ⟨(wrap64 (x5_1 + 1)), EQ, H', ⟨by have := HK1.out; omega⟩, ⟨BL⟩⟩
     ·obtain rfl := Option.some.inj H
      refine puS (i := 9) (N := some 26) #[T,T,T,T,T,T,T,T,T,T] (aJ HT_.out (by kernel_rfl)) ?_
      refine gX (fH HT_.out (by kernel_rfl)) ?_
      try go_wp2
      go_ret
      exact ⟨EWW, BL⟩
    ·obtain rfl := Option.some.inj H
     go_wp2
     go_ret
     exact ⟨EWW, BL⟩
 ·rw [if_neg c3] at H
  have c3b0 : ((l0.length : Int) == (l1.length : Int)) = false := beq_eq_false_iff_ne.mpr c3
  have c3b1 : ((l0.length : Int) != (l1.length : Int)) = true := bne_iff_ne.mpr c3
  have c3b2 : (l0.length == l1.length) = false := by first | simpa using c3 | (simp at c3 ⊢; omega)
  obtain rfl := Option.some.inj H
  try go_wp2
  go_ret
  exact ⟨EWW, BL⟩
def kF.f (k : Nat) (EU : Int) (E8 : List (bZ)) (EY : Int) (l1_1 : List (bZ)) : Option (Bool) := if EU = EY then ((dA.f k E8 l1_1).bind fun t661 => (if t661 = true then (some true) else (some false))) else (some false)
theorem kF.calls (k : Nat) (EU : Int) (A0_1 : Option Addr) (c0_1 : Nat) (E8 : List (bZ)) (EY : Int) (A1_1 : Option Addr) (c1_1 : Nat) (l1_1 : List (bZ)) (r : Bool) (w : World) (hr0_1 : Kd.C je w A0_1 E8.length E8) (hc0_1 : E8.length ≤ c0_1) (hr1_1 : Kd.C je w A1_1 l1_1.length l1_1) (hc1_1 : l1_1.length ≤ c1_1) (h : kF.f k EU E8 EY l1_1 = some r) :
  Calls Tryz.prog 61 #[.agg #[.int .i64 EU, .slice A0_1 E8.length c0_1], .agg #[.int .i64 EY, .slice A1_1 l1_1.length c1_1]] w fun e w' => e = .returned (.bool r) ∧ Below w.heap.size w w' := by
 have hu82 := Tryz.underlying82
 have HR0_1 := ah.mk hr0_1
 have HC0_1 := ah.mk hc0_1
 clear hr0_1 hc0_1
 have HR1_1 := ah.mk hr1_1
 have HC1_1 := ah.mk hc1_1
 clear hr1_1 hc1_1
 have HB := ah.mk (Below.refl w.heap.size w)
 unfold kF.f at h
 have H := h
 clear h
 replace H := ah.mk H
 go_enter Tryz.func61, Tryz.ntmps61
 go_wp2_with (first | ((with_reducible refine aN (N := 2) rfl ?_); refine bC (N := 2) (cs := #[.int .i64 EU, .slice A0_1 E8.length c0_1]) (t := 82) ?_; intro gb659 hg w9000 hbox hb; have BK659 := ah.mk hbox; have GW659 := SZ (w := w) hg; have GE659 := GW659; replace HB := BS (w := w) hb; clear hb hbox hg) | ((with_reducible refine aN (N := 3) rfl ?_); refine bC (N := 3) (cs := #[.int .i64 EY, .slice A1_1 l1_1.length c1_1]) (t := 82) ?_; intro gb660 hg w9001 hbox hb; have n0_ := KB BK659 hb; have n1_ := BS (w := w) hb; have n2_ := ah.mk (hbox); have n3_ := SZ (w := w) hg; have n4_ := SZ (w := w) hg; have n5_ := NL BK659 hg; have n6_ := NG BK659 hg; clear BK659 HB; have BK659 := n0_; have HB := n1_; have BK660 := n2_; have GW660 := n3_; have GE660 := n4_; have NB659_660 := n5_; have NB660_659 := n6_; clear n0_ n1_ n2_ n3_ n4_ n5_ n6_; clear hb hbox hg; have hnb9002 := NB659_660.out; have hnc9002 := NB660_659.out; obtain ⟨hcz9003_0, hcz9003_1, hfz9003_0, hfz9003_1⟩ := cz2 BK659.out; obtain ⟨hcz9004_0, hcz9004_1, hfz9004_0, hfz9004_1⟩ := cz2 BK660.out; refine bP ?_))
 refine Hide.mk ?_
 replace H := H.out
 replace H := ifE H; rcases H with ⟨c3b0, c3b1, H⟩ | ⟨c3, c3b0, c3b1, H⟩
 ·replace H := be H; obtain ⟨t661, A4, H⟩ := H
  replace H := ah.mk H
  go_wp2_with (first | ((with_reducible refine ay (f := 124) rfl ?_); refine bq (some 14) Tryz.func124 #[.slice A0_1 E8.length c0_1, .slice A1_1 l1_1.length c1_1] ?_; (with_reducible refine (dA.calls k _ _ E8 _ _ l1_1 _ _ ?side1 ?side2 ?side3 ?side4 A4.out).mono ?_); (case side1 => exact CB HR0_1); (case side2 => exact HC0_1.out); (case side3 => exact CB HR1_1); (case side4 => exact HC1_1.out); rintro e w9005 ⟨rfl, hb⟩; refine ⟨_, rfl, ?_⟩; replace BK659 := KB BK659 hb; replace BK660 := KB BK660 hb; replace HB := BS (w := w) hb; (try clear hb); refine bP ?_))
  refine Hide.mk ?_
  replace H := H.out
  replace H := ifB H; rcases H with ⟨rfl, H⟩ | ⟨rfl, H⟩
  ·obtain rfl := Option.some.inj H
   try go_wp2
   go_ret
   exact ⟨EWW, BL⟩
  ·obtain rfl := Option.some.inj H
   try go_wp2
   go_ret
   exact ⟨EWW, BL⟩
 ·obtain rfl := Option.some.inj H
  try go_wp2
  go_ret
  exact ⟨EWW, BL⟩
def dB.l0 : Nat → List (S82) → List (S82) → Int → Option (Bool)
 | 0, _, _, _ => none
 | k + 1, a, b, c => if c < (a.length : Int) then (if 0 ≤ c then (if c < (b.length : Int) then ((kF.f k ((dW a c).f0) ((dW a c).f1) ((dW b c).f0) ((dW b c).f1)).bind fun d => (if d = true then (dB.l0 k a b (wrap64 (c + 1))) else (some false))) else (none)) else (none)) else (some true)
def dB.f (k : Nat) (l0 l1 : List (S82)) : Option (Bool) := if (l0.length : Int) = (l1.length : Int) then (dB.l0 k l0 l1 0) else (some false)
def dB.T6 : Bool × List (List Nat × List Nat) := (true, [([], []), ([], []), ([0, 1], [0, 1]), ([2], [2]), ([], []), ([], []), ([4, 5], [4, 5]), ([6], [6]), ([3, 7], [3, 7]), ([8], [8])])
def dB.B6 : List Nat := [0, 0, 3, 7, 0, 0, 48, 112, 255, 511]
theorem dB.zN : kD .any (opsOf Tryz.f19 6) = dB.T6 := by kernel_rfl
theorem dB.wD : iZ dB.T6.2 dB.B6 = true := by kernel_rfl
theorem dB.calls (k : Nat) (A0 : Option Addr) (c0 : Nat) (l0 : List (S82)) (A1 : Option Addr) (c1 : Nat) (l1 : List (S82)) (r : Bool) (w : World) (hr0 : Kd.C k82 w A0 l0.length l0) (hc0 : l0.length ≤ c0) (hr1 : Kd.C k82 w A1 l1.length l1) (hc1 : l1.length ≤ c1) (h : dB.f k l0 l1 = some r) :
  Calls Tryz.prog 19 #[.slice A0 l0.length c0, .slice A1 l1.length c1] w fun e w' => e = .returned (.bool r) ∧ Below w.heap.size w w' := by
 have hu82 := Tryz.underlying82
 have HR0 := ah.mk hr0
 have HC0 := ah.mk hc0
 clear hr0 hc0
 have HR1 := ah.mk hr1
 have HC1 := ah.mk hc1
 clear hr1 hc1
 have HB := ah.mk (Below.refl w.heap.size w)
 unfold dB.f at h
 have H := h
 clear h
 replace H := ah.mk H
 go_enter Tryz.func19, Tryz.ntmps19
 replace H := H.out
 by_cases c3 : (l0.length : Int) = (l1.length : Int)
 ·rw [if_pos c3] at H
  have c3b0 : ((l0.length : Int) == (l1.length : Int)) = true := beq_iff_eq.mpr c3
  have c3b1 : ((l0.length : Int) != (l1.length : Int)) = false := bne_eq_false_iff_eq.mpr c3
  have c3b2 : (l0.length == l1.length) = true := by first | simpa using c3 | (simp at c3 ⊢; omega)
  clear c3
  have H' := ah.mk H
  clear H
  try go_wp2
  go_loopg [5] k (fun kq v5 w' => ∃ (x5_1 : Int), v5 = .int .i64 x5_1 ∧ ah (dB.l0 kq l0 l1 x5_1 = some r) ∧ ah (kq ≤ k) ∧ ah (Below w.heap.size w w'))
  case atStart => exact ⟨(0), EQ, H', ⟨Nat.le_refl _⟩, ⟨BL⟩⟩
  case round =>
   clear H'
   try clear c1
   try clear c3
   try clear c3b0
   try clear c3b1
   try clear c3b2
   obtain ⟨x5_1, rfl, HA, HK1, HB⟩ := hrel
   cases gk with
   | zero => exact absurd HA.out (by simp [dB.l0])
   | succ k1 =>
    have H := HA.out
    clear HA
    simp only [dB.l0] at H
    replace H := ifD H; rcases H with ⟨c4b0, H⟩ | ⟨c4b0, H⟩
    ·replace H := ifN H; obtain ⟨c5b0, H⟩ := H
     replace H := ifN H; obtain ⟨c6b0, H⟩ := H
     replace H := be H; obtain ⟨t664, A7, H⟩ := H
     replace H := ah.mk H
     try go_wp2
     replace HB := ah.mk (dL HB.out)
     have p662 : 0 ≤ (x5_1 : Int) := OD
     have q662 : x5_1 < (l0.length : Int) := OD
     obtain ⟨ad662, A662_1, c662_1, e662, hx662_0, hx662_1, hl662_1, hi662_1⟩ := xR HR0.out x5_1 p662 q662
     have hw662_1 := hx662_1
     have hw662_0 := hx662_0
     cases e662
     try replace hx662_0 := (HB.out.cell (World.block_lt_of_cell? w _ hx662_0)).trans hx662_0
     try replace hx662_1 := (HB.out.cell (World.block_lt_of_cell? w _ hx662_1)).trans hx662_1
     have HR662_1 := ah.mk hi662_1
     have HC662_1 := ah.mk hl662_1
     clear hi662_1 hl662_1
     replace p662 := eq_true p662
     replace q662 := eq_true q662
     have p663 : 0 ≤ (x5_1 : Int) := OD
     have q663 : x5_1 < (l1.length : Int) := OD
     obtain ⟨ad663, A663_1, c663_1, e663, hx663_0, hx663_1, hl663_1, hi663_1⟩ := xR HR1.out x5_1 p663 q663
     have hw663_1 := hx663_1
     have hw663_0 := hx663_0
     cases e663
     try replace hx663_0 := (HB.out.cell (World.block_lt_of_cell? w _ hx663_0)).trans hx663_0
     try replace hx663_1 := (HB.out.cell (World.block_lt_of_cell? w _ hx663_1)).trans hx663_1
     have HR663_1 := ah.mk hi663_1
     have HC663_1 := ah.mk hl663_1
     clear hi663_1 hl663_1
     replace p663 := eq_true p663
     replace q663 := eq_true q663
     refine ji (n := 10) (S := fun w' => w'.cell? (ad662.add ((x5_1).toNat * 2)) = some (.int .i64 ((dW l0 x5_1).f0)) ∧ w'.cell? ⟨(ad662.add ((x5_1).toNat * 2)).block, (ad662.add ((x5_1).toNat * 2)).off + 1, none⟩ = some (.slice A662_1 ((dW l0 x5_1).f1).length c662_1) ∧ w'.cell? (ad663.add ((x5_1).toNat * 2)) = some (.int .i64 ((dW l1 x5_1).f0)) ∧ w'.cell? ⟨(ad663.add ((x5_1).toNat * 2)).block, (ad663.add ((x5_1).toNat * 2)).off + 1, none⟩ = some (.slice A663_1 ((dW l1 x5_1).f1).length c663_1)) (ds := []) #[F,F,F,F,F,F,F,F,F,F] (by kernel_rfl) rfl rfl ⟨((HB.out.cell (World.block_lt_of_cell? w _ hw662_0)).trans hw662_0), ((HB.out.cell (World.block_lt_of_cell? w _ hw662_1)).trans hw662_1), ((HB.out.cell (World.block_lt_of_cell? w _ hw663_0)).trans hw663_0), ((HB.out.cell (World.block_lt_of_cell? w _ hw663_1)).trans hw663_1)⟩ (fun hHeld => ?_); refine gT dB.zN dB.wD (fun HT_ HW_ => ?_)
     generalize wr.drew = w9000 at HB HR662_1 HR663_1 hx662_0 hx662_1 hx663_0 hx663_1 hHeld ⊢
     refine puS (i := 0) (N := some 17) #[T,F,F,F,F,F,F,F,F,F] (aJ HT_.out (by kernel_rfl)) ?_
     refine puS (i := 1) (N := some 18) #[T,T,F,F,F,F,F,F,F,F] (aJ HT_.out (by kernel_rfl)) ?_
     refine puS (i := 2) (N := some 19) #[T,T,T,F,F,F,F,F,F,F] (aJ HT_.out (by kernel_rfl)) ?_
     refine puS (i := 4) (N := some 21) #[T,T,T,F,T,F,F,F,F,F] (aJ HT_.out (by kernel_rfl)) ?_
     refine puS (i := 5) (N := some 22) #[T,T,T,F,T,T,F,F,F,F] (aJ HT_.out (by kernel_rfl)) ?_
     refine puS (i := 6) (N := some 23) #[T,T,T,F,T,T,T,F,F,F] (aJ HT_.out (by kernel_rfl)) ?_
     refine taS (i := 3) (N := some 20) #[T,T,T,T,T,T,T,F,F,F] (dJ HT_.out HW_.out (by kernel_rfl)) hHeld ?_
     refine taS (i := 7) (N := some 24) #[T,T,T,T,T,T,T,T,F,F] (dJ HT_.out HW_.out (by kernel_rfl)) hHeld ?_
     refine kH (i := 8) (N := some 25) #[T,T,T,T,T,T,T,T,T,F] rfl rfl (iO HT_.out (by kernel_rfl)) (by decide) (fun K hK => ?_)
     refine iU Tryz.func61 #[.agg #[.int .i64 ((dW l0 x5_1).f0), .slice A662_1 ((dW l0 x5_1).f1).length c662_1], .agg #[.int .i64 ((dW l1 x5_1).f0), .slice A663_1 ((dW l1 x5_1).f1).length c663_1]] ?_
     with_reducible refine (kF.calls k1 ((dW l0 x5_1).f0) _ _ ((dW l0 x5_1).f1) ((dW l1 x5_1).f0) _ _ ((dW l1 x5_1).f1) _ _ ?side1 ?side2 ?side3 ?side4 A7.out).mono ?_
     (case side1 => exact CB HR662_1)
     (case side2 => exact HC662_1.out)
     (case side3 => exact CB HR663_1)
     (case side4 => exact HC663_1.out)
     rintro e w9001 ⟨rfl, hb⟩
     refine ⟨_, rfl, ?_⟩
     replace HB := BS (w := w) hb
     (try clear hb)
     refine hK.out _ _ ⟨((HB.out.cell (World.block_lt_of_cell? w _ hw662_0)).trans hw662_0), ((HB.out.cell (World.block_lt_of_cell? w _ hw662_1)).trans hw662_1), ((HB.out.cell (World.block_lt_of_cell? w _ hw663_0)).trans hw663_0), ((HB.out.cell (World.block_lt_of_cell? w _ hw663_1)).trans hw663_1)⟩ (fun hHeld => ?_)
     clear hK K
     refine nrm (some 25) ?_
     replace H := H.out
     replace H := ifB H; rcases H with ⟨rfl, H⟩ | ⟨rfl, H⟩
     ·have H' := ah.mk H
      clear H
      refine puS (i := 9) (N := some 26) #[T,T,T,T,T,T,T,T,T,T] (aJ HT_.out (by kernel_rfl)) ?_
      refine gX (fH HT_.out (by kernel_rfl)) ?_
      try go_wp2
      go_roundg k1
      case measure => have := HK1.out; omega
      case rel => exact ⟨(wrap64 (x5_1 + 1)), EQ, H', ⟨by have := HK1.out; omega⟩, ⟨BL⟩⟩
     ·obtain rfl := Option.some.inj H
      refine puS (i := 9) (N := some 26) #[T,T,T,T,T,T,T,T,T,T] (aJ HT_.out (by kernel_rfl)) ?_
      refine gX (fH HT_.out (by kernel_rfl)) ?_
      try go_wp2
      go_ret
      exact ⟨EWW, BL⟩
    ·obtain rfl := Option.some.inj H
     go_wp2
     go_ret
     exact ⟨EWW, BL⟩
 ·rw [if_neg c3] at H
  have c3b0 : ((l0.length : Int) == (l1.length : Int)) = false := beq_eq_false_iff_ne.mpr c3
  have c3b1 : ((l0.length : Int) != (l1.length : Int)) = true := bne_iff_ne.mpr c3
  have c3b2 : (l0.length == l1.length) = false := by first | simpa using c3 | (simp at c3 ⊢; omega)
  obtain rfl := Option.some.inj H
  try go_wp2
  go_ret
  exact ⟨EWW, BL⟩
def jS.f (EU : ByteArray) (EW : Int) (EY : ByteArray) (EZ : Int) : Option (Bool) := if EU.toList = EY.toList then (if EW = EZ then (some true) else (some false)) else (some false)
theorem jS.calls (EU : ByteArray) (EW : Int) (EY : ByteArray) (EZ : Int) (r : Bool) (w : World) (h : jS.f EU EW EY EZ = some r) :
  Calls Tryz.prog 62 #[.agg #[.string EU, .int .i64 EW], .agg #[.string EY, .int .i64 EZ]] w fun e w' => e = .returned (.bool r) ∧ Below w.heap.size w w' := by
 have hu84 := Tryz.underlying84
 have HB := ah.mk (Below.refl w.heap.size w)
 unfold jS.f at h
 have H := h
 clear h
 replace H := ah.mk H
 go_enter Tryz.func62, Tryz.ntmps62
 go_wp2_with (first | ((with_reducible refine aN (N := 2) rfl ?_); refine bC (N := 2) (cs := #[.string EU, .int .i64 EW]) (t := 84) ?_; intro gb665 hg w9000 hbox hb; have BK665 := ah.mk hbox; have GW665 := SZ (w := w) hg; have GE665 := GW665; replace HB := BS (w := w) hb; clear hb hbox hg) | ((with_reducible refine aN (N := 3) rfl ?_); refine bC (N := 3) (cs := #[.string EY, .int .i64 EZ]) (t := 84) ?_; intro gb666 hg w9001 hbox hb; have n0_ := KB BK665 hb; have n1_ := BS (w := w) hb; have n2_ := ah.mk (hbox); have n3_ := SZ (w := w) hg; have n4_ := SZ (w := w) hg; have n5_ := NL BK665 hg; have n6_ := NG BK665 hg; clear BK665 HB; have BK665 := n0_; have HB := n1_; have BK666 := n2_; have GW666 := n3_; have GE666 := n4_; have NB665_666 := n5_; have NB666_665 := n6_; clear n0_ n1_ n2_ n3_ n4_ n5_ n6_; clear hb hbox hg; have hnb9002 := NB665_666.out; have hnc9002 := NB666_665.out; obtain ⟨hcz9003_0, hcz9003_1, hfz9003_0, hfz9003_1⟩ := cz2 BK665.out; obtain ⟨hcz9004_0, hcz9004_1, hfz9004_0, hfz9004_1⟩ := cz2 BK666.out; refine bP ?_))
 refine Hide.mk ?_
 replace H := H.out
 replace H := ifE H; rcases H with ⟨c3b0, c3b1, H⟩ | ⟨c3, c3b0, c3b1, H⟩
 ·replace H := ifE H; rcases H with ⟨c4b0, c4b1, H⟩ | ⟨c4, c4b0, c4b1, H⟩
  ·obtain rfl := Option.some.inj H
   try go_wp2
   go_ret
   exact ⟨EWW, BL⟩
  ·obtain rfl := Option.some.inj H
   try go_wp2
   go_ret
   exact ⟨EWW, BL⟩
 ·obtain rfl := Option.some.inj H
  try go_wp2
  go_ret
  exact ⟨EWW, BL⟩
def bO.l0 : Nat → List (S84) → List (S84) → Int → Option (Bool)
 | 0, _, _, _ => none
 | k + 1, a, b, c => if c < (a.length : Int) then (if 0 ≤ c then (if c < (b.length : Int) then ((jS.f ((fK a c).f0) ((fK a c).f1) ((fK b c).f0) ((fK b c).f1)).bind fun d => (if d = true then (bO.l0 k a b (wrap64 (c + 1))) else (some false))) else (none)) else (none)) else (some true)
def bO.f (k : Nat) (l0 l1 : List (S84)) : Option (Bool) := if (l0.length : Int) = (l1.length : Int) then (bO.l0 k l0 l1 0) else (some false)
def bO.T6 : Bool × List (List Nat × List Nat) := (true, [([], []), ([], []), ([0, 1], [0, 1]), ([2], [2]), ([], []), ([], []), ([4, 5], [4, 5]), ([6], [6]), ([3, 7], [3, 7]), ([8], [8])])
def bO.B6 : List Nat := [0, 0, 3, 7, 0, 0, 48, 112, 255, 511]
theorem bO.zN : kD .any (opsOf Tryz.f20 6) = bO.T6 := by kernel_rfl
theorem bO.wD : iZ bO.T6.2 bO.B6 = true := by kernel_rfl
theorem bO.calls (k : Nat) (A0 : Option Addr) (c0 : Nat) (l0 : List (S84)) (A1 : Option Addr) (c1 : Nat) (l1 : List (S84)) (r : Bool) (w : World) (hr0 : Kd.C k84 w A0 l0.length l0) (hc0 : l0.length ≤ c0) (hr1 : Kd.C k84 w A1 l1.length l1) (hc1 : l1.length ≤ c1) (h : bO.f k l0 l1 = some r) :
  Calls Tryz.prog 20 #[.slice A0 l0.length c0, .slice A1 l1.length c1] w fun e w' => e = .returned (.bool r) ∧ Below w.heap.size w w' := by
 have hu84 := Tryz.underlying84
 have HR0 := ah.mk hr0
 have HC0 := ah.mk hc0
 clear hr0 hc0
 have HR1 := ah.mk hr1
 have HC1 := ah.mk hc1
 clear hr1 hc1
 have HB := ah.mk (Below.refl w.heap.size w)
 unfold bO.f at h
 have H := h
 clear h
 replace H := ah.mk H
 go_enter Tryz.func20, Tryz.ntmps20
 replace H := H.out
 by_cases c3 : (l0.length : Int) = (l1.length : Int)
 ·rw [if_pos c3] at H
  have c3b0 : ((l0.length : Int) == (l1.length : Int)) = true := beq_iff_eq.mpr c3
  have c3b1 : ((l0.length : Int) != (l1.length : Int)) = false := bne_eq_false_iff_eq.mpr c3
  have c3b2 : (l0.length == l1.length) = true := by first | simpa using c3 | (simp at c3 ⊢; omega)
  clear c3
  have H' := ah.mk H
  clear H
  try go_wp2
  go_loopg [5] k (fun kq v5 w' => ∃ (x5_1 : Int), v5 = .int .i64 x5_1 ∧ ah (bO.l0 kq l0 l1 x5_1 = some r) ∧ ah (kq ≤ k) ∧ ah (Below w.heap.size w w'))
  case atStart => exact ⟨(0), EQ, H', ⟨Nat.le_refl _⟩, ⟨BL⟩⟩
  case round =>
   clear H'
   try clear c1
   try clear c3
   try clear c3b0
   try clear c3b1
   try clear c3b2
   obtain ⟨x5_1, rfl, HA, HK1, HB⟩ := hrel
   cases gk with
   | zero => exact absurd HA.out (by simp [bO.l0])
   | succ k1 =>
    have H := HA.out
    clear HA
    simp only [bO.l0] at H
    replace H := ifD H; rcases H with ⟨c4b0, H⟩ | ⟨c4b0, H⟩
    ·replace H := ifN H; obtain ⟨c5b0, H⟩ := H
     replace H := ifN H; obtain ⟨c6b0, H⟩ := H
     replace H := be H; obtain ⟨t669, A7, H⟩ := H
     replace H := ah.mk H
     try go_wp2
     replace HB := ah.mk (dL HB.out)
     have p667 : 0 ≤ (x5_1 : Int) := OD
     have q667 : x5_1 < (l0.length : Int) := OD
     obtain ⟨ad667, e667, hx667_0, hx667_1⟩ := vR HR0.out x5_1 p667 q667
     have hw667_1 := hx667_1
     have hw667_0 := hx667_0
     cases e667
     try replace hx667_0 := (HB.out.cell (World.block_lt_of_cell? w _ hx667_0)).trans hx667_0
     try replace hx667_1 := (HB.out.cell (World.block_lt_of_cell? w _ hx667_1)).trans hx667_1
     replace p667 := eq_true p667
     replace q667 := eq_true q667
     have p668 : 0 ≤ (x5_1 : Int) := OD
     have q668 : x5_1 < (l1.length : Int) := OD
     obtain ⟨ad668, e668, hx668_0, hx668_1⟩ := vR HR1.out x5_1 p668 q668
     have hw668_1 := hx668_1
     have hw668_0 := hx668_0
     cases e668
     try replace hx668_0 := (HB.out.cell (World.block_lt_of_cell? w _ hx668_0)).trans hx668_0
     try replace hx668_1 := (HB.out.cell (World.block_lt_of_cell? w _ hx668_1)).trans hx668_1
     replace p668 := eq_true p668
     replace q668 := eq_true q668
     refine ji (n := 10) (S := fun w' => w'.cell? (ad667.add ((x5_1).toNat * 2)) = some (.string ((fK l0 x5_1).f0)) ∧ w'.cell? ⟨(ad667.add ((x5_1).toNat * 2)).block, (ad667.add ((x5_1).toNat * 2)).off + 1, none⟩ = some (.int .i64 ((fK l0 x5_1).f1)) ∧ w'.cell? (ad668.add ((x5_1).toNat * 2)) = some (.string ((fK l1 x5_1).f0)) ∧ w'.cell? ⟨(ad668.add ((x5_1).toNat * 2)).block, (ad668.add ((x5_1).toNat * 2)).off + 1, none⟩ = some (.int .i64 ((fK l1 x5_1).f1))) (ds := []) #[F,F,F,F,F,F,F,F,F,F] (by kernel_rfl) rfl rfl ⟨((HB.out.cell (World.block_lt_of_cell? w _ hw667_0)).trans hw667_0), ((HB.out.cell (World.block_lt_of_cell? w _ hw667_1)).trans hw667_1), ((HB.out.cell (World.block_lt_of_cell? w _ hw668_0)).trans hw668_0), ((HB.out.cell (World.block_lt_of_cell? w _ hw668_1)).trans hw668_1)⟩ (fun hHeld => ?_); refine gT bO.zN bO.wD (fun HT_ HW_ => ?_)
     generalize wr.drew = w9000 at HB hx667_0 hx667_1 hx668_0 hx668_1 hHeld ⊢
     refine puS (i := 0) (N := some 17) #[T,F,F,F,F,F,F,F,F,F] (aJ HT_.out (by kernel_rfl)) ?_
     refine puS (i := 1) (N := some 18) #[T,T,F,F,F,F,F,F,F,F] (aJ HT_.out (by kernel_rfl)) ?_
     refine puS (i := 2) (N := some 19) #[T,T,T,F,F,F,F,F,F,F] (aJ HT_.out (by kernel_rfl)) ?_
     refine puS (i := 4) (N := some 21) #[T,T,T,F,T,F,F,F,F,F] (aJ HT_.out (by kernel_rfl)) ?_
     refine puS (i := 5) (N := some 22) #[T,T,T,F,T,T,F,F,F,F] (aJ HT_.out (by kernel_rfl)) ?_
     refine puS (i := 6) (N := some 23) #[T,T,T,F,T,T,T,F,F,F] (aJ HT_.out (by kernel_rfl)) ?_
     refine taS (i := 3) (N := some 20) #[T,T,T,T,T,T,T,F,F,F] (dJ HT_.out HW_.out (by kernel_rfl)) hHeld ?_
     refine taS (i := 7) (N := some 24) #[T,T,T,T,T,T,T,T,F,F] (dJ HT_.out HW_.out (by kernel_rfl)) hHeld ?_
     refine kH (i := 8) (N := some 25) #[T,T,T,T,T,T,T,T,T,F] rfl rfl (iO HT_.out (by kernel_rfl)) (by decide) (fun K hK => ?_)
     refine iU Tryz.func62 #[.agg #[.string ((fK l0 x5_1).f0), .int .i64 ((fK l0 x5_1).f1)], .agg #[.string ((fK l1 x5_1).f0), .int .i64 ((fK l1 x5_1).f1)]] ?_
     with_reducible refine (jS.calls ((fK l0 x5_1).f0) ((fK l0 x5_1).f1) ((fK l1 x5_1).f0) ((fK l1 x5_1).f1) _ _ A7.out).mono ?_
     rintro e w9001 ⟨rfl, hb⟩
     refine ⟨_, rfl, ?_⟩
     replace HB := BS (w := w) hb
     (try clear hb)
     refine hK.out _ _ ⟨((HB.out.cell (World.block_lt_of_cell? w _ hw667_0)).trans hw667_0), ((HB.out.cell (World.block_lt_of_cell? w _ hw667_1)).trans hw667_1), ((HB.out.cell (World.block_lt_of_cell? w _ hw668_0)).trans hw668_0), ((HB.out.cell (World.block_lt_of_cell? w _ hw668_1)).trans hw668_1)⟩ (fun hHeld => ?_)
     clear hK K
     refine nrm (some 25) ?_
     replace H := H.out
     replace H := ifB H; rcases H with ⟨rfl, H⟩ | ⟨rfl, H⟩
     ·have H' := ah.mk H
      clear H
      refine puS (i := 9) (N := some 26) #[T,T,T,T,T,T,T,T,T,T] (aJ HT_.out (by kernel_rfl)) ?_
      refine gX (fH HT_.out (by kernel_rfl)) ?_
      try go_wp2
      go_roundg k1
      case measure => have := HK1.out; omega
      case rel => exact ⟨(wrap64 (x5_1 + 1)), EQ, H', ⟨by have := HK1.out; omega⟩, ⟨BL⟩⟩
     ·obtain rfl := Option.some.inj H
      refine puS (i := 9) (N := some 26) #[T,T,T,T,T,T,T,T,T,T] (aJ HT_.out (by kernel_rfl)) ?_
      refine gX (fH HT_.out (by kernel_rfl)) ?_
      try go_wp2
      go_ret
      exact ⟨EWW, BL⟩
    ·obtain rfl := Option.some.inj H
     go_wp2
     go_ret
     exact ⟨EWW, BL⟩
 ·rw [if_neg c3] at H
  have c3b0 : ((l0.length : Int) == (l1.length : Int)) = false := beq_eq_false_iff_ne.mpr c3
  have c3b1 : ((l0.length : Int) != (l1.length : Int)) = true := bne_iff_ne.mpr c3
  have c3b2 : (l0.length == l1.length) = false := by first | simpa using c3 | (simp at c3 ⊢; omega)
  obtain rfl := Option.some.inj H
  try go_wp2
  go_ret
  exact ⟨EWW, BL⟩
def eZ.l0 : Nat → List ByteArray → List ByteArray → Int → Option (Bool)
 | 0, _, _, _ => none
 | k + 1, a, b, c => if c < (a.length : Int) then (if 0 ≤ c then (if c < (b.length : Int) then (if (dD ByteArray.empty a c).toList = (dD ByteArray.empty b c).toList then (eZ.l0 k a b (wrap64 (c + 1))) else (some false)) else (none)) else (none)) else (some true)
def eZ.f (k : Nat) (l0 l1 : List ByteArray) : Option (Bool) := if (l0.length : Int) = (l1.length : Int) then (eZ.l0 k l0 l1 0) else (some false)
theorem eZ.calls (k : Nat) (A0 : Option Addr) (c0 : Nat) (l0 : List ByteArray) (A1 : Option Addr) (c1 : Nat) (l1 : List ByteArray) (r : Bool) (w : World) (hr0 : Kd.C Kd.string w A0 l0.length l0) (hc0 : l0.length ≤ c0) (hr1 : Kd.C Kd.string w A1 l1.length l1) (hc1 : l1.length ≤ c1) (h : eZ.f k l0 l1 = some r) :
  Calls Tryz.prog 21 #[.slice A0 l0.length c0, .slice A1 l1.length c1] w fun e w' => e = .returned (.bool r) ∧ aC w w' := by
 have HR0 := ah.mk hr0
 have HC0 := ah.mk hc0
 clear hr0 hc0
 have HR1 := ah.mk hr1
 have HC1 := ah.mk hc1
 clear hr1 hc1
 unfold eZ.f at h
 have H := h
 clear h
 replace H := ah.mk H
 go_enter Tryz.func21, Tryz.ntmps21
 replace H := H.out
 by_cases c3 : (l0.length : Int) = (l1.length : Int)
 ·rw [if_pos c3] at H
  have c3b0 : ((l0.length : Int) == (l1.length : Int)) = true := beq_iff_eq.mpr c3
  have c3b1 : ((l0.length : Int) != (l1.length : Int)) = false := bne_eq_false_iff_eq.mpr c3
  have c3b2 : (l0.length == l1.length) = true := by first | simpa using c3 | (simp at c3 ⊢; omega)
  clear c3
  have H' := ah.mk H
  clear H
  go_wp2
  repeat (go_quiet (fail); try go_wp2)
  go_loopg [5] k (fun kq v5 w' => ∃ (x5_1 : Int), v5 = .int .i64 x5_1 ∧ ah (eZ.l0 kq l0 l1 x5_1 = some r) ∧ ah (kq ≤ k) ∧ aC w w')
  case atStart => exact ⟨(0), EQ, H', ⟨Nat.le_refl _⟩, by repeat (first | exact aC.refl _ | apply aC.step)⟩
  case round =>
   clear H'
   try clear c1
   try clear c3
   try clear c3b0
   try clear c3b1
   try clear c3b2
   obtain ⟨x5_1, rfl, HA, HK1, ⟨m1, rfl⟩⟩ := hrel
   cases gk with
   | zero => exact absurd HA.out (by simp [eZ.l0])
   | succ k1 =>
    have H := HA.out
    clear HA
    simp only [eZ.l0] at H
    replace H := ifD H; rcases H with ⟨c4b0, H⟩ | ⟨c4b0, H⟩
    ·replace H := ifN H; obtain ⟨c5b0, H⟩ := H
     replace H := ifN H; obtain ⟨c6b0, H⟩ := H
     have p670 : 0 ≤ (x5_1 : Int) := OD
     have q670 : x5_1 < (l0.length : Int) := OD
     obtain ⟨ad670, e670, hx670_0⟩ := Kd.gG HR0.out x5_1 p670 q670
     cases e670
     replace p670 := eq_true p670
     replace q670 := eq_true q670
     have p671 : 0 ≤ (x5_1 : Int) := OD
     have q671 : x5_1 < (l1.length : Int) := OD
     obtain ⟨ad671, e671, hx671_0⟩ := Kd.gG HR1.out x5_1 p671 q671
     cases e671
     replace p671 := eq_true p671
     replace q671 := eq_true q671
     replace H := ifE H; rcases H with ⟨c7b0, c7b1, H⟩ | ⟨c7, c7b0, c7b1, H⟩
     ·have H' := ah.mk H
      clear H
      go_wp2
      repeat (go_quiet (fail); try go_wp2)
      go_roundg k1
      case measure => have := HK1.out; omega
      case rel => exact ⟨(wrap64 (x5_1 + 1)), EQ, H', ⟨by have := HK1.out; omega⟩, by repeat (first | exact aC.refl _ | apply aC.step)⟩
     ·obtain rfl := Option.some.inj H
      go_wp2
      repeat (go_quiet (fail); try go_wp2)
      go_ret
      exact ⟨by first | rfl | (simp; done) | (simp [*]; done), by repeat (first | exact aC.refl _ | apply aC.step)⟩
    ·obtain rfl := Option.some.inj H
     go_wp2
     repeat (go_quiet (fail); try go_wp2)
     go_ret
     exact ⟨by first | rfl | (simp; done) | (simp [*]; done), by repeat (first | exact aC.refl _ | apply aC.step)⟩
 ·rw [if_neg c3] at H
  have c3b0 : ((l0.length : Int) == (l1.length : Int)) = false := beq_eq_false_iff_ne.mpr c3
  have c3b1 : ((l0.length : Int) != (l1.length : Int)) = true := bne_iff_ne.mpr c3
  have c3b2 : (l0.length == l1.length) = false := by first | simpa using c3 | (simp at c3 ⊢; omega)
  obtain rfl := Option.some.inj H
  go_wp2
  repeat (go_quiet (fail); try go_wp2)
  go_ret
  exact ⟨by first | rfl | (simp; done) | (simp [*]; done), by repeat (first | exact aC.refl _ | apply aC.step)⟩
def fF.f (k : Nat) (EU EW : Int) (EX a1 : ByteArray) (l2 : List (S68)) (l3 : List (S71)) (l4 : List ByteArray) : Option (Bool) := if (a1.size : Int) > 1048576 then (some true) else ((kG.f EU EW EX 1048576).bind fun t673 => (if t673 < 0 then (some true) else ((fJ.f k l2 t673).bind fun t674 => (if t674 < 0 then (some true) else ((dQ.f k l3 t674).bind fun t675 => (if t675 < 0 then (some true) else ((eu.f k l4 t675).bind fun t676 => (if t676 < 0 then (some true) else ((jU.f EU EW EX).bind fun bt677 => ((dR.f k l2).bind fun t680 => ((bX.f k l3).bind fun t683 => ((dh.f k l4).bind fun t686 => ((aZ.f k bt677.1 bt677.2.1 bt677.2.2 a1 t680 t683 t686).bind fun t689 => ((dR.f k l2).bind fun t690 => ((bX.f k l3).bind fun t693 => ((dh.f k l4).bind fun t696 => ((jU.f EU EW EX).bind fun bt699 => ((bf.f k bt699.1 bt699.2.1 bt699.2.2 a1 t690 t693 t696).bind fun t702 => (if t702 = t689 then ((dR.f k l2).bind fun t703 => ((dB.f k t690 t703).bind fun t706 => (if t706 = true then ((bX.f k l3).bind fun t707 => ((bO.f k t693 t707).bind fun t710 => (if t710 = true then ((dh.f k l4).bind fun t711 => ((eZ.f k t696 t711).bind fun t714 => (if t714 = true then (some true) else (some false)))) else (some false)))) else (some false)))) else (some false))))))))))))))))))))
theorem fF.calls (k : Nat) (EU EW : Int) (EX a1 : ByteArray) (A2 : Option Addr) (c2 : Nat) (l2 : List (S68)) (A3 : Option Addr) (c3 : Nat) (l3 : List (S71)) (A4 : Option Addr) (c4 : Nat) (l4 : List ByteArray) (r : Bool) (w : World) (hr2 : Kd.C k68 w A2 l2.length l2) (hc2 : l2.length ≤ c2) (hr3 : Kd.C k71 w A3 l3.length l3) (hc3 : l3.length ≤ c3) (hr4 : Kd.C Kd.string w A4 l4.length l4) (hc4 : l4.length ≤ c4) (h : fF.f k EU EW EX a1 l2 l3 l4 = some r) :
  Calls Tryz.prog 3 #[.agg #[.int .i64 EU, .int .i64 EW, .string EX], .string a1, .slice A2 l2.length c2, .slice A3 l3.length c3, .slice A4 l4.length c4] w fun e w' => e = .returned (.bool r) ∧ Below w.heap.size w w' := by
 have hu23 := Tryz.underlying23
 have HR2 := ah.mk hr2
 have HC2 := ah.mk hc2
 clear hr2 hc2
 have HR3 := ah.mk hr3
 have HC3 := ah.mk hc3
 clear hr3 hc3
 have HR4 := ah.mk hr4
 have HC4 := ah.mk hc4
 clear hr4 hc4
 have HB := ah.mk (Below.refl w.heap.size w)
 unfold fF.f at h
 have H := h
 clear h
 replace H := ah.mk H
 go_enter Tryz.func3, Tryz.ntmps3
 go_wp2_with (first | ((with_reducible refine aN (N := 5) rfl ?_); refine bC (N := 5) (cs := #[.int .i64 EU, .int .i64 EW, .string EX]) (t := 23) ?_; intro gb672 hg w9000 hbox hb; have BK672 := ah.mk hbox; have GW672 := SZ (w := w) hg; have GE672 := GW672; replace HB := BS (w := w) hb; clear hb hbox hg; obtain ⟨hcz9001_0, hcz9001_1, hcz9001_2, hfz9001_0, hfz9001_1, hfz9001_2⟩ := cz3 BK672.out; refine bP ?_))
 refine Hide.mk ?_
 replace H := H.out
 by_cases c6 : (a1.size : Int) > 1048576
 ·rw [if_pos c6] at H
  have c6b0 : decide (1048576 < (a1.size : Int)) = true := decide_eq_true c6
  have c6b1 : decide (1048576 < a1.size) = true := decide_eq_true (by omega)
  clear c6
  obtain rfl := Option.some.inj H
  try go_wp2
  go_ret
  exact ⟨EWW, BL⟩
 ·rw [if_neg c6] at H
  have c6b0 : decide (1048576 < (a1.size : Int)) = false := decide_eq_false c6
  have c6b1 : decide (1048576 < a1.size) = false := decide_eq_false (by omega)
  clear c6
  replace H := be H; obtain ⟨t673, A8, H⟩ := H
  replace H := ah.mk H
  go_wp2_with (first | ((with_reducible refine ay (f := 9) rfl ?_); refine bq (some 22) Tryz.func9 #[.agg #[.int .i64 EU, .int .i64 EW, .string EX], .int .i64 1048576] ?_; (with_reducible refine (kG.calls EU EW EX 1048576 t673 _ A8.out).mono ?_); rintro e w9002 ⟨rfl, hb⟩; refine ⟨_, rfl, ?_⟩; replace BK672 := KB BK672 hb; replace HB := BS (w := w) hb; (try clear hb); refine bP ?_))
  refine Hide.mk ?_
  replace H := H.out
  replace H := ifD H; rcases H with ⟨c9b0, H⟩ | ⟨c9b0, H⟩
  ·obtain rfl := Option.some.inj H
   try go_wp2
   go_ret
   exact ⟨EWW, BL⟩
  ·replace H := be H; obtain ⟨t674, A13, H⟩ := H
   replace H := ah.mk H
   go_wp2_with (first | ((with_reducible refine ay (f := 10) rfl ?_); refine bq (some 27) Tryz.func10 #[.slice A2 l2.length c2, .int .i64 t673] ?_; (with_reducible refine (fJ.calls k _ _ l2 t673 t674 _ ?side1 ?side2 A13.out).mono ?_); (case side1 => exact CB HR2); (case side2 => exact HC2.out); rintro e w9003 ⟨rfl, hb⟩; refine ⟨_, rfl, ?_⟩; replace BK672 := KB BK672 hb; replace HB := BS (w := w) hb; (try clear hb); refine bP ?_))
   refine Hide.mk ?_
   replace H := H.out
   replace H := ifD H; rcases H with ⟨c14b0, H⟩ | ⟨c14b0, H⟩
   ·obtain rfl := Option.some.inj H
    try go_wp2
    go_ret
    exact ⟨EWW, BL⟩
   ·replace H := be H; obtain ⟨t675, A19, H⟩ := H
    replace H := ah.mk H
    go_wp2_with (first | ((with_reducible refine ay (f := 11) rfl ?_); refine bq (some 32) Tryz.func11 #[.slice A3 l3.length c3, .int .i64 t674] ?_; (with_reducible refine (dQ.calls k _ _ l3 t674 t675 _ ?side1 ?side2 A19.out).mono ?_); (case side1 => exact CB HR3); (case side2 => exact HC3.out); rintro e w9004 ⟨rfl, hb⟩; refine ⟨_, rfl, ?_⟩; replace BK672 := KB BK672 hb; replace HB := BS (w := w) hb; (try clear hb); refine bP ?_))
    refine Hide.mk ?_
    replace H := H.out
    replace H := ifD H; rcases H with ⟨c20b0, H⟩ | ⟨c20b0, H⟩
    ·obtain rfl := Option.some.inj H
     try go_wp2
     go_ret
     exact ⟨EWW, BL⟩
    ·replace H := be H; obtain ⟨t676, A26, H⟩ := H
     replace H := ah.mk H
     go_wp2_with (first | ((with_reducible refine ay (f := 12) rfl ?_); refine bq (some 37) Tryz.func12 #[.slice A4 l4.length c4, .int .i64 t675] ?_; (with_reducible refine (eu.calls k _ _ l4 t675 t676 _ ?side1 ?side2 A26.out).mono ?_); (case side1 => exact CB HR4); (case side2 => exact HC4.out); rintro e w' ⟨rfl, ⟨nd, rfl⟩⟩; refine ⟨_, rfl, ?_⟩; obtain ⟨hcz9005_0, hcz9005_1, hcz9005_2, hfz9005_0, hfz9005_1, hfz9005_2⟩ := cz3 BK672.out; refine bP ?_))
     refine Hide.mk ?_
     replace H := H.out
     replace H := ifD H; rcases H with ⟨c27b0, H⟩ | ⟨c27b0, H⟩
     ·obtain rfl := Option.some.inj H
      try go_wp2
      go_ret
      exact ⟨EWW, BL⟩
     ·replace H := be H; obtain ⟨⟨t677, t678, t679⟩, A33, H⟩ := H
      dsimp only at H
      replace H := be H; obtain ⟨t680, A34, H⟩ := H
      replace H := be H; obtain ⟨t683, A35, H⟩ := H
      replace H := be H; obtain ⟨t686, A36, H⟩ := H
      replace H := be H; obtain ⟨t689, A37, H⟩ := H
      replace H := be H; obtain ⟨t690, A38, H⟩ := H
      replace H := be H; obtain ⟨t693, A39, H⟩ := H
      replace H := be H; obtain ⟨t696, A40, H⟩ := H
      replace H := be H; obtain ⟨⟨t699, t700, t701⟩, A41, H⟩ := H
      dsimp only at H
      replace H := be H; obtain ⟨t702, A42, H⟩ := H
      replace H := ah.mk H
      go_wp2_with (first | ((with_reducible refine ay (f := 14) rfl ?_); refine bq (some 41) Tryz.func14 #[.agg #[.int .i64 EU, .int .i64 EW, .string EX]] ?_; (with_reducible refine (jU.calls EU EW EX t677 t678 t679 _ A33.out).mono ?_); rintro e w9006 ⟨rfl, hb⟩; refine ⟨_, rfl, ?_⟩; replace BK672 := KB BK672 hb; replace HB := BS (w := w) hb; (try clear hb)) | ((with_reducible refine ay (f := 15) rfl ?_); refine bq (some 44) Tryz.func15 #[.slice A2 l2.length c2] ?_; (with_reducible refine (dR.calls k _ _ l2 t680 _ ?side1 ?side2 A34.out).mono ?_); (case side1 => exact CB HR2); (case side2 => exact HC2.out); rintro e w9007 ⟨v681, rfl, ho0, hb⟩; refine ⟨_, rfl, ?_⟩; have n0_ := ah.mk (Kd.oG ho0 (aQ BL)); replace BK672 := KB BK672 hb; replace HB := BS (w := w) hb; have HO682 := n0_; clear n0_; (try clear hb); (try clear ho0)) | ((with_reducible refine ay (f := 16) rfl ?_); refine bq (some 46) Tryz.func16 #[.slice A3 l3.length c3] ?_; (with_reducible refine (bX.calls k _ _ l3 t683 _ ?side1 ?side2 A35.out).mono ?_); (case side1 => exact CB HR3); (case side2 => exact HC3.out); rintro e w9008 ⟨v684, rfl, ho0, hb⟩; refine ⟨_, rfl, ?_⟩; have n0_ := ah.mk (Kd.gH (SR HO682) hb); have n1_ := ah.mk (Kd.cO ho0 (aQ BL)); replace BK672 := KB BK672 hb; replace HB := BS (w := w) hb; clear HO682; have HO682 := n0_; have HO685 := n1_; clear n0_ n1_; (try clear hb); (try clear ho0)) | ((with_reducible refine ay (f := 17) rfl ?_); refine bq (some 48) Tryz.func17 #[.slice A4 l4.length c4] ?_; (with_reducible refine (dh.calls k _ _ l4 t686 _ ?side1 ?side2 A36.out).mono ?_); (case side1 => exact CB HR4); (case side2 => exact HC4.out); rintro e w9009 ⟨v687, rfl, ho0, hb⟩; refine ⟨_, rfl, ?_⟩; have n0_ := ah.mk (Kd.gH (SR HO682) hb); have n2_ := ah.mk (Kd.cO ho0 (aQ BL)); replace HO685 := RB HO685 hb; replace BK672 := KB BK672 hb; replace HB := BS (w := w) hb; clear HO682; have HO682 := n0_; have HO688 := n2_; clear n0_ n2_; (try clear hb); (try clear ho0); obtain ⟨Ao9010, co9010, eo9010⟩ := Kd.qA HO682.out; subst eo9010; obtain ⟨Ao9011, co9011, eo9011⟩ := Kd.dH HO685.out; subst eo9011; obtain ⟨Ao9012, co9012, eo9012⟩ := Kd.dH HO688.out; subst eo9012) | ((with_reducible refine ay (f := 13) rfl ?_); refine bq (some 49) Tryz.func13 #[.agg #[.int .i64 t677, .int .i64 t678, .string t679], .string a1, .slice Ao9010 t680.length co9010, .slice Ao9011 t683.length co9011, .slice Ao9012 t686.length co9012] ?_; (with_reducible refine (aZ.calls k t677 t678 t679 a1 _ _ t680 _ _ t683 _ _ t686 t689 _ ?side1 ?side2 ?side3 ?side4 ?side5 ?side6 A37.out).mono ?_); (case side1 => repeat (first | exact (Kd.iX HO682.out).2.2 | (with_reducible refine Kd.eG ?_ _) | (with_reducible refine Kd.eH ?_ _) | (with_reducible refine Kd.fP ?_))); (case side2 => exact (Kd.iX HO682.out).2.1); (case side3 => exact CR2 HO685); (case side4 => exact (Kd.bN HO685.out).2.1); (case side5 => exact CR2 HO688); (case side6 => exact (Kd.bN HO688.out).2.1); rintro e w9013 ⟨rfl, hb⟩; refine ⟨_, rfl, ?_⟩; have n0_ := ah.mk (Kd.gH (SR HO682) hb); replace HO685 := RB HO685 hb; replace HO688 := RB HO688 hb; replace BK672 := KB BK672 hb; replace HB := BS (w := w) hb; clear HO682; have HO682 := n0_; clear n0_; (try clear hb)) | ((with_reducible refine ay (f := 15) rfl ?_); refine bq (some 51) Tryz.func15 #[.slice A2 l2.length c2] ?_; (with_reducible refine (dR.calls k _ _ l2 t690 _ ?side1 ?side2 A38.out).mono ?_); (case side1 => exact CB HR2); (case side2 => exact HC2.out); rintro e w9014 ⟨v691, rfl, ho0, hb⟩; refine ⟨_, rfl, ?_⟩; have n0_ := ah.mk (Kd.pR (SR HO682) (Kd.zF ho0) hb); have n3_ := ah.mk (Kd.oG (Kd.zM ho0 (Kd.Eb (SR HO682))) (aQ BL)); replace HO685 := RB HO685 hb; replace HO688 := RB HO688 hb; replace BK672 := KB BK672 hb; replace HB := BS (w := w) hb; clear HO682; have HO682 := n0_; have HO692 := n3_; clear n0_ n3_; (try clear hb); (try clear ho0)) | ((with_reducible refine ay (f := 16) rfl ?_); refine bq (some 53) Tryz.func16 #[.slice A3 l3.length c3] ?_; (with_reducible refine (bX.calls k _ _ l3 t693 _ ?side1 ?side2 A39.out).mono ?_); (case side1 => exact CB HR3); (case side2 => exact HC3.out); rintro e w9015 ⟨v694, rfl, ho0, hb⟩; refine ⟨_, rfl, ?_⟩; have n0_ := ah.mk (Kd.gH (SR HO682) hb); have n1_ := ah.mk (Kd.jB (RR HO685) (Kd.kK ho0) hb); have n3_ := ah.mk (Kd.gH (SR HO692) hb); have n4_ := ah.mk (Kd.cO (Kd.lG ho0 (Kd.oI (RR HO685))) (aQ BL)); replace HO688 := RB HO688 hb; replace BK672 := KB BK672 hb; replace HB := BS (w := w) hb; clear HO682 HO685 HO692; have HO682 := n0_; have HO685 := n1_; have HO692 := n3_; have HO695 := n4_; clear n0_ n1_ n3_ n4_; (try clear hb); (try clear ho0)) | ((with_reducible refine ay (f := 17) rfl ?_); refine bq (some 55) Tryz.func17 #[.slice A4 l4.length c4] ?_; (with_reducible refine (dh.calls k _ _ l4 t696 _ ?side1 ?side2 A40.out).mono ?_); (case side1 => exact CB HR4); (case side2 => exact HC4.out); rintro e w9016 ⟨v697, rfl, ho0, hb⟩; refine ⟨_, rfl, ?_⟩; have n0_ := ah.mk (Kd.gH (SR HO682) hb); have n2_ := ah.mk (Kd.jB (RR HO688) (Kd.kK ho0) hb); have n3_ := ah.mk (Kd.gH (SR HO692) hb); have n5_ := ah.mk (Kd.cO (Kd.lG ho0 (Kd.oI (RR HO688))) (aQ BL)); replace HO685 := RB HO685 hb; replace HO695 := RB HO695 hb; replace BK672 := KB BK672 hb; replace HB := BS (w := w) hb; clear HO682 HO688 HO692; have HO682 := n0_; have HO688 := n2_; have HO692 := n3_; have HO698 := n5_; clear n0_ n2_ n3_ n5_; (try clear hb); (try clear ho0); obtain ⟨hcz9017_0, hcz9017_1, hcz9017_2, hfz9017_0, hfz9017_1, hfz9017_2⟩ := cz3 BK672.out) | ((with_reducible refine ay (f := 14) rfl ?_); refine bq (some 57) Tryz.func14 #[.agg #[.int .i64 EU, .int .i64 EW, .string EX]] ?_; (with_reducible refine (jU.calls EU EW EX t699 t700 t701 _ A41.out).mono ?_); rintro e w9018 ⟨rfl, hb⟩; refine ⟨_, rfl, ?_⟩; have n0_ := ah.mk (Kd.gH (SR HO682) hb); have n3_ := ah.mk (Kd.gH (SR HO692) hb); replace HO685 := RB HO685 hb; replace HO688 := RB HO688 hb; replace HO695 := RB HO695 hb; replace HO698 := RB HO698 hb; replace BK672 := KB BK672 hb; replace HB := BS (w := w) hb; clear HO682 HO692; have HO682 := n0_; have HO692 := n3_; clear n0_ n3_; (try clear hb); obtain ⟨Ao9019, co9019, eo9019⟩ := Kd.qA HO692.out; subst eo9019; obtain ⟨Ao9020, co9020, eo9020⟩ := Kd.dH HO695.out; subst eo9020; obtain ⟨Ao9021, co9021, eo9021⟩ := Kd.dH HO698.out; subst eo9021) | ((with_reducible refine ay (f := 18) rfl ?_); refine bq (some 62) Tryz.func18 #[.agg #[.int .i64 t699, .int .i64 t700, .string t701], .string a1, .slice Ao9019 t690.length co9019, .slice Ao9020 t693.length co9020, .slice Ao9021 t696.length co9021] ?_; (with_reducible refine (bf.calls k t699 t700 t701 a1 _ _ t690 _ _ t693 _ _ t696 t702 _ ?side1 ?side2 ?side3 ?side4 ?side5 ?side6 A42.out).mono ?_); (case side1 => repeat (first | exact (Kd.iX HO692.out).2.2 | (with_reducible refine Kd.eG ?_ _) | (with_reducible refine Kd.eH ?_ _) | (with_reducible refine Kd.fP ?_))); (case side2 => exact (Kd.iX HO692.out).2.1); (case side3 => exact CR2 HO695); (case side4 => exact (Kd.bN HO695.out).2.1); (case side5 => exact CR2 HO698); (case side6 => exact (Kd.bN HO698.out).2.1); rintro e w9022 ⟨rfl, hb⟩; refine ⟨_, rfl, ?_⟩; have n0_ := ah.mk (Kd.gH (SR HO682) hb); have n3_ := ah.mk (Kd.gH (SR HO692) hb); replace HO685 := RB HO685 hb; replace HO688 := RB HO688 hb; replace HO695 := RB HO695 hb; replace HO698 := RB HO698 hb; replace BK672 := KB BK672 hb; replace HB := BS (w := w) hb; clear HO682 HO692; have HO682 := n0_; have HO692 := n3_; clear n0_ n3_; (try clear hb); refine bP ?_))
      refine Hide.mk ?_
      replace H := H.out
      replace H := ifE H; rcases H with ⟨c43b0, c43b1, H⟩ | ⟨c43, c43b0, c43b1, H⟩
      ·replace H := be H; obtain ⟨t703, A44, H⟩ := H
       replace H := be H; obtain ⟨t706, A45, H⟩ := H
       replace H := ah.mk H
       go_wp2_with (first | ((with_reducible refine ay (f := 15) rfl ?_); refine bq (some 68) Tryz.func15 #[.slice A2 l2.length c2] ?_; (with_reducible refine (dR.calls k _ _ l2 t703 _ ?side1 ?side2 A44.out).mono ?_); (case side1 => exact CB HR2); (case side2 => exact HC2.out); rintro e w9023 ⟨v704, rfl, ho0, hb⟩; refine ⟨_, rfl, ?_⟩; have n0_ := ah.mk (Kd.pR (SR HO682) (Kd.zF ho0) hb); have n3_ := ah.mk (Kd.pR (SR HO692) (Kd.zF ho0) hb); have n6_ := ah.mk (Kd.oG (Kd.zM (Kd.zM ho0 (Kd.Eb (SR HO682))) (Kd.Eb (SR HO692))) (aQ BL)); replace HO685 := RB HO685 hb; replace HO688 := RB HO688 hb; replace HO695 := RB HO695 hb; replace HO698 := RB HO698 hb; replace BK672 := KB BK672 hb; replace HB := BS (w := w) hb; clear HO682 HO692; have HO682 := n0_; have HO692 := n3_; have HO705 := n6_; clear n0_ n3_ n6_; (try clear hb); (try clear ho0); obtain ⟨Ao9024, co9024, eo9024⟩ := Kd.qA HO705.out; subst eo9024) | ((with_reducible refine ay (f := 19) rfl ?_); refine bq (some 69) Tryz.func19 #[.slice Ao9019 t690.length co9019, .slice Ao9024 t703.length co9024] ?_; (with_reducible refine (dB.calls k _ _ t690 _ _ t703 _ _ ?side1 ?side2 ?side3 ?side4 A45.out).mono ?_); (case side1 => repeat (first | exact (Kd.iX HO692.out).2.2 | (with_reducible refine Kd.eG ?_ _) | (with_reducible refine Kd.eH ?_ _) | (with_reducible refine Kd.fP ?_))); (case side2 => exact (Kd.iX HO692.out).2.1); (case side3 => repeat (first | exact (Kd.iX HO705.out).2.2 | (with_reducible refine Kd.eG ?_ _) | (with_reducible refine Kd.eH ?_ _) | (with_reducible refine Kd.fP ?_))); (case side4 => exact (Kd.iX HO705.out).2.1); rintro e w9025 ⟨rfl, hb⟩; refine ⟨_, rfl, ?_⟩; have n0_ := ah.mk (Kd.gH (SR HO682) hb); have n3_ := ah.mk (Kd.gH (SR HO692) hb); have n6_ := ah.mk (Kd.gH (SR HO705) hb); replace HO685 := RB HO685 hb; replace HO688 := RB HO688 hb; replace HO695 := RB HO695 hb; replace HO698 := RB HO698 hb; replace BK672 := KB BK672 hb; replace HB := BS (w := w) hb; clear HO682 HO692 HO705; have HO682 := n0_; have HO692 := n3_; have HO705 := n6_; clear n0_ n3_ n6_; (try clear hb); refine bP ?_))
       refine Hide.mk ?_
       replace H := H.out
       replace H := ifB H; rcases H with ⟨rfl, H⟩ | ⟨rfl, H⟩
       ·replace H := be H; obtain ⟨t707, A47, H⟩ := H
        replace H := be H; obtain ⟨t710, A48, H⟩ := H
        replace H := ah.mk H
        go_wp2_with (first | ((with_reducible refine ay (f := 16) rfl ?_); refine bq (some 73) Tryz.func16 #[.slice A3 l3.length c3] ?_; (with_reducible refine (bX.calls k _ _ l3 t707 _ ?side1 ?side2 A47.out).mono ?_); (case side1 => exact CB HR3); (case side2 => exact HC3.out); rintro e w9026 ⟨v708, rfl, ho0, hb⟩; refine ⟨_, rfl, ?_⟩; have n0_ := ah.mk (Kd.gH (SR HO682) hb); have n1_ := ah.mk (Kd.jB (RR HO685) (Kd.kK ho0) hb); have n3_ := ah.mk (Kd.gH (SR HO692) hb); have n4_ := ah.mk (Kd.jB (RR HO695) (Kd.kK ho0) hb); have n6_ := ah.mk (Kd.gH (SR HO705) hb); have n7_ := ah.mk (Kd.cO (Kd.lG (Kd.lG ho0 (Kd.oI (RR HO685))) (Kd.oI (RR HO695))) (aQ BL)); replace HO688 := RB HO688 hb; replace HO698 := RB HO698 hb; replace BK672 := KB BK672 hb; replace HB := BS (w := w) hb; clear HO682 HO685 HO692 HO695 HO705; have HO682 := n0_; have HO685 := n1_; have HO692 := n3_; have HO695 := n4_; have HO705 := n6_; have HO709 := n7_; clear n0_ n1_ n3_ n4_ n6_ n7_; (try clear hb); (try clear ho0); obtain ⟨Ao9027, co9027, eo9027⟩ := Kd.dH HO709.out; subst eo9027) | ((with_reducible refine ay (f := 20) rfl ?_); refine bq (some 74) Tryz.func20 #[.slice Ao9020 t693.length co9020, .slice Ao9027 t707.length co9027] ?_; (with_reducible refine (bO.calls k _ _ t693 _ _ t707 _ _ ?side1 ?side2 ?side3 ?side4 A48.out).mono ?_); (case side1 => exact CR2 HO695); (case side2 => exact (Kd.bN HO695.out).2.1); (case side3 => exact CR2 HO709); (case side4 => exact (Kd.bN HO709.out).2.1); rintro e w9028 ⟨rfl, hb⟩; refine ⟨_, rfl, ?_⟩; have n0_ := ah.mk (Kd.gH (SR HO682) hb); have n3_ := ah.mk (Kd.gH (SR HO692) hb); have n6_ := ah.mk (Kd.gH (SR HO705) hb); replace HO685 := RB HO685 hb; replace HO688 := RB HO688 hb; replace HO695 := RB HO695 hb; replace HO698 := RB HO698 hb; replace HO709 := RB HO709 hb; replace BK672 := KB BK672 hb; replace HB := BS (w := w) hb; clear HO682 HO692 HO705; have HO682 := n0_; have HO692 := n3_; have HO705 := n6_; clear n0_ n3_ n6_; (try clear hb); refine bP ?_))
        refine Hide.mk ?_
        replace H := H.out
        replace H := ifB H; rcases H with ⟨rfl, H⟩ | ⟨rfl, H⟩
        ·replace H := be H; obtain ⟨t711, A50, H⟩ := H
         replace H := be H; obtain ⟨t714, A51, H⟩ := H
         replace H := ah.mk H
         go_wp2_with (first | ((with_reducible refine ay (f := 17) rfl ?_); refine bq (some 78) Tryz.func17 #[.slice A4 l4.length c4] ?_; (with_reducible refine (dh.calls k _ _ l4 t711 _ ?side1 ?side2 A50.out).mono ?_); (case side1 => exact CB HR4); (case side2 => exact HC4.out); rintro e w9029 ⟨v712, rfl, ho0, hb⟩; refine ⟨_, rfl, ?_⟩; have n0_ := ah.mk (Kd.gH (SR HO682) hb); have n2_ := ah.mk (Kd.jB (RR HO688) (Kd.kK ho0) hb); have n3_ := ah.mk (Kd.gH (SR HO692) hb); have n5_ := ah.mk (Kd.jB (RR HO698) (Kd.kK ho0) hb); have n6_ := ah.mk (Kd.gH (SR HO705) hb); have n8_ := ah.mk (Kd.cO (Kd.lG (Kd.lG ho0 (Kd.oI (RR HO688))) (Kd.oI (RR HO698))) (aQ BL)); replace HO685 := RB HO685 hb; replace HO695 := RB HO695 hb; replace HO709 := RB HO709 hb; replace BK672 := KB BK672 hb; replace HB := BS (w := w) hb; clear HO682 HO688 HO692 HO698 HO705; have HO682 := n0_; have HO688 := n2_; have HO692 := n3_; have HO698 := n5_; have HO705 := n6_; have HO713 := n8_; clear n0_ n2_ n3_ n5_ n6_ n8_; (try clear hb); (try clear ho0); obtain ⟨Ao9030, co9030, eo9030⟩ := Kd.dH HO713.out; subst eo9030) | ((with_reducible refine ay (f := 21) rfl ?_); refine bq (some 79) Tryz.func21 #[.slice Ao9021 t696.length co9021, .slice Ao9030 t711.length co9030] ?_; (with_reducible refine (eZ.calls k _ _ t696 _ _ t711 _ _ ?side1 ?side2 ?side3 ?side4 A51.out).mono ?_); (case side1 => exact CR2 HO698); (case side2 => exact (Kd.bN HO698.out).2.1); (case side3 => exact CR2 HO713); (case side4 => exact (Kd.bN HO713.out).2.1); rintro e w' ⟨rfl, ⟨nd, rfl⟩⟩; refine ⟨_, rfl, ?_⟩; refine bP ?_))
         refine Hide.mk ?_
         replace H := H.out
         replace H := ifB H; rcases H with ⟨rfl, H⟩ | ⟨rfl, H⟩
         ·obtain rfl := Option.some.inj H
          try go_wp2
          go_ret
          exact ⟨EWW, BL⟩
         ·obtain rfl := Option.some.inj H
          try go_wp2
          go_ret
          exact ⟨EWW, BL⟩
        ·obtain rfl := Option.some.inj H
         try go_wp2
         go_ret
         exact ⟨EWW, BL⟩
       ·obtain rfl := Option.some.inj H
        try go_wp2
        go_ret
        exact ⟨EWW, BL⟩
      ·obtain rfl := Option.some.inj H
       try go_wp2
       go_ret
       exact ⟨EWW, BL⟩
end Go.Proofs.YtnfiedfaaaphoaaGreat.PFnExactPuzzleCode
