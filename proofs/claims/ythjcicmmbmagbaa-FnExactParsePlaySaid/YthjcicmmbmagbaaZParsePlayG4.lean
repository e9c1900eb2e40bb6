/- Walks of functions: what each computes. -/
import Derived.Test.YthjcicmmbmagbaaZParsePlayG0
import Derived.Test.YthjcicmmbmagbaaZParsePlayG2
import Derived.Test.YthjcicmmbmagbaaZParsePlayG3
import Derived.Test.YthjcicmmbmagbaaZParsePlayW
import Derived.Test.YthjcicmmbmagbaaZParsePlayShelf
import Derived.Test.YthjcicmmbmagbaaZParsePlayHandSort
import Derived.Test.YthjcicmmbmagbaaZParsePlayHandForm
import Derived.Test.YthjcicmmbmagbaaZParsePlayHandAlone
import Derived.Test.YthjcicmmbmagbaaZParsePlayHandRead
namespace Go.Proofs.Ythjcicmmbmagbaa.PFnExactParsePlay
open Go.RowKit Go.Proofs.YthjcicmmbmagbaaW.PrintWords Go.Proofs.YthjcicmmbmagbaaW.PrintLast Go.Proofs.YthjcicmmbmagbaaW.PrintMore Go.Proofs.Ythjcicmmbmagbaa.Sq
attribute [local go_sem] iA gZ jr jf gJ gG gX iF
set_option maxHeartbeats 8000000
set_option maxRecDepth 100000
set_option linter.unusedVariables false
set_option linter.unusedSimpArgs false
def aH.l0 : Nat → List (aA) → Int → Int → Option (Int)
 | 0, _, _, _ => none
 | k + 1, a, b, c => if c < (a.length : Int) then (if 0 ≤ c then (if ((ah a c).f0) = b then ((aT.f k (wrap64 (b + 1))).bind fun d => (if ((ah a c).f1).toList = d.toList then (if ((ah a c).f2) = (wrap64 ((wrap64 (b + 1)) + 1)) then (if ((ah a c).f3) = (wrap64 ((wrap64 ((wrap64 (b + 1)) + 1)) + 1)) then (aH.l0 k a (wrap64 ((wrap64 ((wrap64 ((wrap64 (b + 1)) + 1)) + 1)) + 1)) (wrap64 (c + 1))) else (some (-1))) else (some (-1))) else (some (-1)))) else (some (-1))) else (none)) else (some b)
def aH.f (k : Nat) (l0 : List (aA)) (a1 : Int) : Option (Int) := aH.l0 k l0 a1 0
def aH.T7 : Bool × List (List Nat × List Nat) := (true, [([], []), ([], []), ([0, 1], [0, 1]), ([2], [2]), ([3], [3]), ([], []), ([5], [5]), ([4, 6], [4, 6])])
def aH.B7 : List Nat := [0, 0, 3, 7, 15, 0, 32, 127]
theorem aH.pU : fG .any (opsOf Try.f34 7) = aH.T7 := by kernel_rfl
theorem aH.nO : fK aH.T7.2 aH.B7 = true := by kernel_rfl
theorem aH.calls (k : Nat) (A0 : Option Addr) (c0 : Nat) (l0 : List (aA)) (a1 r : Int) (w : World) (hr0 : Kd.C bQ w A0 l0.length l0) (hc0 : l0.length ≤ c0) (h : aH.f k l0 a1 = some r) :
  Calls Try.prog 34 #[.slice A0 l0.length c0, .int .i64 a1] w fun e w' => e = .returned (.int .i64 r) ∧ Below w.heap.size w w' := by
 have HR0 := aj.mk hr0
 have HC0 := aj.mk hc0
 clear hr0 hc0
 have HB := aj.mk (Below.refl w.heap.size w)
 have H : (aH.l0 k l0 a1 0) = some r := h
 clear h
 have H' := aj.mk H
 clear H
 go_enter Try.func34, Try.ntmps34
 go_wp2
 go_loopg [1, 5] k (fun kq v1 v5 w' => ∃ (x1_1 : Int) (x5_1 : Int), v1 = .int .i64 x1_1 ∧ v5 = .int .i64 x5_1 ∧ aj (aH.l0 kq l0 x1_1 x5_1 = some r) ∧ aj (kq ≤ k) ∧ aj (Below w.heap.size w w'))
 case atStart => exact ⟨(a1), (0), EQ, EQ, H', ⟨Nat.le_refl _⟩, ⟨BL⟩⟩
 case round =>
  clear H'
  obtain ⟨x1_1, x5_1, rfl, rfl, HA, HK1, HB⟩ := hrel
  cases gk with
  | zero => exact absurd HA.out (by simp [aH.l0])
  | succ k1 =>
   have H := HA.out
   clear HA
   simp only [aH.l0] at H
   replace H := ifD H; rcases H with ⟨c3b0, H⟩ | ⟨c3b0, H⟩
   ·replace H := ifN H; obtain ⟨c4b0, H⟩ := H
    have p221 : 0 ≤ (x5_1 : Int) := OD
    have q221 : x5_1 < (l0.length : Int) := OD
    obtain ⟨ad221, e221, hx221_0, hx221_1, hx221_2, hx221_3⟩ := dD HR0.out x5_1 p221 q221
    cases e221
    try replace hx221_0 := (HB.out.cell (World.block_lt_of_cell? w _ hx221_0)).trans hx221_0
    try replace hx221_1 := (HB.out.cell (World.block_lt_of_cell? w _ hx221_1)).trans hx221_1
    try replace hx221_2 := (HB.out.cell (World.block_lt_of_cell? w _ hx221_2)).trans hx221_2
    try replace hx221_3 := (HB.out.cell (World.block_lt_of_cell? w _ hx221_3)).trans hx221_3
    replace p221 := eq_true p221
    replace q221 := eq_true q221
    replace H := ifE H; rcases H with ⟨c5b0, c5b1, H⟩ | ⟨c5, c5b0, c5b1, H⟩
    ·replace H := be H; obtain ⟨t223, A6, H⟩ := H
     replace H := aj.mk H
     try go_wp2
     replace HB := aj.mk (dM HB.out)
     have p222 : 0 ≤ (x5_1 : Int) := OD
     have q222 : x5_1 < (l0.length : Int) := OD
     obtain ⟨ad222, e222, hx222_0, hx222_1, hx222_2, hx222_3⟩ := dD HR0.out x5_1 p222 q222
     have hw222_3 := hx222_3
     have hw222_2 := hx222_2
     have hw222_1 := hx222_1
     have hw222_0 := hx222_0
     replace H := H.out
     replace H := ifE H; rcases H with ⟨c7b0, c7b1, H⟩ | ⟨c7, c7b0, c7b1, H⟩
     ·replace H := ifE H; rcases H with ⟨c8b0, c8b1, H⟩ | ⟨c8, c8b0, c8b1, H⟩
      ·replace H := ifE H; rcases H with ⟨c9b0, c9b1, H⟩ | ⟨c9, c9b0, c9b1, H⟩
       ·have H' := aj.mk H
        clear H
        obtain rfl : ad221 = ad222 := (by injection e222)
        try replace hx222_0 := (HB.out.cell (World.block_lt_of_cell? w _ hx222_0)).trans hx222_0
        try replace hx222_1 := (HB.out.cell (World.block_lt_of_cell? w _ hx222_1)).trans hx222_1
        try replace hx222_2 := (HB.out.cell (World.block_lt_of_cell? w _ hx222_2)).trans hx222_2
        try replace hx222_3 := (HB.out.cell (World.block_lt_of_cell? w _ hx222_3)).trans hx222_3
        replace p222 := eq_true p222
        replace q222 := eq_true q222
        refine fQ (n := 8) (S := fun w' => w'.cell? (ad221.add ((x5_1).toNat * 4)) = some (.int .i64 ((ah l0 x5_1).f0)) ∧ w'.cell? ⟨(ad221.add ((x5_1).toNat * 4)).block, (ad221.add ((x5_1).toNat * 4)).off + 1, none⟩ = some (.string ((ah l0 x5_1).f1)) ∧ w'.cell? ⟨(ad221.add ((x5_1).toNat * 4)).block, (ad221.add ((x5_1).toNat * 4)).off + 2, none⟩ = some (.int .i64 ((ah l0 x5_1).f2)) ∧ w'.cell? ⟨(ad221.add ((x5_1).toNat * 4)).block, (ad221.add ((x5_1).toNat * 4)).off + 3, none⟩ = some (.int .i64 ((ah l0 x5_1).f3))) (ds := []) #[F,F,F,F,F,F,F,F] (by kernel_rfl) rfl rfl ⟨((HB.out.cell (World.block_lt_of_cell? w _ hw222_0)).trans hw222_0), ((HB.out.cell (World.block_lt_of_cell? w _ hw222_1)).trans hw222_1), ((HB.out.cell (World.block_lt_of_cell? w _ hw222_2)).trans hw222_2), ((HB.out.cell (World.block_lt_of_cell? w _ hw222_3)).trans hw222_3)⟩ (fun hHeld => ?_); refine eP aH.pU aH.nO (fun HT_ HW_ => ?_)
        generalize wr.drew = w7000 at HB hx222_0 hx222_1 hx222_2 hx222_3 hHeld ⊢
        refine puS (i := 0) (N := some 21) #[T,F,F,F,F,F,F,F] (bf HT_.out (by kernel_rfl)) ?_
        refine puS (i := 1) (N := some 22) #[T,T,F,F,F,F,F,F] (bf HT_.out (by kernel_rfl)) ?_
        refine puS (i := 2) (N := some 23) #[T,T,T,F,F,F,F,F] (bf HT_.out (by kernel_rfl)) ?_
        refine puS (i := 3) (N := some 24) #[T,T,T,T,F,F,F,F] (bf HT_.out (by kernel_rfl)) ?_
        refine puS (i := 5) (N := some 26) #[T,T,T,T,F,T,F,F] (bf HT_.out (by kernel_rfl)) ?_
        refine taS (i := 4) (N := some 25) #[T,T,T,T,T,T,F,F] (dw HT_.out HW_.out (by kernel_rfl)) hHeld ?_
        refine jv (i := 6) (N := some 27) #[T,T,T,T,T,T,T,F] rfl rfl (gu HT_.out (by kernel_rfl)) (by decide) (fun K hK => ?_)
        refine jU Try.func59 #[.int .i64 (wrap64 (x1_1 + 1))] ?_
        with_reducible refine (aT.calls k1 (wrap64 (x1_1 + 1)) t223 _ A6.out).mono ?_
        rintro e w7001 ⟨rfl, hb⟩
        refine ⟨_, rfl, ?_⟩
        replace HB := BS (w := w) hb
        (try clear hb)
        refine hK.out _ _ ⟨((HB.out.cell (World.block_lt_of_cell? w _ hw222_0)).trans hw222_0), ((HB.out.cell (World.block_lt_of_cell? w _ hw222_1)).trans hw222_1), ((HB.out.cell (World.block_lt_of_cell? w _ hw222_2)).trans hw222_2), ((HB.out.cell (World.block_lt_of_cell? w _ hw222_3)).trans hw222_3)⟩ (fun hHeld => ?_)
        clear hK K
        refine nrm (some 27) ?_
        refine puS (i := 7) (N := some 28) #[T,T,T,T,T,T,T,T] (bf HT_.out (by kernel_rfl)) ?_
        refine gV (fJ HT_.out (by kernel_rfl)) ?_
        have p224 : 0 ≤ (x5_1 : Int) := OD
        have q224 : x5_1 < (l0.length : Int) := OD
        obtain ⟨ad224, e224, hx224_0, hx224_1, hx224_2, hx224_3⟩ := dD HR0.out x5_1 p224 q224
        obtain rfl : ad221 = ad224 := (by injection e224)
        try replace hx224_0 := (HB.out.cell (World.block_lt_of_cell? w _ hx224_0)).trans hx224_0
        try replace hx224_1 := (HB.out.cell (World.block_lt_of_cell? w _ hx224_1)).trans hx224_1
        try replace hx224_2 := (HB.out.cell (World.block_lt_of_cell? w _ hx224_2)).trans hx224_2
        try replace hx224_3 := (HB.out.cell (World.block_lt_of_cell? w _ hx224_3)).trans hx224_3
        replace p224 := eq_true p224
        replace q224 := eq_true q224
        have p225 : 0 ≤ (x5_1 : Int) := OD
        have q225 : x5_1 < (l0.length : Int) := OD
        obtain ⟨ad225, e225, hx225_0, hx225_1, hx225_2, hx225_3⟩ := dD HR0.out x5_1 p225 q225
        obtain rfl : ad221 = ad225 := (by injection e225)
        try replace hx225_0 := (HB.out.cell (World.block_lt_of_cell? w _ hx225_0)).trans hx225_0
        try replace hx225_1 := (HB.out.cell (World.block_lt_of_cell? w _ hx225_1)).trans hx225_1
        try replace hx225_2 := (HB.out.cell (World.block_lt_of_cell? w _ hx225_2)).trans hx225_2
        try replace hx225_3 := (HB.out.cell (World.block_lt_of_cell? w _ hx225_3)).trans hx225_3
        replace p225 := eq_true p225
        replace q225 := eq_true q225
        try go_wp2
        go_roundg k1
        case measure => have := HK1.out; omega
        case rel => exact ⟨(wrap64 ((wrap64 ((wrap64 ((wrap64 (x1_1 + 1)) + 1)) + 1)) + 1)), (wrap64 (x5_1 + 1)), EQ, EQ, H', ⟨by have := HK1.out; omega⟩, ⟨BL⟩⟩
       ·obtain rfl := Option.some.inj H
        obtain rfl : ad221 = ad222 := (by injection e222)
        try replace hx222_0 := (HB.out.cell (World.block_lt_of_cell? w _ hx222_0)).trans hx222_0
        try replace hx222_1 := (HB.out.cell (World.block_lt_of_cell? w _ hx222_1)).trans hx222_1
        try replace hx222_2 := (HB.out.cell (World.block_lt_of_cell? w _ hx222_2)).trans hx222_2
        try replace hx222_3 := (HB.out.cell (World.block_lt_of_cell? w _ hx222_3)).trans hx222_3
        replace p222 := eq_true p222
        replace q222 := eq_true q222
        refine fQ (n := 8) (S := fun w' => w'.cell? (ad221.add ((x5_1).toNat * 4)) = some (.int .i64 ((ah l0 x5_1).f0)) ∧ w'.cell? ⟨(ad221.add ((x5_1).toNat * 4)).block, (ad221.add ((x5_1).toNat * 4)).off + 1, none⟩ = some (.string ((ah l0 x5_1).f1)) ∧ w'.cell? ⟨(ad221.add ((x5_1).toNat * 4)).block, (ad221.add ((x5_1).toNat * 4)).off + 2, none⟩ = some (.int .i64 ((ah l0 x5_1).f2)) ∧ w'.cell? ⟨(ad221.add ((x5_1).toNat * 4)).block, (ad221.add ((x5_1).toNat * 4)).off + 3, none⟩ = some (.int .i64 ((ah l0 x5_1).f3))) (ds := []) #[F,F,F,F,F,F,F,F] (by kernel_rfl) rfl rfl ⟨((HB.out.cell (World.block_lt_of_cell? w _ hw222_0)).trans hw222_0), ((HB.out.cell (World.block_lt_of_cell? w _ hw222_1)).trans hw222_1), ((HB.out.cell (World.block_lt_of_cell? w _ hw222_2)).trans hw222_2), ((HB.out.cell (World.block_lt_of_cell? w _ hw222_3)).trans hw222_3)⟩ (fun hHeld => ?_); refine eP aH.pU aH.nO (fun HT_ HW_ => ?_)
        generalize wr.drew = w7000 at HB hx222_0 hx222_1 hx222_2 hx222_3 hHeld ⊢
        refine puS (i := 0) (N := some 21) #[T,F,F,F,F,F,F,F] (bf HT_.out (by kernel_rfl)) ?_
        refine puS (i := 1) (N := some 22) #[T,T,F,F,F,F,F,F] (bf HT_.out (by kernel_rfl)) ?_
        refine puS (i := 2) (N := some 23) #[T,T,T,F,F,F,F,F] (bf HT_.out (by kernel_rfl)) ?_
        refine puS (i := 3) (N := some 24) #[T,T,T,T,F,F,F,F] (bf HT_.out (by kernel_rfl)) ?_
        refine puS (i := 5) (N := some 26) #[T,T,T,T,F,T,F,F] (bf HT_.out (by kernel_rfl)) ?_
        refine taS (i := 4) (N := some 25) #[T,T,T,T,T,T,F,F] (dw HT_.out HW_.out (by kernel_rfl)) hHeld ?_
        refine jv (i := 6) (N := some 27) #[T,T,T,T,T,T,T,F] rfl rfl (gu HT_.out (by kernel_rfl)) (by decide) (fun K hK => ?_)
        refine jU Try.func59 #[.int .i64 (wrap64 (x1_1 + 1))] ?_
        with_reducible refine (aT.calls k1 (wrap64 (x1_1 + 1)) t223 _ A6.out).mono ?_
        rintro e w7001 ⟨rfl, hb⟩
        refine ⟨_, rfl, ?_⟩
        replace HB := BS (w := w) hb
        (try clear hb)
        refine hK.out _ _ ⟨((HB.out.cell (World.block_lt_of_cell? w _ hw222_0)).trans hw222_0), ((HB.out.cell (World.block_lt_of_cell? w _ hw222_1)).trans hw222_1), ((HB.out.cell (World.block_lt_of_cell? w _ hw222_2)).trans hw222_2), ((HB.out.cell (World.block_lt_of_cell? w _ hw222_3)).trans hw222_3)⟩ (fun hHeld => ?_)
        clear hK K
        refine nrm (some 27) ?_
        refine puS (i := 7) (N := some 28) #[T,T,T,T,T,T,T,T] (bf HT_.out (by kernel_rfl)) ?_
        refine gV (fJ HT_.out (by kernel_rfl)) ?_
        have p224 : 0 ≤ (x5_1 : Int) := OD
        have q224 : x5_1 < (l0.length : Int) := OD
        obtain ⟨ad224, e224, hx224_0, hx224_1, hx224_2, hx224_3⟩ := dD HR0.out x5_1 p224 q224
        obtain rfl : ad221 = ad224 := (by injection e224)
        try replace hx224_0 := (HB.out.cell (World.block_lt_of_cell? w _ hx224_0)).trans hx224_0
        try replace hx224_1 := (HB.out.cell (World.block_lt_of_cell? w _ hx224_1)).trans hx224_1
        try replace hx224_2 := (HB.out.cell (World.block_lt_of_cell? w _ hx224_2)).trans hx224_2
        try replace hx224_3 := (HB.out.cell (World.block_lt_of_cell? w _ hx224_3)).trans hx224_3
        replace p224 := eq_true p224
        replace q224 := eq_true q224
        have p225 : 0 ≤ (x5_1 : Int) := OD
        have q225 : x5_1 < (l0.length : Int) := OD
        obtain ⟨ad225, e225, hx225_0, hx225_1, hx225_2, hx225_3⟩ := dD HR0.out x5_1 p225 q225
        obtain rfl : ad221 = ad225 := (by injection e225)
        try replace hx225_0 := (HB.out.cell (World.block_lt_of_cell? w _ hx225_0)).trans hx225_0
        try replace hx225_1 := (HB.out.cell (World.block_lt_of_cell? w _ hx225_1)).trans hx225_1
        try replace hx225_2 := (HB.out.cell (World.block_lt_of_cell? w _ hx225_2)).trans hx225_2
        try replace hx225_3 := (HB.out.cell (World.block_lt_of_cell? w _ hx225_3)).trans hx225_3
        replace p225 := eq_true p225
        replace q225 := eq_true q225
        try go_wp2
        go_ret
        exact ⟨EWW, BL⟩
      ·obtain rfl := Option.some.inj H
       obtain rfl : ad221 = ad222 := (by injection e222)
       try replace hx222_0 := (HB.out.cell (World.block_lt_of_cell? w _ hx222_0)).trans hx222_0
       try replace hx222_1 := (HB.out.cell (World.block_lt_of_cell? w _ hx222_1)).trans hx222_1
       try replace hx222_2 := (HB.out.cell (World.block_lt_of_cell? w _ hx222_2)).trans hx222_2
       try replace hx222_3 := (HB.out.cell (World.block_lt_of_cell? w _ hx222_3)).trans hx222_3
       replace p222 := eq_true p222
       replace q222 := eq_true q222
       refine fQ (n := 8) (S := fun w' => w'.cell? (ad221.add ((x5_1).toNat * 4)) = some (.int .i64 ((ah l0 x5_1).f0)) ∧ w'.cell? ⟨(ad221.add ((x5_1).toNat * 4)).block, (ad221.add ((x5_1).toNat * 4)).off + 1, none⟩ = some (.string ((ah l0 x5_1).f1)) ∧ w'.cell? ⟨(ad221.add ((x5_1).toNat * 4)).block, (ad221.add ((x5_1).toNat * 4)).off + 2, none⟩ = some (.int .i64 ((ah l0 x5_1).f2)) ∧ w'.cell? ⟨(ad221.add ((x5_1).toNat * 4)).block, (ad221.add ((x5_1).toNat * 4)).off + 3, none⟩ = some (.int .i64 ((ah l0 x5_1).f3))) (ds := []) #[F,F,F,F,F,F,F,F] (by kernel_rfl) rfl rfl ⟨((HB.out.cell (World.block_lt_of_cell? w _ hw222_0)).trans hw222_0), ((HB.out.cell (World.block_lt_of_cell? w _ hw222_1)).trans hw222_1), ((HB.out.cell (World.block_lt_of_cell? w _ hw222_2)).trans hw222_2), ((HB.out.cell (World.block_lt_of_cell? w _ hw222_3)).trans hw222_3)⟩ (fun hHeld => ?_); refine eP aH.pU aH.nO (fun HT_ HW_ => ?_)
       generalize wr.drew = w7000 at HB hx222_0 hx222_1 hx222_2 hx222_3 hHeld ⊢
       refine puS (i := 0) (N := some 21) #[T,F,F,F,F,F,F,F] (bf HT_.out (by kernel_rfl)) ?_
       refine puS (i := 1) (N := some 22) #[T,T,F,F,F,F,F,F] (bf HT_.out (by kernel_rfl)) ?_
       refine puS (i := 2) (N := some 23) #[T,T,T,F,F,F,F,F] (bf HT_.out (by kernel_rfl)) ?_
       refine puS (i := 3) (N := some 24) #[T,T,T,T,F,F,F,F] (bf HT_.out (by kernel_rfl)) ?_
       refine puS (i := 5) (N := some 26) #[T,T,T,T,F,T,F,F] (bf HT_.out (by kernel_rfl)) ?_
       refine taS (i := 4) (N := some 25) #[T,T,T,T,T,T,F,F] (dw HT_.out HW_.out (by kernel_rfl)) hHeld ?_
       refine jv (i := 6) (N := some 27) #[T,T,T,T,T,T,T,F] rfl rfl (gu HT_.out (by kernel_rfl)) (by decide) (fun K hK => ?_)
       refine jU Try.func59 #[.int .i64 (wrap64 (x1_1 + 1))] ?_
       with_reducible refine (aT.calls k1 (wrap64 (x1_1 + 1)) t223 _ A6.out).mono ?_
       rintro e w7001 ⟨rfl, hb⟩
       refine ⟨_, rfl, ?_⟩
       replace HB := BS (w := w) hb
       (try clear hb)
       refine hK.out _ _ ⟨((HB.out.cell (World.block_lt_of_cell? w _ hw222_0)).trans hw222_0), ((HB.out.cell (World.block_lt_of_cell? w _ hw222_1)).trans hw222_1), ((HB.out.cell (World.block_lt_of_cell? w _ hw222_2)).trans hw222_2), ((HB.out.cell (World.block_lt_of_cell? w _ hw222_3)).trans hw222_3)⟩ (fun hHeld => ?_)
       clear hK K
       refine nrm (some 27) ?_
       refine puS (i := 7) (N := some 28) #[T,T,T,T,T,T,T,T] (bf HT_.out (by kernel_rfl)) ?_
       refine gV (fJ HT_.out (by kernel_rfl)) ?_
       have p224 : 0 ≤ (x5_1 : Int) := OD
       have q224 : x5_1 < (l0.length : Int) := OD
       obtain ⟨ad224, e224, hx224_0, hx224_1, hx224_2, hx224_3⟩ := dD HR0.out x5_1 p224 q224
       obtain rfl : ad221 = ad224 := (by injection e224)
       try replace hx224_0 := (HB.out.cell (World.block_lt_of_cell? w _ hx224_0)).trans hx224_0
       try replace hx224_1 := (HB.out.cell (World.block_lt_of_cell? w _ hx224_1)).trans hx224_1
       try replace hx224_2 := (HB.out.cell (World.block_lt_of_cell? w _ hx224_2)).trans hx224_2
       try replace hx224_3 := (HB.out.cell (World.block_lt_of_cell? w _ hx224_3)).trans hx224_3
       replace p224 := eq_true p224
       replace q224 := eq_true q224
       try go_wp2
       go_ret
       exact ⟨EWW, BL⟩
     ·obtain rfl := Option.some.inj H
      obtain rfl : ad221 = ad222 := (by injection e222)
      try replace hx222_0 := (HB.out.cell (World.block_lt_of_cell? w _ hx222_0)).trans hx222_0
      try replace hx222_1 := (HB.out.cell (World.block_lt_of_cell? w _ hx222_1)).trans hx222_1
      try replace hx222_2 := (HB.out.cell (World.block_lt_of_cell? w _ hx222_2)).trans hx222_2
      try replace hx222_3 := (HB.out.cell (World.block_lt_of_cell? w _ hx222_3)).trans hx222_3
      replace p222 := eq_true p222
      replace q222 := eq_true q222
      refine fQ (n := 8) (S := fun w' => w'.cell? (ad221.add ((x5_1).toNat * 4)) = some (.int .i64 ((ah l0 x5_1).f0)) ∧ w'.cell? ⟨(ad221.add ((x5_1).toNat * 4)).block, (ad221.add ((x5_1).toNat * 4)).off + 1, none⟩ = some (.string ((ah l0 x5_1).f1)) ∧ w'.cell? ⟨(ad221.add ((x5_1).toNat * 4)).block, (ad221.add ((x5_1).toNat * 4)).off + 2, none⟩ = some (.int .i64 ((ah l0 x5_1).f2)) ∧ w'.cell? ⟨(ad221.add ((x5_1).toNat * 4)).block, (ad221.add ((x5_1).toNat * 4)).off + 3, none⟩ = some (.int .i64 ((ah l0 x5_1).f3))) (ds := []) #[F,F,F,F,F,F,F,F] (by kernel_rfl) rfl rfl ⟨((HB.out.cell (World.block_lt_of_cell? w _ hw222_0)).trans hw222_0), ((HB.out.cell (World.block_lt_of_cell? w _ hw222_1)).trans hw222_1), ((HB.out.cell (World.block_lt_of_cell? w _ hw222_2)).trans hw222_2), ((HB.out.cell (World.block_lt_of_cell? w _ hw222_3)).trans hw222_3)⟩ (fun hHeld => ?_); refine eP aH.pU aH.nO (fun HT_ HW_ => ?_)
      generalize wr.drew = w7000 at HB hx222_0 hx222_1 hx222_2 hx222_3 hHeld ⊢
      refine puS (i := 0) (N := some 21) #[T,F,F,F,F,F,F,F] (bf HT_.out (by kernel_rfl)) ?_
      refine puS (i := 1) (N := some 22) #[T,T,F,F,F,F,F,F] (bf HT_.out (by kernel_rfl)) ?_
      refine puS (i := 2) (N := some 23) #[T,T,T,F,F,F,F,F] (bf HT_.out (by kernel_rfl)) ?_
      refine puS (i := 3) (N := some 24) #[T,T,T,T,F,F,F,F] (bf HT_.out (by kernel_rfl)) ?_
      refine puS (i := 5) (N := some 26) #[T,T,T,T,F,T,F,F] (bf HT_.out (by kernel_rfl)) ?_
      refine taS (i := 4) (N := some 25) #[T,T,T,T,T,T,F,F] (dw HT_.out HW_.out (by kernel_rfl)) hHeld ?_
      refine jv (i := 6) (N := some 27) #[T,T,T,T,T,T,T,F] rfl rfl (gu HT_.out (by kernel_rfl)) (by decide) (fun K hK => ?_)
      refine jU Try.func59 #[.int .i64 (wrap64 (x1_1 + 1))] ?_
      with_reducible refine (aT.calls k1 (wrap64 (x1_1 + 1)) t223 _ A6.out).mono ?_
      rintro e w7001 ⟨rfl, hb⟩
      refine ⟨_, rfl, ?_⟩
      replace HB := BS (w := w) hb
      (try clear hb)
      refine hK.out _ _ ⟨((HB.out.cell (World.block_lt_of_cell? w _ hw222_0)).trans hw222_0), ((HB.out.cell (World.block_lt_of_cell? w _ hw222_1)).trans hw222_1), ((HB.out.cell (World.block_lt_of_cell? w _ hw222_2)).trans hw222_2), ((HB.out.cell (World.block_lt_of_cell? w _ hw222_3)).trans hw222_3)⟩ (fun hHeld => ?_)
      clear hK K
      refine nrm (some 27) ?_
      refine puS (i := 7) (N := some 28) #[T,T,T,T,T,T,T,T] (bf HT_.out (by kernel_rfl)) ?_
      refine gV (fJ HT_.out (by kernel_rfl)) ?_
      try go_wp2
      go_ret
      exact ⟨EWW, BL⟩
    ·obtain rfl := Option.some.inj H
     go_wp2
     go_ret
     exact ⟨EWW, BL⟩
   ·obtain rfl := Option.some.inj H
    go_wp2
    go_ret
    exact ⟨EWW, BL⟩
mutual
def aC.j0 : Nat → ByteArray → List (aA) → Bool → List (aA) → Bool → Option (Bool)
 | 0, _, _, _, _, _ => none
 | k + 1, a, b, c, d, e => if e = true then (some false) else ((bq.f k d 1).bind fun f => ((aH.f k f.2 1).bind fun g => (if g < 0 then (some false) else (if g = f.1 then ((aI.f k a).bind fun h => ((aX.f k h.1 b).bind fun i => (if i = true then (aC.j1 k f.2 f.1 (h.2 != c)) else (aC.j1 k f.2 f.1 true)))) else (some false)))))
def aC.j1 : Nat → List (aA) → Int → Bool → Option (Bool)
 | 0, _, _, _ => none
 | k + 1, a, b, c => if c = true then (some false) else ((aH.f k a 1).bind fun d => (if d < 0 then (some false) else (if d = b then (some true) else (some false))))
end
def aC.f (k : Nat) (a0 : ByteArray) : Option (Bool) := if (a0.size : Int) > 1048576 then (some true) else ((dB.f k a0).bind fun bt226 => ((aI.f k a0).bind fun bt230 => ((aX.f k bt230.1 bt226.1).bind fun t234 => (if t234 = true then (aC.j0 k a0 bt226.1 bt226.2 bt230.1 (bt230.2 != bt226.2)) else (aC.j0 k a0 bt226.1 bt226.2 bt230.1 true)))))
theorem aC.calls (k : Nat) (a0 : ByteArray) (r : Bool) (w : World) (h : aC.f k a0 = some r) :
  Calls Try.prog 5 #[.string a0] w fun e w' => e = .returned (.bool r) ∧ Below w.heap.size w w' := by
 have HB := aj.mk (Below.refl w.heap.size w)
 unfold aC.f at h
 have H := h
 clear h
 replace H := aj.mk H
 go_enter Try.func5, Try.ntmps5
 replace H := H.out
 by_cases c2 : (a0.size : Int) > 1048576
 ·rw [if_pos c2] at H
  have c2b0 : decide (1048576 < (a0.size : Int)) = true := decide_eq_true c2
  have c2b1 : decide (1048576 < a0.size) = true := decide_eq_true (by omega)
  clear c2
  obtain rfl := Option.some.inj H
  try go_wp2
  go_ret
  exact ⟨EWW, BL⟩
 ·rw [if_neg c2] at H
  have c2b0 : decide (1048576 < (a0.size : Int)) = false := decide_eq_false c2
  have c2b1 : decide (1048576 < a0.size) = false := decide_eq_false (by omega)
  clear c2
  replace H := be H; obtain ⟨⟨t226, t227⟩, A3, H⟩ := H
  dsimp only at H
  replace H := be H; obtain ⟨⟨t230, t231⟩, A4, H⟩ := H
  dsimp only at H
  have HC5 := aj.mk H
  clear H
  go_upto_region 5 with (first | ((with_reducible refine aV (f := 30) rfl ?_); refine dF (some 16) Try.func30 #[.string a0] ?_; (with_reducible refine (dB.calls k a0 t226 t227 _ A3.out).mono ?_); rintro e w9000 ⟨v228, rfl, ho0, hb⟩; refine ⟨_, rfl, ?_⟩; have n0_ := aj.mk (Kd.dV ho0 (aW BL)); replace HB := BS (w := w) hb; have HO229 := n0_; clear n0_; (try clear hb); (try clear ho0)) | ((with_reducible refine aV (f := 31) rfl ?_); refine dF (some 21) Try.func31 #[.string a0] ?_; (with_reducible refine (aI.calls k a0 t230 t231 _ A4.out).mono ?_); rintro e w9001 ⟨v232, rfl, ho0, hb⟩; refine ⟨_, rfl, ?_⟩; have n0_ := aj.mk (Kd.gK (RR HO229) (Kd.jG ho0) hb); have n1_ := aj.mk (Kd.dV (Kd.jN ho0 (Kd.oq (RR HO229))) (aW BL)); replace HB := BS (w := w) hb; clear HO229; have HO229 := n0_; have HO233 := n1_; clear n0_ n1_; (try clear hb); (try clear ho0)))
  (try simp only [Act.put, List.setIfInBounds_toArray, List.set_cons_zero, List.set_cons_succ])
  go_cut [32] (fun v32 wc => ∃ (kq : Nat) (x32_4 : Bool), v32 = .bool x32_4 ∧ aj (aC.j0 kq a0 t226 t227 t230 x32_4 = some r) ∧ aj (kq ≤ k) ∧ aj (Kd.R bQ 110 wc w.heap.size (fun k_ => some k_ ≠ (v232 : Value).ownBlock) v228 t226) ∧ aj (Kd.R bQ 110 wc w.heap.size (fun k_ => some k_ ≠ (v228 : Value).ownBlock) v232 t230) ∧ aj (Below w.heap.size w wc))
  case first =>
   have H := HC5.out
   clear HC5
   replace H := be H; obtain ⟨t234, A8, H⟩ := H
   obtain ⟨Ao9002, co9002, eo9002⟩ := Kd.bG HO233.out
   subst eo9002
   obtain ⟨Ao9003, co9003, eo9003⟩ := Kd.bG HO229.out
   subst eo9003
   replace H := aj.mk H
   go_wp2_with (first | ((with_reducible refine aV (f := 32) rfl ?_); refine dF (some 26) Try.func32 #[.slice Ao9002 t230.length co9002, .slice Ao9003 t226.length co9003] ?_; (with_reducible refine (aX.calls k _ _ t230 _ _ t226 _ _ ?side1 ?side2 ?side3 ?side4 A8.out).mono ?_); (case side1 => exact CR2 HO233); (case side2 => exact (Kd.bF HO233.out).2.1); (case side3 => exact CR2 HO229); (case side4 => exact (Kd.bF HO229.out).2.1); rintro e w9004 ⟨rfl, hb⟩; refine ⟨_, rfl, ?_⟩; replace HO229 := RB HO229 hb; replace HO233 := RB HO233 hb; replace HB := BS (w := w) hb; (try clear hb); refine dS ?_))
   refine Hide.mk ?_
   replace H := H.out
   replace H := ifB H; rcases H with ⟨rfl, H⟩ | ⟨rfl, H⟩
   ·have H' := aj.mk H
    clear H
    try go_wp2
    go_meet
    case rel => exact ⟨_, ((t231 != t227)), EQ, H', ⟨by first | omega | exact Nat.le_refl _⟩, ⟨by (with_reducible repeat (first | apply Kd.bJ | apply Kd.bK | apply Kd.bV)); exact Kd.aQ HO229.out (fun _ hk => hk.2)⟩, ⟨by (with_reducible repeat (first | apply Kd.bJ | apply Kd.bK | apply Kd.bV)); exact Kd.aQ HO233.out (fun _ hk => hk.2)⟩, ⟨BL⟩⟩
   ·have H' := aj.mk H
    clear H
    try go_wp2
    go_meet
    case rel => exact ⟨_, (true), EQ, H', ⟨by first | omega | exact Nat.le_refl _⟩, ⟨by (with_reducible repeat (first | apply Kd.bJ | apply Kd.bK | apply Kd.bV)); exact Kd.aQ HO229.out (fun _ hk => hk.2)⟩, ⟨by (with_reducible repeat (first | apply Kd.bJ | apply Kd.bK | apply Kd.bV)); exact Kd.aQ HO233.out (fun _ hk => hk.2)⟩, ⟨BL⟩⟩
  case rest =>
   clear HC5
   try clear c2
   try clear c2b0
   try clear c2b1
   obtain ⟨kq, x32_4, rfl, HA, HJ4, HO_3, HO_5, HB⟩ := hcut
   cases kq with
   | zero => exact absurd HA.out (by simp [aC.j0])
   | succ kj4 =>
    have H := HA.out
    clear HA
    simp only [aC.j0] at H
    replace H := ifB H; rcases H with ⟨rfl, H⟩ | ⟨rfl, H⟩
    ·obtain rfl := Option.some.inj H
     go_wp2
     go_ret
     exact ⟨EWW, BL⟩
    ·replace H := be H; obtain ⟨⟨t235, t236⟩, A17, H⟩ := H
     dsimp only at H
     replace H := be H; obtain ⟨t237, A18, H⟩ := H
     obtain ⟨Ao9005, co9005, eo9005⟩ := Kd.bG HO_5.out
     subst eo9005
     replace H := aj.mk H
     go_wp2_with (first | ((with_reducible refine aV (f := 33) rfl ?_); refine dF (some 35) Try.func33 #[.slice Ao9005 t230.length co9005, .int .i64 1] ?_; (with_reducible refine (bq.calls kj4 (fun k_ => some k_ = (.slice Ao9005 t230.length co9005 : Value).ownBlock) (.slice Ao9005 t230.length co9005) t230 1 t235 t236 w _ ?side1 ?side2 A17.out).mono ?_); (case side1 => exact BL); (case side2 => exact Kd.bZ rfl HO_5.out); rintro e w9006 ⟨rfl, hy0, hb, hkp⟩; refine ⟨_, rfl, ?_⟩; have n0_ := aj.mk (Kd.aQ (ok' := fun k_ => some k_ ≠ (.slice Ao9005 t230.length co9005 : Value).ownBlock) (Kd.pW (HO_3.out) hkp (fun k_ hk_ hs_ => (hk_) hs_)) (fun k_ hk_ => hk_.1)); have n1_ := aj.mk (Kd.qF rfl hy0 (fun k_ e_ => HO_5.out.1 k_ e_)); have n2_ := aj.mk (hb); clear HO_3 HO_5 HB; have HO_3 := n0_; have HO_5 := n1_; have HB := n2_; clear n0_ n1_ n2_; (try clear hb); (try clear hkp); (try clear hy0)) | ((with_reducible refine aV (f := 34) rfl ?_); refine o7 (some 38) rfl rfl Try.func34 (by kernel_rfl) rfl #[.slice Ao9005 t236.length co9005, .int .i64 1] rfl (by (try simp only [List.map_toArray, List.map_cons, List.map_nil]); first | done | (rw [show t236.length = t230.length from (Kd.bF HO_5.out).1.symm] <;> rfl) | rfl | (simp only [List.length_drop, List.length_take]; rfl)) ?_; (with_reducible refine (aH.calls kj4 _ _ t236 1 t237 _ ?side1 ?side2 A18.out).mono ?_); (case side1 => exact CR2 HO_5); (case side2 => rw [show t236.length = t230.length from (Kd.bF HO_5.out).1.symm]; exact (Kd.bF HO_5.out).2.1); rintro e w9007 ⟨rfl, hb⟩; refine ⟨_, rfl, ?_⟩; replace HO_3 := RB HO_3 hb; replace HO_5 := RB HO_5 hb; replace HB := BS (w := w) hb; (try clear hb); refine dS ?_))
     refine Hide.mk ?_
     replace H := H.out
     replace H := ifD H; rcases H with ⟨c19b0, H⟩ | ⟨c19b0, H⟩
     ·obtain rfl := Option.some.inj H
      try go_wp2
      go_ret
      exact ⟨EWW, BL⟩
     ·replace H := ifE H; rcases H with ⟨c23b0, c23b1, H⟩ | ⟨c23, c23b0, c23b1, H⟩
      ·replace H := be H; obtain ⟨⟨t238, t239⟩, A24, H⟩ := H
       dsimp only at H
       have HC25 := aj.mk H
       clear H
       go_upto_region 16 with (first | ((with_reducible refine aV (f := 31) rfl ?_); refine dF (some 46) Try.func31 #[.string a0] ?_; (with_reducible refine (aI.calls kj4 a0 t238 t239 _ A24.out).mono ?_); rintro e w9008 ⟨v240, rfl, ho0, hb⟩; refine ⟨_, rfl, ?_⟩; have n0_ := aj.mk (Kd.gK (RR HO_3) (Kd.jG ho0) hb); have n1_ := aj.mk (Kd.gK (RR HO_5) (Kd.jG ho0) hb); have n2_ := aj.mk (Kd.dV (Kd.jN (Kd.jN ho0 (Kd.oq (RR HO_3))) (Kd.oq (RR HO_5))) (aW BL)); replace HB := BS (w := w) hb; clear HO_3 HO_5; have HO_3 := n0_; have HO_5 := n1_; have HO241 := n2_; clear n0_ n1_ n2_; (try clear hb); (try clear ho0)))
       (try simp only [Act.put, List.setIfInBounds_toArray, List.set_cons_zero, List.set_cons_succ])
       go_cut [57] (fun v57 wc => ∃ (kq : Nat) (x57_24 : Bool), v57 = .bool x57_24 ∧ aj (aC.j1 kq t236 t235 x57_24 = some r) ∧ aj (kq ≤ kj4) ∧ aj (Kd.R bQ 110 wc w.heap.size (fun _ => True) (.slice Ao9005 t230.length co9005) t236) ∧ aj (Below w.heap.size w wc))
       case first =>
        have H := HC25.out
        clear HC25
        replace H := be H; obtain ⟨t242, A30, H⟩ := H
        obtain ⟨Ao9009, co9009, eo9009⟩ := Kd.bG HO241.out
        subst eo9009
        obtain ⟨Ao9010, co9010, eo9010⟩ := Kd.bG HO_3.out
        subst eo9010
        replace H := aj.mk H
        go_wp2_with (first | ((with_reducible refine aV (f := 32) rfl ?_); refine dF (some 51) Try.func32 #[.slice Ao9009 t238.length co9009, .slice Ao9010 t226.length co9010] ?_; (with_reducible refine (aX.calls kj4 _ _ t238 _ _ t226 _ _ ?side1 ?side2 ?side3 ?side4 A30.out).mono ?_); (case side1 => exact CR2 HO241); (case side2 => exact (Kd.bF HO241.out).2.1); (case side3 => exact CR2 HO_3); (case side4 => exact (Kd.bF HO_3.out).2.1); rintro e w9011 ⟨rfl, hb⟩; refine ⟨_, rfl, ?_⟩; replace HO_3 := RB HO_3 hb; replace HO_5 := RB HO_5 hb; replace HO241 := RB HO241 hb; replace HB := BS (w := w) hb; (try clear hb); refine dS ?_))
        refine Hide.mk ?_
        replace H := H.out
        replace H := ifB H; rcases H with ⟨rfl, H⟩ | ⟨rfl, H⟩
        ·have H' := aj.mk H
         clear H
         try go_wp2
         go_meet
         case rel => exact ⟨_, ((t239 != t227)), EQ, H', ⟨by have := HJ4.out; first | omega | exact Nat.le_refl _⟩, ⟨by (with_reducible repeat (first | apply Kd.bJ | apply Kd.bK | apply Kd.bV)); exact Kd.aQ HO_5.out (fun _ hk => trivial)⟩, ⟨BL⟩⟩
        ·have H' := aj.mk H
         clear H
         try go_wp2
         go_meet
         case rel => exact ⟨_, (true), EQ, H', ⟨by have := HJ4.out; first | omega | exact Nat.le_refl _⟩, ⟨by (with_reducible repeat (first | apply Kd.bJ | apply Kd.bK | apply Kd.bV)); exact Kd.aQ HO_5.out (fun _ hk => trivial)⟩, ⟨BL⟩⟩
       case rest =>
        clear HC25
        try clear c2
        try clear c2b0
        try clear c2b1
        try clear c16
        try clear c19
        try clear c19b0
        try clear c23
        try clear c23b0
        try clear c23b1
        obtain ⟨kq, x57_24, rfl, HA, HJ24, HO_5, HB⟩ := hcut
        have hl5_24 := (Kd.bF HO_5.out).1
        rw [hl5_24] at HO_5
        (try simp only [hl5_24])
        cases kq with
        | zero => exact absurd HA.out (by simp [aC.j1])
        | succ kj24 =>
         have H := HA.out
         clear HA
         simp only [aC.j1] at H
         replace H := ifB H; rcases H with ⟨rfl, H⟩ | ⟨rfl, H⟩
         ·obtain rfl := Option.some.inj H
          go_wp2
          go_ret
          exact ⟨EWW, BL⟩
         ·replace H := be H; obtain ⟨t243, A39, H⟩ := H
          replace H := aj.mk H
          go_wp2_with (first | ((with_reducible refine aV (f := 34) rfl ?_); refine dF (some 60) Try.func34 #[.slice Ao9005 t236.length co9005, .int .i64 1] ?_; (with_reducible refine (aH.calls kj24 _ _ t236 1 t243 _ ?side1 ?side2 A39.out).mono ?_); (case side1 => exact CR2 HO_5); (case side2 => exact (Kd.bF HO_5.out).2.1); rintro e w9012 ⟨rfl, hb⟩; refine ⟨_, rfl, ?_⟩; replace HO_5 := RB HO_5 hb; replace HB := BS (w := w) hb; (try clear hb); refine dS ?_))
          refine Hide.mk ?_
          replace H := H.out
          replace H := ifD H; rcases H with ⟨c40b0, H⟩ | ⟨c40b0, H⟩
          ·obtain rfl := Option.some.inj H
           try go_wp2
           go_ret
           exact ⟨EWW, BL⟩
          ·replace H := ifE H; rcases H with ⟨c42b0, c42b1, H⟩ | ⟨c42, c42b0, c42b1, H⟩
           ·obtain rfl := Option.some.inj H
            try go_wp2
            go_ret
            exact ⟨EWW, BL⟩
           ·obtain rfl := Option.some.inj H
            try go_wp2
            go_ret
            exact ⟨EWW, BL⟩
      ·obtain rfl := Option.some.inj H
       try go_wp2
       go_ret
       exact ⟨EWW, BL⟩
def aC.Pure : Prop := ∀ (a0 : ByteArray), a0.size ≤ 140737488351232 → ∃ k, aC.f k a0 = some true
theorem aC.walk (P : aC.Pure) (a0 : ByteArray) (w : World) (w0 : a0.size ≤ 140737488351232) :
  Calls Try.prog 5 #[.string a0] w fun e w' => e = .returned (.bool true) ∧ Below w.heap.size w w' := by
 obtain ⟨k, h⟩ := P a0 w0
 refine (aC.calls k a0 true w h).mono ?_
 rintro e w' ⟨rfl, hd⟩
 exact ⟨rfl, hd⟩
end Go.Proofs.Ythjcicmmbmagbaa.PFnExactParsePlay
