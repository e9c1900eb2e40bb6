/- Walks of functions: what each computes. -/
import Derived.Test.YtnfiedfaaaphoaaGreatZOneRoundG0
import Derived.Test.YtnfiedfaaaphoaaGreatZOneRoundG1
import Derived.Test.YtnfiedfaaaphoaaGreatZOneRoundW
import Derived.Test.YtnfiedfaaaphoaaGreatZOneRoundShelf
import Derived.Test.YtnfiedfaaaphoaaGreatZOneRoundHandSort
import Derived.Test.YtnfiedfaaaphoaaGreatZOneRoundHandForm
import Derived.Test.YtnfiedfaaaphoaaGreatZOneRoundHandAlone
import Derived.Test.YtnfiedfaaaphoaaGreatZOneRoundHandReach
import Derived.Test.YtnfiedfaaaphoaaGreatZOneRoundHandPut
namespace Go.Proofs.YtnfiedfaaaphoaaGreat.PFnExactOneRound
open Go.RowKit Go.Proofs.YtnfiedfaaaphoaaGreatW.PrintWords Go.Proofs.YtnfiedfaaaphoaaGreatW.PrintLast Go.Proofs.YtnfiedfaaaphoaaGreatW.PrintMore Go.Proofs.YtnfiedfaaaphoaaGreat.Sq
attribute [local go_sem] lK lG ng mY kD kE lJ lF
set_option maxHeartbeats 8000000
set_option maxRecDepth 100000
set_option linter.unusedVariables false
set_option linter.unusedSimpArgs false
mutual
def bH.l0 : Nat → List (dJ) → Int → Int → Int → ByteArray → Option (Bool)
 | 0, _, _, _, _, _ => none
 | k + 1, a, b, c, d, e => if b < (a.length : Int) then ((dG.f k c d e b).bind fun f => (if 0 ≤ b then (if (wrap64 (2 * f)) > ((aM a b).f3) then (some true) else (bH.l0 k a (wrap64 (b + 1)) c d e)) else (none))) else (bH.l1 k 0 c d e)
def bH.l1 : Nat → Int → Int → Int → ByteArray → Option (Bool)
 | 0, _, _, _, _ => none
 | k + 1, a, b, c, d => if a < (d.size : Int) then ((jV.f k b c d a).bind fun e => (if e = true then ((cu.f k b c d a).bind fun f => (if (f.length : Int) = 0 then (some true) else (bH.l1 k (wrap64 (a + 1)) b c d))) else (bH.l1 k (wrap64 (a + 1)) b c d))) else (some false)
end
def bH.f (k : Nat) (FV FW : Int) (FX : ByteArray) : Option (Bool) := (aT.f k FV FW FX).bind fun t280 => (bH.l0 k t280 0 FV FW FX)
def bH.T5 : Bool × List (List Nat × List Nat) := (true, [([], []), ([], []), ([0, 1], [0, 1]), ([2], [2]), ([], []), ([], []), ([4, 5], [4, 5]), ([6], [6]), ([7], [7]), ([3, 8], [3, 8])])
def bH.B5 : List Nat := [0, 0, 3, 7, 0, 0, 48, 112, 240, 511]
theorem bH.FU : kG .any (opsOf Tryz.f100 5) = bH.T5 := by kernel_rfl
theorem bH.Fa : iW bH.T5.2 bH.B5 = true := by kernel_rfl
theorem bH.calls (k : Nat) (FV FW : Int) (FX : ByteArray) (r : Bool) (w : World) (h : bH.f k FV FW FX = some r) :
  Calls Tryz.prog 100 #[.agg #[.int .i64 FV, .int .i64 FW, .string FX]] w fun e w' => e = .returned (.bool r) ∧ Below w.heap.size w w' := by
 have hu32 := Tryz.underlying32
 have HB := ah.mk (Below.refl w.heap.size w)
 unfold bH.f at h
 have H := h
 clear h
 replace H := be H; obtain ⟨t280, A2, H⟩ := H
 have H' := ah.mk H
 clear H
 go_enter Tryz.func100, Tryz.ntmps100
 go_wp2_with (first | ((with_reducible refine aJ (N := 1) rfl ?_); (try (refine jd (by rfl) ?_; dsimp only)); refine bg (N := 1) (cs := #[.int .i64 FV, .int .i64 FW, .string FX]) (t := 32) ?_; intro gb279 hg w3 hbox hb; have BK279 := ah.mk hbox; have GW279 := SZ (w := w) hg; have GE279 := GW279; replace HB := BS (w := w) hb; clear hb hbox hg; obtain ⟨hcz4_0, hcz4_1, hcz4_2, hfz4_0, hfz4_1, hfz4_2⟩ := cz3 BK279.out) | ((with_reducible refine ay (f := 49) rfl ?_); refine bE (some 7) Tryz.func49 #[.agg #[.int .i64 FV, .int .i64 FW, .string FX]] ?_; (with_reducible refine (aT.calls k FV FW FX t280 _ A2.out).mono ?_); rintro e w5 ⟨v281, rfl, ho0, hb⟩; refine ⟨_, rfl, ?_⟩; have n0_ := ah.mk (Kd.cO ho0 (aQ BL)); replace BK279 := KB BK279 hb; replace HB := BS (w := w) hb; have HO282 := n0_; clear n0_; (try clear hb); (try clear ho0)))
 go_loopg [4] k (fun kq v4 w' => ∃ (x4_1 : Int), v4 = .int .i64 x4_1 ∧ ah (bH.l0 kq t280 x4_1 FV FW FX = some r) ∧ ah (kq ≤ k) ∧ ah (Kd.R lW 115 w' w.heap.size (fun _ => True) v281 t280) ∧ ah (w'.heap[gb279]? = some (.cells #[.int .i64 FV, .int .i64 FW, .string FX] 32 (0, 0))) ∧ ah (Below w.heap.size w w'))
 case atStart => exact ⟨(0), EQ, H', ⟨Nat.le_refl _⟩, ⟨(RR HO282)⟩, ⟨BK⟩, ⟨BL⟩⟩
 case round =>
  clear H'
  try clear hcz4_0
  try clear hcz4_1
  try clear hcz4_2
  try clear hfz4_0
  try clear hfz4_1
  try clear hfz4_2
  obtain ⟨x4_1, rfl, HA, HK1, HO_3, BK279, HB⟩ := hrel
  cases gk with
  | zero => exact absurd HA.out (by simp [bH.l0])
  | succ k1 =>
   have H := HA.out
   clear HA
   simp only [bH.l0] at H
   obtain ⟨Ao7000, co7000, eo7000⟩ := Kd.dL HO_3.out
   subst eo7000
   replace H := ifD H; rcases H with ⟨c6b0, H⟩ | ⟨c6b0, H⟩
   ·replace H := be H; obtain ⟨t283, A7, H⟩ := H
    replace H := ifN H; obtain ⟨c8b0, H⟩ := H
    replace H := ah.mk H
    try go_wp2
    replace HO_3 := ah.mk (Kd.eu HO_3.out)
    replace BK279 := ah.mk (aH BK279.out)
    replace HB := ah.mk (dH HB.out)
    have p284 : 0 ≤ (x4_1 : Int) := OD
    have q284 : x4_1 < (t280.length : Int) := OD
    obtain ⟨ad284, e284, hx284_0, hx284_1, hx284_2, hx284_3⟩ := nu (Kd.bP HO_3.out).2.2 x4_1 p284 q284
    cases e284
    replace p284 := eq_true p284
    replace q284 := eq_true q284
    refine ji (n := 10) (S := fun w' => w'.cell? ⟨gb279, 0, none⟩ = some (.int .i64 FV) ∧ w'.cell? ⟨gb279, 1, none⟩ = some (.int .i64 FW) ∧ w'.cell? ⟨gb279, 2, none⟩ = some (.string FX) ∧ w'.cell? (ad284.add ((x4_1).toNat * 4)) = some (.int .i64 ((aM t280 x4_1).f0)) ∧ w'.cell? ⟨(ad284.add ((x4_1).toNat * 4)).block, (ad284.add ((x4_1).toNat * 4)).off + 1, none⟩ = some (.bool ((aM t280 x4_1).f1)) ∧ w'.cell? ⟨(ad284.add ((x4_1).toNat * 4)).block, (ad284.add ((x4_1).toNat * 4)).off + 2, none⟩ = some (.int .i64 ((aM t280 x4_1).f2)) ∧ w'.cell? ⟨(ad284.add ((x4_1).toNat * 4)).block, (ad284.add ((x4_1).toNat * 4)).off + 3, none⟩ = some (.int .i64 ((aM t280 x4_1).f3))) (ds := []) #[F,F,F,F,F,F,F,F,F,F] (by kernel_rfl) rfl rfl ⟨(ak BK279.out 0).trans rfl, (ak BK279.out 1).trans rfl, (ak BK279.out 2).trans rfl, hx284_0, hx284_1, hx284_2, hx284_3⟩ (fun hHeld => ?_); refine iI bH.FU bH.Fa (fun HT_ HW_ => ?_)
    generalize wr.drew = w7001 at HO_3 BK279 HB hx284_0 hx284_1 hx284_2 hx284_3 hHeld ⊢
    refine puS (i := 1) (N := some 15) #[F,T,F,F,F,F,F,F,F,F] (aK HT_.out (by kernel_rfl)) ?_
    refine puS (i := 4) (N := some 18) #[F,T,F,F,T,F,F,F,F,F] (aK HT_.out (by kernel_rfl)) ?_
    refine puS (i := 5) (N := some 19) #[F,T,F,F,T,T,F,F,F,F] (aK HT_.out (by kernel_rfl)) ?_
    refine puS (i := 6) (N := some 20) #[F,T,F,F,T,T,T,F,F,F] (aK HT_.out (by kernel_rfl)) ?_
    refine puS (i := 7) (N := some 21) #[F,T,F,F,T,T,T,T,F,F] (aK HT_.out (by kernel_rfl)) ?_
    refine taS (i := 0) (N := some 14) #[T,T,F,F,T,T,T,T,F,F] (eF HT_.out HW_.out (by kernel_rfl)) hHeld ?_
    refine taS (i := 8) (N := some 22) #[T,T,F,F,T,T,T,T,T,F] (eF HT_.out HW_.out (by kernel_rfl)) hHeld ?_
    refine kW (i := 2) (N := some 16) #[T,T,T,F,T,T,T,T,T,F] rfl rfl (jf HT_.out (by kernel_rfl)) (by decide) (fun K hK => ?_)
    refine iZ Tryz.func155 #[.agg #[.int .i64 FV, .int .i64 FW, .string FX], .int .i64 x4_1] ?_
    with_reducible refine (dG.calls k1 FV FW FX x4_1 t283 _ A7.out).mono ?_
    rintro e w7002 ⟨rfl, hb⟩
    have HS3_ := (hb.cell (World.block_lt_of_cell? _ _ (hHeld.2.2.2.1))).trans (hHeld.2.2.2.1)
    have HS4_ := (hb.cell (World.block_lt_of_cell? _ _ (hHeld.2.2.2.2.1))).trans (hHeld.2.2.2.2.1)
    have HS5_ := (hb.cell (World.block_lt_of_cell? _ _ (hHeld.2.2.2.2.2.1))).trans (hHeld.2.2.2.2.2.1)
    have HS6_ := (hb.cell (World.block_lt_of_cell? _ _ (hHeld.2.2.2.2.2.2))).trans (hHeld.2.2.2.2.2.2)
    refine ⟨_, rfl, ?_⟩
    replace HO_3 := RB HO_3 hb
    replace BK279 := KB BK279 hb
    replace HB := BS (w := w) hb
    (try clear hb)
    refine hK.out _ _ ⟨(ak BK279.out 0).trans rfl, (ak BK279.out 1).trans rfl, (ak BK279.out 2).trans rfl, HS3_, HS4_, HS5_, HS6_⟩ (fun hHeld => ?_)
    clear hK K
    refine nrm (some 16) ?_
    replace H := H.out
    by_cases c9 : (wrap64 (2 * t283)) > ((aM t280 x4_1).f3)
    ·rw [if_pos c9] at H
     have c9b0 : decide (((aM t280 x4_1).f3) < (wrap64 (2 * t283))) = true := decide_eq_true c9
     clear c9
     obtain rfl := Option.some.inj H
     refine puS (i := 3) (N := some 17) #[T,T,T,T,T,T,T,T,T,F] (aK HT_.out (by kernel_rfl)) ?_
     refine puS (i := 9) (N := some 23) #[T,T,T,T,T,T,T,T,T,T] (aK HT_.out (by kernel_rfl)) ?_
     refine iD (gG HT_.out (by kernel_rfl)) ?_
     try go_wp2
     go_ret
     exact ⟨EWW, BL⟩
    ·rw [if_neg c9] at H
     have c9b0 : decide (((aM t280 x4_1).f3) < (wrap64 (2 * t283))) = false := decide_eq_false c9
     clear c9
     have H' := ah.mk H
     clear H
     refine puS (i := 3) (N := some 17) #[T,T,T,T,T,T,T,T,T,F] (aK HT_.out (by kernel_rfl)) ?_
     refine puS (i := 9) (N := some 23) #[T,T,T,T,T,T,T,T,T,T] (aK HT_.out (by kernel_rfl)) ?_
     refine iD (gG HT_.out (by kernel_rfl)) ?_
     try go_wp2
     go_roundg k1
     case measure => have := HK1.out; omega
     case rel => exact ⟨(wrap64 (x4_1 + 1)), EQ, H', ⟨by have := HK1.out; omega⟩, ⟨(RR HO_3)⟩, ⟨BK⟩, ⟨BL⟩⟩
   ·have H' := ah.mk H
    clear H
    go_wp2
    go_loopg [5] k1 (fun kq v5 w' => ∃ (x5_2 : Int), v5 = .int .i64 x5_2 ∧ ah (bH.l1 kq x5_2 FV FW FX = some r) ∧ ah (kq ≤ k1) ∧ ah (w'.heap[gb279]? = some (.cells #[.int .i64 FV, .int .i64 FW, .string FX] 32 (0, 0))) ∧ ah (Below w.heap.size w w'))
    case atStart => exact ⟨(0), EQ, H', ⟨Nat.le_refl _⟩, ⟨BK⟩, ⟨BL⟩⟩
    case round =>
     clear H'
     try clear c6
     try clear c6b0
     try clear hcz4_0
     try clear hcz4_1
     try clear hcz4_2
     try clear hfz4_0
     try clear hfz4_1
     try clear hfz4_2
     obtain ⟨x5_2, rfl, HA, HK2, BK279, HB⟩ := hrel
     cases gk with
     | zero => exact absurd HA.out (by simp [bH.l1])
     | succ k2 =>
      have H := HA.out
      clear HA
      simp only [bH.l1] at H
      obtain ⟨hcz7001_0, hcz7001_1, hcz7001_2, hfz7001_0, hfz7001_1, hfz7001_2⟩ := cz3 BK279.out
      replace H := ifD H; rcases H with ⟨c17b0, H⟩ | ⟨c17b0, H⟩
      ·replace H := be H; obtain ⟨t285, A18, H⟩ := H
       replace H := ah.mk H
       go_wp2_with (first | ((with_reducible refine ay (f := 156) rfl ?_); refine bE (some 33) Tryz.func156 #[.agg #[.int .i64 FV, .int .i64 FW, .string FX], .int .i64 x5_2] ?_; (with_reducible refine (jV.calls k2 FV FW FX x5_2 _ _ A18.out).mono ?_); rintro e w7002 ⟨rfl, hb⟩; refine ⟨_, rfl, ?_⟩; replace BK279 := KB BK279 hb; replace HB := BS (w := w) hb; (try clear hb); obtain ⟨hcz7003_0, hcz7003_1, hcz7003_2, hfz7003_0, hfz7003_1, hfz7003_2⟩ := cz3 BK279.out; refine bU ?_))
       refine Hide.mk ?_
       replace H := H.out
       replace H := ifB H; rcases H with ⟨rfl, H⟩ | ⟨rfl, H⟩
       ·replace H := be H; obtain ⟨t286, A20, H⟩ := H
        replace H := ah.mk H
        go_wp2_with (first | (go_at_call 157; (with_reducible refine (cu.calls k2 FV FW FX x5_2 t286 _ A20.out).mono ?_); rintro e w7004 ⟨v287, rfl, ho0, hb⟩; have n0_ := ah.mk (Kd.cO ho0 (aQ BL)); replace BK279 := KB BK279 hb; replace HB := BS (w := w) hb; have HO288 := n0_; clear n0_; (try clear hb); (try clear ho0); obtain ⟨Ao7005, co7005, eo7005⟩ := Kd.dL HO288.out; subst eo7005; refine bU ?_))
        refine Hide.mk ?_
        replace H := H.out
        replace H := ifE H; rcases H with ⟨c21b0, c21b1, H⟩ | ⟨c21, c21b0, c21b1, H⟩
        ·obtain rfl := Option.some.inj H
         try go_wp2
         go_ret
         exact ⟨EWW, BL⟩
        ·have c21b2 : ¬ (t286 = []) := fun h_ => c21 (by rw [h_]; rfl)
         have H' := ah.mk H
         clear H
         try go_wp2
         go_roundg k2
         case measure => have := HK1.out; have := HK2.out; omega
         case rel => exact ⟨(wrap64 (x5_2 + 1)), EQ, H', ⟨by have := HK1.out; have := HK2.out; omega⟩, ⟨BK⟩, ⟨BL⟩⟩
       ·have H' := ah.mk H
        clear H
        try go_wp2
        go_roundg k2
        case measure => have := HK1.out; have := HK2.out; omega
        case rel => exact ⟨(wrap64 (x5_2 + 1)), EQ, H', ⟨by have := HK1.out; have := HK2.out; omega⟩, ⟨BK⟩, ⟨BL⟩⟩
      ·obtain rfl := Option.some.inj H
       go_wp2
       go_ret
       exact ⟨EWW, BL⟩
def kX.f (k : Nat) (FV FW : Int) (FX : ByteArray) : Option (Int) := (bL.f k FV FW FX).bind fun t290 => (if t290 = true then ((dS.f k FV FW FX).bind fun t291 => (if t291 = true then ((iT.f k FV FW FX).bind fun t292 => (if t292 = true then ((fC.f k FV FW FX).bind fun t293 => (if t293 = true then (some 4) else ((bH.f k FV FW FX).bind fun t294 => (if t294 = true then (some 5) else (some 0))))) else (some 3))) else (some 2))) else (some 1))
theorem kX.calls (k : Nat) (FV FW : Int) (FX : ByteArray) (r : Int) (w : World) (h : kX.f k FV FW FX = some r) :
  Calls Tryz.prog 47 #[.agg #[.int .i64 FV, .int .i64 FW, .string FX]] w fun e w' => e = .returned (.int .i64 r) ∧ Below w.heap.size w w' := by
 have hu32 := Tryz.underlying32
 have HB := ah.mk (Below.refl w.heap.size w)
 unfold kX.f at h
 have H := h
 clear h
 replace H := be H; obtain ⟨t290, A2, H⟩ := H
 replace H := ah.mk H
 go_enter Tryz.func47, Tryz.ntmps47
 go_wp2_with (first | ((with_reducible refine aJ (N := 1) rfl ?_); refine bg (N := 1) (cs := #[.int .i64 FV, .int .i64 FW, .string FX]) (t := 32) ?_; intro gb289 hg w9000 hbox hb; have BK289 := ah.mk hbox; have GW289 := SZ (w := w) hg; have GE289 := GW289; replace HB := BS (w := w) hb; clear hb hbox hg; obtain ⟨hcz9001_0, hcz9001_1, hcz9001_2, hfz9001_0, hfz9001_1, hfz9001_2⟩ := cz3 BK289.out) | ((with_reducible refine ay (f := 96) rfl ?_); refine bE (some 5) Tryz.func96 #[.agg #[.int .i64 FV, .int .i64 FW, .string FX]] ?_; (with_reducible refine (bL.calls k FV FW FX _ _ A2.out).mono ?_); rintro e w9002 ⟨rfl, hb⟩; refine ⟨_, rfl, ?_⟩; replace BK289 := KB BK289 hb; replace HB := BS (w := w) hb; (try clear hb); obtain ⟨hcz9003_0, hcz9003_1, hcz9003_2, hfz9003_0, hfz9003_1, hfz9003_2⟩ := cz3 BK289.out; refine bU ?_))
 refine Hide.mk ?_
 replace H := H.out
 replace H := ifB H; rcases H with ⟨rfl, H⟩ | ⟨rfl, H⟩
 ·replace H := be H; obtain ⟨t291, A4, H⟩ := H
  replace H := ah.mk H
  go_wp2_with (first | ((with_reducible refine ay (f := 97) rfl ?_); refine bE (some 9) Tryz.func97 #[.agg #[.int .i64 FV, .int .i64 FW, .string FX]] ?_; (with_reducible refine (dS.calls k FV FW FX _ _ A4.out).mono ?_); rintro e w9004 ⟨rfl, hb⟩; refine ⟨_, rfl, ?_⟩; replace BK289 := KB BK289 hb; replace HB := BS (w := w) hb; (try clear hb); obtain ⟨hcz9005_0, hcz9005_1, hcz9005_2, hfz9005_0, hfz9005_1, hfz9005_2⟩ := cz3 BK289.out; refine bU ?_))
  refine Hide.mk ?_
  replace H := H.out
  replace H := ifB H; rcases H with ⟨rfl, H⟩ | ⟨rfl, H⟩
  ·replace H := be H; obtain ⟨t292, A6, H⟩ := H
   replace H := ah.mk H
   go_wp2_with (first | ((with_reducible refine ay (f := 98) rfl ?_); refine bE (some 13) Tryz.func98 #[.agg #[.int .i64 FV, .int .i64 FW, .string FX]] ?_; (with_reducible refine (iT.calls k FV FW FX _ _ A6.out).mono ?_); rintro e w9006 ⟨rfl, hb⟩; refine ⟨_, rfl, ?_⟩; replace BK289 := KB BK289 hb; replace HB := BS (w := w) hb; (try clear hb); obtain ⟨hcz9007_0, hcz9007_1, hcz9007_2, hfz9007_0, hfz9007_1, hfz9007_2⟩ := cz3 BK289.out; refine bU ?_))
   refine Hide.mk ?_
   replace H := H.out
   replace H := ifB H; rcases H with ⟨rfl, H⟩ | ⟨rfl, H⟩
   ·replace H := be H; obtain ⟨t293, A8, H⟩ := H
    replace H := ah.mk H
    go_wp2_with (first | ((with_reducible refine ay (f := 99) rfl ?_); refine bE (some 17) Tryz.func99 #[.agg #[.int .i64 FV, .int .i64 FW, .string FX]] ?_; (with_reducible refine (fC.calls k FV FW FX _ _ A8.out).mono ?_); rintro e w9008 ⟨rfl, hb⟩; refine ⟨_, rfl, ?_⟩; replace BK289 := KB BK289 hb; replace HB := BS (w := w) hb; (try clear hb); obtain ⟨hcz9009_0, hcz9009_1, hcz9009_2, hfz9009_0, hfz9009_1, hfz9009_2⟩ := cz3 BK289.out; refine bU ?_))
    refine Hide.mk ?_
    replace H := H.out
    replace H := ifB H; rcases H with ⟨rfl, H⟩ | ⟨rfl, H⟩
    ·obtain rfl := Option.some.inj H
     try go_wp2
     go_ret
     exact ⟨EWW, BL⟩
    ·replace H := be H; obtain ⟨t294, A19, H⟩ := H
     replace H := ah.mk H
     go_wp2_with (first | ((with_reducible refine ay (f := 100) rfl ?_); refine bE (some 20) Tryz.func100 #[.agg #[.int .i64 FV, .int .i64 FW, .string FX]] ?_; (with_reducible refine (bH.calls k FV FW FX _ _ A19.out).mono ?_); rintro e w9010 ⟨rfl, hb⟩; refine ⟨_, rfl, ?_⟩; replace BK289 := KB BK289 hb; replace HB := BS (w := w) hb; (try clear hb); refine bU ?_))
     refine Hide.mk ?_
     replace H := H.out
     replace H := ifB H; rcases H with ⟨rfl, H⟩ | ⟨rfl, H⟩
     ·obtain rfl := Option.some.inj H
      try go_wp2
      go_ret
      exact ⟨EWW, BL⟩
     ·obtain rfl := Option.some.inj H
      try go_wp2
      go_ret
      exact ⟨EWW, BL⟩
   ·obtain rfl := Option.some.inj H
    try go_wp2
    go_ret
    exact ⟨EWW, BL⟩
  ·obtain rfl := Option.some.inj H
   try go_wp2
   go_ret
   exact ⟨EWW, BL⟩
 ·obtain rfl := Option.some.inj H
  try go_wp2
  go_ret
  exact ⟨EWW, BL⟩
def bC.l0 : Nat → ByteArray → Int → Option (Bool)
 | 0, _, _ => none
 | k + 1, a, b => if b < (a.size : Int) then (if 0 ≤ b then (if (bt a b) < 97 then (some false) else (if (bt a b) > 122 then (some false) else (bC.l0 k a (wrap64 (b + 1))))) else (none)) else (some true)
def bC.f (k : Nat) (a0 : ByteArray) : Option (Bool) := (bB.f (a0.size : Int) 1 8).bind fun t295 => (if t295 = true then (bC.l0 k a0 0) else (some false))
theorem bC.calls (k : Nat) (a0 : ByteArray) (r : Bool) (w : World) (h : bC.f k a0 = some r) :
  Calls Tryz.prog 140 #[.string a0] w fun e w' => e = .returned (.bool r) ∧ cK w w' := by
 unfold bC.f at h
 have H := h
 clear h
 replace H := be H; obtain ⟨t295, A2, H⟩ := H
 replace H := ah.mk H
 go_enter Tryz.func140, Tryz.ntmps140
 go_wp2_with (first | ((with_reducible refine ay (f := 86) rfl ?_); refine bE (some 6) Tryz.func86 #[.int .i64 (a0.size : Int), .int .i64 1, .int .i64 8] ?_; (with_reducible refine (bB.calls (a0.size : Int) 1 8 _ _ A2.out).mono ?_); rintro e w' ⟨rfl, ⟨nd, rfl⟩⟩; refine ⟨_, rfl, ?_⟩; refine bU ?_))
 refine Hide.mk ?_
 replace H := H.out
 replace H := ifB H; rcases H with ⟨rfl, H⟩ | ⟨rfl, H⟩
 ·have H' := ah.mk H
  clear H
  try go_wp2
  go_loopg [3] k (fun kq v3 w' => ∃ (x3_1 : Int), v3 = .int .i64 x3_1 ∧ ah (bC.l0 kq a0 x3_1 = some r) ∧ ah (kq ≤ k) ∧ cK w w')
  case atStart => exact ⟨(0), EQ, H', ⟨Nat.le_refl _⟩, DR⟩
  case round =>
   clear H'
   try clear c3
   obtain ⟨x3_1, rfl, HA, HK1, ⟨m1, rfl⟩⟩ := hrel
   cases gk with
   | zero => exact absurd HA.out (by simp [bC.l0])
   | succ k1 =>
    have H := HA.out
    clear HA
    simp only [bC.l0] at H
    replace H := ifD H; rcases H with ⟨c4b0, H⟩ | ⟨c4b0, H⟩
    ·replace H := ifN H; obtain ⟨c5b0, H⟩ := H
     have p6 : (0 ≤ (x3_1 : Int)) = True := OT
     have q6 : (x3_1 < (a0.size : Int)) = True := OT
     have hx6 := fO a0 x3_1
     replace H := ifD H; rcases H with ⟨c7b0, H⟩ | ⟨c7b0, H⟩
     ·obtain rfl := Option.some.inj H
      go_wp2
      go_ret
      exact ⟨EQ, DR⟩
     ·have p8 : (0 ≤ (x3_1 : Int)) = True := OT
      have q8 : (x3_1 < (a0.size : Int)) = True := OT
      have hx8 := fO a0 x3_1
      by_cases c9 : (bt a0 x3_1) > 122
      ·rw [if_pos c9] at H
       have c9b0 : decide (122 < (bt a0 x3_1)) = true := decide_eq_true c9
       clear c9
       obtain rfl := Option.some.inj H
       go_wp2
       go_ret
       exact ⟨EQ, DR⟩
      ·rw [if_neg c9] at H
       have c9b0 : decide (122 < (bt a0 x3_1)) = false := decide_eq_false c9
       clear c9
       have H' := ah.mk H
       clear H
       go_wp2
       go_roundg k1
       case measure => have := HK1.out; omega
       case rel => exact ⟨(wrap64 (x3_1 + 1)), EQ, H', ⟨by have := HK1.out; omega⟩, DR⟩
    ·obtain rfl := Option.some.inj H
     go_wp2
     go_ret
     exact ⟨EQ, DR⟩
 ·obtain rfl := Option.some.inj H
  try go_wp2
  go_ret
  exact ⟨EQ, DR⟩
mutual
def eY.j0 : Nat → List (dB) → Int → Bool → Int → ByteArray → Int → Int → Option (Bool)
 | 0, _, _, _, _, _, _, _ => none
 | k + 1, a, b, c, d, e, f, g => if c = true then (some false) else (if d = 4 then (eY.j1 k a b true d e f g) else (eY.j1 k a b (d == 5) d e f g))
def eY.j1 : Nat → List (dB) → Int → Bool → Int → ByteArray → Int → Int → Option (Bool)
 | 0, _, _, _, _, _, _, _ => none
 | k + 1, a, b, c, d, e, f, g => if d = 1 then (if f = 0 then (some (g == 0)) else (some false)) else ((bB.f f 0 (wrap64 (b - 1))).bind fun h => (if h = true then (if c = true then ((bB.f g 0 (wrap64 (b - 1))).bind fun i => (if i = true then (some true) else (some false))) else (if g = 0 then (if d = 2 then (some true) else (if 0 ≤ f then (if f < (a.length : Int) then (some (((aj a f).f0) == 1)) else (none)) else (none))) else (some false))) else (some false)))
end
def eY.f (k : Nat) (l0 : List (dB)) (a1 : Int) : Option (Bool) := if 0 ≤ a1 then (if a1 < (l0.length : Int) then ((bB.f ((aj l0 a1).f0) 1 9).bind fun t298 => (if t298 = true then ((bC.f k ((aj l0 a1).f1)).bind fun t299 => (if ((((aj l0 a1).f0) == 1) != t299) = true then (eY.j0 k l0 a1 true ((aj l0 a1).f0) ((aj l0 a1).f1) ((aj l0 a1).f2) ((aj l0 a1).f3)) else (if ((aj l0 a1).f0) = 1 then (eY.j0 k l0 a1 false ((aj l0 a1).f0) ((aj l0 a1).f1) ((aj l0 a1).f2) ((aj l0 a1).f3)) else (eY.j0 k l0 a1 (((aj l0 a1).f1).toList != ([] : List UInt8)) ((aj l0 a1).f0) ((aj l0 a1).f1) ((aj l0 a1).f2) ((aj l0 a1).f3))))) else (eY.j0 k l0 a1 true ((aj l0 a1).f0) ((aj l0 a1).f1) ((aj l0 a1).f2) ((aj l0 a1).f3)))) else (none)) else (none)
theorem eY.calls (k : Nat) (A0 : Option Addr) (c0 : Nat) (l0 : List (dB)) (a1 : Int) (r : Bool) (w : World) (hr0 : Kd.C jw w A0 l0.length l0) (hc0 : l0.length ≤ c0) (h : eY.f k l0 a1 = some r) :
  Calls Tryz.prog 192 #[.slice A0 l0.length c0, .int .i64 a1] w fun e w' => e = .returned (.bool r) ∧ Below w.heap.size w w' := by
 have hu141 := Tryz.underlying141
 have HR0 := ah.mk hr0
 have HC0 := ah.mk hc0
 clear hr0 hc0
 have HB := ah.mk (Below.refl w.heap.size w)
 unfold eY.f at h
 have H := h
 clear h
 replace H := ifN H; obtain ⟨c3b0, H⟩ := H
 replace H := ifN H; obtain ⟨c4b0, H⟩ := H
 have HC5 := ah.mk H
 clear H
 have p296 : 0 ≤ (a1 : Int) := OD
 have q296 : a1 < (l0.length : Int) := OD
 obtain ⟨ad296, e296, hx296_0, hx296_1, hx296_2, hx296_3⟩ := jN HR0.out a1 p296 q296
 cases e296
 replace p296 := eq_true p296
 replace q296 := eq_true q296
 go_enter Tryz.func192, Tryz.ntmps192
 go_upto_region 2 with (first | ((with_reducible refine aJ (N := 5) rfl ?_); refine bg (N := 5) (cs := #[.int .i64 0, .string (⟨#[]⟩ : ByteArray), .int .i64 0, .int .i64 0]) (t := 141) ?_; intro gb297 hg w9000 hbox hb; have BK297 := ah.mk hbox; have GW297 := SZ (w := w) hg; have GE297 := GW297; replace HB := BS (w := w) hb; clear hb hbox hg; obtain ⟨hcz9001_0, hcz9001_1, hcz9001_2, hcz9001_3, hfz9001_0, hfz9001_1, hfz9001_2, hfz9001_3⟩ := cz4 BK297.out))
 repeat (go_quiet (first | ((with_reducible refine aJ (N := 5) rfl ?_); refine bg (N := 5) (cs := #[.int .i64 0, .string (⟨#[]⟩ : ByteArray), .int .i64 0, .int .i64 0]) (t := 141) ?_; intro gb297 hg w9000 hbox hb; have BK297 := ah.mk hbox; have GW297 := SZ (w := w) hg; have GE297 := GW297; replace HB := BS (w := w) hb; clear hb hbox hg; obtain ⟨hcz9001_0, hcz9001_1, hcz9001_2, hcz9001_3, hfz9001_0, hfz9001_1, hfz9001_2, hfz9001_3⟩ := cz4 BK297.out)); go_upto_region 2 with (first | ((with_reducible refine aJ (N := 5) rfl ?_); refine bg (N := 5) (cs := #[.int .i64 0, .string (⟨#[]⟩ : ByteArray), .int .i64 0, .int .i64 0]) (t := 141) ?_; intro gb297 hg w9000 hbox hb; have BK297 := ah.mk hbox; have GW297 := SZ (w := w) hg; have GE297 := GW297; replace HB := BS (w := w) hb; clear hb hbox hg; obtain ⟨hcz9001_0, hcz9001_1, hcz9001_2, hcz9001_3, hfz9001_0, hfz9001_1, hfz9001_2, hfz9001_3⟩ := cz4 BK297.out)))
 (try simp only [Act.put, List.setIfInBounds_toArray, List.set_cons_zero, List.set_cons_succ])
 go_cut [33] (fun v33 wc => ∃ (kq : Nat) (x33_4 : Bool), v33 = .bool x33_4 ∧ ah (eY.j0 kq l0 a1 x33_4 ((aj l0 a1).f0) ((aj l0 a1).f1) ((aj l0 a1).f2) ((aj l0 a1).f3) = some r) ∧ ah (kq ≤ k) ∧ ah (wc.heap[gb297]? = some (.cells #[.int .i64 ((aj l0 a1).f0), .string ((aj l0 a1).f1), .int .i64 ((aj l0 a1).f2), .int .i64 ((aj l0 a1).f3)] 141 (0, 0))) ∧ ah (Below w.heap.size w wc))
 case first =>
  have H := HC5.out
  clear HC5
  replace H := be H; obtain ⟨t298, A8, H⟩ := H
  obtain ⟨hcz9002_0, hcz9002_1, hcz9002_2, hcz9002_3, hfz9002_0, hfz9002_1, hfz9002_2, hfz9002_3⟩ := cz4 BK297.out
  replace H := ifB H; rcases H with ⟨rfl, H⟩ | ⟨rfl, H⟩
  ·replace H := be H; obtain ⟨t299, A10, H⟩ := H
   by_cases c11 : ((((aj l0 a1).f0) == 1) != t299) = true
   ·rw [if_pos c11] at H
    have c11b0 : ((((aj l0 a1).f0) == 1) != t299) = true := c11
    (try (have c11b1 : decide ((((aj l0 a1).f0) == 1) = t299) = false := by simpa using c11))
    (try (have c11b2 : ((((aj l0 a1).f0) == 1) == t299) = false := by simpa using c11))
    (try (have c11b3 : ¬ ((((aj l0 a1).f0) == 1) = t299) := by simpa using c11))
    clear c11
    (first | rw [c11b0] | (simp only [iC, jg]; rw [c11b0]) | skip)
    have H' := ah.mk H
    clear H
    repeat (go_wp2_with (first | (go_at_call 86; (with_reducible refine (bB.calls ((aj l0 a1).f0) 1 9 _ _ A8.out).mono ?_); rintro e w' ⟨rfl, ⟨nd, rfl⟩⟩; (try first | exact da | exact DD)) | (go_at_call 140; (with_reducible refine (bC.calls k ((aj l0 a1).f1) t299 _ A10.out).mono ?_); rintro e w' ⟨rfl, ⟨nd, rfl⟩⟩; (try first | exact da | exact DD))); go_quiet (first | (go_at_call 86; (with_reducible refine (bB.calls ((aj l0 a1).f0) 1 9 _ _ A8.out).mono ?_); rintro e w' ⟨rfl, ⟨nd, rfl⟩⟩; (try first | exact da | exact DD)) | (go_at_call 140; (with_reducible refine (bC.calls k ((aj l0 a1).f1) t299 _ A10.out).mono ?_); rintro e w' ⟨rfl, ⟨nd, rfl⟩⟩; (try first | exact da | exact DD))))
    go_wp2_with (first | (go_at_call 86; (with_reducible refine (bB.calls ((aj l0 a1).f0) 1 9 _ _ A8.out).mono ?_); rintro e w' ⟨rfl, ⟨nd, rfl⟩⟩; (try first | exact da | exact DD)) | (go_at_call 140; (with_reducible refine (bC.calls k ((aj l0 a1).f1) t299 _ A10.out).mono ?_); rintro e w' ⟨rfl, ⟨nd, rfl⟩⟩; (try first | exact da | exact DD)))
    go_meet
    case rel => exact ⟨_, (true), (by first | rfl | (simp; done) | (simp [*]; rw [Bool.eq_iff_iff]; simp [bne, List.isEmpty_iff]; done) | (simp [*]; done)), H', ⟨by first | omega | exact Nat.le_refl _⟩, ⟨by (with_reducible repeat (first | refine aG ?_ _ | refine aH ?_ | refine aD ?_ _)); refine aY (cs := #[.int .i64 ((aj l0 a1).f0), .string ((aj l0 a1).f1), .int .i64 ((aj l0 a1).f2), .int .i64 0]) ?_ 3 _ rfl; (with_reducible repeat (first | refine aG ?_ _ | refine aH ?_ | refine aD ?_ _)); refine aY (cs := #[.int .i64 ((aj l0 a1).f0), .string ((aj l0 a1).f1), .int .i64 0, .int .i64 0]) ?_ 2 _ rfl; (with_reducible repeat (first | refine aG ?_ _ | refine aH ?_ | refine aD ?_ _)); refine aY (cs := #[.int .i64 ((aj l0 a1).f0), .string (⟨#[]⟩ : ByteArray), .int .i64 0, .int .i64 0]) ?_ 1 _ rfl; (with_reducible repeat (first | refine aG ?_ _ | refine aH ?_ | refine aD ?_ _)); refine aY (cs := #[.int .i64 0, .string (⟨#[]⟩ : ByteArray), .int .i64 0, .int .i64 0]) ?_ 0 _ rfl; (with_reducible repeat (first | refine aG ?_ _ | refine aH ?_ | refine aD ?_ _)); exact BK297.out⟩, ⟨BL⟩⟩
   ·rw [if_neg c11] at H
    have c11b0 : ((((aj l0 a1).f0) == 1) != t299) = false := by simpa using c11
    (try (have c11b1 : decide ((((aj l0 a1).f0) == 1) = t299) = true := by simpa using c11))
    (try (have c11b2 : ((((aj l0 a1).f0) == 1) == t299) = true := by simpa using c11))
    clear c11
    (first | rw [c11b0] | (simp only [iC, jg]; rw [c11b0]) | skip)
    by_cases c13 : ((aj l0 a1).f0) = 1
    ·rw [if_pos c13] at H
     have c13b0 : (((aj l0 a1).f0) == 1) = true := beq_iff_eq.mpr c13
     have c13b1 : (((aj l0 a1).f0) != 1) = false := bne_eq_false_iff_eq.mpr c13
     have cw_ : t299 = true := by simpa [c13b0] using c11b0   -- mended
     clear c13
     have H' := ah.mk H
     clear H
     repeat (go_wp2_with (first | (go_at_call 86; (with_reducible refine (bB.calls ((aj l0 a1).f0) 1 9 _ _ A8.out).mono ?_); rintro e w' ⟨rfl, ⟨nd, rfl⟩⟩; (try first | exact da | exact DD)) | (go_at_call 140; (with_reducible refine (bC.calls k ((aj l0 a1).f1) t299 _ A10.out).mono ?_); rintro e w' ⟨rfl, ⟨nd, rfl⟩⟩; (try first | exact da | exact DD))); go_quiet (first | (go_at_call 86; (with_reducible refine (bB.calls ((aj l0 a1).f0) 1 9 _ _ A8.out).mono ?_); rintro e w' ⟨rfl, ⟨nd, rfl⟩⟩; (try first | exact da | exact DD)) | (go_at_call 140; (with_reducible refine (bC.calls k ((aj l0 a1).f1) t299 _ A10.out).mono ?_); rintro e w' ⟨rfl, ⟨nd, rfl⟩⟩; (try first | exact da | exact DD))))
     go_wp2_with (first | (go_at_call 86; (with_reducible refine (bB.calls ((aj l0 a1).f0) 1 9 _ _ A8.out).mono ?_); rintro e w' ⟨rfl, ⟨nd, rfl⟩⟩; (try first | exact da | exact DD)) | (go_at_call 140; (with_reducible refine (bC.calls k ((aj l0 a1).f1) t299 _ A10.out).mono ?_); rintro e w' ⟨rfl, ⟨nd, rfl⟩⟩; (try first | exact da | exact DD)))
     go_meet
     case rel => exact ⟨_, (false), (by first | rfl | (simp; done) | (simp [*]; rw [Bool.eq_iff_iff]; simp [bne, List.isEmpty_iff]; done) | (simp [*]; done)), H', ⟨by first | omega | exact Nat.le_refl _⟩, ⟨by (with_reducible repeat (first | refine aG ?_ _ | refine aH ?_ | refine aD ?_ _)); refine aY (cs := #[.int .i64 ((aj l0 a1).f0), .string ((aj l0 a1).f1), .int .i64 ((aj l0 a1).f2), .int .i64 0]) ?_ 3 _ rfl; (with_reducible repeat (first | refine aG ?_ _ | refine aH ?_ | refine aD ?_ _)); refine aY (cs := #[.int .i64 ((aj l0 a1).f0), .string ((aj l0 a1).f1), .int .i64 0, .int .i64 0]) ?_ 2 _ rfl; (with_reducible repeat (first | refine aG ?_ _ | refine aH ?_ | refine aD ?_ _)); refine aY (cs := #[.int .i64 ((aj l0 a1).f0), .string (⟨#[]⟩ : ByteArray), .int .i64 0, .int .i64 0]) ?_ 1 _ rfl; (with_reducible repeat (first | refine aG ?_ _ | refine aH ?_ | refine aD ?_ _)); refine aY (cs := #[.int .i64 0, .string (⟨#[]⟩ : ByteArray), .int .i64 0, .int .i64 0]) ?_ 0 _ rfl; (with_reducible repeat (first | refine aG ?_ _ | refine aH ?_ | refine aD ?_ _)); exact BK297.out⟩, ⟨BL⟩⟩
    ·rw [if_neg c13] at H
     have c13b0 : (((aj l0 a1).f0) == 1) = false := beq_eq_false_iff_ne.mpr c13
     have c13b1 : (((aj l0 a1).f0) != 1) = true := bne_iff_ne.mpr c13
     have cw_ : t299 = false := by simpa [c13b0] using c11b0   -- mended
     have H' := ah.mk H
     clear H
     repeat (go_wp2_with (first | (go_at_call 86; (with_reducible refine (bB.calls ((aj l0 a1).f0) 1 9 _ _ A8.out).mono ?_); rintro e w' ⟨rfl, ⟨nd, rfl⟩⟩; (try first | exact da | exact DD)) | (go_at_call 140; (with_reducible refine (bC.calls k ((aj l0 a1).f1) t299 _ A10.out).mono ?_); rintro e w' ⟨rfl, ⟨nd, rfl⟩⟩; (try first | exact da | exact DD))); go_quiet (first | (go_at_call 86; (with_reducible refine (bB.calls ((aj l0 a1).f0) 1 9 _ _ A8.out).mono ?_); rintro e w' ⟨rfl, ⟨nd, rfl⟩⟩; (try first | exact da | exact DD)) | (go_at_call 140; (with_reducible refine (bC.calls k ((aj l0 a1).f1) t299 _ A10.out).mono ?_); rintro e w' ⟨rfl, ⟨nd, rfl⟩⟩; (try first | exact da | exact DD))))
     go_wp2_with (first | (go_at_call 86; (with_reducible refine (bB.calls ((aj l0 a1).f0) 1 9 _ _ A8.out).mono ?_); rintro e w' ⟨rfl, ⟨nd, rfl⟩⟩; (try first | exact da | exact DD)) | (go_at_call 140; (with_reducible refine (bC.calls k ((aj l0 a1).f1) t299 _ A10.out).mono ?_); rintro e w' ⟨rfl, ⟨nd, rfl⟩⟩; (try first | exact da | exact DD)))
     go_meet
     case rel => exact ⟨_, ((((aj l0 a1).f1).toList != ([] : List UInt8))), (by first | rfl | (simp; done) | (simp [*]; rw [Bool.eq_iff_iff]; simp [bne, List.isEmpty_iff]; done) | (simp [*]; done)), H', ⟨by first | omega | exact Nat.le_refl _⟩, ⟨by (with_reducible repeat (first | refine aG ?_ _ | refine aH ?_ | refine aD ?_ _)); refine aY (cs := #[.int .i64 ((aj l0 a1).f0), .string ((aj l0 a1).f1), .int .i64 ((aj l0 a1).f2), .int .i64 0]) ?_ 3 _ rfl; (with_reducible repeat (first | refine aG ?_ _ | refine aH ?_ | refine aD ?_ _)); refine aY (cs := #[.int .i64 ((aj l0 a1).f0), .string ((aj l0 a1).f1), .int .i64 0, .int .i64 0]) ?_ 2 _ rfl; (with_reducible repeat (first | refine aG ?_ _ | refine aH ?_ | refine aD ?_ _)); refine aY (cs := #[.int .i64 ((aj l0 a1).f0), .string (⟨#[]⟩ : ByteArray), .int .i64 0, .int .i64 0]) ?_ 1 _ rfl; (with_reducible repeat (first | refine aG ?_ _ | refine aH ?_ | refine aD ?_ _)); refine aY (cs := #[.int .i64 0, .string (⟨#[]⟩ : ByteArray), .int .i64 0, .int .i64 0]) ?_ 0 _ rfl; (with_reducible repeat (first | refine aG ?_ _ | refine aH ?_ | refine aD ?_ _)); exact BK297.out⟩, ⟨BL⟩⟩
  ·have H' := ah.mk H
   clear H
   repeat (go_wp2_with (first | (go_at_call 86; (with_reducible refine (bB.calls ((aj l0 a1).f0) 1 9 _ _ A8.out).mono ?_); rintro e w' ⟨rfl, ⟨nd, rfl⟩⟩; (try first | exact da | exact DD))); go_quiet (first | (go_at_call 86; (with_reducible refine (bB.calls ((aj l0 a1).f0) 1 9 _ _ A8.out).mono ?_); rintro e w' ⟨rfl, ⟨nd, rfl⟩⟩; (try first | exact da | exact DD))))
   go_wp2_with (first | (go_at_call 86; (with_reducible refine (bB.calls ((aj l0 a1).f0) 1 9 _ _ A8.out).mono ?_); rintro e w' ⟨rfl, ⟨nd, rfl⟩⟩; (try first | exact da | exact DD)))
   go_meet
   case rel => exact ⟨_, (true), (by first | rfl | (simp; done) | (simp [*]; rw [Bool.eq_iff_iff]; simp [bne, List.isEmpty_iff]; done) | (simp [*]; done)), H', ⟨by first | omega | exact Nat.le_refl _⟩, ⟨by (with_reducible repeat (first | refine aG ?_ _ | refine aH ?_ | refine aD ?_ _)); refine aY (cs := #[.int .i64 ((aj l0 a1).f0), .string ((aj l0 a1).f1), .int .i64 ((aj l0 a1).f2), .int .i64 0]) ?_ 3 _ rfl; (with_reducible repeat (first | refine aG ?_ _ | refine aH ?_ | refine aD ?_ _)); refine aY (cs := #[.int .i64 ((aj l0 a1).f0), .string ((aj l0 a1).f1), .int .i64 0, .int .i64 0]) ?_ 2 _ rfl; (with_reducible repeat (first | refine aG ?_ _ | refine aH ?_ | refine aD ?_ _)); refine aY (cs := #[.int .i64 ((aj l0 a1).f0), .string (⟨#[]⟩ : ByteArray), .int .i64 0, .int .i64 0]) ?_ 1 _ rfl; (with_reducible repeat (first | refine aG ?_ _ | refine aH ?_ | refine aD ?_ _)); refine aY (cs := #[.int .i64 0, .string (⟨#[]⟩ : ByteArray), .int .i64 0, .int .i64 0]) ?_ 0 _ rfl; (with_reducible repeat (first | refine aG ?_ _ | refine aH ?_ | refine aD ?_ _)); exact BK297.out⟩, ⟨BL⟩⟩
 case rest =>
  clear HC5
  try clear c3
  try clear c3b0
  try clear c4
  try clear c4b0
  try clear hcz9001_0
  try clear hcz9001_1
  try clear hcz9001_2
  try clear hcz9001_3
  try clear hfz9001_0
  try clear hfz9001_1
  try clear hfz9001_2
  try clear hfz9001_3
  try clear hx296_0
  try clear hx296_1
  try clear hx296_2
  try clear hx296_3
  try clear p296
  try clear q296
  obtain ⟨kq, x33_4, rfl, HA, HJ4, BK297, HB⟩ := hcut
  cases kq with
  | zero => exact absurd HA.out (by simp [eY.j0])
  | succ kj4 =>
   have H := HA.out
   clear HA
   simp only [eY.j0] at H
   replace H := ifB H; rcases H with ⟨rfl, H⟩ | ⟨rfl, H⟩
   ·obtain rfl := Option.some.inj H
    go_wp2
    repeat (go_quiet (fail); try go_wp2)
    go_ret
    exact ⟨EWW, BL⟩
   ·have HC18 := ah.mk H
    clear H
    go_upto_region 4 with (fail)
    repeat (go_quiet (fail); go_upto_region 4 with (fail))
    go_cut [6] (fun v6 wc => ∃ (kq : Nat) (x6_17 : Bool), v6 = .bool x6_17 ∧ ah (eY.j1 kq l0 a1 x6_17 ((aj l0 a1).f0) ((aj l0 a1).f1) ((aj l0 a1).f2) ((aj l0 a1).f3) = some r) ∧ ah (kq ≤ kj4) ∧ ah (wc.heap[gb297]? = some (.cells #[.int .i64 ((aj l0 a1).f0), .string ((aj l0 a1).f1), .int .i64 ((aj l0 a1).f2), .int .i64 ((aj l0 a1).f3)] 141 (0, 0))) ∧ ah (Below w.heap.size w wc))
    case first =>
     have H := HC18.out
     clear HC18
     obtain ⟨hcz9003_0, hcz9003_1, hcz9003_2, hcz9003_3, hfz9003_0, hfz9003_1, hfz9003_2, hfz9003_3⟩ := cz4 BK297.out
     replace H := ifE H; rcases H with ⟨c19b0, c19b1, H⟩ | ⟨c19, c19b0, c19b1, H⟩
     ·(first | rw [c19b0] | (simp only [iC, jg]; rw [c19b0]) | skip)
      have H' := ah.mk H
      clear H
      go_wp2
      repeat (go_quiet (fail); try go_wp2)
      go_meet
      case rel => exact ⟨_, (true), (by first | rfl | (simp; done) | (simp [*]; rw [Bool.eq_iff_iff]; simp [bne, List.isEmpty_iff]; done) | (simp [*]; done)), H', ⟨by have := HJ4.out; first | omega | exact Nat.le_refl _⟩, ⟨BK⟩, ⟨BL⟩⟩
     ·(first | rw [c19b0] | (simp only [iC, jg]; rw [c19b0]) | skip)
      have H' := ah.mk H
      clear H
      go_wp2
      repeat (go_quiet (fail); try go_wp2)
      go_meet
      case rel => exact ⟨_, ((((aj l0 a1).f0) == 5)), (by first | rfl | (simp; done) | (simp [*]; rw [Bool.eq_iff_iff]; simp [bne, List.isEmpty_iff]; done) | (simp [*]; done)), H', ⟨by have := HJ4.out; first | omega | exact Nat.le_refl _⟩, ⟨BK⟩, ⟨BL⟩⟩
    case rest =>
     clear HC18
     try clear c3
     try clear c3b0
     try clear c4
     try clear c4b0
     try clear c17
     try clear hcz9001_0
     try clear hcz9001_1
     try clear hcz9001_2
     try clear hcz9001_3
     try clear hfz9001_0
     try clear hfz9001_1
     try clear hfz9001_2
     try clear hfz9001_3
     try clear hx296_0
     try clear hx296_1
     try clear hx296_2
     try clear hx296_3
     try clear p296
     try clear q296
     obtain ⟨kq, x6_17, rfl, HA, HJ17, BK297, HB⟩ := hcut
     cases kq with
     | zero => exact absurd HA.out (by simp [eY.j1])
     | succ kj17 =>
      have H := HA.out
      clear HA
      simp only [eY.j1] at H
      obtain ⟨hcz9004_0, hcz9004_1, hcz9004_2, hcz9004_3, hfz9004_0, hfz9004_1, hfz9004_2, hfz9004_3⟩ := cz4 BK297.out
      replace H := ifE H; rcases H with ⟨c22b0, c22b1, H⟩ | ⟨c22, c22b0, c22b1, H⟩
      ·replace H := ifE H; rcases H with ⟨c23b0, c23b1, H⟩ | ⟨c23, c23b0, c23b1, H⟩
       ·obtain rfl := Option.some.inj H
        go_wp2
        repeat (go_quiet (fail); try go_wp2)
        go_ret
        exact ⟨EWW, BL⟩
       ·obtain rfl := Option.some.inj H
        go_wp2
        repeat (go_quiet (fail); try go_wp2)
        go_ret
        exact ⟨EWW, BL⟩
      ·replace H := be H; obtain ⟨t300, A26, H⟩ := H
       replace H := ifB H; rcases H with ⟨rfl, H⟩ | ⟨rfl, H⟩
       ·replace H := ifB H; rcases H with ⟨rfl, H⟩ | ⟨rfl, H⟩
        ·replace H := be H; obtain ⟨t301, A29, H⟩ := H
         replace H := ifB H; rcases H with ⟨rfl, H⟩ | ⟨rfl, H⟩
         ·obtain rfl := Option.some.inj H
          repeat (go_wp2_with (first | (go_at_call 86; (with_reducible refine (bB.calls ((aj l0 a1).f2) 0 (wrap64 (a1 - 1)) _ _ A26.out).mono ?_); rintro e w' ⟨rfl, ⟨nd, rfl⟩⟩; (try first | exact da | exact DD)) | (go_at_call 86; (with_reducible refine (bB.calls ((aj l0 a1).f3) 0 (wrap64 (a1 - 1)) _ _ A29.out).mono ?_); rintro e w' ⟨rfl, ⟨nd, rfl⟩⟩; (try first | exact da | exact DD))); go_quiet (first | (go_at_call 86; (with_reducible refine (bB.calls ((aj l0 a1).f2) 0 (wrap64 (a1 - 1)) _ _ A26.out).mono ?_); rintro e w' ⟨rfl, ⟨nd, rfl⟩⟩; (try first | exact da | exact DD)) | (go_at_call 86; (with_reducible refine (bB.calls ((aj l0 a1).f3) 0 (wrap64 (a1 - 1)) _ _ A29.out).mono ?_); rintro e w' ⟨rfl, ⟨nd, rfl⟩⟩; (try first | exact da | exact DD))))
          go_wp2_with (first | (go_at_call 86; (with_reducible refine (bB.calls ((aj l0 a1).f2) 0 (wrap64 (a1 - 1)) _ _ A26.out).mono ?_); rintro e w' ⟨rfl, ⟨nd, rfl⟩⟩; (try first | exact da | exact DD)) | (go_at_call 86; (with_reducible refine (bB.calls ((aj l0 a1).f3) 0 (wrap64 (a1 - 1)) _ _ A29.out).mono ?_); rintro e w' ⟨rfl, ⟨nd, rfl⟩⟩; (try first | exact da | exact DD)))
          go_ret
          exact ⟨EWW, BL⟩
         ·obtain rfl := Option.some.inj H
          repeat (go_wp2_with (first | (go_at_call 86; (with_reducible refine (bB.calls ((aj l0 a1).f2) 0 (wrap64 (a1 - 1)) _ _ A26.out).mono ?_); rintro e w' ⟨rfl, ⟨nd, rfl⟩⟩; (try first | exact da | exact DD)) | (go_at_call 86; (with_reducible refine (bB.calls ((aj l0 a1).f3) 0 (wrap64 (a1 - 1)) _ _ A29.out).mono ?_); rintro e w' ⟨rfl, ⟨nd, rfl⟩⟩; (try first | exact da | exact DD))); go_quiet (first | (go_at_call 86; (with_reducible refine (bB.calls ((aj l0 a1).f2) 0 (wrap64 (a1 - 1)) _ _ A26.out).mono ?_); rintro e w' ⟨rfl, ⟨nd, rfl⟩⟩; (try first | exact da | exact DD)) | (go_at_call 86; (with_reducible refine (bB.calls ((aj l0 a1).f3) 0 (wrap64 (a1 - 1)) _ _ A29.out).mono ?_); rintro e w' ⟨rfl, ⟨nd, rfl⟩⟩; (try first | exact da | exact DD))))
          go_wp2_with (first | (go_at_call 86; (with_reducible refine (bB.calls ((aj l0 a1).f2) 0 (wrap64 (a1 - 1)) _ _ A26.out).mono ?_); rintro e w' ⟨rfl, ⟨nd, rfl⟩⟩; (try first | exact da | exact DD)) | (go_at_call 86; (with_reducible refine (bB.calls ((aj l0 a1).f3) 0 (wrap64 (a1 - 1)) _ _ A29.out).mono ?_); rintro e w' ⟨rfl, ⟨nd, rfl⟩⟩; (try first | exact da | exact DD)))
          go_ret
          exact ⟨EWW, BL⟩
        ·replace H := ifE H; rcases H with ⟨c33b0, c33b1, H⟩ | ⟨c33, c33b0, c33b1, H⟩
         ·replace H := ifE H; rcases H with ⟨c34b0, c34b1, H⟩ | ⟨c34, c34b0, c34b1, H⟩
          ·obtain rfl := Option.some.inj H
           repeat (go_wp2_with (first | (go_at_call 86; (with_reducible refine (bB.calls ((aj l0 a1).f2) 0 (wrap64 (a1 - 1)) _ _ A26.out).mono ?_); rintro e w' ⟨rfl, ⟨nd, rfl⟩⟩; (try first | exact da | exact DD))); go_quiet (first | (go_at_call 86; (with_reducible refine (bB.calls ((aj l0 a1).f2) 0 (wrap64 (a1 - 1)) _ _ A26.out).mono ?_); rintro e w' ⟨rfl, ⟨nd, rfl⟩⟩; (try first | exact da | exact DD))))
           go_wp2_with (first | (go_at_call 86; (with_reducible refine (bB.calls ((aj l0 a1).f2) 0 (wrap64 (a1 - 1)) _ _ A26.out).mono ?_); rintro e w' ⟨rfl, ⟨nd, rfl⟩⟩; (try first | exact da | exact DD)))
           go_ret
           exact ⟨EWW, BL⟩
          ·replace H := ifN H; obtain ⟨c36b0, H⟩ := H
           replace H := ifN H; obtain ⟨c37b0, H⟩ := H
           obtain rfl := Option.some.inj H
           repeat (go_wp2_with (first | (go_at_call 86; (with_reducible refine (bB.calls ((aj l0 a1).f2) 0 (wrap64 (a1 - 1)) _ _ A26.out).mono ?_); rintro e w' ⟨rfl, ⟨nd, rfl⟩⟩; (try first | exact da | exact DD); have p302 : 0 ≤ (((aj l0 a1).f2) : Int) := OD; have q302 : ((aj l0 a1).f2) < (l0.length : Int) := OD; obtain ⟨ad302, e302, hx302_0, hx302_1, hx302_2, hx302_3⟩ := jN HR0.out ((aj l0 a1).f2) p302 q302; obtain rfl : ad296 = ad302 := (by injection e302); replace hx302_0 := (HB.out.cell (World.block_lt_of_cell? w _ hx302_0)).trans hx302_0; replace hx302_1 := (HB.out.cell (World.block_lt_of_cell? w _ hx302_1)).trans hx302_1; replace hx302_2 := (HB.out.cell (World.block_lt_of_cell? w _ hx302_2)).trans hx302_2; replace hx302_3 := (HB.out.cell (World.block_lt_of_cell? w _ hx302_3)).trans hx302_3; replace p302 := eq_true p302; replace q302 := eq_true q302)); go_quiet (first | (go_at_call 86; (with_reducible refine (bB.calls ((aj l0 a1).f2) 0 (wrap64 (a1 - 1)) _ _ A26.out).mono ?_); rintro e w' ⟨rfl, ⟨nd, rfl⟩⟩; (try first | exact da | exact DD); have p302 : 0 ≤ (((aj l0 a1).f2) : Int) := OD; have q302 : ((aj l0 a1).f2) < (l0.length : Int) := OD; obtain ⟨ad302, e302, hx302_0, hx302_1, hx302_2, hx302_3⟩ := jN HR0.out ((aj l0 a1).f2) p302 q302; obtain rfl : ad296 = ad302 := (by injection e302); replace hx302_0 := (HB.out.cell (World.block_lt_of_cell? w _ hx302_0)).trans hx302_0; replace hx302_1 := (HB.out.cell (World.block_lt_of_cell? w _ hx302_1)).trans hx302_1; replace hx302_2 := (HB.out.cell (World.block_lt_of_cell? w _ hx302_2)).trans hx302_2; replace hx302_3 := (HB.out.cell (World.block_lt_of_cell? w _ hx302_3)).trans hx302_3; replace p302 := eq_true p302; replace q302 := eq_true q302)))
           go_wp2_with (first | (go_at_call 86; (with_reducible refine (bB.calls ((aj l0 a1).f2) 0 (wrap64 (a1 - 1)) _ _ A26.out).mono ?_); rintro e w' ⟨rfl, ⟨nd, rfl⟩⟩; (try first | exact da | exact DD); have p302 : 0 ≤ (((aj l0 a1).f2) : Int) := OD; have q302 : ((aj l0 a1).f2) < (l0.length : Int) := OD; obtain ⟨ad302, e302, hx302_0, hx302_1, hx302_2, hx302_3⟩ := jN HR0.out ((aj l0 a1).f2) p302 q302; obtain rfl : ad296 = ad302 := (by injection e302); replace hx302_0 := (HB.out.cell (World.block_lt_of_cell? w _ hx302_0)).trans hx302_0; replace hx302_1 := (HB.out.cell (World.block_lt_of_cell? w _ hx302_1)).trans hx302_1; replace hx302_2 := (HB.out.cell (World.block_lt_of_cell? w _ hx302_2)).trans hx302_2; replace hx302_3 := (HB.out.cell (World.block_lt_of_cell? w _ hx302_3)).trans hx302_3; replace p302 := eq_true p302; replace q302 := eq_true q302))
           go_ret
           exact ⟨EWW, BL⟩
         ·obtain rfl := Option.some.inj H
          repeat (go_wp2_with (first | (go_at_call 86; (with_reducible refine (bB.calls ((aj l0 a1).f2) 0 (wrap64 (a1 - 1)) _ _ A26.out).mono ?_); rintro e w' ⟨rfl, ⟨nd, rfl⟩⟩; (try first | exact da | exact DD))); go_quiet (first | (go_at_call 86; (with_reducible refine (bB.calls ((aj l0 a1).f2) 0 (wrap64 (a1 - 1)) _ _ A26.out).mono ?_); rintro e w' ⟨rfl, ⟨nd, rfl⟩⟩; (try first | exact da | exact DD))))
          go_wp2_with (first | (go_at_call 86; (with_reducible refine (bB.calls ((aj l0 a1).f2) 0 (wrap64 (a1 - 1)) _ _ A26.out).mono ?_); rintro e w' ⟨rfl, ⟨nd, rfl⟩⟩; (try first | exact da | exact DD)))
          go_ret
          exact ⟨EWW, BL⟩
       ·obtain rfl := Option.some.inj H
        repeat (go_wp2_with (first | (go_at_call 86; (with_reducible refine (bB.calls ((aj l0 a1).f2) 0 (wrap64 (a1 - 1)) _ _ A26.out).mono ?_); rintro e w' ⟨rfl, ⟨nd, rfl⟩⟩; (try first | exact da | exact DD))); go_quiet (first | (go_at_call 86; (with_reducible refine (bB.calls ((aj l0 a1).f2) 0 (wrap64 (a1 - 1)) _ _ A26.out).mono ?_); rintro e w' ⟨rfl, ⟨nd, rfl⟩⟩; (try first | exact da | exact DD))))
        go_wp2_with (first | (go_at_call 86; (with_reducible refine (bB.calls ((aj l0 a1).f2) 0 (wrap64 (a1 - 1)) _ _ A26.out).mono ?_); rintro e w' ⟨rfl, ⟨nd, rfl⟩⟩; (try first | exact da | exact DD)))
        go_ret
        exact ⟨EWW, BL⟩
mutual
def dz.l0 : Nat → List (dB) → Int → Option (Bool)
 | 0, _, _ => none
 | k + 1, a, b => if b < (a.length : Int) then (dz.j1 k a b (decide ((a.length : Int) ≤ 9))) else (dz.j1 k a b false)
def dz.j1 : Nat → List (dB) → Int → Bool → Option (Bool)
 | 0, _, _, _ => none
 | k + 1, a, b, c => if c = true then ((eY.f k a b).bind fun d => (if d = true then (dz.l0 k a (wrap64 (b + 1))) else (some false))) else ((bB.f (a.length : Int) 1 9).bind fun e => (some e))
end
def dz.f (k : Nat) (l0 : List (dB)) : Option (Bool) := dz.l0 k l0 0
theorem dz.calls (k : Nat) (A0 : Option Addr) (c0 : Nat) (l0 : List (dB)) (r : Bool) (w : World) (hr0 : Kd.C jw w A0 l0.length l0) (hc0 : l0.length ≤ c0) (h : dz.f k l0 = some r) :
  Calls Tryz.prog 158 #[.slice A0 l0.length c0] w fun e w' => e = .returned (.bool r) ∧ Below w.heap.size w w' := by
 have HR0 := ah.mk hr0
 have HC0 := ah.mk hc0
 clear hr0 hc0
 have HB := ah.mk (Below.refl w.heap.size w)
 have H : (dz.l0 k l0 0) = some r := h
 clear h
 have H' := ah.mk H
 clear H
 go_enter Tryz.func158, Tryz.ntmps158
 go_wp2
 go_loopg [3] k (fun kq v3 w' => ∃ (x3_1 : Int), v3 = .int .i64 x3_1 ∧ ah (dz.l0 kq l0 x3_1 = some r) ∧ ah (kq ≤ k) ∧ ah (Below w.heap.size w w'))
 case atStart => exact ⟨(0), EQ, H', ⟨Nat.le_refl _⟩, ⟨BL⟩⟩
 case round =>
  clear H'
  obtain ⟨x3_1, rfl, HA, HK1, HB⟩ := hrel
  cases gk with
  | zero => exact absurd HA.out (by simp [dz.l0])
  | succ k1 =>
   have H := HA.out
   clear HA
   simp only [dz.l0] at H
   have HC2 := ah.mk H
   clear H
   go_upto_region 2 with (fail)
   go_cut [12] (fun v12 wc => ∃ (kq : Nat) (x12_1 : Bool), v12 = .bool x12_1 ∧ ah (dz.j1 kq l0 x3_1 x12_1 = some r) ∧ ah (kq ≤ k1) ∧ ah (Below w.heap.size w wc))
   case first =>
    have H := HC2.out
    clear HC2
    replace H := ifD H; rcases H with ⟨c3b0, H⟩ | ⟨c3b0, H⟩
    ·(first | rw [c3b0] | (simp only [iC, jg]; rw [c3b0]) | skip)
     have H' := ah.mk H
     clear H
     go_wp2
     go_meet
     case rel => exact ⟨_, (decide ((l0.length : Int) ≤ 9)), EQ, H', ⟨by have := HK1.out; first | omega | exact Nat.le_refl _⟩, ⟨BL⟩⟩
    ·(first | rw [c3b0] | (simp only [iC, jg]; rw [c3b0]) | skip)
     have H' := ah.mk H
     clear H
     go_wp2
     go_meet
     case rel => exact ⟨_, (false), EQ, H', ⟨by have := HK1.out; first | omega | exact Nat.le_refl _⟩, ⟨BL⟩⟩
   case rest =>
    clear HC2
    obtain ⟨kq, x12_1, rfl, HA, HJ1, HB⟩ := hcut
    cases kq with
    | zero => exact absurd HA.out (by simp [dz.j1])
    | succ kj1 =>
     have H := HA.out
     clear HA
     simp only [dz.j1] at H
     replace H := ifB H; rcases H with ⟨rfl, H⟩ | ⟨rfl, H⟩
     ·replace H := be H; obtain ⟨t303, A5, H⟩ := H
      replace H := ah.mk H
      go_wp2_with (first | ((with_reducible refine ay (f := 192) rfl ?_); refine bE (some 17) Tryz.func192 #[.slice A0 l0.length c0, .int .i64 x3_1] ?_; (with_reducible refine (eY.calls kj1 _ _ l0 x3_1 _ _ ?side1 ?side2 A5.out).mono ?_); (case side1 => exact CB HR0); (case side2 => exact HC0.out); rintro e w5000 ⟨rfl, hb⟩; refine ⟨_, rfl, ?_⟩; replace HB := BS (w := w) hb; (try clear hb); refine bU ?_))
      refine Hide.mk ?_
      replace H := H.out
      replace H := ifB H; rcases H with ⟨rfl, H⟩ | ⟨rfl, H⟩
      ·have H' := ah.mk H
       clear H
       try go_wp2
       go_roundg kj1
       case measure => have := HK1.out; have := HJ1.out; omega
       case rel => exact ⟨(wrap64 (x3_1 + 1)), EQ, H', ⟨by have := HK1.out; have := HJ1.out; omega⟩, ⟨BL⟩⟩
      ·obtain rfl := Option.some.inj H
       try go_wp2
       go_ret
       exact ⟨EWW, BL⟩
     ·replace H := be H; obtain ⟨t304, A9, H⟩ := H
      obtain rfl := Option.some.inj H
      go_wp2_with (first | ((with_reducible refine ay (f := 86) rfl ?_); refine bE (some 21) Tryz.func86 #[.int .i64 (l0.length : Int), .int .i64 1, .int .i64 9] ?_; (with_reducible refine (bB.calls (l0.length : Int) 1 9 t304 _ A9.out).mono ?_); rintro e w' ⟨rfl, ⟨nd, rfl⟩⟩; refine ⟨_, rfl, ?_⟩))
      go_ret
      exact ⟨EWW, BL⟩
def kN.f (k : Nat) (FV : Int) (F7 : List (dB)) : Option (Bool) := (bB.f FV 1 99).bind fun t306 => (if t306 = true then ((dz.f k F7).bind fun t307 => (some t307)) else (some false))
theorem kN.calls (k : Nat) (FV : Int) (A0_1 : Option Addr) (c0_1 : Nat) (F7 : List (dB)) (r : Bool) (w : World) (hr0_1 : Kd.C jw w A0_1 F7.length F7) (hc0_1 : F7.length ≤ c0_1) (h : kN.f k FV F7 = some r) :
  Calls Tryz.prog 102 #[.agg #[.int .i64 FV, .slice A0_1 F7.length c0_1]] w fun e w' => e = .returned (.bool r) ∧ Below w.heap.size w w' := by
 have hu82 := Tryz.underlying82
 have HR0_1 := ah.mk hr0_1
 have HC0_1 := ah.mk hc0_1
 clear hr0_1 hc0_1
 have HB := ah.mk (Below.refl w.heap.size w)
 unfold kN.f at h
 have H := h
 clear h
 replace H := be H; obtain ⟨t306, A2, H⟩ := H
 replace H := ah.mk H
 go_enter Tryz.func102, Tryz.ntmps102
 go_wp2_with (first | ((with_reducible refine aJ (N := 1) rfl ?_); refine bg (N := 1) (cs := #[.int .i64 FV, .slice A0_1 F7.length c0_1]) (t := 82) ?_; intro gb305 hg w9000 hbox hb; have BK305 := ah.mk hbox; have GW305 := SZ (w := w) hg; have GE305 := GW305; replace HB := BS (w := w) hb; clear hb hbox hg; obtain ⟨hcz9001_0, hcz9001_1, hfz9001_0, hfz9001_1⟩ := cz2 BK305.out) | ((with_reducible refine ay (f := 86) rfl ?_); refine bE (some 5) Tryz.func86 #[.int .i64 FV, .int .i64 1, .int .i64 99] ?_; (with_reducible refine (bB.calls FV 1 99 _ _ A2.out).mono ?_); rintro e w' ⟨rfl, ⟨nd, rfl⟩⟩; refine ⟨_, rfl, ?_⟩; refine bU ?_))
 refine Hide.mk ?_
 replace H := H.out
 replace H := ifB H; rcases H with ⟨rfl, H⟩ | ⟨rfl, H⟩
 ·replace H := be H; obtain ⟨t307, A4, H⟩ := H
  obtain rfl := Option.some.inj H
  try go_wp2_with (first | (go_at_call 158; (with_reducible refine (dz.calls k _ _ F7 t307 _ ?side1 ?side2 A4.out).mono ?_); (case side1 => repeat (first | exact (Kd.eO HR0_1.out BL) | (with_reducible refine Kd.gy ?_ _) | (with_reducible refine Kd.gD ?_ _) | (with_reducible refine Kd.ig ?_))); (case side2 => exact HC0_1.out); rintro e w9002 ⟨rfl, hb⟩; replace BK305 := KB BK305 hb; replace HB := BS (w := w) hb; (try clear hb)))
  go_ret
  exact ⟨EWW, BL⟩
 ·obtain rfl := Option.some.inj H
  try go_wp2
  go_ret
  exact ⟨EWW, BL⟩
def eH.l0 : Nat → Int → Int → Int → ByteArray → List (S82) → List Int → Int → Option (Bool)
 | 0, _, _, _, _, _, _, _ => none
 | k + 1, a, b, c, d, e, f, g => if a < (e.length : Int) then (if 0 ≤ a then ((kN.f k ((fG e a).f0) ((fG e a).f1)).bind fun h => (if h = true then (eH.l0 k (wrap64 (a + 1)) b c d e f g) else (some false))) else (none)) else ((aT.f k b c d).bind fun i => ((kX.f k b c d).bind fun j => (if j = 0 then (if (e.length : Int) = (i.length : Int) then (if (f.length : Int) = (i.length : Int) then ((bB.f g 1 9999).bind fun l => (some l)) else (some false)) else (some false)) else (some false))))
def eH.f (k : Nat) (FV FW : Int) (FX : ByteArray) (F4 : List (S82)) (F5 : List Int) (F6 : Int) : Option (Bool) := eH.l0 k 0 FV FW FX F4 F5 F6
theorem eH.calls (k : Nat) (FV FW : Int) (FX : ByteArray) (A0_3 : Option Addr) (c0_3 : Nat) (F4 : List (S82)) (A0_4 : Option Addr) (c0_4 : Nat) (F5 : List Int) (F6 : Int) (r : Bool) (w : World) (hr0_3 : Kd.C k82 w A0_3 F4.length F4) (hc0_3 : F4.length ≤ c0_3) (hr0_4 : Kd.C (Kd.int .i64) w A0_4 F5.length F5) (hc0_4 : F5.length ≤ c0_4) (h : eH.f k FV FW FX F4 F5 F6 = some r) :
  Calls Tryz.prog 64 #[.agg #[.int .i64 FV, .int .i64 FW, .string FX, .slice A0_3 F4.length c0_3, .slice A0_4 F5.length c0_4, .int .i64 F6]] w fun e w' => e = .returned (.bool r) ∧ Below w.heap.size w w' := by
 have hu49 := Tryz.underlying49
 have hu82 := Tryz.underlying82
 have hu32 := Tryz.underlying32
 have HR0_3 := ah.mk hr0_3
 have HC0_3 := ah.mk hc0_3
 clear hr0_3 hc0_3
 have HR0_4 := ah.mk hr0_4
 have HC0_4 := ah.mk hc0_4
 clear hr0_4 hc0_4
 have HB := ah.mk (Below.refl w.heap.size w)
 unfold eH.f at h
 have H := h
 clear h
 have H' := ah.mk H
 clear H
 go_enter Tryz.func64, Tryz.ntmps64
 go_wp2_with (first | ((with_reducible refine aJ (N := 1) rfl ?_); (try (refine jd (by rfl) ?_; dsimp only)); refine bg (N := 1) (cs := #[.int .i64 FV, .int .i64 FW, .string FX, .slice A0_3 F4.length c0_3, .slice A0_4 F5.length c0_4, .int .i64 F6]) (t := 49) ?_; intro gb308 hg w2 hbox hb; have BK308 := ah.mk hbox; have GW308 := SZ (w := w) hg; have GE308 := GW308; replace HB := BS (w := w) hb; clear hb hbox hg))
 go_loopg [3] k (fun kq v3 w' => ∃ (x3_1 : Int), v3 = .int .i64 x3_1 ∧ ah (eH.l0 kq x3_1 FV FW FX F4 F5 F6 = some r) ∧ ah (kq ≤ k) ∧ ah (w'.heap[gb308]? = some (.cells #[.int .i64 FV, .int .i64 FW, .string FX, (.slice A0_3 F4.length c0_3), (.slice A0_4 F5.length c0_4), .int .i64 F6] 49 (0, 0))) ∧ ah (Below w.heap.size w w'))
 case atStart => exact ⟨(0), EQ, H', ⟨Nat.le_refl _⟩, ⟨BK⟩, ⟨BL⟩⟩
 case round =>
  clear H'
  obtain ⟨x3_1, rfl, HA, HK1, BK308, HB⟩ := hrel
  cases gk with
  | zero => exact absurd HA.out (by simp [eH.l0])
  | succ k1 =>
   have H := HA.out
   clear HA
   simp only [eH.l0] at H
   obtain ⟨hcz7000_0, hcz7000_1, hcz7000_2, hcz7000_3, hcz7000_4, hcz7000_5, hfz7000_0, hfz7000_1, hfz7000_2, hfz7000_3, hfz7000_4, hfz7000_5⟩ := cz6 BK308.out
   replace H := ifD H; rcases H with ⟨c3b0, H⟩ | ⟨c3b0, H⟩
   ·replace H := ifN H; obtain ⟨c4b0, H⟩ := H
    replace H := be H; obtain ⟨t310, A5, H⟩ := H
    have p309 : 0 ≤ (x3_1 : Int) := OD
    have q309 : x3_1 < (F4.length : Int) := OD
    obtain ⟨ad309, A309_1, c309_1, e309, hx309_0, hx309_1, hl309_1, hi309_1⟩ := ug HR0_3.out x3_1 p309 q309
    cases e309
    try replace hx309_0 := (HB.out.cell (World.block_lt_of_cell? w _ hx309_0)).trans hx309_0
    try replace hx309_1 := (HB.out.cell (World.block_lt_of_cell? w _ hx309_1)).trans hx309_1
    have HR309_1 := ah.mk hi309_1
    have HC309_1 := ah.mk hl309_1
    clear hi309_1 hl309_1
    replace p309 := eq_true p309
    replace q309 := eq_true q309
    replace H := ah.mk H
    go_wp2_with (first | ((with_reducible refine ay (f := 102) rfl ?_); refine bE (some 17) Tryz.func102 #[.agg #[.int .i64 ((fG F4 x3_1).f0), .slice A309_1 ((fG F4 x3_1).f1).length c309_1]] ?_; (with_reducible refine (kN.calls k1 ((fG F4 x3_1).f0) _ _ ((fG F4 x3_1).f1) _ _ ?side1 ?side2 A5.out).mono ?_); (case side1 => exact CB HR309_1); (case side2 => exact HC309_1.out); rintro e w7001 ⟨rfl, hb⟩; refine ⟨_, rfl, ?_⟩; replace BK308 := KB BK308 hb; replace HB := BS (w := w) hb; (try clear hb); refine bU ?_))
    refine Hide.mk ?_
    replace H := H.out
    replace H := ifB H; rcases H with ⟨rfl, H⟩ | ⟨rfl, H⟩
    ·have H' := ah.mk H
     clear H
     try go_wp2
     go_roundg k1
     case measure => have := HK1.out; omega
     case rel => exact ⟨(wrap64 (x3_1 + 1)), EQ, H', ⟨by have := HK1.out; omega⟩, ⟨BK⟩, ⟨BL⟩⟩
    ·obtain rfl := Option.some.inj H
     try go_wp2
     go_ret
     exact ⟨EWW, BL⟩
   ·replace H := be H; obtain ⟨t311, A11, H⟩ := H
    replace H := be H; obtain ⟨t314, A12, H⟩ := H
    replace H := ah.mk H
    go_wp2_with (first | ((with_reducible refine ay (f := 49) rfl ?_); refine bE (some 21) Tryz.func49 #[.agg #[.int .i64 FV, .int .i64 FW, .string FX]] ?_; (with_reducible refine (aT.calls k1 FV FW FX t311 _ A11.out).mono ?_); rintro e w7001 ⟨v312, rfl, ho0, hb⟩; refine ⟨_, rfl, ?_⟩; have n0_ := ah.mk (Kd.cO ho0 (aQ BL)); replace BK308 := KB BK308 hb; replace HB := BS (w := w) hb; have HO313 := n0_; clear n0_; (try clear hb); (try clear ho0); obtain ⟨Ao7002, co7002, eo7002⟩ := Kd.dL HO313.out; subst eo7002; obtain ⟨hcz7003_0, hcz7003_1, hcz7003_2, hcz7003_3, hcz7003_4, hcz7003_5, hfz7003_0, hfz7003_1, hfz7003_2, hfz7003_3, hfz7003_4, hfz7003_5⟩ := cz6 BK308.out) | ((with_reducible refine ay (f := 47) rfl ?_); refine bE (some 25) Tryz.func47 #[.agg #[.int .i64 FV, .int .i64 FW, .string FX]] ?_; (with_reducible refine (kX.calls k1 FV FW FX t314 _ A12.out).mono ?_); rintro e w7004 ⟨rfl, hb⟩; refine ⟨_, rfl, ?_⟩; replace HO313 := RB HO313 hb; replace BK308 := KB BK308 hb; replace HB := BS (w := w) hb; (try clear hb); obtain ⟨hcz7005_0, hcz7005_1, hcz7005_2, hcz7005_3, hcz7005_4, hcz7005_5, hfz7005_0, hfz7005_1, hfz7005_2, hfz7005_3, hfz7005_4, hfz7005_5⟩ := cz6 BK308.out; refine bU ?_))
    refine Hide.mk ?_
    replace H := H.out
    replace H := ifE H; rcases H with ⟨c13b0, c13b1, H⟩ | ⟨c13, c13b0, c13b1, H⟩
    ·by_cases c14 : (F4.length : Int) = (t311.length : Int)
     ·rw [if_pos c14] at H
      have c14b0 : ((F4.length : Int) == (t311.length : Int)) = true := beq_iff_eq.mpr c14
      have c14b1 : ((F4.length : Int) != (t311.length : Int)) = false := bne_eq_false_iff_eq.mpr c14
      have c14b2 : (F4.length == t311.length) = true := by first | simpa using c14 | (simp at c14 ⊢; omega)
      clear c14
      by_cases c15 : (F5.length : Int) = (t311.length : Int)
      ·rw [if_pos c15] at H
       have c15b0 : ((F5.length : Int) == (t311.length : Int)) = true := beq_iff_eq.mpr c15
       have c15b1 : ((F5.length : Int) != (t311.length : Int)) = false := bne_eq_false_iff_eq.mpr c15
       have c15b2 : (F5.length == t311.length) = true := by first | simpa using c15 | (simp at c15 ⊢; omega)
       clear c15
       replace H := be H; obtain ⟨t315, A16, H⟩ := H
       obtain rfl := Option.some.inj H
       try go_wp2_with (first | (go_at_call 86; (with_reducible refine (bB.calls F6 1 9999 t315 _ A16.out).mono ?_); rintro e w' ⟨rfl, ⟨nd, rfl⟩⟩))
       go_ret
       exact ⟨EWW, BL⟩
      ·rw [if_neg c15] at H
       have c15b0 : ((F5.length : Int) == (t311.length : Int)) = false := beq_eq_false_iff_ne.mpr c15
       have c15b1 : ((F5.length : Int) != (t311.length : Int)) = true := bne_iff_ne.mpr c15
       have c15b2 : (F5.length == t311.length) = false := by first | simpa using c15 | (simp at c15 ⊢; omega)
       obtain rfl := Option.some.inj H
       try go_wp2
       go_ret
       exact ⟨EWW, BL⟩
     ·rw [if_neg c14] at H
      have c14b0 : ((F4.length : Int) == (t311.length : Int)) = false := beq_eq_false_iff_ne.mpr c14
      have c14b1 : ((F4.length : Int) != (t311.length : Int)) = true := bne_iff_ne.mpr c14
      have c14b2 : (F4.length == t311.length) = false := by first | simpa using c14 | (simp at c14 ⊢; omega)
      obtain rfl := Option.some.inj H
      try go_wp2
      go_ret
      exact ⟨EWW, BL⟩
    ·obtain rfl := Option.some.inj H
     try go_wp2
     go_ret
     exact ⟨EWW, BL⟩
mutual
def bR.j0 : Nat → ByteArray → Bool → Int → Int → ByteArray → Option (Bool)
 | 0, _, _, _, _, _ => none
 | k + 1, a, b, c, d, e => if b = true then (some false) else (bR.l0 k a 0 c d e)
def bR.l0 : Nat → ByteArray → Int → Int → Int → ByteArray → Option (Bool)
 | 0, _, _, _, _, _ => none
 | k + 1, a, b, c, d, e => if b < (a.size : Int) then (if 0 ≤ b then (if (bt a b) = 63 then (if b < (e.size : Int) then (if (bt e b) = 35 then (if (bt a b) = 35 then (if (bt e b) = 46 then (bR.l0 k a (wrap64 (b + 1)) c d e) else (bR.l0 k a (wrap64 (b + 1)) c d e)) else (some false)) else (if (bt e b) = 46 then (bR.l0 k a (wrap64 (b + 1)) c d e) else (bR.l0 k a (wrap64 (b + 1)) c d e))) else (none)) else (if (bt a b) ≥ 97 then (if b < (e.size : Int) then (if (bt e b) = 35 then (if (bt a b) = 35 then (if (bt e b) = 46 then (if ((bt a b) ≤ 122) then (bR.l0 k a (wrap64 (b + 1)) c d e) else (some false)) else (bR.l0 k a (wrap64 (b + 1)) c d e)) else (some false)) else (if (bt e b) = 46 then (if ((bt a b) ≤ 122) then (bR.l0 k a (wrap64 (b + 1)) c d e) else (some false)) else (bR.l0 k a (wrap64 (b + 1)) c d e))) else (none)) else (if b < (e.size : Int) then (if (bt e b) = 35 then (if (bt a b) = 35 then (if (bt e b) = 46 then (some false) else (bR.l0 k a (wrap64 (b + 1)) c d e)) else (some false)) else (if (bt e b) = 46 then (some false) else (bR.l0 k a (wrap64 (b + 1)) c d e))) else (none)))) else (none)) else (some true)
end
def bR.f (k : Nat) (FV FW : Int) (FX a1 : ByteArray) : Option (Bool) := (bL.f k FV FW FX).bind fun t317 => (if t317 = true then (bR.j0 k a1 ((a1.size : Int) != (FX.size : Int)) FV FW FX) else (bR.j0 k a1 true FV FW FX))
theorem bR.calls (k : Nat) (FV FW : Int) (FX a1 : ByteArray) (r : Bool) (w : World) (h : bR.f k FV FW FX a1 = some r) :
  Calls Tryz.prog 65 #[.agg #[.int .i64 FV, .int .i64 FW, .string FX], .string a1] w fun e w' => e = .returned (.bool r) ∧ Below w.heap.size w w' := by
 have hu32 := Tryz.underlying32
 have HB := ah.mk (Below.refl w.heap.size w)
 unfold bR.f at h
 have H := h
 clear h
 have HC3 := ah.mk H
 clear H
 go_enter Tryz.func65, Tryz.ntmps65
 go_upto_region 1 with (first | ((with_reducible refine aJ (N := 2) rfl ?_); (try (refine jd (by rfl) ?_; dsimp only)); refine bg (N := 2) (cs := #[.int .i64 FV, .int .i64 FW, .string FX]) (t := 32) ?_; intro gb316 hg w4 hbox hb; have BK316 := ah.mk hbox; have GW316 := SZ (w := w) hg; have GE316 := GW316; replace HB := BS (w := w) hb; clear hb hbox hg))
 (try simp only [Act.put, List.setIfInBounds_toArray, List.set_cons_zero, List.set_cons_succ])
 go_cut [17] (fun v17 wc => ∃ (kq : Nat) (x17_2 : Bool), v17 = .bool x17_2 ∧ ah (bR.j0 kq a1 x17_2 FV FW FX = some r) ∧ ah (kq ≤ k) ∧ ah (wc.heap[gb316]? = some (.cells #[.int .i64 FV, .int .i64 FW, .string FX] 32 (0, 0))) ∧ ah (Below w.heap.size w wc))
 case first =>
  have H := HC3.out
  clear HC3
  replace H := be H; obtain ⟨t317, A5, H⟩ := H
  obtain ⟨hcz8000_0, hcz8000_1, hcz8000_2, hfz8000_0, hfz8000_1, hfz8000_2⟩ := cz3 BK316.out
  replace H := ah.mk H
  go_wp2_with (first | ((with_reducible refine ay (f := 96) rfl ?_); refine bE (some 8) Tryz.func96 #[.agg #[.int .i64 FV, .int .i64 FW, .string FX]] ?_; (with_reducible refine (bL.calls k FV FW FX _ _ A5.out).mono ?_); rintro e w8001 ⟨rfl, hb⟩; refine ⟨_, rfl, ?_⟩; replace BK316 := KB BK316 hb; replace HB := BS (w := w) hb; (try clear hb); obtain ⟨hcz8002_0, hcz8002_1, hcz8002_2, hfz8002_0, hfz8002_1, hfz8002_2⟩ := cz3 BK316.out; refine bU ?_))
  refine Hide.mk ?_
  replace H := H.out
  replace H := ifB H; rcases H with ⟨rfl, H⟩ | ⟨rfl, H⟩
  ·have H' := ah.mk H
   clear H
   try go_wp2
   go_meet
   case rel => exact ⟨_, (((a1.size : Int) != (FX.size : Int))), EQ, H', ⟨by first | omega | exact Nat.le_refl _⟩, ⟨BK⟩, ⟨BL⟩⟩
  ·have H' := ah.mk H
   clear H
   try go_wp2
   go_meet
   case rel => exact ⟨_, (true), EQ, H', ⟨by first | omega | exact Nat.le_refl _⟩, ⟨BK⟩, ⟨BL⟩⟩
 case rest =>
  clear HC3
  obtain ⟨kq, x17_2, rfl, HA, HJ2, BK316, HB⟩ := hcut
  cases kq with
  | zero => exact absurd HA.out (by simp [bR.j0])
  | succ kj2 =>
   have H := HA.out
   clear HA
   simp only [bR.j0] at H
   replace H := ifB H; rcases H with ⟨rfl, H⟩ | ⟨rfl, H⟩
   ·obtain rfl := Option.some.inj H
    go_wp2
    go_ret
    exact ⟨EWW, BL⟩
   ·have H' := ah.mk H
    clear H
    go_wp2
    go_loopg [5] kj2 (fun kq v5 w' => ∃ (x5_2 : Int), v5 = .int .i64 x5_2 ∧ ah (bR.l0 kq a1 x5_2 FV FW FX = some r) ∧ ah (kq ≤ kj2) ∧ ah (w'.heap[gb316]? = some (.cells #[.int .i64 FV, .int .i64 FW, .string FX] 32 (0, 0))) ∧ ah (Below w.heap.size w w'))
    case atStart => exact ⟨(0), EQ, H', ⟨Nat.le_refl _⟩, ⟨BK⟩, ⟨BL⟩⟩
    case round =>
     clear H'
     try clear c12
     obtain ⟨x5_2, rfl, HA, HK2, BK316, HB⟩ := hrel
     cases gk with
     | zero => exact absurd HA.out (by simp [bR.l0])
     | succ k2 =>
      have H := HA.out
      clear HA
      simp only [bR.l0] at H
      replace H := ifD H; rcases H with ⟨c13b0, H⟩ | ⟨c13b0, H⟩
      ·replace H := ifN H; obtain ⟨c14b0, H⟩ := H
       replace H := ifE H; rcases H with ⟨c16b0, c16b1, H⟩ | ⟨c16, c16b0, c16b1, H⟩
       ·replace H := ifN H; obtain ⟨c17b0, H⟩ := H
        have p15 : (0 ≤ (x5_2 : Int)) = True := OT
        have q15 : (x5_2 < (a1.size : Int)) = True := OT
        have hx15 := fO a1 x5_2
        obtain ⟨hcz7000_0, hcz7000_1, hcz7000_2, hfz7000_0, hfz7000_1, hfz7000_2⟩ := cz3 BK316.out
        have p18 : (0 ≤ (x5_2 : Int)) = True := OT
        have q18 : (x5_2 < (FX.size : Int)) = True := OT
        have hx18 := fO FX x5_2
        replace H := ifE H; rcases H with ⟨c19b0, c19b1, H⟩ | ⟨c19, c19b0, c19b1, H⟩
        ·have p20 : (0 ≤ (x5_2 : Int)) = True := OT
         have q20 : (x5_2 < (a1.size : Int)) = True := OT
         have hx20 := fO a1 x5_2
         replace H := ifE H; rcases H with ⟨c21b0, c21b1, H⟩ | ⟨c21, c21b0, c21b1, H⟩
         ·have p22 : (0 ≤ (x5_2 : Int)) = True := OT
          have q22 : (x5_2 < (FX.size : Int)) = True := OT
          have hx22 := fO FX x5_2
          replace H := ifE H; rcases H with ⟨c23b0, c23b1, H⟩ | ⟨c23, c23b0, c23b1, H⟩
          ·have H' := ah.mk H
           clear H
           go_wp2
           go_roundg k2
           case measure => have := HJ2.out; have := HK2.out; omega
           case rel => exact ⟨(wrap64 (x5_2 + 1)), EQ, H', ⟨by have := HJ2.out; have := HK2.out; omega⟩, ⟨BK⟩, ⟨BL⟩⟩
          ·have H' := ah.mk H
           clear H
           go_wp2
           go_roundg k2
           case measure => have := HJ2.out; have := HK2.out; omega
           case rel => exact ⟨(wrap64 (x5_2 + 1)), EQ, H', ⟨by have := HJ2.out; have := HK2.out; omega⟩, ⟨BK⟩, ⟨BL⟩⟩
         ·obtain rfl := Option.some.inj H
          go_wp2
          go_ret
          exact ⟨EWW, BL⟩
        ·have p27 : (0 ≤ (x5_2 : Int)) = True := OT
         have q27 : (x5_2 < (FX.size : Int)) = True := OT
         have hx27 := fO FX x5_2
         replace H := ifE H; rcases H with ⟨c28b0, c28b1, H⟩ | ⟨c28, c28b0, c28b1, H⟩
         ·have H' := ah.mk H
          clear H
          go_wp2
          go_roundg k2
          case measure => have := HJ2.out; have := HK2.out; omega
          case rel => exact ⟨(wrap64 (x5_2 + 1)), EQ, H', ⟨by have := HJ2.out; have := HK2.out; omega⟩, ⟨BK⟩, ⟨BL⟩⟩
         ·have H' := ah.mk H
          clear H
          go_wp2
          go_roundg k2
          case measure => have := HJ2.out; have := HK2.out; omega
          case rel => exact ⟨(wrap64 (x5_2 + 1)), EQ, H', ⟨by have := HJ2.out; have := HK2.out; omega⟩, ⟨BK⟩, ⟨BL⟩⟩
       ·have p15 : (0 ≤ (x5_2 : Int)) = True := OT
        have q15 : (x5_2 < (a1.size : Int)) = True := OT
        have hx15 := fO a1 x5_2
        by_cases c32 : (bt a1 x5_2) ≥ 97
        ·rw [if_pos c32] at H
         have c32b0 : decide (97 ≤ (bt a1 x5_2)) = true := decide_eq_true c32
         clear c32
         replace H := ifN H; obtain ⟨c34b0, H⟩ := H
         have p31 : (0 ≤ (x5_2 : Int)) = True := OT
         have q31 : (x5_2 < (a1.size : Int)) = True := OT
         have hx31 := fO a1 x5_2
         have p33 : (0 ≤ (x5_2 : Int)) = True := OT
         have q33 : (x5_2 < (a1.size : Int)) = True := OT
         have hx33 := fO a1 x5_2
         obtain ⟨hcz7000_0, hcz7000_1, hcz7000_2, hfz7000_0, hfz7000_1, hfz7000_2⟩ := cz3 BK316.out
         have p35 : (0 ≤ (x5_2 : Int)) = True := OT
         have q35 : (x5_2 < (FX.size : Int)) = True := OT
         have hx35 := fO FX x5_2
         replace H := ifE H; rcases H with ⟨c36b0, c36b1, H⟩ | ⟨c36, c36b0, c36b1, H⟩
         ·have p37 : (0 ≤ (x5_2 : Int)) = True := OT
          have q37 : (x5_2 < (a1.size : Int)) = True := OT
          have hx37 := fO a1 x5_2
          replace H := ifE H; rcases H with ⟨c38b0, c38b1, H⟩ | ⟨c38, c38b0, c38b1, H⟩
          ·have p39 : (0 ≤ (x5_2 : Int)) = True := OT
           have q39 : (x5_2 < (FX.size : Int)) = True := OT
           have hx39 := fO FX x5_2
           replace H := ifE H; rcases H with ⟨c40b0, c40b1, H⟩ | ⟨c40, c40b0, c40b1, H⟩
           ·by_cases c41 : ((bt a1 x5_2) ≤ 122)
            ·rw [if_pos c41] at H
             have c41b0 : decide ((bt a1 x5_2) ≤ 122) = true := decide_eq_true c41
             clear c41
             have H' := ah.mk H
             clear H
             go_wp2
             go_roundg k2
             case measure => have := HJ2.out; have := HK2.out; omega
             case rel => exact ⟨(wrap64 (x5_2 + 1)), EQ, H', ⟨by have := HJ2.out; have := HK2.out; omega⟩, ⟨BK⟩, ⟨BL⟩⟩
            ·rw [if_neg c41] at H
             have c41b0 : decide ((bt a1 x5_2) ≤ 122) = false := decide_eq_false c41
             clear c41
             obtain rfl := Option.some.inj H
             go_wp2
             go_ret
             exact ⟨EWW, BL⟩
           ·have H' := ah.mk H
            clear H
            go_wp2
            go_roundg k2
            case measure => have := HJ2.out; have := HK2.out; omega
            case rel => exact ⟨(wrap64 (x5_2 + 1)), EQ, H', ⟨by have := HJ2.out; have := HK2.out; omega⟩, ⟨BK⟩, ⟨BL⟩⟩
          ·obtain rfl := Option.some.inj H
           go_wp2
           go_ret
           exact ⟨EWW, BL⟩
         ·have p46 : (0 ≤ (x5_2 : Int)) = True := OT
          have q46 : (x5_2 < (FX.size : Int)) = True := OT
          have hx46 := fO FX x5_2
          replace H := ifE H; rcases H with ⟨c47b0, c47b1, H⟩ | ⟨c47, c47b0, c47b1, H⟩
          ·by_cases c48 : ((bt a1 x5_2) ≤ 122)
           ·rw [if_pos c48] at H
            have c48b0 : decide ((bt a1 x5_2) ≤ 122) = true := decide_eq_true c48
            clear c48
            have H' := ah.mk H
            clear H
            go_wp2
            go_roundg k2
            case measure => have := HJ2.out; have := HK2.out; omega
            case rel => exact ⟨(wrap64 (x5_2 + 1)), EQ, H', ⟨by have := HJ2.out; have := HK2.out; omega⟩, ⟨BK⟩, ⟨BL⟩⟩
           ·rw [if_neg c48] at H
            have c48b0 : decide ((bt a1 x5_2) ≤ 122) = false := decide_eq_false c48
            clear c48
            obtain rfl := Option.some.inj H
            go_wp2
            go_ret
            exact ⟨EWW, BL⟩
          ·have H' := ah.mk H
           clear H
           go_wp2
           go_roundg k2
           case measure => have := HJ2.out; have := HK2.out; omega
           case rel => exact ⟨(wrap64 (x5_2 + 1)), EQ, H', ⟨by have := HJ2.out; have := HK2.out; omega⟩, ⟨BK⟩, ⟨BL⟩⟩
        ·rw [if_neg c32] at H
         have c32b0 : decide (97 ≤ (bt a1 x5_2)) = false := decide_eq_false c32
         clear c32
         replace H := ifN H; obtain ⟨c52b0, H⟩ := H
         have p31 : (0 ≤ (x5_2 : Int)) = True := OT
         have q31 : (x5_2 < (a1.size : Int)) = True := OT
         have hx31 := fO a1 x5_2
         obtain ⟨hcz7000_0, hcz7000_1, hcz7000_2, hfz7000_0, hfz7000_1, hfz7000_2⟩ := cz3 BK316.out
         have p53 : (0 ≤ (x5_2 : Int)) = True := OT
         have q53 : (x5_2 < (FX.size : Int)) = True := OT
         have hx53 := fO FX x5_2
         replace H := ifE H; rcases H with ⟨c54b0, c54b1, H⟩ | ⟨c54, c54b0, c54b1, H⟩
         ·have p55 : (0 ≤ (x5_2 : Int)) = True := OT
          have q55 : (x5_2 < (a1.size : Int)) = True := OT
          have hx55 := fO a1 x5_2
          replace H := ifE H; rcases H with ⟨c56b0, c56b1, H⟩ | ⟨c56, c56b0, c56b1, H⟩
          ·have p57 : (0 ≤ (x5_2 : Int)) = True := OT
           have q57 : (x5_2 < (FX.size : Int)) = True := OT
           have hx57 := fO FX x5_2
           replace H := ifE H; rcases H with ⟨c58b0, c58b1, H⟩ | ⟨c58, c58b0, c58b1, H⟩
           ·obtain rfl := Option.some.inj H
            go_wp2
            go_ret
            exact ⟨EWW, BL⟩
           ·have H' := ah.mk H
            clear H
            go_wp2
            go_roundg k2
            case measure => have := HJ2.out; have := HK2.out; omega
            case rel => exact ⟨(wrap64 (x5_2 + 1)), EQ, H', ⟨by have := HJ2.out; have := HK2.out; omega⟩, ⟨BK⟩, ⟨BL⟩⟩
          ·obtain rfl := Option.some.inj H
           go_wp2
           go_ret
           exact ⟨EWW, BL⟩
         ·have p62 : (0 ≤ (x5_2 : Int)) = True := OT
          have q62 : (x5_2 < (FX.size : Int)) = True := OT
          have hx62 := fO FX x5_2
          replace H := ifE H; rcases H with ⟨c63b0, c63b1, H⟩ | ⟨c63, c63b0, c63b1, H⟩
          ·obtain rfl := Option.some.inj H
           go_wp2
           go_ret
           exact ⟨EWW, BL⟩
          ·have H' := ah.mk H
           clear H
           go_wp2
           go_roundg k2
           case measure => have := HJ2.out; have := HK2.out; omega
           case rel => exact ⟨(wrap64 (x5_2 + 1)), EQ, H', ⟨by have := HJ2.out; have := HK2.out; omega⟩, ⟨BK⟩, ⟨BL⟩⟩
      ·obtain rfl := Option.some.inj H
       go_wp2
       go_ret
       exact ⟨EWW, BL⟩
mutual
def bq.j0 : Nat → ByteArray → Int → List (dJ) → Bool → Int → Int → ByteArray → Option (ByteArray)
 | 0, _, _, _, _, _, _, _ => none
 | k + 1, a, b, c, d, e, f, g => if d = true then (some (⟨#[]⟩ : ByteArray)) else (if 0 ≤ b then (if b < (c.length : Int) then ((bK.f k e f g ((aM c b).f0) ((aM c b).f1) ((aM c b).f2) ((aM c b).f3)).bind fun h => (bq.l0 k a (⟨#[]⟩ : ByteArray) h 0)) else (none)) else (none))
def bq.l0 : Nat → ByteArray → ByteArray → List Int → Int → Option (ByteArray)
 | 0, _, _, _, _ => none
 | k + 1, a, b, c, d => if d < (c.length : Int) then (if 0 ≤ d then (if 0 ≤ (rd c d) then (if (rd c d) ≤ (wrap64 ((rd c d) + 1)) then (if (wrap64 ((rd c d) + 1)) ≤ (a.size : Int) then (if b.size + (a.extract ((rd c d) : Int).toNat ((wrap64 ((rd c d) + 1)) : Int).toNat).size ≤ 9223372036854775807 then (bq.l0 k a (b ++ (a.extract ((rd c d) : Int).toNat ((wrap64 ((rd c d) + 1)) : Int).toNat)) c (wrap64 (d + 1))) else (none)) else (none)) else (none)) else (none)) else (none)) else (some b)
end
def bq.f (k : Nat) (FV FW : Int) (FX a1 : ByteArray) (a2 : Int) : Option (ByteArray) := (aT.f k FV FW FX).bind fun t319 => ((bR.f k FV FW FX a1).bind fun t322 => (if t322 = true then ((bB.f a2 0 (wrap64 ((t319.length : Int) - 1))).bind fun t323 => (bq.j0 k a1 a2 t319 (!t323) FV FW FX)) else (bq.j0 k a1 a2 t319 true FV FW FX)))
def bq.T9 : Bool × List (List Nat × List Nat) := (true, [([], []), ([], []), ([], []), ([], []), ([2, 3], [2, 3]), ([4], [4]), ([], []), ([], []), ([6, 7], [6, 7]), ([8], [8]), ([9], [9]), ([1, 5, 10], [1, 5, 10]), ([0, 11], [0, 11]), ([12, 0, 1, 2, 3, 4, 5, 6, 7, 8, 9, 10, 11, 12], [0, 12])])
def bq.B9 : List Nat := [0, 0, 0, 0, 12, 28, 0, 0, 192, 448, 960, 2046, 4095, 8191]
theorem bq.FP : kG .any (opsOf Tryz.f66 9) = bq.T9 := by kernel_rfl
theorem bq.FC : iW bq.T9.2 bq.B9 = true := by kernel_rfl
theorem bq.calls (k : Nat) (FV FW : Int) (FX a1 : ByteArray) (a2 : Int) (r : ByteArray) (w : World) (h : bq.f k FV FW FX a1 a2 = some r) :
  Calls Tryz.prog 66 #[.agg #[.int .i64 FV, .int .i64 FW, .string FX], .string a1, .int .i64 a2] w fun e w' => e = .returned (.string r) ∧ Below w.heap.size w w' := by
 have hu32 := Tryz.underlying32
 have hu115 := Tryz.underlying115
 have HB := ah.mk (Below.refl w.heap.size w)
 unfold bq.f at h
 have H := h
 clear h
 replace H := be H; obtain ⟨t319, A4, H⟩ := H
 have HC5 := ah.mk H
 clear H
 go_enter Tryz.func66, Tryz.ntmps66
 go_upto_region 2 with (first | ((with_reducible refine aJ (N := 3) rfl ?_); (try (refine jd (by rfl) ?_; dsimp only)); refine bg (N := 3) (cs := #[.int .i64 FV, .int .i64 FW, .string FX]) (t := 32) ?_; intro gb318 hg w6 hbox hb; have BK318 := ah.mk hbox; have GW318 := SZ (w := w) hg; have GE318 := GW318; replace HB := BS (w := w) hb; clear hb hbox hg; obtain ⟨hcz7_0, hcz7_1, hcz7_2, hfz7_0, hfz7_1, hfz7_2⟩ := cz3 BK318.out) | ((with_reducible refine ay (f := 49) rfl ?_); refine bE (some 12) Tryz.func49 #[.agg #[.int .i64 FV, .int .i64 FW, .string FX]] ?_; (with_reducible refine (aT.calls k FV FW FX t319 _ A4.out).mono ?_); rintro e w8 ⟨v320, rfl, ho0, hb⟩; refine ⟨_, rfl, ?_⟩; have n0_ := ah.mk (Kd.cO ho0 (aQ BL)); replace BK318 := KB BK318 hb; replace HB := BS (w := w) hb; have HO321 := n0_; clear n0_; (try clear hb); (try clear ho0)))
 (try simp only [Act.put, List.setIfInBounds_toArray, List.set_cons_zero, List.set_cons_succ])
 go_cut [24] (fun v24 wc => ∃ (kq : Nat) (x24_4 : Bool), v24 = .bool x24_4 ∧ ah (bq.j0 kq a1 a2 t319 x24_4 FV FW FX = some r) ∧ ah (kq ≤ k) ∧ ah (Kd.R lW 115 wc w.heap.size (fun _ => True) v320 t319) ∧ ah (wc.heap[gb318]? = some (.cells #[.int .i64 FV, .int .i64 FW, .string FX] 32 (0, 0))) ∧ ah (Below w.heap.size w wc))
 case first =>
  have H := HC5.out
  clear HC5
  replace H := be H; obtain ⟨t322, A9, H⟩ := H
  obtain ⟨hcz8000_0, hcz8000_1, hcz8000_2, hfz8000_0, hfz8000_1, hfz8000_2⟩ := cz3 BK318.out
  replace H := ah.mk H
  go_wp2_with (first | ((with_reducible refine ay (f := 65) rfl ?_); refine bE (some 15) Tryz.func65 #[.agg #[.int .i64 FV, .int .i64 FW, .string FX], .string a1] ?_; (with_reducible refine (bR.calls k FV FW FX a1 _ _ A9.out).mono ?_); rintro e w8001 ⟨rfl, hb⟩; refine ⟨_, rfl, ?_⟩; replace HO321 := RB HO321 hb; replace BK318 := KB BK318 hb; replace HB := BS (w := w) hb; (try clear hb); refine bU ?_))
  refine Hide.mk ?_
  replace H := H.out
  replace H := ifB H; rcases H with ⟨rfl, H⟩ | ⟨rfl, H⟩
  ·replace H := be H; obtain ⟨t323, A11, H⟩ := H
   have H' := ah.mk H
   clear H
   obtain ⟨Ao8002, co8002, eo8002⟩ := Kd.dL HO321.out
   subst eo8002
   go_wp2_with (first | (go_at_call 86; (with_reducible refine (bB.calls a2 0 (wrap64 ((t319.length : Int) - 1)) t323 _ A11.out).mono ?_); rintro e w' ⟨rfl, ⟨nd, rfl⟩⟩))
   go_meet
   case rel => exact ⟨_, (!t323), EQ, H', ⟨by first | omega | exact Nat.le_refl _⟩, ⟨(RR HO321)⟩, ⟨BK⟩, ⟨BL⟩⟩
  ·have H' := ah.mk H
   clear H
   try go_wp2
   go_meet
   case rel => exact ⟨_, (true), EQ, H', ⟨by first | omega | exact Nat.le_refl _⟩, ⟨(RR HO321)⟩, ⟨BK⟩, ⟨BL⟩⟩
 case rest =>
  clear HC5
  try clear hcz7_0
  try clear hcz7_1
  try clear hcz7_2
  try clear hfz7_0
  try clear hfz7_1
  try clear hfz7_2
  obtain ⟨kq, x24_4, rfl, HA, HJ4, HO_7, BK318, HB⟩ := hcut
  cases kq with
  | zero => exact absurd HA.out (by simp [bq.j0])
  | succ kj4 =>
   have H := HA.out
   clear HA
   simp only [bq.j0] at H
   replace H := ifB H; rcases H with ⟨rfl, H⟩ | ⟨rfl, H⟩
   ·obtain rfl := Option.some.inj H
    go_wp2
    go_ret
    exact ⟨EWW, BL⟩
   ·replace H := ifN H; obtain ⟨c18b0, H⟩ := H
    replace H := ifN H; obtain ⟨c19b0, H⟩ := H
    replace H := be H; obtain ⟨t325, A20, H⟩ := H
    have H' := ah.mk H
    clear H
    try go_wp2
    replace HO_7 := ah.mk (Kd.eu HO_7.out)
    replace BK318 := ah.mk (aH BK318.out)
    replace HB := ah.mk (dH HB.out)
    obtain ⟨Ao7000, co7000, eo7000⟩ := Kd.dL HO_7.out
    (first | subst eo7000 | (injection eo7000 with f1_ f2_ f3_; have f4_ := f1_.symm; have f5_ := f3_.symm; clear f1_ f2_ f3_; subst f4_; subst f5_))
    have p324 : 0 ≤ (a2 : Int) := OD
    have q324 : a2 < (t319.length : Int) := OD
    obtain ⟨ad324, e324, hx324_0, hx324_1, hx324_2, hx324_3⟩ := nu (Kd.bP HO_7.out).2.2 a2 p324 q324
    cases e324
    replace p324 := eq_true p324
    replace q324 := eq_true q324
    refine ji (n := 7) (S := fun w' => w'.cell? ⟨gb318, 0, none⟩ = some (.int .i64 FV) ∧ w'.cell? ⟨gb318, 1, none⟩ = some (.int .i64 FW) ∧ w'.cell? ⟨gb318, 2, none⟩ = some (.string FX) ∧ w'.cell? (ad324.add ((a2).toNat * 4)) = some (.int .i64 ((aM t319 a2).f0)) ∧ w'.cell? ⟨(ad324.add ((a2).toNat * 4)).block, (ad324.add ((a2).toNat * 4)).off + 1, none⟩ = some (.bool ((aM t319 a2).f1)) ∧ w'.cell? ⟨(ad324.add ((a2).toNat * 4)).block, (ad324.add ((a2).toNat * 4)).off + 2, none⟩ = some (.int .i64 ((aM t319 a2).f2)) ∧ w'.cell? ⟨(ad324.add ((a2).toNat * 4)).block, (ad324.add ((a2).toNat * 4)).off + 3, none⟩ = some (.int .i64 ((aM t319 a2).f3))) (ds := []) #[F,F,F,F,F,F,F] (by kernel_rfl) rfl rfl ⟨(ak BK318.out 0).trans rfl, (ak BK318.out 1).trans rfl, (ak BK318.out 2).trans rfl, hx324_0, hx324_1, hx324_2, hx324_3⟩ (fun hHeld => ?_)
    generalize wc.drew = w7001 at HO_7 BK318 HB hx324_0 hx324_1 hx324_2 hx324_3 hHeld ⊢
    refine puS (i := 1) (N := some 26) #[F,T,F,F,F,F,F] (by kernel_rfl) ?_
    refine puS (i := 2) (N := some 27) #[F,T,T,F,F,F,F] (by kernel_rfl) ?_
    refine puS (i := 3) (N := some 28) #[F,T,T,T,F,F,F] (by kernel_rfl) ?_
    refine taS (i := 0) (N := some 25) #[T,T,T,T,F,F,F] (by kernel_rfl) hHeld ?_
    refine taS (i := 4) (N := some 29) #[T,T,T,T,T,F,F] (by kernel_rfl) hHeld ?_
    refine kW (i := 5) (N := some 30) #[T,T,T,T,T,T,F] rfl rfl (by kernel_rfl) (by decide) (fun K hK => ?_)
    refine iZ Tryz.func125 #[.agg #[.int .i64 FV, .int .i64 FW, .string FX], .agg #[.int .i64 ((aM t319 a2).f0), .bool ((aM t319 a2).f1), .int .i64 ((aM t319 a2).f2), .int .i64 ((aM t319 a2).f3)]] ?_
    with_reducible refine (bK.calls kj4 FV FW FX ((aM t319 a2).f0) ((aM t319 a2).f1) ((aM t319 a2).f2) ((aM t319 a2).f3) t325 _ A20.out).mono ?_
    rintro e w7002 ⟨v326, rfl, ho0, hb⟩
    have HS3_ := (hb.cell (World.block_lt_of_cell? _ _ (hHeld.2.2.2.1))).trans (hHeld.2.2.2.1)
    have HS4_ := (hb.cell (World.block_lt_of_cell? _ _ (hHeld.2.2.2.2.1))).trans (hHeld.2.2.2.2.1)
    have HS5_ := (hb.cell (World.block_lt_of_cell? _ _ (hHeld.2.2.2.2.2.1))).trans (hHeld.2.2.2.2.2.1)
    have HS6_ := (hb.cell (World.block_lt_of_cell? _ _ (hHeld.2.2.2.2.2.2))).trans (hHeld.2.2.2.2.2.2)
    refine ⟨_, rfl, ?_⟩
    have n0_ := RB HO_7 hb
    have n1_ := ah.mk (Kd.cO ho0 (aQ BL))
    have n2_ := KB BK318 hb
    have n3_ := BS (w := w) hb
    clear HO_7
    clear BK318
    clear HB
    have HO_7 := n0_
    have HO327 := n1_
    have BK318 := n2_
    have HB := n3_
    clear n0_ n1_ n2_ n3_
    (try clear hb)
    (try clear ho0)
    refine hK.out _ _ ⟨(ak BK318.out 0).trans rfl, (ak BK318.out 1).trans rfl, (ak BK318.out 2).trans rfl, HS3_, HS4_, HS5_, HS6_⟩ (fun hHeld => ?_)
    clear hK K
    refine nrm (some 30) ?_
    refine puS (i := 6) (N := some 9) #[T,T,T,T,T,T,T] (by kernel_rfl) ?_
    refine iD (by kernel_rfl) ?_
    try go_wp2
    go_loopg [8, 10] kj4 (fun kq v8 v10 w' => ∃ (x8_2 : ByteArray) (x10_2 : Int), v8 = .string x8_2 ∧ v10 = .int .i64 x10_2 ∧ ah (bq.l0 kq a1 x8_2 t325 x10_2 = some r) ∧ ah (kq ≤ kj4) ∧ ah (Kd.R (Kd.int .i64) 3 w' w.heap.size (fun _ => True) v326 t325) ∧ ah (w'.heap[gb318]? = some (.cells #[.int .i64 FV, .int .i64 FW, .string FX] 32 (0, 0))) ∧ ah (Below w.heap.size w w'))
    case atStart => exact ⟨((⟨#[]⟩ : ByteArray)), (0), EQ, EQ, H', ⟨Nat.le_refl _⟩, ⟨(RR HO327)⟩, ⟨BK⟩, ⟨BL⟩⟩
    case round =>
     clear H'
     try clear c17
     try clear c18
     try clear c18b0
     try clear c19
     try clear c19b0
     try clear hcz7_0
     try clear hcz7_1
     try clear hcz7_2
     try clear hfz7_0
     try clear hfz7_1
     try clear hfz7_2
     try clear hx324_0
     try clear hx324_1
     try clear hx324_2
     try clear hx324_3
     try clear p324
     try clear q324
     obtain ⟨x8_2, x10_2, rfl, rfl, HA, HK2, HO_9, BK318, HB⟩ := hrel
     cases gk with
     | zero => exact absurd HA.out (by simp [bq.l0])
     | succ k2 =>
      have H := HA.out
      clear HA
      simp only [bq.l0] at H
      obtain ⟨Ao7003, co7003, eo7003⟩ := Kd.dL HO_9.out
      subst eo7003
      replace H := ifD H; rcases H with ⟨c24b0, H⟩ | ⟨c24b0, H⟩
      ·replace H := ifN H; obtain ⟨c25b0, H⟩ := H
       replace H := ifP H; obtain ⟨c26, H⟩ := H
       have c26b0 := eq_true c26
       have c26b1 : decide (0 ≤ (rd t325 x10_2)) = true := decide_eq_true c26
       clear c26
       replace H := ifP H; obtain ⟨c27, H⟩ := H
       have c27b0 := eq_true c27
       have c27b1 : decide ((rd t325 x10_2) ≤ (wrap64 ((rd t325 x10_2) + 1))) = true := decide_eq_true c27
       replace H := ifP H; obtain ⟨c28, H⟩ := H
       have c28b0 := eq_true c28
       have c28b1 : decide ((wrap64 ((rd t325 x10_2) + 1)) ≤ (a1.size : Int)) = true := decide_eq_true c28
       by_cases c29 : x8_2.size + (a1.extract ((rd t325 x10_2) : Int).toNat ((wrap64 ((rd t325 x10_2) + 1)) : Int).toNat).size ≤ 9223372036854775807
       ·rw [if_pos c29] at H
        have c29b0 := eq_true c29
        have c29b1 : decide (x8_2.size + (a1.extract ((rd t325 x10_2) : Int).toNat ((wrap64 ((rd t325 x10_2) + 1)) : Int).toNat).size ≤ 9223372036854775807) = true := decide_eq_true c29
        try have c29b2 : (9223372036854775807 < x8_2.size + (a1.extract ((rd t325 x10_2) : Int).toNat ((wrap64 ((rd t325 x10_2) + 1)) : Int).toNat).size) = False := eq_false (Nat.not_lt.2 c29)
        have c29b3c : (9223372036854775807 < x8_2.size + (((wrap64 ((rd t325 x10_2) + 1))).toNat - ((rd t325 x10_2)).toNat)) = False := by
         have hy_ : (wrap64 ((rd t325 x10_2) + 1)) ≤ (a1.size : Int) := OD
         have hs_ : (a1.extract ((rd t325 x10_2) : Int).toNat ((wrap64 ((rd t325 x10_2) + 1)) : Int).toNat).size = ((wrap64 ((rd t325 x10_2) + 1))).toNat - ((rd t325 x10_2)).toNat := by rw [ByteArray.size_extract]; omega
         rw [← hs_]; exact c29b2
        have H' := ah.mk H
        clear H
        try go_wp2
        replace HO_9 := ah.mk (Kd.eu HO_9.out)
        replace BK318 := ah.mk (aH BK318.out)
        replace HB := ah.mk (dH HB.out)
        have p328 : 0 ≤ (x10_2 : Int) := OD
        have q328 : x10_2 < (t325.length : Int) := OD
        obtain ⟨ad328, e328, hx328_0⟩ := Kd.mG (Kd.bP HO_9.out).2.2 x10_2 p328 q328
        cases e328
        replace p328 := eq_true p328
        replace q328 := eq_true q328
        have p329 : 0 ≤ (x10_2 : Int) := OD
        have q329 : x10_2 < (t325.length : Int) := OD
        obtain ⟨ad329, e329, hx329_0⟩ := Kd.mG (Kd.bP HO_9.out).2.2 x10_2 p329 q329
        obtain rfl : ad328 = ad329 := (by injection e329)
        replace p329 := eq_true p329
        replace q329 := eq_true q329
        refine ji (n := 14) (S := fun w' => w'.cell? (ad328.add (x10_2).toNat) = some (.int .i64 (rd t325 x10_2)) ∧ w'.cell? (ad328.add (x10_2).toNat) = some (.int .i64 (rd t325 x10_2))) (ds := []) #[F,F,F,F,F,F,F,F,F,F,F,F,F,F] (by kernel_rfl) rfl rfl ⟨hx328_0, hx329_0⟩ (fun hHeld => ?_); refine iI bq.FP bq.FC (fun HT_ HW_ => ?_)
        generalize wr.drew = w7004 at HO_9 BK318 HB hx328_0 hx329_0 hHeld ⊢
        refine puS (i := 0) (N := some 37) #[T,F,F,F,F,F,F,F,F,F,F,F,F,F] (aK HT_.out (by kernel_rfl)) ?_
        refine puS (i := 1) (N := some 38) #[T,T,F,F,F,F,F,F,F,F,F,F,F,F] (aK HT_.out (by kernel_rfl)) ?_
        refine puS (i := 2) (N := some 39) #[T,T,T,F,F,F,F,F,F,F,F,F,F,F] (aK HT_.out (by kernel_rfl)) ?_
        refine puS (i := 3) (N := some 40) #[T,T,T,T,F,F,F,F,F,F,F,F,F,F] (aK HT_.out (by kernel_rfl)) ?_
        refine puS (i := 4) (N := some 41) #[T,T,T,T,T,F,F,F,F,F,F,F,F,F] (aK HT_.out (by kernel_rfl)) ?_
        refine puS (i := 6) (N := some 43) #[T,T,T,T,T,F,T,F,F,F,F,F,F,F] (aK HT_.out (by kernel_rfl)) ?_
        refine puS (i := 7) (N := some 44) #[T,T,T,T,T,F,T,T,F,F,F,F,F,F] (aK HT_.out (by kernel_rfl)) ?_
        refine puS (i := 8) (N := some 45) #[T,T,T,T,T,F,T,T,T,F,F,F,F,F] (aK HT_.out (by kernel_rfl)) ?_
        refine taS (i := 5) (N := some 42) #[T,T,T,T,T,T,T,T,T,F,F,F,F,F] (eF HT_.out HW_.out (by kernel_rfl)) hHeld ?_
        refine taS (i := 9) (N := some 46) #[T,T,T,T,T,T,T,T,T,T,F,F,F,F] (eF HT_.out HW_.out (by kernel_rfl)) hHeld ?_
        refine puS (i := 10) (N := some 47) #[T,T,T,T,T,T,T,T,T,T,T,F,F,F] (aK HT_.out (by kernel_rfl)) ?_
        refine puS (i := 11) (N := some 48) #[T,T,T,T,T,T,T,T,T,T,T,T,F,F] (aK HT_.out (by kernel_rfl)) ?_
        refine puS (i := 12) (N := some 49) #[T,T,T,T,T,T,T,T,T,T,T,T,T,F] (aK HT_.out (by kernel_rfl)) ?_
        refine puS (i := 13) (N := some 8) #[T,T,T,T,T,T,T,T,T,T,T,T,T,T] (aK HT_.out (by kernel_rfl)) ?_
        refine iD (gG HT_.out (by kernel_rfl)) ?_
        try go_wp2
        go_roundg k2
        case measure => have := HJ4.out; have := HK2.out; omega
        case rel => exact ⟨(x8_2 ++ (a1.extract ((rd t325 x10_2) : Int).toNat ((wrap64 ((rd t325 x10_2) + 1)) : Int).toNat)), (wrap64 (x10_2 + 1)), EQ, EQ, H', ⟨by have := HJ4.out; have := HK2.out; omega⟩, ⟨(RR HO_9)⟩, ⟨BK⟩, ⟨BL⟩⟩
       ·rw [if_neg c29] at H
        exact absurd H (by simp)
      ·obtain rfl := Option.some.inj H
       go_wp2
       go_ret
       exact ⟨EWW, BL⟩
def fZ.l0 : Nat → List ByteArray → ByteArray → Int → Option (Bool)
 | 0, _, _, _ => none
 | k + 1, a, b, c => if c < (a.length : Int) then (if 0 ≤ c then (if (fA ByteArray.empty a c).toList = b.toList then (some true) else (fZ.l0 k a b (wrap64 (c + 1)))) else (none)) else (some false)
def fZ.f (k : Nat) (l0 : List ByteArray) (a1 : ByteArray) : Option (Bool) := fZ.l0 k l0 a1 0
theorem fZ.calls (k : Nat) (A0 : Option Addr) (c0 : Nat) (l0 : List ByteArray) (a1 : ByteArray) (r : Bool) (w : World) (hr0 : Kd.C Kd.string w A0 l0.length l0) (hc0 : l0.length ≤ c0) (h : fZ.f k l0 a1 = some r) :
  Calls Tryz.prog 51 #[.slice A0 l0.length c0, .string a1] w fun e w' => e = .returned (.bool r) ∧ cK w w' := by
 have HR0 := ah.mk hr0
 have HC0 := ah.mk hc0
 clear hr0 hc0
 have H : (fZ.l0 k l0 a1 0) = some r := h
 clear h
 have H' := ah.mk H
 clear H
 go_enter Tryz.func51, Tryz.ntmps51
 go_wp2
 go_loopg [5] k (fun kq v5 w' => ∃ (x5_1 : Int), v5 = .int .i64 x5_1 ∧ ah (fZ.l0 kq l0 a1 x5_1 = some r) ∧ ah (kq ≤ k) ∧ cK w w')
 case atStart => exact ⟨(0), EQ, H', ⟨Nat.le_refl _⟩, DR⟩
 case round =>
  clear H'
  obtain ⟨x5_1, rfl, HA, HK1, ⟨m1, rfl⟩⟩ := hrel
  cases gk with
  | zero => exact absurd HA.out (by simp [fZ.l0])
  | succ k1 =>
   have H := HA.out
   clear HA
   simp only [fZ.l0] at H
   replace H := ifD H; rcases H with ⟨c3b0, H⟩ | ⟨c3b0, H⟩
   ·replace H := ifN H; obtain ⟨c4b0, H⟩ := H
    have p330 : 0 ≤ (x5_1 : Int) := OD
    have q330 : x5_1 < (l0.length : Int) := OD
    obtain ⟨ad330, e330, hx330_0⟩ := Kd.jo HR0.out x5_1 p330 q330
    cases e330
    replace p330 := eq_true p330
    replace q330 := eq_true q330
    replace H := ifE H; rcases H with ⟨c5b0, c5b1, H⟩ | ⟨c5, c5b0, c5b1, H⟩
    ·obtain rfl := Option.some.inj H
     go_wp2
     go_ret
     exact ⟨EQ, DR⟩
    ·have H' := ah.mk H
     clear H
     go_wp2
     go_roundg k1
     case measure => have := HK1.out; omega
     case rel => exact ⟨(wrap64 (x5_1 + 1)), EQ, H', ⟨by have := HK1.out; omega⟩, DR⟩
   ·obtain rfl := Option.some.inj H
    go_wp2
    go_ret
    exact ⟨EQ, DR⟩
def fB.l0 : Nat → List (S84) → ByteArray → Int → Int → Option (Bool)
 | 0, _, _, _, _ => none
 | k + 1, a, b, c, d => if d < (a.length : Int) then (if 0 ≤ d then (if ((fQ a d).f0).toList = b.toList then (if ((fQ a d).f1) = c then (some true) else (fB.l0 k a b c (wrap64 (d + 1)))) else (fB.l0 k a b c (wrap64 (d + 1)))) else (none)) else (some false)
def fB.f (k : Nat) (l0 : List (S84)) (a1 : ByteArray) (a2 : Int) : Option (Bool) := fB.l0 k l0 a1 a2 0
theorem fB.calls (k : Nat) (A0 : Option Addr) (c0 : Nat) (l0 : List (S84)) (a1 : ByteArray) (a2 : Int) (r : Bool) (w : World) (hr0 : Kd.C k84 w A0 l0.length l0) (hc0 : l0.length ≤ c0) (h : fB.f k l0 a1 a2 = some r) :
  Calls Tryz.prog 103 #[.slice A0 l0.length c0, .string a1, .int .i64 a2] w fun e w' => e = .returned (.bool r) ∧ cK w w' := by
 have HR0 := ah.mk hr0
 have HC0 := ah.mk hc0
 clear hr0 hc0
 have H : (fB.l0 k l0 a1 a2 0) = some r := h
 clear h
 have H' := ah.mk H
 clear H
 go_enter Tryz.func103, Tryz.ntmps103
 go_wp2
 go_loopg [7] k (fun kq v7 w' => ∃ (x7_1 : Int), v7 = .int .i64 x7_1 ∧ ah (fB.l0 kq l0 a1 a2 x7_1 = some r) ∧ ah (kq ≤ k) ∧ cK w w')
 case atStart => exact ⟨(0), EQ, H', ⟨Nat.le_refl _⟩, DR⟩
 case round =>
  clear H'
  obtain ⟨x7_1, rfl, HA, HK1, ⟨m1, rfl⟩⟩ := hrel
  cases gk with
  | zero => exact absurd HA.out (by simp [fB.l0])
  | succ k1 =>
   have H := HA.out
   clear HA
   simp only [fB.l0] at H
   replace H := ifD H; rcases H with ⟨c4b0, H⟩ | ⟨c4b0, H⟩
   ·replace H := ifN H; obtain ⟨c5b0, H⟩ := H
    have p331 : 0 ≤ (x7_1 : Int) := OD
    have q331 : x7_1 < (l0.length : Int) := OD
    obtain ⟨ad331, e331, hx331_0, hx331_1⟩ := wD HR0.out x7_1 p331 q331
    cases e331
    replace p331 := eq_true p331
    replace q331 := eq_true q331
    replace H := ifE H; rcases H with ⟨c6b0, c6b1, H⟩ | ⟨c6, c6b0, c6b1, H⟩
    ·have p332 : 0 ≤ (x7_1 : Int) := OD
     have q332 : x7_1 < (l0.length : Int) := OD
     obtain ⟨ad332, e332, hx332_0, hx332_1⟩ := wD HR0.out x7_1 p332 q332
     obtain rfl : ad331 = ad332 := (by injection e332)
     replace p332 := eq_true p332
     replace q332 := eq_true q332
     replace H := ifE H; rcases H with ⟨c7b0, c7b1, H⟩ | ⟨c7, c7b0, c7b1, H⟩
     ·obtain rfl := Option.some.inj H
      go_wp2
      go_ret
      exact ⟨EQ, DR⟩
     ·have H' := ah.mk H
      clear H
      go_wp2
      go_roundg k1
      case measure => have := HK1.out; omega
      case rel => exact ⟨(wrap64 (x7_1 + 1)), EQ, H', ⟨by have := HK1.out; omega⟩, DR⟩
    ·have H' := ah.mk H
     clear H
     go_wp2
     go_roundg k1
     case measure => have := HK1.out; omega
     case rel => exact ⟨(wrap64 (x7_1 + 1)), EQ, H', ⟨by have := HK1.out; omega⟩, DR⟩
   ·obtain rfl := Option.some.inj H
    go_wp2
    go_ret
    exact ⟨EQ, DR⟩
mutual
def bf.l0 : Nat → ByteArray → ByteArray → Int → Option (ByteArray)
 | 0, _, _, _ => none
 | k + 1, a, b, c => if c ≤ 122 then ((bC.f k a).bind fun d => (bf.j1 k a b c d)) else (bf.j1 k a b c false)
def bf.j1 : Nat → ByteArray → ByteArray → Int → Bool → Option (ByteArray)
 | 0, _, _, _, _ => none
 | k + 1, a, b, c, d => if d = true then (bf.l1 k a b c 0) else (some b)
def bf.l1 : Nat → ByteArray → ByteArray → Int → Int → Option (ByteArray)
 | 0, _, _, _, _ => none
 | k + 1, a, b, c, d => if d < (a.size : Int) then (if 0 ≤ d then (if (wrap32 (bt a d)) = c then (if d ≤ (wrap64 (d + 1)) then (if (wrap64 (d + 1)) ≤ (a.size : Int) then (if b.size + (a.extract (d : Int).toNat ((wrap64 (d + 1)) : Int).toNat).size ≤ 9223372036854775807 then (bf.l1 k a (b ++ (a.extract (d : Int).toNat ((wrap64 (d + 1)) : Int).toNat)) c (wrap64 (d + 1))) else (none)) else (none)) else (none)) else (bf.l1 k a b c (wrap64 (d + 1)))) else (none)) else (bf.l0 k a b (wrap32 (c + 1)))
end
def bf.f (k : Nat) (a0 : ByteArray) : Option (ByteArray) := bf.l0 k a0 (⟨#[]⟩ : ByteArray) 97
theorem bf.calls (k : Nat) (a0 r : ByteArray) (w : World) (h : bf.f k a0 = some r) :
  Calls Tryz.prog 214 #[.string a0] w fun e w' => e = .returned (.string r) ∧ cK w w' := by
 unfold bf.f at h
 have H := h
 clear h
 have H' := ah.mk H
 clear H
 go_enter Tryz.func214, Tryz.ntmps214
 go_wp2
 go_loopg [3, 4] k (fun kq v3 v4 w' => ∃ (x3_1 : ByteArray) (x4_1 : Int), v3 = .string x3_1 ∧ v4 = .int .i32 x4_1 ∧ ah (bf.l0 kq a0 x3_1 x4_1 = some r) ∧ ah (kq ≤ k) ∧ cK w w')
 case atStart => exact ⟨((⟨#[]⟩ : ByteArray)), (97), EQ, EQ, H', ⟨Nat.le_refl _⟩, DR⟩
 case round =>
  clear H'
  obtain ⟨x3_1, x4_1, rfl, rfl, HA, HK1, ⟨m1, rfl⟩⟩ := hrel
  cases gk with
  | zero => exact absurd HA.out (by simp [bf.l0])
  | succ k1 =>
   have H := HA.out
   clear HA
   simp only [bf.l0] at H
   have HC2 := ah.mk H
   clear H
   go_upto_region 3 with (fail)
   go_cut [11] (fun v11 wc => ∃ (kq : Nat) (x11_1 : Bool), v11 = .bool x11_1 ∧ ah (bf.j1 kq a0 x3_1 x4_1 x11_1 = some r) ∧ ah (kq ≤ k1) ∧ cK w wc)
   case first =>
    have H := HC2.out
    clear HC2
    replace H := ifD H; rcases H with ⟨c3b0, H⟩ | ⟨c3b0, H⟩
    ·(first | rw [c3b0] | (simp only [iC, jg]; rw [c3b0]) | skip)
     replace H := be H; obtain ⟨t333, A4, H⟩ := H
     have H' := ah.mk H
     clear H
     go_wp2_with (first | (go_at_call 140; (with_reducible refine (bC.calls k1 a0 t333 _ A4.out).mono ?_); rintro e w' ⟨rfl, ⟨nd, rfl⟩⟩))
     go_meet
     case rel => exact ⟨_, (t333), EQ, H', ⟨by have := HK1.out; first | omega | exact Nat.le_refl _⟩, DR⟩
    ·(first | rw [c3b0] | (simp only [iC, jg]; rw [c3b0]) | skip)
     have H' := ah.mk H
     clear H
     go_wp2
     go_meet
     case rel => exact ⟨_, (false), EQ, H', ⟨by have := HK1.out; first | omega | exact Nat.le_refl _⟩, DR⟩
   case rest =>
    clear HC2
    obtain ⟨kq, x11_1, rfl, HA, HJ1, ⟨mc1, rfl⟩⟩ := hcut
    cases kq with
    | zero => exact absurd HA.out (by simp [bf.j1])
    | succ kj1 =>
     have H := HA.out
     clear HA
     simp only [bf.j1] at H
     replace H := ifB H; rcases H with ⟨rfl, H⟩ | ⟨rfl, H⟩
     ·have H' := ah.mk H
      clear H
      go_wp2
      go_loopg [3, 5] kj1 (fun kq v3 v5 w' => ∃ (x3_3 : ByteArray) (x5_3 : Int), v3 = .string x3_3 ∧ v5 = .int .i64 x5_3 ∧ ah (bf.l1 kq a0 x3_3 x4_1 x5_3 = some r) ∧ ah (kq ≤ kj1) ∧ cK w w')
      case atStart => exact ⟨(x3_1), (0), EQ, EQ, H', ⟨Nat.le_refl _⟩, DR⟩
      case round =>
       clear H'
       try clear c5
       obtain ⟨x3_3, x5_3, rfl, rfl, HA, HK3, ⟨m3, rfl⟩⟩ := hrel
       cases gk with
       | zero => exact absurd HA.out (by simp [bf.l1])
       | succ k3 =>
        have H := HA.out
        clear HA
        simp only [bf.l1] at H
        replace H := ifD H; rcases H with ⟨c6b0, H⟩ | ⟨c6b0, H⟩
        ·replace H := ifN H; obtain ⟨c7b0, H⟩ := H
         have p8 : (0 ≤ (x5_3 : Int)) = True := OT
         have q8 : (x5_3 < (a0.size : Int)) = True := OT
         have hx8 := fO a0 x5_3
         replace H := ifE H; rcases H with ⟨c9b0, c9b1, H⟩ | ⟨c9, c9b0, c9b1, H⟩
         ·have c10b0 := eq_true (OD : 0 ≤ x5_3)
          replace H := ifP H; obtain ⟨c11, H⟩ := H
          have c11b0 := eq_true c11
          have c11b1 : decide (x5_3 ≤ (wrap64 (x5_3 + 1))) = true := decide_eq_true c11
          replace H := ifP H; obtain ⟨c12, H⟩ := H
          have c12b0 := eq_true c12
          have c12b1 : decide ((wrap64 (x5_3 + 1)) ≤ (a0.size : Int)) = true := decide_eq_true c12
          replace H := ifP H; obtain ⟨c13, H⟩ := H
          have c13b0 := eq_true c13
          have c13b1 : decide (x3_3.size + (a0.extract (x5_3 : Int).toNat ((wrap64 (x5_3 + 1)) : Int).toNat).size ≤ 9223372036854775807) = true := decide_eq_true c13
          try have c13b2 : (9223372036854775807 < x3_3.size + (a0.extract (x5_3 : Int).toNat ((wrap64 (x5_3 + 1)) : Int).toNat).size) = False := eq_false (Nat.not_lt.2 c13)
          have H' := ah.mk H
          clear H
          go_wp2
          go_roundg k3
          case measure => have := HK1.out; have := HJ1.out; have := HK3.out; omega
          case rel => exact ⟨(x3_3 ++ (a0.extract (x5_3 : Int).toNat ((wrap64 (x5_3 + 1)) : Int).toNat)), (wrap64 (x5_3 + 1)), EQ, EQ, H', ⟨by have := HK1.out; have := HJ1.out; have := HK3.out; omega⟩, DR⟩
         ·have H' := ah.mk H
          clear H
          go_wp2
          go_roundg k3
          case measure => have := HK1.out; have := HJ1.out; have := HK3.out; omega
          case rel => exact ⟨(x3_3), (wrap64 (x5_3 + 1)), EQ, EQ, H', ⟨by have := HK1.out; have := HJ1.out; have := HK3.out; omega⟩, DR⟩
        ·have H' := ah.mk H
         clear H
         go_wp2
         go_roundg k3
         case measure => have := HK1.out; have := HJ1.out; have := HK3.out; omega
         case rel => exact ⟨(x3_3), (wrap32 (x4_1 + 1)), EQ, EQ, H', ⟨by have := HK1.out; have := HJ1.out; have := HK3.out; omega⟩, DR⟩
     ·obtain rfl := Option.some.inj H
      go_wp2
      go_ret
      exact ⟨EQ, DR⟩
def iw.f (k : Nat) (a0 a1 : ByteArray) : Option (Bool) := (bC.f k a0).bind fun t334 => (if t334 = true then ((bC.f k a1).bind fun t335 => (if t335 = true then (if a0.toList = a1.toList then (some false) else ((bf.f k a0).bind fun t336 => ((bf.f k a1).bind fun t337 => (some (t336.toList == t337.toList))))) else (some false))) else (some false))
theorem iw.calls (k : Nat) (a0 a1 : ByteArray) (r : Bool) (w : World) (h : iw.f k a0 a1 = some r) :
  Calls Tryz.prog 193 #[.string a0, .string a1] w fun e w' => e = .returned (.bool r) ∧ cK w w' := by
 unfold iw.f at h
 have H := h
 clear h
 replace H := be H; obtain ⟨t334, A3, H⟩ := H
 replace H := ah.mk H
 go_enter Tryz.func193, Tryz.ntmps193
 go_wp2_with (first | ((with_reducible refine ay (f := 140) rfl ?_); refine bE (some 6) Tryz.func140 #[.string a0] ?_; (with_reducible refine (bC.calls k a0 _ _ A3.out).mono ?_); rintro e w' ⟨rfl, ⟨nd, rfl⟩⟩; refine ⟨_, rfl, ?_⟩; refine bU ?_))
 refine Hide.mk ?_
 replace H := H.out
 replace H := ifB H; rcases H with ⟨rfl, H⟩ | ⟨rfl, H⟩
 ·replace H := be H; obtain ⟨t335, A5, H⟩ := H
  replace H := ah.mk H
  go_wp2_with (first | (go_at_call 140; (with_reducible refine (bC.calls k a1 _ _ A5.out).mono ?_); rintro e w' ⟨rfl, ⟨nd, rfl⟩⟩; refine bU ?_))
  refine Hide.mk ?_
  replace H := H.out
  replace H := ifB H; rcases H with ⟨rfl, H⟩ | ⟨rfl, H⟩
  ·replace H := ifE H; rcases H with ⟨c7b0, c7b1, H⟩ | ⟨c7, c7b0, c7b1, H⟩
   ·obtain rfl := Option.some.inj H
    try go_wp2
    go_ret
    exact ⟨EQ, DR⟩
   ·replace H := be H; obtain ⟨t336, A8, H⟩ := H
    replace H := be H; obtain ⟨t337, A9, H⟩ := H
    obtain rfl := Option.some.inj H
    try go_wp2_with (first | (go_at_call 214; (with_reducible refine (bf.calls k a0 t336 _ A8.out).mono ?_); rintro e w' ⟨rfl, ⟨nd, rfl⟩⟩) | (go_at_call 214; (with_reducible refine (bf.calls k a1 t337 _ A9.out).mono ?_); rintro e w' ⟨rfl, ⟨nd, rfl⟩⟩))
    go_ret
    exact ⟨EQ, DR⟩
  ·obtain rfl := Option.some.inj H
   try go_wp2
   go_ret
   exact ⟨EQ, DR⟩
 ·obtain rfl := Option.some.inj H
  try go_wp2
  go_ret
  exact ⟨EQ, DR⟩
def bY.l0 (M : Nat → List (dB) → Int → ByteArray → Option Bool) : Nat → List (dB) → ByteArray → Int → Int → ByteArray → Int → Int → Option (Bool)
 | 0, _, _, _, _, _, _, _ => none
 | k + 1, a, b, c, d, e, f, g => if c < (b.size : Int) then (if 0 ≤ c then (if c ≤ (b.size : Int) then ((M k a f (b.extract 0 (c : Int).toNat)).bind fun h => (if h = true then ((M k a g (b.extract (c : Int).toNat b.size)).bind fun i => (if i = true then (some true) else (bY.l0 M k a b (wrap64 (c + 1)) d e f g))) else (bY.l0 M k a b (wrap64 (c + 1)) d e f g))) else (none)) else (none)) else (some false)
def bY.f (M : Nat → List (dB) → Int → ByteArray → Option Bool) (k : Nat) (l0 : List (dB)) (FY : Int) (FZ : ByteArray) (F3 a1_3 : Int) (a2 : ByteArray) : Option (Bool) := bY.l0 M k l0 a2 1 FY FZ F3 a1_3
def bY.T4 : Bool × List (List Nat × List Nat) := (true, [([], []), ([], []), ([1], [1]), ([], []), ([], []), ([3, 4], [3, 4]), ([0, 2, 5], [0, 2, 5]), ([6, 6], [6]), ([7], [7]), ([7], [7]), ([9, 7], [7, 9]), ([7], [7]), ([7], [7]), ([11, 12, 7], [7, 11, 12]), ([8, 10, 13, 7, 7], [7, 8, 10, 13]), ([7, 14], [7, 14])])
def bY.B4 : List Nat := [0, 0, 2, 0, 0, 24, 63, 127, 255, 255, 767, 255, 255, 6399, 16383, 32767]
theorem bY.FT : kG .any (opsOf Tryz.f194 4) = bY.T4 := by kernel_rfl
theorem bY.E5 : iW bY.T4.2 bY.B4 = true := by kernel_rfl
theorem bY.calls (M : Nat → List (dB) → Int → ByteArray → Option Bool) (hM : ∀ (j : Nat) (A : Option Addr) (c : Nat) (l : List (dB)) (i : Int) (s : ByteArray) (b : Bool) (W : World), Kd.C jw W A l.length l → l.length ≤ c → M j l i s = some b → Calls Tryz.prog 159 #[.slice A l.length c, .int .i64 i, .string s] W fun e w' => e = .returned (.bool b) ∧ Below W.heap.size W w') (k : Nat) (A0 : Option Addr) (c0 : Nat) (l0 : List (dB)) (FY : Int) (FZ : ByteArray) (F3 a1_3 : Int) (a2 : ByteArray) (r : Bool) (w : World) (hr0 : Kd.C jw w A0 l0.length l0) (hc0 : l0.length ≤ c0) (h : bY.f M k l0 FY FZ F3 a1_3 a2 = some r) :
  Calls Tryz.prog 194 #[.slice A0 l0.length c0, .agg #[.int .i64 FY, .string FZ, .int .i64 F3, .int .i64 a1_3], .string a2] w fun e w' => e = .returned (.bool r) ∧ Below w.heap.size w w' := by
 have hu141 := Tryz.underlying141
 have HR0 := ah.mk hr0
 have HC0 := ah.mk hc0
 clear hr0 hc0
 have HB := ah.mk (Below.refl w.heap.size w)
 have HMM := ah.mk hM
 clear hM
 unfold bY.f at h
 have H := h
 clear h
 have H' := ah.mk H
 clear H
 go_enter Tryz.func194, Tryz.ntmps194
 go_wp2_with (first | ((with_reducible refine aJ (N := 4) rfl ?_); refine bg (N := 4) (cs := #[.int .i64 FY, .string FZ, .int .i64 F3, .int .i64 a1_3]) (t := 141) ?_; intro gb338 hg w4 hbox hb; have BK338 := ah.mk hbox; have GW338 := SZ (w := w) hg; have GE338 := GW338; replace HB := BS (w := w) hb; clear hb hbox hg))
 go_loopg [7] k (fun kq v7 w' => ∃ (x7_1 : Int), v7 = .int .i64 x7_1 ∧ ah (bY.l0 M kq l0 a2 x7_1 FY FZ F3 a1_3 = some r) ∧ ah (kq ≤ k) ∧ ah (w'.heap[gb338]? = some (.cells #[.int .i64 FY, .string FZ, .int .i64 F3, .int .i64 a1_3] 141 (0, 0))) ∧ ah (Below w.heap.size w w'))
 case atStart => exact ⟨(1), EQ, H', ⟨Nat.le_refl _⟩, ⟨BK⟩, ⟨BL⟩⟩
 case round =>
  clear H'
  obtain ⟨x7_1, rfl, HA, HK1, BK338, HB⟩ := hrel
  cases gk with
  | zero => exact absurd HA.out (by simp [bY.l0])
  | succ k1 =>
   have H := HA.out
   clear HA
   simp only [bY.l0] at H
   replace H := ifD H; rcases H with ⟨c5b0, H⟩ | ⟨c5b0, H⟩
   ·replace H := ifP H; obtain ⟨c6, H⟩ := H
    have c6b0 := eq_true c6
    have c6b1 : decide (0 ≤ x7_1) = true := decide_eq_true c6
    clear c6
    replace H := ifP H; obtain ⟨c7, H⟩ := H
    have c7b0 := eq_true c7
    have c7b1 : decide (x7_1 ≤ (a2.size : Int)) = true := decide_eq_true c7
    clear c7
    replace H := be H; obtain ⟨t339, A8, H⟩ := H
    replace H := ah.mk H
    try go_wp2
    replace BK338 := ah.mk (aH BK338.out)
    replace HB := ah.mk (dH HB.out)
    refine ji (n := 16) (S := fun w' => w'.cell? ⟨gb338, 0, none⟩ = some (.int .i64 FY) ∧ w'.cell? ⟨gb338, 1, none⟩ = some (.string FZ) ∧ w'.cell? ⟨gb338, 2, none⟩ = some (.int .i64 F3) ∧ w'.cell? ⟨gb338, 3, none⟩ = some (.int .i64 a1_3)) (ds := []) #[F,F,F,F,F,F,F,F,F,F,F,F,F,F,F,F] (by kernel_rfl) rfl rfl ⟨(ak BK338.out 0).trans rfl, (ak BK338.out 1).trans rfl, (ak BK338.out 2).trans rfl, (ak BK338.out 3).trans rfl⟩ (fun hHeld => ?_); refine iI bY.FT bY.E5 (fun HT_ HW_ => ?_)
    generalize wr.drew = w7000 at BK338 HB hHeld ⊢
    refine puS (i := 0) (N := some 14) #[T,F,F,F,F,F,F,F,F,F,F,F,F,F,F,F] (aK HT_.out (by kernel_rfl)) ?_
    refine puS (i := 1) (N := some 15) #[T,T,F,F,F,F,F,F,F,F,F,F,F,F,F,F] (aK HT_.out (by kernel_rfl)) ?_
    refine puS (i := 3) (N := some 17) #[T,T,F,T,F,F,F,F,F,F,F,F,F,F,F,F] (aK HT_.out (by kernel_rfl)) ?_
    refine puS (i := 4) (N := some 18) #[T,T,F,T,T,F,F,F,F,F,F,F,F,F,F,F] (aK HT_.out (by kernel_rfl)) ?_
    refine puS (i := 5) (N := some 19) #[T,T,F,T,T,T,F,F,F,F,F,F,F,F,F,F] (aK HT_.out (by kernel_rfl)) ?_
    refine taS (i := 2) (N := some 16) #[T,T,T,T,T,T,F,F,F,F,F,F,F,F,F,F] (eF HT_.out HW_.out (by kernel_rfl)) hHeld ?_
    refine kW (i := 6) (N := some 20) #[T,T,T,T,T,T,T,F,F,F,F,F,F,F,F,F] rfl rfl (jf HT_.out (by kernel_rfl)) (by decide) (fun K hK => ?_)
    refine iZ Tryz.func159 #[.slice A0 l0.length c0, .int .i64 F3, .string (a2.extract 0 (x7_1 : Int).toNat)] ?_
    replace H := H.out
    replace H := ifB H; rcases H with ⟨rfl, H⟩ | ⟨rfl, H⟩
    ·have c10b0 := eq_true (OD : 0 ≤ x7_1)
     have c11b0 := eq_true (OD : x7_1 ≤ (a2.size : Int))
     replace H := be H; obtain ⟨t340, A12, H⟩ := H
     replace H := ah.mk H
     with_reducible refine (HMM.out k1 _ _ l0 F3 (a2.extract 0 (x7_1 : Int).toNat) true _ ?side1 ?side2 A8.out).mono ?_
     (case side1 => exact CB HR0)
     (case side2 => exact HC0.out)
     rintro e w7001 ⟨rfl, hb⟩
     refine ⟨_, rfl, ?_⟩
     replace BK338 := KB BK338 hb
     replace HB := BS (w := w) hb
     (try clear hb)
     refine hK.out _ _ ⟨(ak BK338.out 0).trans rfl, (ak BK338.out 1).trans rfl, (ak BK338.out 2).trans rfl, (ak BK338.out 3).trans rfl⟩ (fun hHeld => ?_)
     clear hK K
     refine nrm (some 20) ?_
     refine puS (i := 7) (N := some 21) #[T,T,T,T,T,T,T,T,F,F,F,F,F,F,F,F] (aK HT_.out (by kernel_rfl)) ?_
     refine puS (i := 8) (N := some 22) #[T,T,T,T,T,T,T,T,T,F,F,F,F,F,F,F] (aK HT_.out (by kernel_rfl)) ?_
     refine puS (i := 9) (N := some 23) #[T,T,T,T,T,T,T,T,T,T,F,F,F,F,F,F] (aK HT_.out (by kernel_rfl)) ?_
     refine puS (i := 11) (N := some 25) #[T,T,T,T,T,T,T,T,T,T,F,T,F,F,F,F] (aK HT_.out (by kernel_rfl)) ?_
     refine puS (i := 12) (N := some 26) #[T,T,T,T,T,T,T,T,T,T,F,T,T,F,F,F] (aK HT_.out (by kernel_rfl)) ?_
     refine puS (i := 13) (N := some 27) #[T,T,T,T,T,T,T,T,T,T,F,T,T,T,F,F] (aK HT_.out (by kernel_rfl)) ?_
     refine taS (i := 10) (N := some 24) #[T,T,T,T,T,T,T,T,T,T,T,T,T,T,F,F] (eF HT_.out HW_.out (by kernel_rfl)) hHeld ?_
     refine kW (i := 14) (N := some 28) #[T,T,T,T,T,T,T,T,T,T,T,T,T,T,T,F] rfl rfl (jf HT_.out (by kernel_rfl)) (by decide) (fun K hK => ?_)
     refine iZ Tryz.func159 #[.slice A0 l0.length c0, .int .i64 a1_3, .string (a2.extract (x7_1 : Int).toNat a2.size)] ?_
     replace H := H.out
     replace H := ifB H; rcases H with ⟨rfl, H⟩ | ⟨rfl, H⟩
     ·obtain rfl := Option.some.inj H
      with_reducible refine (HMM.out k1 _ _ l0 a1_3 (a2.extract (x7_1 : Int).toNat a2.size) true _ ?side1 ?side2 A12.out).mono ?_
      (case side1 => exact CB HR0)
      (case side2 => exact HC0.out)
      rintro e w7002 ⟨rfl, hb⟩
      refine ⟨_, rfl, ?_⟩
      replace BK338 := KB BK338 hb
      replace HB := BS (w := w) hb
      (try clear hb)
      refine hK.out _ _ ⟨(ak BK338.out 0).trans rfl, (ak BK338.out 1).trans rfl, (ak BK338.out 2).trans rfl, (ak BK338.out 3).trans rfl⟩ (fun hHeld => ?_)
      clear hK K
      refine nrm (some 28) ?_
      refine puS (i := 15) (N := some 29) #[T,T,T,T,T,T,T,T,T,T,T,T,T,T,T,T] (aK HT_.out (by kernel_rfl)) ?_
      refine iD (gG HT_.out (by kernel_rfl)) ?_
      try go_wp2
      go_ret
      exact ⟨EWW, BL⟩
     ·have H' := ah.mk H
      clear H
      with_reducible refine (HMM.out k1 _ _ l0 a1_3 (a2.extract (x7_1 : Int).toNat a2.size) false _ ?side1 ?side2 A12.out).mono ?_
      (case side1 => exact CB HR0)
      (case side2 => exact HC0.out)
      rintro e w7002 ⟨rfl, hb⟩
      refine ⟨_, rfl, ?_⟩
      replace BK338 := KB BK338 hb
      replace HB := BS (w := w) hb
      (try clear hb)
      refine hK.out _ _ ⟨(ak BK338.out 0).trans rfl, (ak BK338.out 1).trans rfl, (ak BK338.out 2).trans rfl, (ak BK338.out 3).trans rfl⟩ (fun hHeld => ?_)
      clear hK K
      refine nrm (some 28) ?_
      refine puS (i := 15) (N := some 29) #[T,T,T,T,T,T,T,T,T,T,T,T,T,T,T,T] (aK HT_.out (by kernel_rfl)) ?_
      refine iD (gG HT_.out (by kernel_rfl)) ?_
      try go_wp2
      go_roundg k1
      case measure => have := HK1.out; omega
      case rel => exact ⟨(wrap64 (x7_1 + 1)), EQ, H', ⟨by have := HK1.out; omega⟩, ⟨BK⟩, ⟨BL⟩⟩
    ·have H' := ah.mk H
     clear H
     with_reducible refine (HMM.out k1 _ _ l0 F3 (a2.extract 0 (x7_1 : Int).toNat) false _ ?side1 ?side2 A8.out).mono ?_
     (case side1 => exact CB HR0)
     (case side2 => exact HC0.out)
     rintro e w7001 ⟨rfl, hb⟩
     refine ⟨_, rfl, ?_⟩
     replace BK338 := KB BK338 hb
     replace HB := BS (w := w) hb
     (try clear hb)
     refine hK.out _ _ ⟨(ak BK338.out 0).trans rfl, (ak BK338.out 1).trans rfl, (ak BK338.out 2).trans rfl, (ak BK338.out 3).trans rfl⟩ (fun hHeld => ?_)
     clear hK K
     refine nrm (some 20) ?_
     refine puS (i := 7) (N := some 21) #[T,T,T,T,T,T,T,T,F,F,F,F,F,F,F,F] (aK HT_.out (by kernel_rfl)) ?_
     refine puU (i := 8) (N := some 22) #[T,T,T,T,T,T,T,T,T,F,F,F,F,F,F,F] (aK HT_.out (by kernel_rfl)) ?_
     refine puU (i := 9) (N := some 23) #[T,T,T,T,T,T,T,T,T,T,F,F,F,F,F,F] (aK HT_.out (by kernel_rfl)) ?_
     refine puU (i := 10) (N := some 24) #[T,T,T,T,T,T,T,T,T,T,T,F,F,F,F,F] (aK HT_.out (by kernel_rfl)) ?_
     refine puU (i := 11) (N := some 25) #[T,T,T,T,T,T,T,T,T,T,T,T,F,F,F,F] (aK HT_.out (by kernel_rfl)) ?_
     refine puU (i := 12) (N := some 26) #[T,T,T,T,T,T,T,T,T,T,T,T,T,F,F,F] (aK HT_.out (by kernel_rfl)) ?_
     refine puU (i := 13) (N := some 27) #[T,T,T,T,T,T,T,T,T,T,T,T,T,T,F,F] (aK HT_.out (by kernel_rfl)) ?_
     refine puU (i := 14) (N := some 28) #[T,T,T,T,T,T,T,T,T,T,T,T,T,T,T,F] (aK HT_.out (by kernel_rfl)) ?_
     refine puS (i := 15) (N := some 29) #[T,T,T,T,T,T,T,T,T,T,T,T,T,T,T,T] (aK HT_.out (by kernel_rfl)) ?_
     refine iD (gG HT_.out (by kernel_rfl)) ?_
     try go_wp2
     go_roundg k1
     case measure => have := HK1.out; omega
     case rel => exact ⟨(wrap64 (x7_1 + 1)), EQ, H', ⟨by have := HK1.out; omega⟩, ⟨BK⟩, ⟨BL⟩⟩
   ·obtain rfl := Option.some.inj H
    go_wp2
    go_ret
    exact ⟨EWW, BL⟩
end Go.Proofs.YtnfiedfaaaphoaaGreat.PFnExactOneRound
