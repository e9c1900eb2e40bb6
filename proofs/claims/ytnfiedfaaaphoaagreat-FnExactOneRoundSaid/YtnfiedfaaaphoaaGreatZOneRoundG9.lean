/- Walks of functions: what each computes. -/
import Derived.Test.YtnfiedfaaaphoaaGreatZOneRoundG0
import Derived.Test.YtnfiedfaaaphoaaGreatZOneRoundG4
import Derived.Test.YtnfiedfaaaphoaaGreatZOneRoundG8
import Derived.Test.YtnfiedfaaaphoaaGreatZOneRoundW
import Derived.Test.YtnfiedfaaaphoaaGreatZOneRoundShelf
import Derived.Test.YtnfiedfaaaphoaaGreatZOneRoundHandSort
import Derived.Test.YtnfiedfaaaphoaaGreatZOneRoundHandForm
import Derived.Test.YtnfiedfaaaphoaaGreatZOneRoundHandAlone
import Derived.Test.YtnfiedfaaaphoaaGreatZOneRoundHandReach
import Derived.Test.YtnfiedfaaaphoaaGreatZOneRoundHandPut
namespace Go.Proofs.YtnfiedfaaaphoaaGreat.PFnExactOneRound
open Go.RowKit Go.Proofs.YtnfiedfaaaphoaaGreatW.PrintWords Go.Proofs.YtnfiedfaaaphoaaGreatW.PrintLast Go.Proofs.YtnfiedfaaaphoaaGreatW.PrintMore Go.Proofs.YtnfiedfaaaphoaaGreat.Sq
attribute [local go_sem] lK lG ng mY kD kE lJ lF
set_option maxHeartbeats 8000000
set_option maxRecDepth 100000
set_option linter.unusedVariables false
set_option linter.unusedSimpArgs false
def kS.f (k : Nat) (FV : Int) (F7 : List (dB)) (FY : Int) (l1_1 : List (dB)) : Option (Bool) := if FV = FY then ((dI.f k F7 l1_1).bind fun t664 => (if t664 = true then (some true) else (some false))) else (some false)
theorem kS.calls (k : Nat) (FV : Int) (A0_1 : Option Addr) (c0_1 : Nat) (F7 : List (dB)) (FY : Int) (A1_1 : Option Addr) (c1_1 : Nat) (l1_1 : List (dB)) (r : Bool) (w : World) (hr0_1 : Kd.C jw w A0_1 F7.length F7) (hc0_1 : F7.length ≤ c0_1) (hr1_1 : Kd.C jw w A1_1 l1_1.length l1_1) (hc1_1 : l1_1.length ≤ c1_1) (h : kS.f k FV F7 FY l1_1 = some r) :
  Calls Tryz.prog 61 #[.agg #[.int .i64 FV, .slice A0_1 F7.length c0_1], .agg #[.int .i64 FY, .slice A1_1 l1_1.length c1_1]] w fun e w' => e = .returned (.bool r) ∧ Below w.heap.size w w' := by
 have hu82 := Tryz.underlying82
 have HR0_1 := ah.mk hr0_1
 have HC0_1 := ah.mk hc0_1
 clear hr0_1 hc0_1
 have HR1_1 := ah.mk hr1_1
 have HC1_1 := ah.mk hc1_1
 clear hr1_1 hc1_1
 have HB := ah.mk (Below.refl w.heap.size w)
 unfold kS.f at h
 have H := h
 clear h
 replace H := ah.mk H
 go_enter Tryz.func61, Tryz.ntmps61
 go_wp2_with (first | ((with_reducible refine aJ (N := 2) rfl ?_); refine bg (N := 2) (cs := #[.int .i64 FV, .slice A0_1 F7.length c0_1]) (t := 82) ?_; intro gb662 hg w9000 hbox hb; have BK662 := ah.mk hbox; have GW662 := SZ (w := w) hg; have GE662 := GW662; replace HB := BS (w := w) hb; clear hb hbox hg) | ((with_reducible refine aJ (N := 3) rfl ?_); refine bg (N := 3) (cs := #[.int .i64 FY, .slice A1_1 l1_1.length c1_1]) (t := 82) ?_; intro gb663 hg w9001 hbox hb; have n0_ := KB BK662 hb; have n1_ := BS (w := w) hb; have n2_ := ah.mk (hbox); have n3_ := SZ (w := w) hg; have n4_ := SZ (w := w) hg; have n5_ := NL BK662 hg; have n6_ := NG BK662 hg; clear BK662 HB; have BK662 := n0_; have HB := n1_; have BK663 := n2_; have GW663 := n3_; have GE663 := n4_; have NB662_663 := n5_; have NB663_662 := n6_; clear n0_ n1_ n2_ n3_ n4_ n5_ n6_; clear hb hbox hg; have hnb9002 := NB662_663.out; have hnc9002 := NB663_662.out; obtain ⟨hcz9003_0, hcz9003_1, hfz9003_0, hfz9003_1⟩ := cz2 BK662.out; obtain ⟨hcz9004_0, hcz9004_1, hfz9004_0, hfz9004_1⟩ := cz2 BK663.out; refine bU ?_))
 refine Hide.mk ?_
 replace H := H.out
 replace H := ifE H; rcases H with ⟨c3b0, c3b1, H⟩ | ⟨c3, c3b0, c3b1, H⟩
 ·replace H := be H; obtain ⟨t664, A4, H⟩ := H
  replace H := ah.mk H
  go_wp2_with (first | ((with_reducible refine ay (f := 124) rfl ?_); refine bE (some 14) Tryz.func124 #[.slice A0_1 F7.length c0_1, .slice A1_1 l1_1.length c1_1] ?_; (with_reducible refine (dI.calls k _ _ F7 _ _ l1_1 _ _ ?side1 ?side2 ?side3 ?side4 A4.out).mono ?_); (case side1 => exact CB HR0_1); (case side2 => exact HC0_1.out); (case side3 => exact CB HR1_1); (case side4 => exact HC1_1.out); rintro e w9005 ⟨rfl, hb⟩; refine ⟨_, rfl, ?_⟩; replace BK662 := KB BK662 hb; replace BK663 := KB BK663 hb; replace HB := BS (w := w) hb; (try clear hb); refine bU ?_))
  refine Hide.mk ?_
  replace H := H.out
  replace H := ifB H; rcases H with ⟨rfl, H⟩ | ⟨rfl, H⟩
  ·obtain rfl := Option.some.inj H
   try go_wp2
   go_ret
   exact ⟨EWW, BL⟩
  ·obtain rfl := Option.some.inj H
   try go_wp2
   go_ret
   exact ⟨EWW, BL⟩
 ·obtain rfl := Option.some.inj H
  try go_wp2
  go_ret
  exact ⟨EWW, BL⟩
def dK.l0 : Nat → List (S82) → List (S82) → Int → Option (Bool)
 | 0, _, _, _ => none
 | k + 1, a, b, c => if c < (a.length : Int) then (if 0 ≤ c then (if c < (b.length : Int) then ((kS.f k ((fG a c).f0) ((fG a c).f1) ((fG b c).f0) ((fG b c).f1)).bind fun d => (if d = true then (dK.l0 k a b (wrap64 (c + 1))) else (some false))) else (none)) else (none)) else (some true)
def dK.f (k : Nat) (l0 l1 : List (S82)) : Option (Bool) := if (l0.length : Int) = (l1.length : Int) then (dK.l0 k l0 l1 0) else (some false)
def dK.T6 : Bool × List (List Nat × List Nat) := (true, [([], []), ([], []), ([0, 1], [0, 1]), ([2], [2]), ([], []), ([], []), ([4, 5], [4, 5]), ([6], [6]), ([3, 7], [3, 7]), ([8], [8])])
def dK.B6 : List Nat := [0, 0, 3, 7, 0, 0, 48, 112, 255, 511]
theorem dK.Ap : kG .any (opsOf Tryz.f19 6) = dK.T6 := by kernel_rfl
theorem dK.vD : iW dK.T6.2 dK.B6 = true := by kernel_rfl
theorem dK.calls (k : Nat) (A0 : Option Addr) (c0 : Nat) (l0 : List (S82)) (A1 : Option Addr) (c1 : Nat) (l1 : List (S82)) (r : Bool) (w : World) (hr0 : Kd.C k82 w A0 l0.length l0) (hc0 : l0.length ≤ c0) (hr1 : Kd.C k82 w A1 l1.length l1) (hc1 : l1.length ≤ c1) (h : dK.f k l0 l1 = some r) :
  Calls Tryz.prog 19 #[.slice A0 l0.length c0, .slice A1 l1.length c1] w fun e w' => e = .returned (.bool r) ∧ Below w.heap.size w w' := by
 have hu82 := Tryz.underlying82
 have HR0 := ah.mk hr0
 have HC0 := ah.mk hc0
 clear hr0 hc0
 have HR1 := ah.mk hr1
 have HC1 := ah.mk hc1
 clear hr1 hc1
 have HB := ah.mk (Below.refl w.heap.size w)
 unfold dK.f at h
 have H := h
 clear h
 replace H := ah.mk H
 go_enter Tryz.func19, Tryz.ntmps19
 replace H := H.out
 by_cases c3 : (l0.length : Int) = (l1.length : Int)
 ·rw [if_pos c3] at H
  have c3b0 : ((l0.length : Int) == (l1.length : Int)) = true := beq_iff_eq.mpr c3
  have c3b1 : ((l0.length : Int) != (l1.length : Int)) = false := bne_eq_false_iff_eq.mpr c3
  have c3b2 : (l0.length == l1.length) = true := by first | simpa using c3 | (simp at c3 ⊢; omega)
  clear c3
  have H' := ah.mk H
  clear H
  try go_wp2
  go_loopg [5] k (fun kq v5 w' => ∃ (x5_1 : Int), v5 = .int .i64 x5_1 ∧ ah (dK.l0 kq l0 l1 x5_1 = some r) ∧ ah (kq ≤ k) ∧ ah (Below w.heap.size w w'))
  case atStart => exact ⟨(0), EQ, H', ⟨Nat.le_refl _⟩, ⟨BL⟩⟩
  case round =>
   clear H'
   try clear c1
   try clear c3
   try clear c3b0
   try clear c3b1
   try clear c3b2
   obtain ⟨x5_1, rfl, HA, HK1, HB⟩ := hrel
   cases gk with
   | zero => exact absurd HA.out (by simp [dK.l0])
   | succ k1 =>
    have H := HA.out
    clear HA
    simp only [dK.l0] at H
    replace H := ifD H; rcases H with ⟨c4b0, H⟩ | ⟨c4b0, H⟩
    ·replace H := ifN H; obtain ⟨c5b0, H⟩ := H
     replace H := ifN H; obtain ⟨c6b0, H⟩ := H
     replace H := be H; obtain ⟨t667, A7, H⟩ := H
     replace H := ah.mk H
     try go_wp2
     replace HB := ah.mk (dH HB.out)
     have p665 : 0 ≤ (x5_1 : Int) := OD
     have q665 : x5_1 < (l0.length : Int) := OD
     obtain ⟨ad665, A665_1, c665_1, e665, hx665_0, hx665_1, hl665_1, hi665_1⟩ := ug HR0.out x5_1 p665 q665
     have hw665_1 := hx665_1
     have hw665_0 := hx665_0
     cases e665
     try replace hx665_0 := (HB.out.cell (World.block_lt_of_cell? w _ hx665_0)).trans hx665_0
     try replace hx665_1 := (HB.out.cell (World.block_lt_of_cell? w _ hx665_1)).trans hx665_1
     have HR665_1 := ah.mk hi665_1
     have HC665_1 := ah.mk hl665_1
     clear hi665_1 hl665_1
     replace p665 := eq_true p665
     replace q665 := eq_true q665
     have p666 : 0 ≤ (x5_1 : Int) := OD
     have q666 : x5_1 < (l1.length : Int) := OD
     obtain ⟨ad666, A666_1, c666_1, e666, hx666_0, hx666_1, hl666_1, hi666_1⟩ := ug HR1.out x5_1 p666 q666
     have hw666_1 := hx666_1
     have hw666_0 := hx666_0
     cases e666
     try replace hx666_0 := (HB.out.cell (World.block_lt_of_cell? w _ hx666_0)).trans hx666_0
     try replace hx666_1 := (HB.out.cell (World.block_lt_of_cell? w _ hx666_1)).trans hx666_1
     have HR666_1 := ah.mk hi666_1
     have HC666_1 := ah.mk hl666_1
     clear hi666_1 hl666_1
     replace p666 := eq_true p666
     replace q666 := eq_true q666
     refine ji (n := 10) (S := fun w' => w'.cell? (ad665.add ((x5_1).toNat * 2)) = some (.int .i64 ((fG l0 x5_1).f0)) ∧ w'.cell? ⟨(ad665.add ((x5_1).toNat * 2)).block, (ad665.add ((x5_1).toNat * 2)).off + 1, none⟩ = some (.slice A665_1 ((fG l0 x5_1).f1).length c665_1) ∧ w'.cell? (ad666.add ((x5_1).toNat * 2)) = some (.int .i64 ((fG l1 x5_1).f0)) ∧ w'.cell? ⟨(ad666.add ((x5_1).toNat * 2)).block, (ad666.add ((x5_1).toNat * 2)).off + 1, none⟩ = some (.slice A666_1 ((fG l1 x5_1).f1).length c666_1)) (ds := []) #[F,F,F,F,F,F,F,F,F,F] (by kernel_rfl) rfl rfl ⟨((HB.out.cell (World.block_lt_of_cell? w _ hw665_0)).trans hw665_0), ((HB.out.cell (World.block_lt_of_cell? w _ hw665_1)).trans hw665_1), ((HB.out.cell (World.block_lt_of_cell? w _ hw666_0)).trans hw666_0), ((HB.out.cell (World.block_lt_of_cell? w _ hw666_1)).trans hw666_1)⟩ (fun hHeld => ?_); refine iI dK.Ap dK.vD (fun HT_ HW_ => ?_)
     generalize wr.drew = w9000 at HB HR665_1 HR666_1 hx665_0 hx665_1 hx666_0 hx666_1 hHeld ⊢
     refine puS (i := 0) (N := some 17) #[T,F,F,F,F,F,F,F,F,F] (aK HT_.out (by kernel_rfl)) ?_
     refine puS (i := 1) (N := some 18) #[T,T,F,F,F,F,F,F,F,F] (aK HT_.out (by kernel_rfl)) ?_
     refine puS (i := 2) (N := some 19) #[T,T,T,F,F,F,F,F,F,F] (aK HT_.out (by kernel_rfl)) ?_
     refine puS (i := 4) (N := some 21) #[T,T,T,F,T,F,F,F,F,F] (aK HT_.out (by kernel_rfl)) ?_
     refine puS (i := 5) (N := some 22) #[T,T,T,F,T,T,F,F,F,F] (aK HT_.out (by kernel_rfl)) ?_
     refine puS (i := 6) (N := some 23) #[T,T,T,F,T,T,T,F,F,F] (aK HT_.out (by kernel_rfl)) ?_
     refine taS (i := 3) (N := some 20) #[T,T,T,T,T,T,T,F,F,F] (eF HT_.out HW_.out (by kernel_rfl)) hHeld ?_
     refine taS (i := 7) (N := some 24) #[T,T,T,T,T,T,T,T,F,F] (eF HT_.out HW_.out (by kernel_rfl)) hHeld ?_
     refine kW (i := 8) (N := some 25) #[T,T,T,T,T,T,T,T,T,F] rfl rfl (jf HT_.out (by kernel_rfl)) (by decide) (fun K hK => ?_)
     refine iZ Tryz.func61 #[.agg #[.int .i64 ((fG l0 x5_1).f0), .slice A665_1 ((fG l0 x5_1).f1).length c665_1], .agg #[.int .i64 ((fG l1 x5_1).f0), .slice A666_1 ((fG l1 x5_1).f1).length c666_1]] ?_
     with_reducible refine (kS.calls k1 ((fG l0 x5_1).f0) _ _ ((fG l0 x5_1).f1) ((fG l1 x5_1).f0) _ _ ((fG l1 x5_1).f1) _ _ ?side1 ?side2 ?side3 ?side4 A7.out).mono ?_
     (case side1 => exact CB HR665_1)
     (case side2 => exact HC665_1.out)
     (case side3 => exact CB HR666_1)
     (case side4 => exact HC666_1.out)
     rintro e w9001 ⟨rfl, hb⟩
     refine ⟨_, rfl, ?_⟩
     replace HB := BS (w := w) hb
     (try clear hb)
     refine hK.out _ _ ⟨((HB.out.cell (World.block_lt_of_cell? w _ hw665_0)).trans hw665_0), ((HB.out.cell (World.block_lt_of_cell? w _ hw665_1)).trans hw665_1), ((HB.out.cell (World.block_lt_of_cell? w _ hw666_0)).trans hw666_0), ((HB.out.cell (World.block_lt_of_cell? w _ hw666_1)).trans hw666_1)⟩ (fun hHeld => ?_)
     clear hK K
     refine nrm (some 25) ?_
     replace H := H.out
     replace H := ifB H; rcases H with ⟨rfl, H⟩ | ⟨rfl, H⟩
     ·have H' := ah.mk H
      clear H
      refine puS (i := 9) (N := some 26) #[T,T,T,T,T,T,T,T,T,T] (aK HT_.out (by kernel_rfl)) ?_
      refine iD (gG HT_.out (by kernel_rfl)) ?_
      try go_wp2
      go_roundg k1
      case measure => have := HK1.out; omega
      case rel => exact ⟨(wrap64 (x5_1 + 1)), EQ, H', ⟨by have := HK1.out; omega⟩, ⟨BL⟩⟩
     ·obtain rfl := Option.some.inj H
      refine puS (i := 9) (N := some 26) #[T,T,T,T,T,T,T,T,T,T] (aK HT_.out (by kernel_rfl)) ?_
      refine iD (gG HT_.out (by kernel_rfl)) ?_
      try go_wp2
      go_ret
      exact ⟨EWW, BL⟩
    ·obtain rfl := Option.some.inj H
     go_wp2
     go_ret
     exact ⟨EWW, BL⟩
 ·rw [if_neg c3] at H
  have c3b0 : ((l0.length : Int) == (l1.length : Int)) = false := beq_eq_false_iff_ne.mpr c3
  have c3b1 : ((l0.length : Int) != (l1.length : Int)) = true := bne_iff_ne.mpr c3
  have c3b2 : (l0.length == l1.length) = false := by first | simpa using c3 | (simp at c3 ⊢; omega)
  obtain rfl := Option.some.inj H
  try go_wp2
  go_ret
  exact ⟨EWW, BL⟩
def l6.f (FV FW : Int) (FX : ByteArray) (FY FZ : Int) (F3 : ByteArray) : Option (Bool) := if FV = FY then (if FW = FZ then (if FX.toList = F3.toList then (some true) else (some false)) else (some false)) else (some false)
theorem l6.calls (FV FW : Int) (FX : ByteArray) (FY FZ : Int) (F3 : ByteArray) (r : Bool) (w : World) (h : l6.f FV FW FX FY FZ F3 = some r) :
  Calls Tryz.prog 76 #[.agg #[.int .i64 FV, .int .i64 FW, .string FX], .agg #[.int .i64 FY, .int .i64 FZ, .string F3]] w fun e w' => e = .returned (.bool r) ∧ Below w.heap.size w w' := by
 have hu32 := Tryz.underlying32
 have HB := ah.mk (Below.refl w.heap.size w)
 unfold l6.f at h
 have H := h
 clear h
 replace H := ah.mk H
 go_enter Tryz.func76, Tryz.ntmps76
 go_wp2_with (first | ((with_reducible refine aJ (N := 2) rfl ?_); refine bg (N := 2) (cs := #[.int .i64 FV, .int .i64 FW, .string FX]) (t := 32) ?_; intro gb668 hg w9000 hbox hb; have BK668 := ah.mk hbox; have GW668 := SZ (w := w) hg; have GE668 := GW668; replace HB := BS (w := w) hb; clear hb hbox hg) | ((with_reducible refine aJ (N := 3) rfl ?_); refine bg (N := 3) (cs := #[.int .i64 FY, .int .i64 FZ, .string F3]) (t := 32) ?_; intro gb669 hg w9001 hbox hb; have n0_ := KB BK668 hb; have n1_ := BS (w := w) hb; have n2_ := ah.mk (hbox); have n3_ := SZ (w := w) hg; have n4_ := SZ (w := w) hg; have n5_ := NL BK668 hg; have n6_ := NG BK668 hg; clear BK668 HB; have BK668 := n0_; have HB := n1_; have BK669 := n2_; have GW669 := n3_; have GE669 := n4_; have NB668_669 := n5_; have NB669_668 := n6_; clear n0_ n1_ n2_ n3_ n4_ n5_ n6_; clear hb hbox hg; have hnb9002 := NB668_669.out; have hnc9002 := NB669_668.out; obtain ⟨hcz9003_0, hcz9003_1, hcz9003_2, hfz9003_0, hfz9003_1, hfz9003_2⟩ := cz3 BK668.out; obtain ⟨hcz9004_0, hcz9004_1, hcz9004_2, hfz9004_0, hfz9004_1, hfz9004_2⟩ := cz3 BK669.out; refine bU ?_))
 refine Hide.mk ?_
 replace H := H.out
 replace H := ifE H; rcases H with ⟨c3b0, c3b1, H⟩ | ⟨c3, c3b0, c3b1, H⟩
 ·replace H := ifE H; rcases H with ⟨c4b0, c4b1, H⟩ | ⟨c4, c4b0, c4b1, H⟩
  ·replace H := ifE H; rcases H with ⟨c5b0, c5b1, H⟩ | ⟨c5, c5b0, c5b1, H⟩
   ·obtain rfl := Option.some.inj H
    try go_wp2
    go_ret
    exact ⟨EWW, BL⟩
   ·obtain rfl := Option.some.inj H
    try go_wp2
    go_ret
    exact ⟨EWW, BL⟩
  ·obtain rfl := Option.some.inj H
   try go_wp2
   go_ret
   exact ⟨EWW, BL⟩
 ·obtain rfl := Option.some.inj H
  try go_wp2
  go_ret
  exact ⟨EWW, BL⟩
def gN.l0 : Nat → List Int → List Int → Int → Option (Bool)
 | 0, _, _, _ => none
 | k + 1, a, b, c => if c < (a.length : Int) then (if 0 ≤ c then (if c < (b.length : Int) then (if (rd a c) = (rd b c) then (gN.l0 k a b (wrap64 (c + 1))) else (some false)) else (none)) else (none)) else (some true)
def gN.f (k : Nat) (l0 l1 : List Int) : Option (Bool) := if (l0.length : Int) = (l1.length : Int) then (gN.l0 k l0 l1 0) else (some false)
theorem gN.calls (k : Nat) (A0 : Option Addr) (c0 : Nat) (l0 : List Int) (A1 : Option Addr) (c1 : Nat) (l1 : List Int) (r : Bool) (w : World) (hr0 : Kd.C (Kd.int .i64) w A0 l0.length l0) (hc0 : l0.length ≤ c0) (hr1 : Kd.C (Kd.int .i64) w A1 l1.length l1) (hc1 : l1.length ≤ c1) (h : gN.f k l0 l1 = some r) :
  Calls Tryz.prog 77 #[.slice A0 l0.length c0, .slice A1 l1.length c1] w fun e w' => e = .returned (.bool r) ∧ cK w w' := by
 have HR0 := ah.mk hr0
 have HC0 := ah.mk hc0
 clear hr0 hc0
 have HR1 := ah.mk hr1
 have HC1 := ah.mk hc1
 clear hr1 hc1
 unfold gN.f at h
 have H := h
 clear h
 replace H := ah.mk H
 go_enter Tryz.func77, Tryz.ntmps77
 replace H := H.out
 by_cases c3 : (l0.length : Int) = (l1.length : Int)
 ·rw [if_pos c3] at H
  have c3b0 : ((l0.length : Int) == (l1.length : Int)) = true := beq_iff_eq.mpr c3
  have c3b1 : ((l0.length : Int) != (l1.length : Int)) = false := bne_eq_false_iff_eq.mpr c3
  have c3b2 : (l0.length == l1.length) = true := by first | simpa using c3 | (simp at c3 ⊢; omega)
  clear c3
  have H' := ah.mk H
  clear H
  go_wp2
  repeat (go_quiet (fail); try go_wp2)
  go_loopg [5] k (fun kq v5 w' => ∃ (x5_1 : Int), v5 = .int .i64 x5_1 ∧ ah (gN.l0 kq l0 l1 x5_1 = some r) ∧ ah (kq ≤ k) ∧ cK w w')
  case atStart => exact ⟨(0), EQ, H', ⟨Nat.le_refl _⟩, DR⟩
  case round =>
   clear H'
   try clear c1
   try clear c3
   try clear c3b0
   try clear c3b1
   try clear c3b2
   obtain ⟨x5_1, rfl, HA, HK1, ⟨m1, rfl⟩⟩ := hrel
   cases gk with
   | zero => exact absurd HA.out (by simp [gN.l0])
   | succ k1 =>
    have H := HA.out
    clear HA
    simp only [gN.l0] at H
    replace H := ifD H; rcases H with ⟨c4b0, H⟩ | ⟨c4b0, H⟩
    ·replace H := ifN H; obtain ⟨c5b0, H⟩ := H
     replace H := ifN H; obtain ⟨c6b0, H⟩ := H
     have p670 : 0 ≤ (x5_1 : Int) := OD
     have q670 : x5_1 < (l0.length : Int) := OD
     obtain ⟨ad670, e670, hx670_0⟩ := Kd.mG HR0.out x5_1 p670 q670
     cases e670
     replace p670 := eq_true p670
     replace q670 := eq_true q670
     have p671 : 0 ≤ (x5_1 : Int) := OD
     have q671 : x5_1 < (l1.length : Int) := OD
     obtain ⟨ad671, e671, hx671_0⟩ := Kd.mG HR1.out x5_1 p671 q671
     cases e671
     replace p671 := eq_true p671
     replace q671 := eq_true q671
     replace H := ifE H; rcases H with ⟨c7b0, c7b1, H⟩ | ⟨c7, c7b0, c7b1, H⟩
     ·have H' := ah.mk H
      clear H
      go_wp2
      repeat (go_quiet (fail); try go_wp2)
      go_roundg k1
      case measure => have := HK1.out; omega
      case rel => exact ⟨(wrap64 (x5_1 + 1)), EQ, H', ⟨by have := HK1.out; omega⟩, DR⟩
     ·obtain rfl := Option.some.inj H
      go_wp2
      repeat (go_quiet (fail); try go_wp2)
      go_ret
      exact ⟨EQ, DR⟩
    ·obtain rfl := Option.some.inj H
     go_wp2
     repeat (go_quiet (fail); try go_wp2)
     go_ret
     exact ⟨EQ, DR⟩
 ·rw [if_neg c3] at H
  have c3b0 : ((l0.length : Int) == (l1.length : Int)) = false := beq_eq_false_iff_ne.mpr c3
  have c3b1 : ((l0.length : Int) != (l1.length : Int)) = true := bne_iff_ne.mpr c3
  have c3b2 : (l0.length == l1.length) = false := by first | simpa using c3 | (simp at c3 ⊢; omega)
  obtain rfl := Option.some.inj H
  go_wp2
  repeat (go_quiet (fail); try go_wp2)
  go_ret
  exact ⟨EQ, DR⟩
def jK.f (k : Nat) (FV FW : Int) (FX : ByteArray) (F4 : List (S82)) (F5 : List Int) (F6 FY FZ : Int) (F3 : ByteArray) (l1_3 : List (S82)) (l1_4 : List Int) (a1_5 : Int) : Option (Bool) := (l6.f FV FW FX FY FZ F3).bind fun t674 => (if t674 = true then ((dK.f k F4 l1_3).bind fun t675 => (if t675 = true then ((gN.f k F5 l1_4).bind fun t676 => (if t676 = true then (if F6 = a1_5 then (some true) else (some false)) else (some false))) else (some false))) else (some false))
theorem jK.calls (k : Nat) (FV FW : Int) (FX : ByteArray) (A0_3 : Option Addr) (c0_3 : Nat) (F4 : List (S82)) (A0_4 : Option Addr) (c0_4 : Nat) (F5 : List Int) (F6 FY FZ : Int) (F3 : ByteArray) (A1_3 : Option Addr) (c1_3 : Nat) (l1_3 : List (S82)) (A1_4 : Option Addr) (c1_4 : Nat) (l1_4 : List Int) (a1_5 : Int) (r : Bool) (w : World) (hr0_3 : Kd.C k82 w A0_3 F4.length F4) (hc0_3 : F4.length ≤ c0_3) (hr0_4 : Kd.C (Kd.int .i64) w A0_4 F5.length F5) (hc0_4 : F5.length ≤ c0_4) (hr1_3 : Kd.C k82 w A1_3 l1_3.length l1_3) (hc1_3 : l1_3.length ≤ c1_3) (hr1_4 : Kd.C (Kd.int .i64) w A1_4 l1_4.length l1_4) (hc1_4 : l1_4.length ≤ c1_4) (h : jK.f k FV FW FX F4 F5 F6 FY FZ F3 l1_3 l1_4 a1_5 = some r) :
  Calls Tryz.prog 26 #[.agg #[.int .i64 FV, .int .i64 FW, .string FX, .slice A0_3 F4.length c0_3, .slice A0_4 F5.length c0_4, .int .i64 F6], .agg #[.int .i64 FY, .int .i64 FZ, .string F3, .slice A1_3 l1_3.length c1_3, .slice A1_4 l1_4.length c1_4, .int .i64 a1_5]] w fun e w' => e = .returned (.bool r) ∧ Below w.heap.size w w' := by
 have hu49 := Tryz.underlying49
 have hu32 := Tryz.underlying32
 have HR0_3 := ah.mk hr0_3
 have HC0_3 := ah.mk hc0_3
 clear hr0_3 hc0_3
 have HR0_4 := ah.mk hr0_4
 have HC0_4 := ah.mk hc0_4
 clear hr0_4 hc0_4
 have HR1_3 := ah.mk hr1_3
 have HC1_3 := ah.mk hc1_3
 clear hr1_3 hc1_3
 have HR1_4 := ah.mk hr1_4
 have HC1_4 := ah.mk hc1_4
 clear hr1_4 hc1_4
 have HB := ah.mk (Below.refl w.heap.size w)
 unfold jK.f at h
 have H := h
 clear h
 replace H := be H; obtain ⟨t674, A3, H⟩ := H
 replace H := ah.mk H
 go_enter Tryz.func26, Tryz.ntmps26
 go_wp2_with (first | ((with_reducible refine aJ (N := 2) rfl ?_); refine bg (N := 2) (cs := #[.int .i64 FV, .int .i64 FW, .string FX, .slice A0_3 F4.length c0_3, .slice A0_4 F5.length c0_4, .int .i64 F6]) (t := 49) ?_; intro gb672 hg w9000 hbox hb; have BK672 := ah.mk hbox; have GW672 := SZ (w := w) hg; have GE672 := GW672; replace HB := BS (w := w) hb; clear hb hbox hg) | ((with_reducible refine aJ (N := 3) rfl ?_); refine bg (N := 3) (cs := #[.int .i64 FY, .int .i64 FZ, .string F3, .slice A1_3 l1_3.length c1_3, .slice A1_4 l1_4.length c1_4, .int .i64 a1_5]) (t := 49) ?_; intro gb673 hg w9001 hbox hb; have n0_ := KB BK672 hb; have n1_ := BS (w := w) hb; have n2_ := ah.mk (hbox); have n3_ := SZ (w := w) hg; have n4_ := SZ (w := w) hg; have n5_ := NL BK672 hg; have n6_ := NG BK672 hg; clear BK672 HB; have BK672 := n0_; have HB := n1_; have BK673 := n2_; have GW673 := n3_; have GE673 := n4_; have NB672_673 := n5_; have NB673_672 := n6_; clear n0_ n1_ n2_ n3_ n4_ n5_ n6_; clear hb hbox hg; have hnb9002 := NB672_673.out; have hnc9002 := NB673_672.out; obtain ⟨hcz9003_0, hcz9003_1, hcz9003_2, hcz9003_3, hcz9003_4, hcz9003_5, hfz9003_0, hfz9003_1, hfz9003_2, hfz9003_3, hfz9003_4, hfz9003_5⟩ := cz6 BK672.out; obtain ⟨hcz9004_0, hcz9004_1, hcz9004_2, hcz9004_3, hcz9004_4, hcz9004_5, hfz9004_0, hfz9004_1, hfz9004_2, hfz9004_3, hfz9004_4, hfz9004_5⟩ := cz6 BK673.out) | ((with_reducible refine ay (f := 76) rfl ?_); refine bE (some 9) Tryz.func76 #[.agg #[.int .i64 FV, .int .i64 FW, .string FX], .agg #[.int .i64 FY, .int .i64 FZ, .string F3]] ?_; (with_reducible refine (l6.calls FV FW FX FY FZ F3 _ _ A3.out).mono ?_); rintro e w9005 ⟨rfl, hb⟩; refine ⟨_, rfl, ?_⟩; replace BK672 := KB BK672 hb; replace BK673 := KB BK673 hb; replace HB := BS (w := w) hb; (try clear hb); obtain ⟨hcz9006_0, hcz9006_1, hcz9006_2, hcz9006_3, hcz9006_4, hcz9006_5, hfz9006_0, hfz9006_1, hfz9006_2, hfz9006_3, hfz9006_4, hfz9006_5⟩ := cz6 BK672.out; obtain ⟨hcz9007_0, hcz9007_1, hcz9007_2, hcz9007_3, hcz9007_4, hcz9007_5, hfz9007_0, hfz9007_1, hfz9007_2, hfz9007_3, hfz9007_4, hfz9007_5⟩ := cz6 BK673.out; refine bU ?_))
 refine Hide.mk ?_
 replace H := H.out
 replace H := ifB H; rcases H with ⟨rfl, H⟩ | ⟨rfl, H⟩
 ·replace H := be H; obtain ⟨t675, A5, H⟩ := H
  replace H := ah.mk H
  go_wp2_with (first | ((with_reducible refine ay (f := 19) rfl ?_); refine bE (some 15) Tryz.func19 #[.slice A0_3 F4.length c0_3, .slice A1_3 l1_3.length c1_3] ?_; (with_reducible refine (dK.calls k _ _ F4 _ _ l1_3 _ _ ?side1 ?side2 ?side3 ?side4 A5.out).mono ?_); (case side1 => exact CB HR0_3); (case side2 => exact HC0_3.out); (case side3 => exact CB HR1_3); (case side4 => exact HC1_3.out); rintro e w9008 ⟨rfl, hb⟩; refine ⟨_, rfl, ?_⟩; replace BK672 := KB BK672 hb; replace BK673 := KB BK673 hb; replace HB := BS (w := w) hb; (try clear hb); obtain ⟨hcz9009_0, hcz9009_1, hcz9009_2, hcz9009_3, hcz9009_4, hcz9009_5, hfz9009_0, hfz9009_1, hfz9009_2, hfz9009_3, hfz9009_4, hfz9009_5⟩ := cz6 BK672.out; obtain ⟨hcz9010_0, hcz9010_1, hcz9010_2, hcz9010_3, hcz9010_4, hcz9010_5, hfz9010_0, hfz9010_1, hfz9010_2, hfz9010_3, hfz9010_4, hfz9010_5⟩ := cz6 BK673.out; refine bU ?_))
  refine Hide.mk ?_
  replace H := H.out
  replace H := ifB H; rcases H with ⟨rfl, H⟩ | ⟨rfl, H⟩
  ·replace H := be H; obtain ⟨t676, A7, H⟩ := H
   replace H := ah.mk H
   go_wp2_with (first | ((with_reducible refine ay (f := 77) rfl ?_); refine bE (some 21) Tryz.func77 #[.slice A0_4 F5.length c0_4, .slice A1_4 l1_4.length c1_4] ?_; (with_reducible refine (gN.calls k _ _ F5 _ _ l1_4 _ _ ?side1 ?side2 ?side3 ?side4 A7.out).mono ?_); (case side1 => exact CB HR0_4); (case side2 => exact HC0_4.out); (case side3 => exact CB HR1_4); (case side4 => exact HC1_4.out); rintro e w' ⟨rfl, ⟨nd, rfl⟩⟩; refine ⟨_, rfl, ?_⟩; refine bU ?_))
   refine Hide.mk ?_
   replace H := H.out
   replace H := ifB H; rcases H with ⟨rfl, H⟩ | ⟨rfl, H⟩
   ·replace H := ifE H; rcases H with ⟨c9b0, c9b1, H⟩ | ⟨c9, c9b0, c9b1, H⟩
    ·obtain rfl := Option.some.inj H
     try go_wp2
     go_ret
     exact ⟨EWW, BL⟩
    ·obtain rfl := Option.some.inj H
     try go_wp2
     go_ret
     exact ⟨EWW, BL⟩
   ·obtain rfl := Option.some.inj H
    try go_wp2
    go_ret
    exact ⟨EWW, BL⟩
  ·obtain rfl := Option.some.inj H
   try go_wp2
   go_ret
   exact ⟨EWW, BL⟩
 ·obtain rfl := Option.some.inj H
  try go_wp2
  go_ret
  exact ⟨EWW, BL⟩
def gH.f (k : Nat) (FV FW : Int) (FX : ByteArray) (F4 : List (S68)) (F5 : List Int) (F6 : Int) (a1 : ByteArray) (l2 : List (S71)) (l3 : List ByteArray) (a4 : Int) : Option (Bool) := if (a1.size : Int) > 1048576 then (some true) else ((jF.f k FV FW FX F4 F5 F6 1048576).bind fun t678 => (if t678 < 0 then (some true) else ((dW.f k l2 t678).bind fun t679 => (if t679 < 0 then (some true) else ((eU.f k l3 t679).bind fun t680 => (if t680 < 0 then (some true) else ((iA.f k FV FW FX F4 F5 F6).bind fun bt681 => ((cZ.f k l2).bind fun t691 => ((dA.f k l3).bind fun t694 => ((bG.f k bt681.1 bt681.2.1 bt681.2.2.1 bt681.2.2.2.1 bt681.2.2.2.2.1 bt681.2.2.2.2.2 a1 t691 t694 a4).bind fun t697 => ((iA.f k FV FW FX F4 F5 F6).bind fun bt698 => ((cZ.f k l2).bind fun t709 => ((dA.f k l3).bind fun t712 => ((bZ.f k bt698.1 bt698.2.1 bt698.2.2.1 bt698.2.2.2.1 bt698.2.2.2.2.1 bt698.2.2.2.2.2 a1 t709 t712 a4).bind fun t715 => (if t715.toList = t697.toList then ((iA.f k FV FW FX F4 F5 F6).bind fun bt716 => ((jK.f k bt698.1 bt698.2.1 bt698.2.2.1 bt698.2.2.2.1 bt698.2.2.2.2.1 bt698.2.2.2.2.2 bt716.1 bt716.2.1 bt716.2.2.1 bt716.2.2.2.1 bt716.2.2.2.2.1 bt716.2.2.2.2.2).bind fun t726 => (if t726 = true then ((cZ.f k l2).bind fun t727 => ((bT.f k t709 t727).bind fun t730 => (if t730 = true then ((dA.f k l3).bind fun t731 => ((fq.f k t712 t731).bind fun t734 => (if t734 = true then (some true) else (some false)))) else (some false)))) else (some false)))) else (some false))))))))))))))))
theorem gH.calls (k : Nat) (FV FW : Int) (FX : ByteArray) (A0_3 : Option Addr) (c0_3 : Nat) (F4 : List (S68)) (A0_4 : Option Addr) (c0_4 : Nat) (F5 : List Int) (F6 : Int) (a1 : ByteArray) (A2 : Option Addr) (c2 : Nat) (l2 : List (S71)) (A3 : Option Addr) (c3 : Nat) (l3 : List ByteArray) (a4 : Int) (r : Bool) (w : World) (hr0_3 : Kd.C k68 w A0_3 F4.length F4) (hc0_3 : F4.length ≤ c0_3) (hr0_4 : Kd.C (Kd.int .i64) w A0_4 F5.length F5) (hc0_4 : F5.length ≤ c0_4) (hr2 : Kd.C k71 w A2 l2.length l2) (hc2 : l2.length ≤ c2) (hr3 : Kd.C Kd.string w A3 l3.length l3) (hc3 : l3.length ≤ c3) (h : gH.f k FV FW FX F4 F5 F6 a1 l2 l3 a4 = some r) :
  Calls Tryz.prog 4 #[.agg #[.int .i64 FV, .int .i64 FW, .string FX, .slice A0_3 F4.length c0_3, .slice A0_4 F5.length c0_4, .int .i64 F6], .string a1, .slice A2 l2.length c2, .slice A3 l3.length c3, .int .i64 a4] w fun e w' => e = .returned (.bool r) ∧ Below w.heap.size w w' := by
 have hu45 := Tryz.underlying45
 have hu49 := Tryz.underlying49
 have HR0_3 := ah.mk hr0_3
 have HC0_3 := ah.mk hc0_3
 clear hr0_3 hc0_3
 have HR0_4 := ah.mk hr0_4
 have HC0_4 := ah.mk hc0_4
 clear hr0_4 hc0_4
 have HR2 := ah.mk hr2
 have HC2 := ah.mk hc2
 clear hr2 hc2
 have HR3 := ah.mk hr3
 have HC3 := ah.mk hc3
 clear hr3 hc3
 have HB := ah.mk (Below.refl w.heap.size w)
 unfold gH.f at h
 have H := h
 clear h
 replace H := ah.mk H
 go_enter Tryz.func4, Tryz.ntmps4
 go_wp2_with (first | ((with_reducible refine aJ (N := 5) rfl ?_); refine bg (N := 5) (cs := #[.int .i64 FV, .int .i64 FW, .string FX, .slice A0_3 F4.length c0_3, .slice A0_4 F5.length c0_4, .int .i64 F6]) (t := 45) ?_; intro gb677 hg w9000 hbox hb; have BK677 := ah.mk hbox; have GW677 := SZ (w := w) hg; have GE677 := GW677; replace HB := BS (w := w) hb; clear hb hbox hg; obtain ⟨hcz9001_0, hcz9001_1, hcz9001_2, hcz9001_3, hcz9001_4, hcz9001_5, hfz9001_0, hfz9001_1, hfz9001_2, hfz9001_3, hfz9001_4, hfz9001_5⟩ := cz6 BK677.out; refine bU ?_))
 refine Hide.mk ?_
 replace H := H.out
 by_cases c6 : (a1.size : Int) > 1048576
 ·rw [if_pos c6] at H
  have c6b0 : decide (1048576 < (a1.size : Int)) = true := decide_eq_true c6
  have c6b1 : decide (1048576 < a1.size) = true := decide_eq_true (by omega)
  clear c6
  obtain rfl := Option.some.inj H
  try go_wp2
  go_ret
  exact ⟨EWW, BL⟩
 ·rw [if_neg c6] at H
  have c6b0 : decide (1048576 < (a1.size : Int)) = false := decide_eq_false c6
  have c6b1 : decide (1048576 < a1.size) = false := decide_eq_false (by omega)
  clear c6
  replace H := be H; obtain ⟨t678, A8, H⟩ := H
  replace H := ah.mk H
  go_wp2_with (first | ((with_reducible refine ay (f := 22) rfl ?_); refine bE (some 22) Tryz.func22 #[.agg #[.int .i64 FV, .int .i64 FW, .string FX, .slice A0_3 F4.length c0_3, .slice A0_4 F5.length c0_4, .int .i64 F6], .int .i64 1048576] ?_; (with_reducible refine (jF.calls k FV FW FX _ _ F4 _ _ F5 F6 1048576 t678 _ ?side1 ?side2 ?side3 ?side4 A8.out).mono ?_); (case side1 => exact CB HR0_3); (case side2 => exact HC0_3.out); (case side3 => exact CB HR0_4); (case side4 => exact HC0_4.out); rintro e w9002 ⟨rfl, hb⟩; refine ⟨_, rfl, ?_⟩; replace BK677 := KB BK677 hb; replace HB := BS (w := w) hb; (try clear hb); refine bU ?_))
  refine Hide.mk ?_
  replace H := H.out
  replace H := ifD H; rcases H with ⟨c9b0, H⟩ | ⟨c9b0, H⟩
  ·obtain rfl := Option.some.inj H
   try go_wp2
   go_ret
   exact ⟨EWW, BL⟩
  ·replace H := be H; obtain ⟨t679, A13, H⟩ := H
   replace H := ah.mk H
   go_wp2_with (first | ((with_reducible refine ay (f := 11) rfl ?_); refine bE (some 27) Tryz.func11 #[.slice A2 l2.length c2, .int .i64 t678] ?_; (with_reducible refine (dW.calls k _ _ l2 t678 t679 _ ?side1 ?side2 A13.out).mono ?_); (case side1 => exact CB HR2); (case side2 => exact HC2.out); rintro e w9003 ⟨rfl, hb⟩; refine ⟨_, rfl, ?_⟩; replace BK677 := KB BK677 hb; replace HB := BS (w := w) hb; (try clear hb); refine bU ?_))
   refine Hide.mk ?_
   replace H := H.out
   replace H := ifD H; rcases H with ⟨c14b0, H⟩ | ⟨c14b0, H⟩
   ·obtain rfl := Option.some.inj H
    try go_wp2
    go_ret
    exact ⟨EWW, BL⟩
   ·replace H := be H; obtain ⟨t680, A19, H⟩ := H
    replace H := ah.mk H
    go_wp2_with (first | ((with_reducible refine ay (f := 12) rfl ?_); refine bE (some 32) Tryz.func12 #[.slice A3 l3.length c3, .int .i64 t679] ?_; (with_reducible refine (eU.calls k _ _ l3 t679 t680 _ ?side1 ?side2 A19.out).mono ?_); (case side1 => exact CB HR3); (case side2 => exact HC3.out); rintro e w' ⟨rfl, ⟨nd, rfl⟩⟩; refine ⟨_, rfl, ?_⟩; (try (rw [oo w9003]; generalize hq_ : World.drewN w9003 _ = w9003; have n0_ : ah (w9003.heap[gb677]? = some (.cells #[.int .i64 FV, .int .i64 FW, .string FX, .slice A0_3 F4.length c0_3, .slice A0_4 F5.length c0_4, .int .i64 F6] 45 (0, 0))) := ⟨by rw [← hq_]; exact BK⟩; have n1_ : ah (Below w.heap.size w w9003) := ⟨by rw [← hq_]; exact BL⟩; clear BK677 HB hq_; have BK677 := n0_; have HB := n1_; clear n0_ n1_)); have hfz9001_0 := aC BK677.out 0; have hfz9001_1 := aC BK677.out 1; have hfz9001_2 := aC BK677.out 2; have hfz9001_3 := aC BK677.out 3; have hfz9001_4 := aC BK677.out 4; have hfz9001_5 := aC BK677.out 5; have hfz9001_0 := aC BK677.out 0; have hfz9001_1 := aC BK677.out 1; have hfz9001_2 := aC BK677.out 2; have hfz9001_3 := aC BK677.out 3; have hfz9001_4 := aC BK677.out 4; have hfz9001_5 := aC BK677.out 5; obtain ⟨hcz9004_0, hcz9004_1, hcz9004_2, hcz9004_3, hcz9004_4, hcz9004_5, hfz9004_0, hfz9004_1, hfz9004_2, hfz9004_3, hfz9004_4, hfz9004_5⟩ := cz6 BK677.out; refine bU ?_))
    refine Hide.mk ?_
    replace H := H.out
    replace H := ifD H; rcases H with ⟨c20b0, H⟩ | ⟨c20b0, H⟩
    ·obtain rfl := Option.some.inj H
     try go_wp2
     go_ret
     exact ⟨EWW, BL⟩
    ·replace H := be H; obtain ⟨⟨t681, t682, t683, t684, t687, t690⟩, A25, H⟩ := H
     dsimp only at H
     replace H := be H; obtain ⟨t691, A26, H⟩ := H
     replace H := be H; obtain ⟨t694, A27, H⟩ := H
     replace H := be H; obtain ⟨t697, A28, H⟩ := H
     replace H := be H; obtain ⟨⟨t698, t699, t700, t701, t704, t707⟩, A29, H⟩ := H
     dsimp only at H
     replace H := be H; obtain ⟨t709, A30, H⟩ := H
     replace H := be H; obtain ⟨t712, A31, H⟩ := H
     replace H := be H; obtain ⟨t715, A32, H⟩ := H
     replace H := ah.mk H
     go_wp2_with (first | ((with_reducible refine ay (f := 24) rfl ?_); refine bE (some 36) Tryz.func24 #[.agg #[.int .i64 FV, .int .i64 FW, .string FX, .slice A0_3 F4.length c0_3, .slice A0_4 F5.length c0_4, .int .i64 F6]] ?_; (with_reducible refine (iA.calls k FV FW FX _ _ F4 _ _ F5 F6 t681 t682 t683 t684 t687 t690 _ ?side1 ?side2 ?side3 ?side4 A25.out).mono ?_); (case side1 => exact CB HR0_3); (case side2 => exact HC0_3.out); (case side3 => exact CB HR0_4); (case side4 => exact HC0_4.out); rintro e w9005 ⟨v685, v688, rfl, ho0, ho1, hb⟩; refine ⟨_, rfl, ?_⟩; have n0_ := ah.mk (Kd.nT ho0 (aQ BL)); have n1_ := ah.mk (Kd.cO ho1 (aQ BL)); replace BK677 := KB BK677 hb; replace HB := BS (w := w) hb; have HO686 := n0_; have HO689 := n1_; clear n0_ n1_; (try clear hb); (try clear ho0); (try clear ho1)) | ((with_reducible refine ay (f := 16) rfl ?_); refine bE (some 39) Tryz.func16 #[.slice A2 l2.length c2] ?_; (with_reducible refine (cZ.calls k _ _ l2 t691 _ ?side1 ?side2 A26.out).mono ?_); (case side1 => exact CB HR2); (case side2 => exact HC2.out); rintro e w9006 ⟨v692, rfl, ho0, hb⟩; refine ⟨_, rfl, ?_⟩; have n0_ := ah.mk (Kd.gI (SR HO686) hb); have n2_ := ah.mk (Kd.cO ho0 (aQ BL)); replace HO689 := RB HO689 hb; replace BK677 := KB BK677 hb; replace HB := BS (w := w) hb; clear HO686; have HO686 := n0_; have HO693 := n2_; clear n0_ n2_; (try clear hb); (try clear ho0)) | ((with_reducible refine ay (f := 17) rfl ?_); refine bE (some 41) Tryz.func17 #[.slice A3 l3.length c3] ?_; (with_reducible refine (dA.calls k _ _ l3 t694 _ ?side1 ?side2 A27.out).mono ?_); (case side1 => exact CB HR3); (case side2 => exact HC3.out); rintro e w9007 ⟨v695, rfl, ho0, hb⟩; refine ⟨_, rfl, ?_⟩; have n0_ := ah.mk (Kd.gI (SR HO686) hb); have n3_ := ah.mk (Kd.cO ho0 (aQ BL)); replace HO689 := RB HO689 hb; replace HO693 := RB HO693 hb; replace BK677 := KB BK677 hb; replace HB := BS (w := w) hb; clear HO686; have HO686 := n0_; have HO696 := n3_; clear n0_ n3_; (try clear hb); (try clear ho0); obtain ⟨Ao9008, co9008, eo9008⟩ := Kd.oI HO686.out; subst eo9008; obtain ⟨Ao9009, co9009, eo9009⟩ := Kd.dL HO689.out; subst eo9009; obtain ⟨Ao9010, co9010, eo9010⟩ := Kd.dL HO693.out; subst eo9010; obtain ⟨Ao9011, co9011, eo9011⟩ := Kd.dL HO696.out; subst eo9011) | ((with_reducible refine ay (f := 23) rfl ?_); refine bE (some 43) Tryz.func23 #[.agg #[.int .i64 t681, .int .i64 t682, .string t683, .slice Ao9008 t684.length co9008, .slice Ao9009 t687.length co9009, .int .i64 t690], .string a1, .slice Ao9010 t691.length co9010, .slice Ao9011 t694.length co9011, .int .i64 a4] ?_; (with_reducible refine (bG.calls k t681 t682 t683 _ _ t684 _ _ t687 t690 a1 _ _ t691 _ _ t694 a4 t697 _ ?side1 ?side2 ?side3 ?side4 ?side5 ?side6 ?side7 ?side8 A28.out).mono ?_); (case side1 => repeat (first | exact (Kd.iL HO686.out).2.2 | (with_reducible refine Kd.gy ?_ _) | (with_reducible refine Kd.gD ?_ _) | (with_reducible refine Kd.ig ?_))); (case side2 => exact (Kd.iL HO686.out).2.1); (case side3 => exact CR2 HO689); (case side4 => exact (Kd.bP HO689.out).2.1); (case side5 => exact CR2 HO693); (case side6 => exact (Kd.bP HO693.out).2.1); (case side7 => exact CR2 HO696); (case side8 => exact (Kd.bP HO696.out).2.1); rintro e w9012 ⟨rfl, hb⟩; refine ⟨_, rfl, ?_⟩; have n0_ := ah.mk (Kd.gI (SR HO686) hb); replace HO689 := RB HO689 hb; replace HO693 := RB HO693 hb; replace HO696 := RB HO696 hb; replace BK677 := KB BK677 hb; replace HB := BS (w := w) hb; clear HO686; have HO686 := n0_; clear n0_; (try clear hb); obtain ⟨hcz9013_0, hcz9013_1, hcz9013_2, hcz9013_3, hcz9013_4, hcz9013_5, hfz9013_0, hfz9013_1, hfz9013_2, hfz9013_3, hfz9013_4, hfz9013_5⟩ := cz6 BK677.out) | ((with_reducible refine ay (f := 24) rfl ?_); refine bE (some 45) Tryz.func24 #[.agg #[.int .i64 FV, .int .i64 FW, .string FX, .slice A0_3 F4.length c0_3, .slice A0_4 F5.length c0_4, .int .i64 F6]] ?_; (with_reducible refine (iA.calls k FV FW FX _ _ F4 _ _ F5 F6 t698 t699 t700 t701 t704 t707 _ ?side1 ?side2 ?side3 ?side4 A29.out).mono ?_); (case side1 => exact CB HR0_3); (case side2 => exact HC0_3.out); (case side3 => exact CB HR0_4); (case side4 => exact HC0_4.out); rintro e w9014 ⟨v702, v705, rfl, ho0, ho1, hb⟩; refine ⟨_, rfl, ?_⟩; have n0_ := ah.mk (Kd.qp (SR HO686) (Kd.zW ho0) hb); have n1_ := ah.mk (Kd.jR (RR HO689) (Kd.lV ho1) hb); have n4_ := ah.mk (Kd.nT (Kd.zX ho0 (Kd.EU (SR HO686))) (aQ BL)); have n5_ := ah.mk (Kd.cO (Kd.mR ho1 (Kd.qb (RR HO689))) (aQ BL)); replace HO693 := RB HO693 hb; replace HO696 := RB HO696 hb; replace BK677 := KB BK677 hb; replace HB := BS (w := w) hb; clear HO686 HO689; have HO686 := n0_; have HO689 := n1_; have HO703 := n4_; have HO706 := n5_; clear n0_ n1_ n4_ n5_; (try clear hb); (try clear ho0); (try clear ho1)) | ((with_reducible refine aJ (N := 13) rfl ?_); refine bg (N := 13) (cs := #[.int .i64 0, .int .i64 0, .string (⟨#[]⟩ : ByteArray), .slice none 0 0, .slice none 0 0, .int .i64 0]) (t := 49) ?_; intro gb708 hg w9015 hbox hb; have n0_ := ah.mk (Kd.gI (SR HO686) hb); have n1_ := RB HO689 hb; have n2_ := RB HO693 hb; have n3_ := RB HO696 hb; have n4_ := ah.mk (Kd.gI (SR HO703) hb); have n5_ := RB HO706 hb; have n6_ := KB BK677 hb; have n7_ := BS (w := w) hb; have n8_ := ah.mk (hbox); have n9_ := SZ (w := w) hg; have n10_ := SZ (w := w) hg; have n11_ := NL BK677 hg; have n12_ := NG BK677 hg; clear HO686 HO689 HO693 HO696 HO703 HO706 BK677 HB; have HO686 := n0_; have HO689 := n1_; have HO693 := n2_; have HO696 := n3_; have HO703 := n4_; have HO706 := n5_; have BK677 := n6_; have HB := n7_; have BK708 := n8_; have GW708 := n9_; have GE708 := n10_; have NB677_708 := n11_; have NB708_677 := n12_; clear n0_ n1_ n2_ n3_ n4_ n5_ n6_ n7_ n8_ n9_ n10_ n11_ n12_; clear hb hbox hg; have hnb9016 := NB708_677.out; have hnc9016 := NB677_708.out; obtain ⟨hcz9017_0, hcz9017_1, hcz9017_2, hcz9017_3, hcz9017_4, hcz9017_5, hfz9017_0, hfz9017_1, hfz9017_2, hfz9017_3, hfz9017_4, hfz9017_5⟩ := cz6 BK708.out; obtain ⟨Ao9018, co9018, eo9018⟩ := Kd.oI HO703.out; subst eo9018; obtain ⟨Ao9019, co9019, eo9019⟩ := Kd.dL HO706.out; subst eo9019) | ((with_reducible refine ay (f := 16) rfl ?_); refine bE (some 47) Tryz.func16 #[.slice A2 l2.length c2] ?_; (with_reducible refine (cZ.calls k _ _ l2 t709 _ ?side1 ?side2 A30.out).mono ?_); (case side1 => exact Kd.eO HR2.out BL); (case side2 => exact HC2.out); rintro e w9020 ⟨v710, rfl, ho0, hb⟩; refine ⟨_, rfl, ?_⟩; have n0_ := ah.mk (Kd.gI (by (with_reducible repeat (first | apply Kd.mI | apply Kd.mD | apply Kd.mU)); exact (Kd.mQ (Kd.kg (p := ⟨gb708, 5, none⟩) (Kd.kg (p := ⟨gb708, 4, none⟩) (Kd.kg (p := ⟨gb708, 3, none⟩) (Kd.kg (p := ⟨gb708, 2, none⟩) (Kd.kg (p := ⟨gb708, 1, none⟩) (Kd.kg (p := ⟨gb708, 0, none⟩) (Kd.qD HO686.out BK708.out (by decide)) (fun _ hk => hk.2) (.int .i64 t698)) (fun _ hk => hk.2) (.int .i64 t699)) (fun _ hk => hk.2) (.string t700)) (fun _ hk => hk.2) (.slice Ao9018 t701.length co9018)) (fun _ hk => hk.2) (.slice Ao9019 t704.length co9019)) (fun _ hk => hk.2) (.int .i64 t707)) (fun _ h_ => h_.1))) hb); have n1_ := ah.mk (Kd.jW (by (with_reducible repeat (first | apply Kd.fI | apply Kd.fJ | apply Kd.eu)); exact (Kd.dY (Kd.fP (p := ⟨gb708, 5, none⟩) (Kd.fP (p := ⟨gb708, 4, none⟩) (Kd.fP (p := ⟨gb708, 3, none⟩) (Kd.fP (p := ⟨gb708, 2, none⟩) (Kd.fP (p := ⟨gb708, 1, none⟩) (Kd.fP (p := ⟨gb708, 0, none⟩) (Kd.ni HO689.out BK708.out (by decide)) (fun _ hk => hk.2) (.int .i64 t698)) (fun _ hk => hk.2) (.int .i64 t699)) (fun _ hk => hk.2) (.string t700)) (fun _ hk => hk.2) (.slice Ao9018 t701.length co9018)) (fun _ hk => hk.2) (.slice Ao9019 t704.length co9019)) (fun _ hk => hk.2) (.int .i64 t707)) (fun _ h_ => h_.1))) hb); have n2_ := ah.mk (Kd.jR (by (with_reducible repeat (first | apply Kd.fI | apply Kd.fJ | apply Kd.eu)); exact (Kd.dY (Kd.fP (p := ⟨gb708, 5, none⟩) (Kd.fP (p := ⟨gb708, 4, none⟩) (Kd.fP (p := ⟨gb708, 3, none⟩) (Kd.fP (p := ⟨gb708, 2, none⟩) (Kd.fP (p := ⟨gb708, 1, none⟩) (Kd.fP (p := ⟨gb708, 0, none⟩) (Kd.ni HO693.out BK708.out (by decide)) (fun _ hk => hk.2) (.int .i64 t698)) (fun _ hk => hk.2) (.int .i64 t699)) (fun _ hk => hk.2) (.string t700)) (fun _ hk => hk.2) (.slice Ao9018 t701.length co9018)) (fun _ hk => hk.2) (.slice Ao9019 t704.length co9019)) (fun _ hk => hk.2) (.int .i64 t707)) (fun _ h_ => h_.1))) (Kd.lV ho0) hb); have n3_ := ah.mk (Kd.jW (by (with_reducible repeat (first | apply Kd.fI | apply Kd.fJ | apply Kd.eu)); exact (Kd.dY (Kd.fP (p := ⟨gb708, 5, none⟩) (Kd.fP (p := ⟨gb708, 4, none⟩) (Kd.fP (p := ⟨gb708, 3, none⟩) (Kd.fP (p := ⟨gb708, 2, none⟩) (Kd.fP (p := ⟨gb708, 1, none⟩) (Kd.fP (p := ⟨gb708, 0, none⟩) (Kd.ni HO696.out BK708.out (by decide)) (fun _ hk => hk.2) (.int .i64 t698)) (fun _ hk => hk.2) (.int .i64 t699)) (fun _ hk => hk.2) (.string t700)) (fun _ hk => hk.2) (.slice Ao9018 t701.length co9018)) (fun _ hk => hk.2) (.slice Ao9019 t704.length co9019)) (fun _ hk => hk.2) (.int .i64 t707)) (fun _ h_ => h_.1))) hb); have n4_ := ah.mk (Kd.gI (by (with_reducible repeat (first | apply Kd.mI | apply Kd.mD | apply Kd.mU)); exact (Kd.mQ (Kd.kg (p := ⟨gb708, 5, none⟩) (Kd.kg (p := ⟨gb708, 4, none⟩) (Kd.kg (p := ⟨gb708, 3, none⟩) (Kd.kg (p := ⟨gb708, 2, none⟩) (Kd.kg (p := ⟨gb708, 1, none⟩) (Kd.kg (p := ⟨gb708, 0, none⟩) (Kd.qD HO703.out BK708.out (by decide)) (fun _ hk => hk.2) (.int .i64 t698)) (fun _ hk => hk.2) (.int .i64 t699)) (fun _ hk => hk.2) (.string t700)) (fun _ hk => hk.2) (.slice Ao9018 t701.length co9018)) (fun _ hk => hk.2) (.slice Ao9019 t704.length co9019)) (fun _ hk => hk.2) (.int .i64 t707)) (fun _ h_ => h_.1))) hb); have n5_ := ah.mk (Kd.jW (by (with_reducible repeat (first | apply Kd.fI | apply Kd.fJ | apply Kd.eu)); exact (Kd.dY (Kd.fP (p := ⟨gb708, 5, none⟩) (Kd.fP (p := ⟨gb708, 4, none⟩) (Kd.fP (p := ⟨gb708, 3, none⟩) (Kd.fP (p := ⟨gb708, 2, none⟩) (Kd.fP (p := ⟨gb708, 1, none⟩) (Kd.fP (p := ⟨gb708, 0, none⟩) (Kd.ni HO706.out BK708.out (by decide)) (fun _ hk => hk.2) (.int .i64 t698)) (fun _ hk => hk.2) (.int .i64 t699)) (fun _ hk => hk.2) (.string t700)) (fun _ hk => hk.2) (.slice Ao9018 t701.length co9018)) (fun _ hk => hk.2) (.slice Ao9019 t704.length co9019)) (fun _ hk => hk.2) (.int .i64 t707)) (fun _ h_ => h_.1))) hb); have n6_ := ah.mk (Kd.cO (Kd.mR ho0 (Kd.qb (by (with_reducible repeat (first | apply Kd.fI | apply Kd.fJ | apply Kd.eu)); exact (Kd.dY (Kd.fP (p := ⟨gb708, 5, none⟩) (Kd.fP (p := ⟨gb708, 4, none⟩) (Kd.fP (p := ⟨gb708, 3, none⟩) (Kd.fP (p := ⟨gb708, 2, none⟩) (Kd.fP (p := ⟨gb708, 1, none⟩) (Kd.fP (p := ⟨gb708, 0, none⟩) (Kd.ni HO693.out BK708.out (by decide)) (fun _ hk => hk.2) (.int .i64 t698)) (fun _ hk => hk.2) (.int .i64 t699)) (fun _ hk => hk.2) (.string t700)) (fun _ hk => hk.2) (.slice Ao9018 t701.length co9018)) (fun _ hk => hk.2) (.slice Ao9019 t704.length co9019)) (fun _ hk => hk.2) (.int .i64 t707)) (fun _ h_ => h_.1))))) (aQ BL)); have n7_ := ah.mk (aR (g := gb677) (o := .cells #[.int .i64 FV, .int .i64 FW, .string FX, .slice A0_3 F4.length c0_3, .slice A0_4 F5.length c0_4, .int .i64 F6] 45 (0, 0)) (by (with_reducible repeat (first | refine aG ?_ _ | refine aH ?_ | refine aD ?_ _)); refine dN ?_ NB677_708.out _; (with_reducible repeat (first | refine aG ?_ _ | refine aH ?_ | refine aD ?_ _)); refine dN ?_ NB677_708.out _; (with_reducible repeat (first | refine aG ?_ _ | refine aH ?_ | refine aD ?_ _)); refine dN ?_ NB677_708.out _; (with_reducible repeat (first | refine aG ?_ _ | refine aH ?_ | refine aD ?_ _)); refine dN ?_ NB677_708.out _; (with_reducible repeat (first | refine aG ?_ _ | refine aH ?_ | refine aD ?_ _)); refine dN ?_ NB677_708.out _; (with_reducible repeat (first | refine aG ?_ _ | refine aH ?_ | refine aD ?_ _)); refine dN ?_ NB677_708.out _; (with_reducible repeat (first | refine aG ?_ _ | refine aH ?_ | refine aD ?_ _)); exact BK677.out) hb); have n8_ := ah.mk (aR (g := gb708) (o := .cells #[.int .i64 t698, .int .i64 t699, .string t700, .slice Ao9018 t701.length co9018, .slice Ao9019 t704.length co9019, .int .i64 t707] 49 (0, 0)) (by (with_reducible repeat (first | refine aG ?_ _ | refine aH ?_ | refine aD ?_ _)); refine aY (cs := #[.int .i64 t698, .int .i64 t699, .string t700, .slice Ao9018 t701.length co9018, .slice Ao9019 t704.length co9019, .int .i64 0]) ?_ 5 _ rfl; (with_reducible repeat (first | refine aG ?_ _ | refine aH ?_ | refine aD ?_ _)); refine aY (cs := #[.int .i64 t698, .int .i64 t699, .string t700, .slice Ao9018 t701.length co9018, .slice none 0 0, .int .i64 0]) ?_ 4 _ rfl; (with_reducible repeat (first | refine aG ?_ _ | refine aH ?_ | refine aD ?_ _)); refine aY (cs := #[.int .i64 t698, .int .i64 t699, .string t700, .slice none 0 0, .slice none 0 0, .int .i64 0]) ?_ 3 _ rfl; (with_reducible repeat (first | refine aG ?_ _ | refine aH ?_ | refine aD ?_ _)); refine aY (cs := #[.int .i64 t698, .int .i64 t699, .string (⟨#[]⟩ : ByteArray), .slice none 0 0, .slice none 0 0, .int .i64 0]) ?_ 2 _ rfl; (with_reducible repeat (first | refine aG ?_ _ | refine aH ?_ | refine aD ?_ _)); refine aY (cs := #[.int .i64 t698, .int .i64 0, .string (⟨#[]⟩ : ByteArray), .slice none 0 0, .slice none 0 0, .int .i64 0]) ?_ 1 _ rfl; (with_reducible repeat (first | refine aG ?_ _ | refine aH ?_ | refine aD ?_ _)); refine aY (cs := #[.int .i64 0, .int .i64 0, .string (⟨#[]⟩ : ByteArray), .slice none 0 0, .slice none 0 0, .int .i64 0]) ?_ 0 _ rfl; (with_reducible repeat (first | refine aG ?_ _ | refine aH ?_ | refine aD ?_ _)); exact BK708.out) hb); replace HB := BS (w := w) hb; clear HO686 HO689 HO693 HO696 HO703 HO706 BK677 BK708; have HO686 := n0_; have HO689 := n1_; have HO693 := n2_; have HO696 := n3_; have HO703 := n4_; have HO706 := n5_; have HO711 := n6_; have BK677 := n7_; have BK708 := n8_; clear n0_ n1_ n2_ n3_ n4_ n5_ n6_ n7_ n8_; (try clear hb); (try clear hk); (try clear ho0)) | ((with_reducible refine ay (f := 17) rfl ?_); refine bE (some 49) Tryz.func17 #[.slice A3 l3.length c3] ?_; (with_reducible refine (dA.calls k _ _ l3 t712 _ ?side1 ?side2 A31.out).mono ?_); (case side1 => exact CB HR3); (case side2 => exact HC3.out); rintro e w9021 ⟨v713, rfl, ho0, hb⟩; refine ⟨_, rfl, ?_⟩; have n0_ := ah.mk (Kd.gI (SR HO686) hb); have n3_ := ah.mk (Kd.jR (RR HO696) (Kd.lV ho0) hb); have n4_ := ah.mk (Kd.gI (SR HO703) hb); have n7_ := ah.mk (Kd.cO (Kd.mR ho0 (Kd.qb (RR HO696))) (aQ BL)); replace HO689 := RB HO689 hb; replace HO693 := RB HO693 hb; replace HO706 := RB HO706 hb; replace HO711 := RB HO711 hb; replace BK677 := KB BK677 hb; replace BK708 := KB BK708 hb; replace HB := BS (w := w) hb; clear HO686 HO696 HO703; have HO686 := n0_; have HO696 := n3_; have HO703 := n4_; have HO714 := n7_; clear n0_ n3_ n4_ n7_; (try clear hb); (try clear ho0); obtain ⟨hcz9022_0, hcz9022_1, hcz9022_2, hcz9022_3, hcz9022_4, hcz9022_5, hfz9022_0, hfz9022_1, hfz9022_2, hfz9022_3, hfz9022_4, hfz9022_5⟩ := cz6 BK708.out; obtain ⟨Ao9023, co9023, eo9023⟩ := Kd.dL HO711.out; subst eo9023; obtain ⟨Ao9024, co9024, eo9024⟩ := Kd.dL HO714.out; subst eo9024) | ((with_reducible refine ay (f := 25) rfl ?_); refine bE (some 55) Tryz.func25 #[.agg #[.int .i64 t698, .int .i64 t699, .string t700, .slice Ao9018 t701.length co9018, .slice Ao9019 t704.length co9019, .int .i64 t707], .string a1, .slice Ao9023 t709.length co9023, .slice Ao9024 t712.length co9024, .int .i64 a4] ?_; (with_reducible refine (bZ.calls k t698 t699 t700 _ _ t701 _ _ t704 t707 a1 _ _ t709 _ _ t712 a4 t715 _ ?side1 ?side2 ?side3 ?side4 ?side5 ?side6 ?side7 ?side8 A32.out).mono ?_); (case side1 => repeat (first | exact (Kd.iL HO703.out).2.2 | (with_reducible refine Kd.gy ?_ _) | (with_reducible refine Kd.gD ?_ _) | (with_reducible refine Kd.ig ?_))); (case side2 => exact (Kd.iL HO703.out).2.1); (case side3 => exact CR2 HO706); (case side4 => exact (Kd.bP HO706.out).2.1); (case side5 => exact CR2 HO711); (case side6 => exact (Kd.bP HO711.out).2.1); (case side7 => exact CR2 HO714); (case side8 => exact (Kd.bP HO714.out).2.1); rintro e w9025 ⟨rfl, hb⟩; refine ⟨_, rfl, ?_⟩; have n0_ := ah.mk (Kd.gI (SR HO686) hb); have n4_ := ah.mk (Kd.gI (SR HO703) hb); replace HO689 := RB HO689 hb; replace HO693 := RB HO693 hb; replace HO696 := RB HO696 hb; replace HO706 := RB HO706 hb; replace HO711 := RB HO711 hb; replace HO714 := RB HO714 hb; replace BK677 := KB BK677 hb; replace BK708 := KB BK708 hb; replace HB := BS (w := w) hb; clear HO686 HO703; have HO686 := n0_; have HO703 := n4_; clear n0_ n4_; (try clear hb); refine bU ?_))
     refine Hide.mk ?_
     replace H := H.out
     replace H := ifE H; rcases H with ⟨c33b0, c33b1, H⟩ | ⟨c33, c33b0, c33b1, H⟩
     ·replace H := be H; obtain ⟨⟨t716, t717, t718, t719, t722, t725⟩, A34, H⟩ := H
      dsimp only at H
      replace H := be H; obtain ⟨t726, A35, H⟩ := H
      replace H := ah.mk H
      try go_wp2
      have n0_ := ah.mk (Kd.mU HO686.out)
      have n1_ := ah.mk (Kd.eu HO689.out)
      have n2_ := ah.mk (Kd.eu HO693.out)
      have n3_ := ah.mk (Kd.eu HO696.out)
      have n4_ := ah.mk (Kd.mU HO703.out)
      have n5_ := ah.mk (Kd.eu HO706.out)
      have n6_ := ah.mk (Kd.eu HO711.out)
      have n7_ := ah.mk (Kd.eu HO714.out)
      have n8_ := ah.mk (aH BK677.out)
      have n9_ := ah.mk (aH BK708.out)
      have n10_ := ah.mk (dH HB.out)
      clear HO686
      clear HO689
      clear HO693
      clear HO696
      clear HO703
      clear HO706
      clear HO711
      clear HO714
      clear BK677
      clear BK708
      clear HB
      have HO686 := n0_
      have HO689 := n1_
      have HO693 := n2_
      have HO696 := n3_
      have HO703 := n4_
      have HO706 := n5_
      have HO711 := n6_
      have HO714 := n7_
      have BK677 := n8_
      have BK708 := n9_
      have HB := n10_
      clear n0_ n1_ n2_ n3_ n4_ n5_ n6_ n7_ n8_ n9_ n10_
      refine ji (n := 5) (S := fun w' => w'.cell? ⟨gb708, 0, none⟩ = some (.int .i64 t698) ∧ w'.cell? ⟨gb708, 1, none⟩ = some (.int .i64 t699) ∧ w'.cell? ⟨gb708, 2, none⟩ = some (.string t700) ∧ w'.cell? ⟨gb708, 3, none⟩ = some (.slice Ao9018 t701.length co9018) ∧ w'.cell? ⟨gb708, 4, none⟩ = some (.slice Ao9019 t704.length co9019) ∧ w'.cell? ⟨gb708, 5, none⟩ = some (.int .i64 t707) ∧ w'.cell? ⟨gb677, 0, none⟩ = some (.int .i64 FV) ∧ w'.cell? ⟨gb677, 1, none⟩ = some (.int .i64 FW) ∧ w'.cell? ⟨gb677, 2, none⟩ = some (.string FX) ∧ w'.cell? ⟨gb677, 3, none⟩ = some (.slice A0_3 F4.length c0_3) ∧ w'.cell? ⟨gb677, 4, none⟩ = some (.slice A0_4 F5.length c0_4) ∧ w'.cell? ⟨gb677, 5, none⟩ = some (.int .i64 F6)) (ds := []) #[F,F,F,F,F] (by kernel_rfl) rfl rfl ⟨(ak BK708.out 0).trans rfl, (ak BK708.out 1).trans rfl, (ak BK708.out 2).trans rfl, (ak BK708.out 3).trans rfl, (ak BK708.out 4).trans rfl, (ak BK708.out 5).trans rfl, (ak BK677.out 0).trans rfl, (ak BK677.out 1).trans rfl, (ak BK677.out 2).trans rfl, (ak BK677.out 3).trans rfl, (ak BK677.out 4).trans rfl, (ak BK677.out 5).trans rfl⟩ (fun hHeld => ?_)
      generalize w9025.drew = w9026 at HO686 HO689 HO693 HO696 HO703 HO706 HO711 HO714 BK677 BK708 HB hHeld ⊢
      refine taS (i := 0) (N := some 59) #[T,F,F,F,F] (by kernel_rfl) hHeld ?_
      refine taS (i := 1) (N := some 60) #[T,T,F,F,F] (by kernel_rfl) hHeld ?_
      refine kW (i := 2) (N := some 61) #[T,T,T,F,F] rfl rfl (by kernel_rfl) (by decide) (fun K hK => ?_)
      refine iZ Tryz.func24 #[.agg #[.int .i64 FV, .int .i64 FW, .string FX, .slice A0_3 F4.length c0_3, .slice A0_4 F5.length c0_4, .int .i64 F6]] ?_
      with_reducible refine (iA.calls k FV FW FX _ _ F4 _ _ F5 F6 t716 t717 t718 t719 t722 t725 _ ?side1 ?side2 ?side3 ?side4 A34.out).mono ?_
      (case side1 => exact CB HR0_3)
      (case side2 => exact HC0_3.out)
      (case side3 => exact CB HR0_4)
      (case side4 => exact HC0_4.out)
      rintro e w9027 ⟨v720, v723, rfl, ho0, ho1, hb⟩
      refine ⟨_, rfl, ?_⟩
      have n0_ := ah.mk (Kd.qp (SR HO686) (Kd.zW ho0) hb)
      have n1_ := ah.mk (Kd.jR (RR HO689) (Kd.lV ho1) hb)
      have n2_ := RB HO693 hb
      have n3_ := RB HO696 hb
      have n4_ := ah.mk (Kd.qp (SR HO703) (Kd.zW ho0) hb)
      have n5_ := ah.mk (Kd.jR (RR HO706) (Kd.lV ho1) hb)
      have n6_ := RB HO711 hb
      have n7_ := RB HO714 hb
      have n8_ := ah.mk (Kd.nT (Kd.zX (Kd.zX ho0 (Kd.EU (SR HO686))) (Kd.EU (SR HO703))) (aQ BL))
      have n9_ := ah.mk (Kd.cO (Kd.mR (Kd.mR ho1 (Kd.qb (RR HO689))) (Kd.qb (RR HO706))) (aQ BL))
      have n10_ := KB BK677 hb
      have n11_ := KB BK708 hb
      have n12_ := BS (w := w) hb
      clear HO686
      clear HO689
      clear HO693
      clear HO696
      clear HO703
      clear HO706
      clear HO711
      clear HO714
      clear BK677
      clear BK708
      clear HB
      have HO686 := n0_
      have HO689 := n1_
      have HO693 := n2_
      have HO696 := n3_
      have HO703 := n4_
      have HO706 := n5_
      have HO711 := n6_
      have HO714 := n7_
      have HO721 := n8_
      have HO724 := n9_
      have BK677 := n10_
      have BK708 := n11_
      have HB := n12_
      clear n0_ n1_ n2_ n3_ n4_ n5_ n6_ n7_ n8_ n9_ n10_ n11_ n12_
      (try clear hb)
      (try clear ho0)
      (try clear ho1)
      obtain ⟨Ao9028, co9028, eo9028⟩ := Kd.oI HO721.out
      (first | subst eo9028 | (injection eo9028 with f1_ f2_ f3_; have f4_ := f1_.symm; have f5_ := f3_.symm; clear f1_ f2_ f3_; subst f4_; subst f5_))
      obtain ⟨Ao9029, co9029, eo9029⟩ := Kd.dL HO724.out
      (first | subst eo9029 | (injection eo9029 with f1_ f2_ f3_; have f4_ := f1_.symm; have f5_ := f3_.symm; clear f1_ f2_ f3_; subst f4_; subst f5_))
      refine hK.out _ _ ⟨(ak BK708.out 0).trans rfl, (ak BK708.out 1).trans rfl, (ak BK708.out 2).trans rfl, (ak BK708.out 3).trans rfl, (ak BK708.out 4).trans rfl, (ak BK708.out 5).trans rfl, (ak BK677.out 0).trans rfl, (ak BK677.out 1).trans rfl, (ak BK677.out 2).trans rfl, (ak BK677.out 3).trans rfl, (ak BK677.out 4).trans rfl, (ak BK677.out 5).trans rfl⟩ (fun hHeld => ?_)
      clear hK K
      refine nrm (some 61) ?_
      refine kW (i := 3) (N := some 62) #[T,T,T,T,F] rfl rfl (by kernel_rfl) (by decide) (fun K hK => ?_)
      refine iZ Tryz.func26 #[.agg #[.int .i64 t698, .int .i64 t699, .string t700, .slice Ao9018 t701.length co9018, .slice Ao9019 t704.length co9019, .int .i64 t707], .agg #[.int .i64 t716, .int .i64 t717, .string t718, .slice Ao9028 t719.length co9028, .slice Ao9029 t722.length co9029, .int .i64 t725]] ?_
      with_reducible refine (jK.calls k t698 t699 t700 _ _ t701 _ _ t704 t707 t716 t717 t718 _ _ t719 _ _ t722 t725 _ _ ?side1 ?side2 ?side3 ?side4 ?side5 ?side6 ?side7 ?side8 A35.out).mono ?_
      (case side1 => repeat (first | exact (Kd.iL HO703.out).2.2 | (with_reducible refine Kd.gy ?_ _) | (with_reducible refine Kd.gD ?_ _) | (with_reducible refine Kd.ig ?_)))
      (case side2 => exact (Kd.iL HO703.out).2.1)
      (case side3 => exact CR2 HO706)
      (case side4 => exact (Kd.bP HO706.out).2.1)
      (case side5 => repeat (first | exact (Kd.iL HO721.out).2.2 | (with_reducible refine Kd.gy ?_ _) | (with_reducible refine Kd.gD ?_ _) | (with_reducible refine Kd.ig ?_)))
      (case side6 => exact (Kd.iL HO721.out).2.1)
      (case side7 => exact CR2 HO724)
      (case side8 => exact (Kd.bP HO724.out).2.1)
      rintro e w9030 ⟨rfl, hb⟩
      refine ⟨_, rfl, ?_⟩
      have n0_ := ah.mk (Kd.gI (SR HO686) hb)
      have n1_ := RB HO689 hb
      have n2_ := RB HO693 hb
      have n3_ := RB HO696 hb
      have n4_ := ah.mk (Kd.gI (SR HO703) hb)
      have n5_ := RB HO706 hb
      have n6_ := RB HO711 hb
      have n7_ := RB HO714 hb
      have n8_ := ah.mk (Kd.gI (SR HO721) hb)
      have n9_ := RB HO724 hb
      have n10_ := KB BK677 hb
      have n11_ := KB BK708 hb
      have n12_ := BS (w := w) hb
      clear HO686
      clear HO689
      clear HO693
      clear HO696
      clear HO703
      clear HO706
      clear HO711
      clear HO714
      clear HO721
      clear HO724
      clear BK677
      clear BK708
      clear HB
      have HO686 := n0_
      have HO689 := n1_
      have HO693 := n2_
      have HO696 := n3_
      have HO703 := n4_
      have HO706 := n5_
      have HO711 := n6_
      have HO714 := n7_
      have HO721 := n8_
      have HO724 := n9_
      have BK677 := n10_
      have BK708 := n11_
      have HB := n12_
      clear n0_ n1_ n2_ n3_ n4_ n5_ n6_ n7_ n8_ n9_ n10_ n11_ n12_
      (try clear hb)
      refine hK.out _ _ ⟨(ak BK708.out 0).trans rfl, (ak BK708.out 1).trans rfl, (ak BK708.out 2).trans rfl, (ak BK708.out 3).trans rfl, (ak BK708.out 4).trans rfl, (ak BK708.out 5).trans rfl, (ak BK677.out 0).trans rfl, (ak BK677.out 1).trans rfl, (ak BK677.out 2).trans rfl, (ak BK677.out 3).trans rfl, (ak BK677.out 4).trans rfl, (ak BK677.out 5).trans rfl⟩ (fun hHeld => ?_)
      clear hK K
      refine nrm (some 62) ?_
      replace H := H.out
      replace H := ifB H; rcases H with ⟨rfl, H⟩ | ⟨rfl, H⟩
      ·replace H := be H; obtain ⟨t727, A37, H⟩ := H
       replace H := be H; obtain ⟨t730, A38, H⟩ := H
       replace H := ah.mk H
       refine puS (i := 4) (N := some 63) #[T,T,T,T,T] (by kernel_rfl) ?_
       refine iD (by kernel_rfl) ?_
       go_wp2_with (first | ((with_reducible refine ay (f := 16) rfl ?_); refine bE (some 66) Tryz.func16 #[.slice A2 l2.length c2] ?_; (with_reducible refine (cZ.calls k _ _ l2 t727 _ ?side1 ?side2 A37.out).mono ?_); (case side1 => exact CB HR2); (case side2 => exact HC2.out); rintro e w9031 ⟨v728, rfl, ho0, hb⟩; refine ⟨_, rfl, ?_⟩; have n0_ := ah.mk (Kd.gI (SR HO686) hb); have n2_ := ah.mk (Kd.jR (RR HO693) (Kd.lV ho0) hb); have n4_ := ah.mk (Kd.gI (SR HO703) hb); have n6_ := ah.mk (Kd.jR (RR HO711) (Kd.lV ho0) hb); have n8_ := ah.mk (Kd.gI (SR HO721) hb); have n10_ := ah.mk (Kd.cO (Kd.mR (Kd.mR ho0 (Kd.qb (RR HO693))) (Kd.qb (RR HO711))) (aQ BL)); replace HO689 := RB HO689 hb; replace HO696 := RB HO696 hb; replace HO706 := RB HO706 hb; replace HO714 := RB HO714 hb; replace HO724 := RB HO724 hb; replace BK677 := KB BK677 hb; replace BK708 := KB BK708 hb; replace HB := BS (w := w) hb; clear HO686 HO693 HO703 HO711 HO721; have HO686 := n0_; have HO693 := n2_; have HO703 := n4_; have HO711 := n6_; have HO721 := n8_; have HO729 := n10_; clear n0_ n2_ n4_ n6_ n8_ n10_; (try clear hb); (try clear ho0); obtain ⟨Ao9032, co9032, eo9032⟩ := Kd.dL HO729.out; subst eo9032) | ((with_reducible refine ay (f := 20) rfl ?_); refine bE (some 67) Tryz.func20 #[.slice Ao9023 t709.length co9023, .slice Ao9032 t727.length co9032] ?_; (with_reducible refine (bT.calls k _ _ t709 _ _ t727 _ _ ?side1 ?side2 ?side3 ?side4 A38.out).mono ?_); (case side1 => exact CR2 HO711); (case side2 => exact (Kd.bP HO711.out).2.1); (case side3 => exact CR2 HO729); (case side4 => exact (Kd.bP HO729.out).2.1); rintro e w9033 ⟨rfl, hb⟩; refine ⟨_, rfl, ?_⟩; have n0_ := ah.mk (Kd.gI (SR HO686) hb); have n4_ := ah.mk (Kd.gI (SR HO703) hb); have n8_ := ah.mk (Kd.gI (SR HO721) hb); replace HO689 := RB HO689 hb; replace HO693 := RB HO693 hb; replace HO696 := RB HO696 hb; replace HO706 := RB HO706 hb; replace HO711 := RB HO711 hb; replace HO714 := RB HO714 hb; replace HO724 := RB HO724 hb; replace HO729 := RB HO729 hb; replace BK677 := KB BK677 hb; replace BK708 := KB BK708 hb; replace HB := BS (w := w) hb; clear HO686 HO703 HO721; have HO686 := n0_; have HO703 := n4_; have HO721 := n8_; clear n0_ n4_ n8_; (try clear hb); refine bU ?_))
       refine Hide.mk ?_
       replace H := H.out
       replace H := ifB H; rcases H with ⟨rfl, H⟩ | ⟨rfl, H⟩
       ·replace H := be H; obtain ⟨t731, A40, H⟩ := H
        replace H := be H; obtain ⟨t734, A41, H⟩ := H
        replace H := ah.mk H
        go_wp2_with (first | ((with_reducible refine ay (f := 17) rfl ?_); refine bE (some 71) Tryz.func17 #[.slice A3 l3.length c3] ?_; (with_reducible refine (dA.calls k _ _ l3 t731 _ ?side1 ?side2 A40.out).mono ?_); (case side1 => exact CB HR3); (case side2 => exact HC3.out); rintro e w9034 ⟨v732, rfl, ho0, hb⟩; refine ⟨_, rfl, ?_⟩; have n0_ := ah.mk (Kd.gI (SR HO686) hb); have n3_ := ah.mk (Kd.jR (RR HO696) (Kd.lV ho0) hb); have n4_ := ah.mk (Kd.gI (SR HO703) hb); have n7_ := ah.mk (Kd.jR (RR HO714) (Kd.lV ho0) hb); have n8_ := ah.mk (Kd.gI (SR HO721) hb); have n11_ := ah.mk (Kd.cO (Kd.mR (Kd.mR ho0 (Kd.qb (RR HO696))) (Kd.qb (RR HO714))) (aQ BL)); replace HO689 := RB HO689 hb; replace HO693 := RB HO693 hb; replace HO706 := RB HO706 hb; replace HO711 := RB HO711 hb; replace HO724 := RB HO724 hb; replace HO729 := RB HO729 hb; replace BK677 := KB BK677 hb; replace BK708 := KB BK708 hb; replace HB := BS (w := w) hb; clear HO686 HO696 HO703 HO714 HO721; have HO686 := n0_; have HO696 := n3_; have HO703 := n4_; have HO714 := n7_; have HO721 := n8_; have HO733 := n11_; clear n0_ n3_ n4_ n7_ n8_ n11_; (try clear hb); (try clear ho0); obtain ⟨Ao9035, co9035, eo9035⟩ := Kd.dL HO733.out; subst eo9035) | ((with_reducible refine ay (f := 21) rfl ?_); refine bE (some 72) Tryz.func21 #[.slice Ao9024 t712.length co9024, .slice Ao9035 t731.length co9035] ?_; (with_reducible refine (fq.calls k _ _ t712 _ _ t731 _ _ ?side1 ?side2 ?side3 ?side4 A41.out).mono ?_); (case side1 => exact CR2 HO714); (case side2 => exact (Kd.bP HO714.out).2.1); (case side3 => exact CR2 HO733); (case side4 => exact (Kd.bP HO733.out).2.1); rintro e w' ⟨rfl, ⟨nd, rfl⟩⟩; refine ⟨_, rfl, ?_⟩; refine bU ?_))
        refine Hide.mk ?_
        replace H := H.out
        replace H := ifB H; rcases H with ⟨rfl, H⟩ | ⟨rfl, H⟩
        ·obtain rfl := Option.some.inj H
         try go_wp2
         go_ret
         exact ⟨EWW, BL⟩
        ·obtain rfl := Option.some.inj H
         try go_wp2
         go_ret
         exact ⟨EWW, BL⟩
       ·obtain rfl := Option.some.inj H
        try go_wp2
        go_ret
        exact ⟨EWW, BL⟩
      ·obtain rfl := Option.some.inj H
       refine puS (i := 4) (N := some 63) #[T,T,T,T,T] (by kernel_rfl) ?_
       refine iD (by kernel_rfl) ?_
       try go_wp2
       go_ret
       exact ⟨EWW, BL⟩
     ·obtain rfl := Option.some.inj H
      try go_wp2
      go_ret
      exact ⟨EWW, BL⟩
end Go.Proofs.YtnfiedfaaaphoaaGreat.PFnExactOneRound
