/- Walks of functions: what each computes. -/
import Derived.Test.YtnfiedfaaaphoaaGreatZPuzzleCodeG0
import Derived.Test.YtnfiedfaaaphoaaGreatZPuzzleCodeG10
import Derived.Test.YtnfiedfaaaphoaaGreatZPuzzleCodeG11
import Derived.Test.YtnfiedfaaaphoaaGreatZPuzzleCodeG12
import Derived.Test.YtnfiedfaaaphoaaGreatZPuzzleCodeW
import Derived.Test.YtnfiedfaaaphoaaGreatZPuzzleCodeShelf
import Derived.Test.YtnfiedfaaaphoaaGreatZPuzzleCodeHandSort
import Derived.Test.YtnfiedfaaaphoaaGreatZPuzzleCodeHandForm
import Derived.Test.YtnfiedfaaaphoaaGreatZPuzzleCodeHandAlone
import Derived.Test.YtnfiedfaaaphoaaGreatZPuzzleCodeHandReach
import Derived.Test.YtnfiedfaaaphoaaGreatZPuzzleCodeHandPut
namespace Go.Proofs.YtnfiedfaaaphoaaGreat.PFnExactPuzzleCode
open Go.RowKit Go.Proofs.YtnfiedfaaaphoaaGreatW.PrintWords Go.Proofs.YtnfiedfaaaphoaaGreatW.PrintLast Go.Proofs.YtnfiedfaaaphoaaGreatW.PrintMore Go.Proofs.YtnfiedfaaaphoaaGreat.Sq
attribute [local go_sem] iH iJ jD jC gV gU iK iG
set_option maxHeartbeats 8000000
set_option maxRecDepth 100000
set_option linter.unusedVariables false
set_option linter.unusedSimpArgs false
mutual
def dw.l0 : Nat → List (dI) → List (dI) → Int → Int → Int → Int → ByteArray → Option (Int)
 | 0, _, _, _, _, _, _, _ => none
 | k + 1, a, b, c, d, e, f, g => if d < c then (if 0 ≤ d then (if d < (b.length : Int) then (if ((aM b d).f3) < 3 then (some 4) else (dw.l0 k a b c (wrap64 (d + 1)) e f g)) else (none)) else (none)) else (dw.l1 k a (a.length : Int) 0 e f g)
def dw.l1 : Nat → List (dI) → Int → Int → Int → Int → ByteArray → Option (Int)
 | 0, _, _, _, _, _, _ => none
 | k + 1, a, b, c, d, e, f => if c < b then (if 0 ≤ c then (if c < (a.length : Int) then ((dz.f k d e f c).bind fun g => (if (wrap64 (2 * g)) > ((aM a c).f3) then (some 5) else (dw.l1 k a b (wrap64 (c + 1)) d e f))) else (none)) else (none)) else ((mg.f k d e f f).bind fun h => (if h = true then (some 5) else (some 0)))
end
def dw.f (k : Nat) (EU EW : Int) (EX : ByteArray) : Option (Int) := (bn.f k EU EW EX).bind fun t541 => (if t541 = true then ((dP.f k EU EW EX).bind fun t542 => (if t542 = true then ((iN.f k EU EW EX).bind fun t543 => (if t543 = true then ((aU.f k EU EW EX).bind fun t544 => (dw.l0 k t544 t544 (t544.length : Int) 0 EU EW EX)) else (some 3))) else (some 2))) else (some 1))
theorem dw.calls (k : Nat) (EU EW : Int) (EX : ByteArray) (r : Int) (w : World) (h : dw.f k EU EW EX = some r) :
  Calls Tryz.prog 56 #[.agg #[.int .i64 EU, .int .i64 EW, .string EX]] w fun e w' => e = .returned (.int .i64 r) ∧ Below w.heap.size w w' := by
 have hu32 := Tryz.underlying32
 have hu115 := Tryz.underlying115
 have HB := ah.mk (Below.refl w.heap.size w)
 unfold dw.f at h
 have H := h
 clear h
 replace H := be H; obtain ⟨t541, A2, H⟩ := H
 replace H := ah.mk H
 go_enter Tryz.func56, Tryz.ntmps56
 go_wp2_with (first | ((with_reducible refine aN (N := 1) rfl ?_); refine bC (N := 1) (cs := #[.int .i64 EU, .int .i64 EW, .string EX]) (t := 32) ?_; intro gb540 hg w9000 hbox hb; have BK540 := ah.mk hbox; have GW540 := SZ (w := w) hg; have GE540 := GW540; replace HB := BS (w := w) hb; clear hb hbox hg; obtain ⟨hcz9001_0, hcz9001_1, hcz9001_2, hfz9001_0, hfz9001_1, hfz9001_2⟩ := cz3 BK540.out) | ((with_reducible refine ay (f := 110) rfl ?_); refine bq (some 10) Tryz.func110 #[.agg #[.int .i64 EU, .int .i64 EW, .string EX]] ?_; (with_reducible refine (bn.calls k EU EW EX _ _ A2.out).mono ?_); rintro e w9002 ⟨rfl, hb⟩; refine ⟨_, rfl, ?_⟩; replace BK540 := KB BK540 hb; replace HB := BS (w := w) hb; (try clear hb); obtain ⟨hcz9003_0, hcz9003_1, hcz9003_2, hfz9003_0, hfz9003_1, hfz9003_2⟩ := cz3 BK540.out; refine bP ?_))
 refine Hide.mk ?_
 replace H := H.out
 replace H := ifB H; rcases H with ⟨rfl, H⟩ | ⟨rfl, H⟩
 ·replace H := be H; obtain ⟨t542, A4, H⟩ := H
  replace H := ah.mk H
  go_wp2_with (first | ((with_reducible refine ay (f := 111) rfl ?_); refine bq (some 14) Tryz.func111 #[.agg #[.int .i64 EU, .int .i64 EW, .string EX]] ?_; (with_reducible refine (dP.calls k EU EW EX _ _ A4.out).mono ?_); rintro e w9004 ⟨rfl, hb⟩; refine ⟨_, rfl, ?_⟩; replace BK540 := KB BK540 hb; replace HB := BS (w := w) hb; (try clear hb); obtain ⟨hcz9005_0, hcz9005_1, hcz9005_2, hfz9005_0, hfz9005_1, hfz9005_2⟩ := cz3 BK540.out; refine bP ?_))
  refine Hide.mk ?_
  replace H := H.out
  replace H := ifB H; rcases H with ⟨rfl, H⟩ | ⟨rfl, H⟩
  ·replace H := be H; obtain ⟨t543, A6, H⟩ := H
   replace H := ah.mk H
   go_wp2_with (first | ((with_reducible refine ay (f := 112) rfl ?_); refine bq (some 18) Tryz.func112 #[.agg #[.int .i64 EU, .int .i64 EW, .string EX]] ?_; (with_reducible refine (iN.calls k EU EW EX _ _ A6.out).mono ?_); rintro e w9006 ⟨rfl, hb⟩; refine ⟨_, rfl, ?_⟩; replace BK540 := KB BK540 hb; replace HB := BS (w := w) hb; (try clear hb); obtain ⟨hcz9007_0, hcz9007_1, hcz9007_2, hfz9007_0, hfz9007_1, hfz9007_2⟩ := cz3 BK540.out; refine bP ?_))
   refine Hide.mk ?_
   replace H := H.out
   replace H := ifB H; rcases H with ⟨rfl, H⟩ | ⟨rfl, H⟩
   ·replace H := be H; obtain ⟨t544, A8, H⟩ := H
    have H' := ah.mk H
    clear H
    try go_wp2_with (first | ((with_reducible refine ay (f := 113) rfl ?_); refine bq (some 21) Tryz.func113 #[.agg #[.int .i64 EU, .int .i64 EW, .string EX]] ?_; (with_reducible refine (aU.calls k EU EW EX t544 _ A8.out).mono ?_); rintro e w9008 ⟨v545, rfl, ho0, hb⟩; refine ⟨_, rfl, ?_⟩; have n0_ := ah.mk (Kd.cO ho0 (aQ BL)); replace BK540 := KB BK540 hb; replace HB := BS (w := w) hb; have HO546 := n0_; clear n0_; (try clear hb); (try clear ho0); obtain ⟨Ao9009, co9009, eo9009⟩ := Kd.dH HO546.out; subst eo9009))
    go_loopg [24] k (fun kq v24 w' => ∃ (x24_1 : Int), v24 = .int .i64 x24_1 ∧ ah (dw.l0 kq t544 t544 (t544.length : Int) x24_1 EU EW EX = some r) ∧ ah (kq ≤ k) ∧ ah (Kd.R kX 115 w' w.heap.size (fun _ => True) (.slice Ao9009 t544.length co9009) t544) ∧ ah (Kd.R kX 115 w' w.heap.size (fun _ => True) (.slice Ao9009 t544.length co9009) t544) ∧ ah (w'.heap[gb540]? = some (.cells #[.int .i64 EU, .int .i64 EW, .string EX] 32 (0, 0))) ∧ ah (Below w.heap.size w w'))
    case atStart => exact ⟨(0), EQ, H', ⟨Nat.le_refl _⟩, ⟨(RR HO546)⟩, ⟨(RR HO546)⟩, ⟨BK⟩, ⟨BL⟩⟩
    case round =>
     clear H'
     try clear c3
     try clear c5
     try clear c7
     try clear hcz9001_0
     try clear hcz9001_1
     try clear hcz9001_2
     try clear hcz9003_0
     try clear hcz9003_1
     try clear hcz9003_2
     try clear hcz9005_0
     try clear hcz9005_1
     try clear hcz9005_2
     try clear hcz9007_0
     try clear hcz9007_1
     try clear hcz9007_2
     try clear hfz9001_0
     try clear hfz9001_1
     try clear hfz9001_2
     try clear hfz9003_0
     try clear hfz9003_1
     try clear hfz9003_2
     try clear hfz9005_0
     try clear hfz9005_1
     try clear hfz9005_2
     try clear hfz9007_0
     try clear hfz9007_1
     try clear hfz9007_2
     obtain ⟨x24_1, rfl, HA, HK1, HO_3, HO_22, BK540, HB⟩ := hrel
     cases gk with
     | zero => exact absurd HA.out (by simp [dw.l0])
     | succ k1 =>
      have H := HA.out
      clear HA
      simp only [dw.l0] at H
      replace H := ifD H; rcases H with ⟨c19b0, H⟩ | ⟨c19b0, H⟩
      ·replace H := ifN H; obtain ⟨c20b0, H⟩ := H
       replace H := ifN H; obtain ⟨c21b0, H⟩ := H
       have p547 : 0 ≤ (x24_1 : Int) := OD
       have q547 : x24_1 < (t544.length : Int) := OD
       obtain ⟨ad547, e547, hx547_0, hx547_1, hx547_2, hx547_3⟩ := mX (Kd.bN HO_22.out).2.2 x24_1 p547 q547
       cases e547
       replace p547 := eq_true p547
       replace q547 := eq_true q547
       replace H := ah.mk H
       go_wp2_with (first | ((with_reducible refine aN (N := 5) rfl ?_); refine bC (N := 5) (cs := #[.int .i64 0, .bool false, .int .i64 0, .int .i64 0]) (t := 115) ?_; intro gb548 hg w9010 hbox hb; have n0_ := ah.mk (Kd.lW (Kd.rX (RR HO_3) gb548 (Nat.le_of_eq hg.symm)) hb); have n1_ := ah.mk (Kd.lW (Kd.rX (RR HO_22) gb548 (Nat.le_of_eq hg.symm)) hb); have n2_ := KB BK540 hb; have n3_ := BS (w := w) hb; have n4_ := ah.mk (hbox); have n5_ := SZ (w := w) hg; have n6_ := SZ (w := w) hg; have n7_ := NL BK540 hg; have n8_ := NG BK540 hg; clear HO_3 HO_22 BK540 HB; have HO_3 := n0_; have HO_22 := n1_; have BK540 := n2_; have HB := n3_; have BK548 := n4_; have GW548 := n5_; have GE548 := n6_; have NB540_548 := n7_; have NB548_540 := n8_; clear n0_ n1_ n2_ n3_ n4_ n5_ n6_ n7_ n8_; clear hb hbox hg; have hnb9011 := NB548_540.out; have hnc9011 := NB540_548.out; obtain ⟨hcz9012_0, hcz9012_1, hcz9012_2, hcz9012_3, hfz9012_0, hfz9012_1, hfz9012_2, hfz9012_3⟩ := cz4 BK548.out; refine bP ?_))
       refine Hide.mk ?_
       replace H := H.out
       replace H := ifD H; rcases H with ⟨c22b0, H⟩ | ⟨c22b0, H⟩
       ·obtain rfl := Option.some.inj H
        try go_wp2
        go_ret
        exact ⟨EWW, BL⟩
       ·have H' := ah.mk H
        clear H
        try go_wp2
        go_roundg k1
        case measure => have := HK1.out; omega
        case rel => exact ⟨(wrap64 (x24_1 + 1)), EQ, H', ⟨by have := HK1.out; omega⟩, ⟨by (with_reducible repeat (first | apply Kd.gy | apply Kd.gu | apply Kd.fM)); exact Kd.eF (Kd.jH (p := ⟨gb548, 3, none⟩) (Kd.jH (p := ⟨gb548, 2, none⟩) (Kd.jH (p := ⟨gb548, 1, none⟩) (Kd.jH (p := ⟨gb548, 0, none⟩) (Kd.eF HO_3.out (fun k_ hk => (⟨hk, hk.2⟩ : _ ∧ k_ ≠ gb548))) (fun _ hk => hk.2) (.int .i64 ((aM t544 x24_1).f0))) (fun _ hk => hk.2) (.bool ((aM t544 x24_1).f1))) (fun _ hk => hk.2) (.int .i64 ((aM t544 x24_1).f2))) (fun _ hk => hk.2) (.int .i64 ((aM t544 x24_1).f3))) (fun _ hk => trivial)⟩, ⟨by (with_reducible repeat (first | apply Kd.gy | apply Kd.gu | apply Kd.fM)); exact Kd.eF (Kd.jH (p := ⟨gb548, 3, none⟩) (Kd.jH (p := ⟨gb548, 2, none⟩) (Kd.jH (p := ⟨gb548, 1, none⟩) (Kd.jH (p := ⟨gb548, 0, none⟩) (Kd.eF HO_22.out (fun k_ hk => (⟨hk, hk.2⟩ : _ ∧ k_ ≠ gb548))) (fun _ hk => hk.2) (.int .i64 ((aM t544 x24_1).f0))) (fun _ hk => hk.2) (.bool ((aM t544 x24_1).f1))) (fun _ hk => hk.2) (.int .i64 ((aM t544 x24_1).f2))) (fun _ hk => hk.2) (.int .i64 ((aM t544 x24_1).f3))) (fun _ hk => trivial)⟩, ⟨by (with_reducible repeat (first | refine aG ?_ _ | refine aI ?_ | refine aD ?_ _)); refine fI ?_ NB540_548.out _; (with_reducible repeat (first | refine aG ?_ _ | refine aI ?_ | refine aD ?_ _)); refine fI ?_ NB540_548.out _; (with_reducible repeat (first | refine aG ?_ _ | refine aI ?_ | refine aD ?_ _)); refine fI ?_ NB540_548.out _; (with_reducible repeat (first | refine aG ?_ _ | refine aI ?_ | refine aD ?_ _)); refine fI ?_ NB540_548.out _; (with_reducible repeat (first | refine aG ?_ _ | refine aI ?_ | refine aD ?_ _)); exact BK540.out⟩, ⟨BL⟩⟩
      ·have H' := ah.mk H
       clear H
       go_wp2
       go_loopg [34] k1 (fun kq v34 w' => ∃ (x34_2 : Int), v34 = .int .i64 x34_2 ∧ ah (dw.l1 kq t544 (t544.length : Int) x34_2 EU EW EX = some r) ∧ ah (kq ≤ k1) ∧ ah (Kd.R kX 115 w' w.heap.size (fun _ => True) (.slice Ao9009 t544.length co9009) t544) ∧ ah (w'.heap[gb540]? = some (.cells #[.int .i64 EU, .int .i64 EW, .string EX] 32 (0, 0))) ∧ ah (Below w.heap.size w w'))
       case atStart => exact ⟨(0), EQ, H', ⟨Nat.le_refl _⟩, ⟨(RR HO_3)⟩, ⟨BK⟩, ⟨BL⟩⟩
       case round =>
        clear H'
        try clear c3
        try clear c5
        try clear c7
        try clear c19
        try clear c19b0
        try clear hcz9001_0
        try clear hcz9001_1
        try clear hcz9001_2
        try clear hcz9003_0
        try clear hcz9003_1
        try clear hcz9003_2
        try clear hcz9005_0
        try clear hcz9005_1
        try clear hcz9005_2
        try clear hcz9007_0
        try clear hcz9007_1
        try clear hcz9007_2
        try clear hfz9001_0
        try clear hfz9001_1
        try clear hfz9001_2
        try clear hfz9003_0
        try clear hfz9003_1
        try clear hfz9003_2
        try clear hfz9005_0
        try clear hfz9005_1
        try clear hfz9005_2
        try clear hfz9007_0
        try clear hfz9007_1
        try clear hfz9007_2
        obtain ⟨x34_2, rfl, HA, HK2, HO_32, BK540, HB⟩ := hrel
        cases gk with
        | zero => exact absurd HA.out (by simp [dw.l1])
        | succ k2 =>
         have H := HA.out
         clear HA
         simp only [dw.l1] at H
         replace H := ifD H; rcases H with ⟨c29b0, H⟩ | ⟨c29b0, H⟩
         ·replace H := ifN H; obtain ⟨c30b0, H⟩ := H
          replace H := ifN H; obtain ⟨c31b0, H⟩ := H
          replace H := be H; obtain ⟨t551, A32, H⟩ := H
          have p549 : 0 ≤ (x34_2 : Int) := OD
          have q549 : x34_2 < (t544.length : Int) := OD
          obtain ⟨ad549, e549, hx549_0, hx549_1, hx549_2, hx549_3⟩ := mX (Kd.bN HO_32.out).2.2 x34_2 p549 q549
          cases e549
          replace p549 := eq_true p549
          replace q549 := eq_true q549
          replace H := ah.mk H
          try go_wp2_with (first | ((with_reducible refine aN (N := 7) rfl ?_); refine bC (N := 7) (cs := #[.int .i64 0, .bool false, .int .i64 0, .int .i64 0]) (t := 115) ?_; intro gb550 hg w9010 hbox hb; have n0_ := ah.mk (Kd.lW (Kd.rX (RR HO_32) gb550 (Nat.le_of_eq hg.symm)) hb); have n1_ := KB BK540 hb; have n2_ := BS (w := w) hb; have n3_ := ah.mk (hbox); have n4_ := SZ (w := w) hg; have n5_ := SZ (w := w) hg; have n6_ := NL BK540 hg; have n7_ := NG BK540 hg; clear HO_32 BK540 HB; have HO_32 := n0_; have BK540 := n1_; have HB := n2_; have BK550 := n3_; have GW550 := n4_; have GE550 := n5_; have NB540_550 := n6_; have NB550_540 := n7_; clear n0_ n1_ n2_ n3_ n4_ n5_ n6_ n7_; clear hb hbox hg; have hnb9011 := NB550_540.out; have hnc9011 := NB540_550.out; obtain ⟨hcz9012_0, hcz9012_1, hcz9012_2, hcz9012_3, hfz9012_0, hfz9012_1, hfz9012_2, hfz9012_3⟩ := cz4 BK550.out))
          have n0_ : ah (Kd.R kX 115 ((((w9010.setCell ⟨gb550, 0, none⟩ (.int .i64 ((aM t544 x34_2).f0))).setCell ⟨gb550, 1, none⟩ (.bool ((aM t544 x34_2).f1))).setCell ⟨gb550, 2, none⟩ (.int .i64 ((aM t544 x34_2).f2))).setCell ⟨gb550, 3, none⟩ (.int .i64 ((aM t544 x34_2).f3))) w.heap.size (fun k_ => k_ ≠ gb550) (.slice (some ad549) t544.length co9009) t544) := ⟨by (with_reducible repeat (first | apply Kd.gy | apply Kd.gu | apply Kd.fM)); exact Kd.eF (Kd.jH (p := ⟨gb550, 3, none⟩) (Kd.jH (p := ⟨gb550, 2, none⟩) (Kd.jH (p := ⟨gb550, 1, none⟩) (Kd.jH (p := ⟨gb550, 0, none⟩) (Kd.eF HO_32.out (fun k_ hk => (⟨hk, hk.2⟩ : _ ∧ k_ ≠ gb550))) (fun _ hk => hk.2) (.int .i64 ((aM t544 x34_2).f0))) (fun _ hk => hk.2) (.bool ((aM t544 x34_2).f1))) (fun _ hk => hk.2) (.int .i64 ((aM t544 x34_2).f2))) (fun _ hk => hk.2) (.int .i64 ((aM t544 x34_2).f3))) (fun _ hk => hk.1.2)⟩
          have n1_ : ah (((((w9010.setCell ⟨gb550, 0, none⟩ (.int .i64 ((aM t544 x34_2).f0))).setCell ⟨gb550, 1, none⟩ (.bool ((aM t544 x34_2).f1))).setCell ⟨gb550, 2, none⟩ (.int .i64 ((aM t544 x34_2).f2))).setCell ⟨gb550, 3, none⟩ (.int .i64 ((aM t544 x34_2).f3))).heap[gb540]? = some (.cells #[.int .i64 EU, .int .i64 EW, .string EX] 32 (0, 0))) := ⟨by (with_reducible repeat (first | refine aG ?_ _ | refine aI ?_ | refine aD ?_ _)); refine fI ?_ NB540_550.out _; (with_reducible repeat (first | refine aG ?_ _ | refine aI ?_ | refine aD ?_ _)); refine fI ?_ NB540_550.out _; (with_reducible repeat (first | refine aG ?_ _ | refine aI ?_ | refine aD ?_ _)); refine fI ?_ NB540_550.out _; (with_reducible repeat (first | refine aG ?_ _ | refine aI ?_ | refine aD ?_ _)); refine fI ?_ NB540_550.out _; (with_reducible repeat (first | refine aG ?_ _ | refine aI ?_ | refine aD ?_ _)); exact BK540.out⟩
          have n2_ : ah (((((w9010.setCell ⟨gb550, 0, none⟩ (.int .i64 ((aM t544 x34_2).f0))).setCell ⟨gb550, 1, none⟩ (.bool ((aM t544 x34_2).f1))).setCell ⟨gb550, 2, none⟩ (.int .i64 ((aM t544 x34_2).f2))).setCell ⟨gb550, 3, none⟩ (.int .i64 ((aM t544 x34_2).f3))).heap[gb550]? = some (.cells #[.int .i64 ((aM t544 x34_2).f0), .bool ((aM t544 x34_2).f1), .int .i64 ((aM t544 x34_2).f2), .int .i64 ((aM t544 x34_2).f3)] 115 (0, 0))) := ⟨by (with_reducible repeat (first | refine aG ?_ _ | refine aI ?_ | refine aD ?_ _)); refine aX (cs := #[.int .i64 ((aM t544 x34_2).f0), .bool ((aM t544 x34_2).f1), .int .i64 ((aM t544 x34_2).f2), .int .i64 0]) ?_ 3 _ rfl; (with_reducible repeat (first | refine aG ?_ _ | refine aI ?_ | refine aD ?_ _)); refine aX (cs := #[.int .i64 ((aM t544 x34_2).f0), .bool ((aM t544 x34_2).f1), .int .i64 0, .int .i64 0]) ?_ 2 _ rfl; (with_reducible repeat (first | refine aG ?_ _ | refine aI ?_ | refine aD ?_ _)); refine aX (cs := #[.int .i64 ((aM t544 x34_2).f0), .bool false, .int .i64 0, .int .i64 0]) ?_ 1 _ rfl; (with_reducible repeat (first | refine aG ?_ _ | refine aI ?_ | refine aD ?_ _)); refine aX (cs := #[.int .i64 0, .bool false, .int .i64 0, .int .i64 0]) ?_ 0 _ rfl; (with_reducible repeat (first | refine aG ?_ _ | refine aI ?_ | refine aD ?_ _)); exact BK550.out⟩
          have n3_ : ah (Below w.heap.size w ((((w9010.setCell ⟨gb550, 0, none⟩ (.int .i64 ((aM t544 x34_2).f0))).setCell ⟨gb550, 1, none⟩ (.bool ((aM t544 x34_2).f1))).setCell ⟨gb550, 2, none⟩ (.int .i64 ((aM t544 x34_2).f2))).setCell ⟨gb550, 3, none⟩ (.int .i64 ((aM t544 x34_2).f3)))) := ⟨BL⟩
          (try clear HO_32)
          (try clear BK540)
          (try clear BK550)
          (try clear HB)
          generalize ((((w9010.setCell ⟨gb550, 0, none⟩ (.int .i64 ((aM t544 x34_2).f0))).setCell ⟨gb550, 1, none⟩ (.bool ((aM t544 x34_2).f1))).setCell ⟨gb550, 2, none⟩ (.int .i64 ((aM t544 x34_2).f2))).setCell ⟨gb550, 3, none⟩ (.int .i64 ((aM t544 x34_2).f3))) = w9013 at n0_ n1_ n2_ n3_ ⊢
          have HO_32 := n0_
          have BK540 := n1_
          have BK550 := n2_
          have HB := n3_
          clear n0_ n1_ n2_ n3_
          replace HO_32 := ah.mk (Kd.fM HO_32.out)
          replace BK540 := ah.mk (aI BK540.out)
          replace BK550 := ah.mk (aI BK550.out)
          replace HB := ah.mk (dL HB.out)
          refine ji (n := 7) (S := fun w' => w'.cell? ⟨gb540, 0, none⟩ = some (.int .i64 EU) ∧ w'.cell? ⟨gb540, 1, none⟩ = some (.int .i64 EW) ∧ w'.cell? ⟨gb540, 2, none⟩ = some (.string EX) ∧ w'.cell? ⟨gb550, 0, none⟩ = some (.int .i64 ((aM t544 x34_2).f0)) ∧ w'.cell? ⟨gb550, 1, none⟩ = some (.bool ((aM t544 x34_2).f1)) ∧ w'.cell? ⟨gb550, 2, none⟩ = some (.int .i64 ((aM t544 x34_2).f2)) ∧ w'.cell? ⟨gb550, 3, none⟩ = some (.int .i64 ((aM t544 x34_2).f3))) (ds := []) #[F,F,F,F,F,F,F] (by kernel_rfl) rfl rfl ⟨(av BK540.out 0).trans rfl, (av BK540.out 1).trans rfl, (av BK540.out 2).trans rfl, (av BK550.out 0).trans rfl, (av BK550.out 1).trans rfl, (av BK550.out 2).trans rfl, (av BK550.out 3).trans rfl⟩ (fun hHeld => ?_)
          generalize w9013.drew = w9014 at HO_32 BK540 BK550 HB hHeld ⊢
          refine puS (i := 1) (N := some 40) #[F,T,F,F,F,F,F] (by kernel_rfl) ?_
          refine puS (i := 4) (N := some 43) #[F,T,F,F,T,F,F] (by kernel_rfl) ?_
          refine taS (i := 0) (N := some 39) #[T,T,F,F,T,F,F] (by kernel_rfl) hHeld ?_
          refine taS (i := 5) (N := some 44) #[T,T,F,F,T,T,F] (by kernel_rfl) hHeld ?_
          refine kH (i := 2) (N := some 41) #[T,T,T,F,T,T,F] rfl rfl (by kernel_rfl) (by decide) (fun K hK => ?_)
          refine iU Tryz.func114 #[.agg #[.int .i64 EU, .int .i64 EW, .string EX], .int .i64 x34_2] ?_
          with_reducible refine (dz.calls k2 EU EW EX x34_2 t551 _ A32.out).mono ?_
          rintro e w9015 ⟨rfl, hb⟩
          refine ⟨_, rfl, ?_⟩
          replace HO_32 := RB HO_32 hb
          replace BK540 := KB BK540 hb
          replace BK550 := KB BK550 hb
          replace HB := BS (w := w) hb
          (try clear hb)
          refine hK.out _ _ ⟨(av BK540.out 0).trans rfl, (av BK540.out 1).trans rfl, (av BK540.out 2).trans rfl, (av BK550.out 0).trans rfl, (av BK550.out 1).trans rfl, (av BK550.out 2).trans rfl, (av BK550.out 3).trans rfl⟩ (fun hHeld => ?_)
          clear hK K
          refine nrm (some 41) ?_
          replace H := H.out
          by_cases c33 : (wrap64 (2 * t551)) > ((aM t544 x34_2).f3)
          ·rw [if_pos c33] at H
           have c33b0 : decide (((aM t544 x34_2).f3) < (wrap64 (2 * t551))) = true := decide_eq_true c33
           clear c33
           obtain rfl := Option.some.inj H
           refine puS (i := 3) (N := some 42) #[T,T,T,T,T,T,F] (by kernel_rfl) ?_
           refine puS (i := 6) (N := some 45) #[T,T,T,T,T,T,T] (by kernel_rfl) ?_
           refine gX (by kernel_rfl) ?_
           try go_wp2
           go_ret
           exact ⟨EWW, BL⟩
          ·rw [if_neg c33] at H
           have c33b0 : decide (((aM t544 x34_2).f3) < (wrap64 (2 * t551))) = false := decide_eq_false c33
           clear c33
           have H' := ah.mk H
           clear H
           refine puS (i := 3) (N := some 42) #[T,T,T,T,T,T,F] (by kernel_rfl) ?_
           refine puS (i := 6) (N := some 45) #[T,T,T,T,T,T,T] (by kernel_rfl) ?_
           refine gX (by kernel_rfl) ?_
           try go_wp2
           go_roundg k2
           case measure => have := HK1.out; have := HK2.out; omega
           case rel => exact ⟨(wrap64 (x34_2 + 1)), EQ, H', ⟨by have := HK1.out; have := HK2.out; omega⟩, ⟨by (with_reducible repeat (first | apply Kd.gy | apply Kd.gu | apply Kd.fM)); exact Kd.eF HO_32.out (fun _ hk => trivial)⟩, ⟨BK⟩, ⟨BL⟩⟩
         ·replace H := be H; obtain ⟨t552, A46, H⟩ := H
          obtain ⟨hcz9010_0, hcz9010_1, hcz9010_2, hfz9010_0, hfz9010_1, hfz9010_2⟩ := cz3 BK540.out
          replace H := ah.mk H
          go_wp2_with (first | ((with_reducible refine ay (f := 115) rfl ?_); refine bq (some 50) Tryz.func115 #[.agg #[.int .i64 EU, .int .i64 EW, .string EX], .string EX] ?_; (with_reducible refine (mg.calls k2 EU EW EX EX _ _ A46.out).mono ?_); rintro e w9011 ⟨rfl, hb⟩; refine ⟨_, rfl, ?_⟩; replace HO_32 := RB HO_32 hb; replace BK540 := KB BK540 hb; replace HB := BS (w := w) hb; (try clear hb); refine bP ?_))
          refine Hide.mk ?_
          replace H := H.out
          replace H := ifB H; rcases H with ⟨rfl, H⟩ | ⟨rfl, H⟩
          ·obtain rfl := Option.some.inj H
           try go_wp2
           go_ret
           exact ⟨EWW, BL⟩
          ·obtain rfl := Option.some.inj H
           try go_wp2
           go_ret
           exact ⟨EWW, BL⟩
   ·obtain rfl := Option.some.inj H
    try go_wp2
    go_ret
    exact ⟨EWW, BL⟩
  ·obtain rfl := Option.some.inj H
   try go_wp2
   go_ret
   exact ⟨EWW, BL⟩
 ·obtain rfl := Option.some.inj H
  try go_wp2
  go_ret
  exact ⟨EWW, BL⟩
def kQ.f (k : Nat) (EU EW : Int) (EX a1 : ByteArray) : Option (Bool) := (bY.f k EU EW EX a1).bind fun t554 => (if t554 = true then ((fE.f k a1).bind fun t555 => (some (t555 == 0))) else (some false))
theorem kQ.calls (k : Nat) (EU EW : Int) (EX a1 : ByteArray) (r : Bool) (w : World) (h : kQ.f k EU EW EX a1 = some r) :
  Calls Tryz.prog 57 #[.agg #[.int .i64 EU, .int .i64 EW, .string EX], .string a1] w fun e w' => e = .returned (.bool r) ∧ Below w.heap.size w w' := by
 have hu32 := Tryz.underlying32
 have HB := ah.mk (Below.refl w.heap.size w)
 unfold kQ.f at h
 have H := h
 clear h
 replace H := be H; obtain ⟨t554, A3, H⟩ := H
 replace H := ah.mk H
 go_enter Tryz.func57, Tryz.ntmps57
 go_wp2_with (first | ((with_reducible refine aN (N := 2) rfl ?_); refine bC (N := 2) (cs := #[.int .i64 EU, .int .i64 EW, .string EX]) (t := 32) ?_; intro gb553 hg w9000 hbox hb; have BK553 := ah.mk hbox; have GW553 := SZ (w := w) hg; have GE553 := GW553; replace HB := BS (w := w) hb; clear hb hbox hg; obtain ⟨hcz9001_0, hcz9001_1, hcz9001_2, hfz9001_0, hfz9001_1, hfz9001_2⟩ := cz3 BK553.out) | ((with_reducible refine ay (f := 81) rfl ?_); refine bq (some 7) Tryz.func81 #[.agg #[.int .i64 EU, .int .i64 EW, .string EX], .string a1] ?_; (with_reducible refine (bY.calls k EU EW EX a1 _ _ A3.out).mono ?_); rintro e w9002 ⟨rfl, hb⟩; refine ⟨_, rfl, ?_⟩; replace BK553 := KB BK553 hb; replace HB := BS (w := w) hb; (try clear hb); refine bP ?_))
 refine Hide.mk ?_
 replace H := H.out
 replace H := ifB H; rcases H with ⟨rfl, H⟩ | ⟨rfl, H⟩
 ·replace H := be H; obtain ⟨t555, A5, H⟩ := H
  obtain rfl := Option.some.inj H
  try go_wp2_with (first | (go_at_call 73; (with_reducible refine (fE.calls k a1 t555 _ A5.out).mono ?_); rintro e w' ⟨rfl, ⟨nd, rfl⟩⟩))
  go_ret
  exact ⟨EWW, BL⟩
 ·obtain rfl := Option.some.inj H
  try go_wp2
  go_ret
  exact ⟨EWW, BL⟩
def bF.l0 : Nat → List ByteArray → ByteArray → Int → Int → Option (Int)
 | 0, _, _, _, _ => none
 | k + 1, a, b, c, d => if d < c then (if 0 ≤ d then (if d < (a.length : Int) then (if b.toList = (dD ByteArray.empty a d).toList then (some d) else (bF.l0 k a b c (wrap64 (d + 1)))) else (none)) else (none)) else (some (-1))
def bF.f (k : Nat) (l0 : List ByteArray) (a1 : ByteArray) : Option (Int) := bF.l0 k l0 a1 (l0.length : Int) 0
theorem bF.calls (k : Nat) (A0 : Option Addr) (c0 : Nat) (l0 : List ByteArray) (a1 : ByteArray) (r : Int) (w : World) (hr0 : Kd.C Kd.string w A0 l0.length l0) (hc0 : l0.length ≤ c0) (h : bF.f k l0 a1 = some r) :
  Calls Tryz.prog 167 #[.slice A0 l0.length c0, .string a1] w fun e w' => e = .returned (.int .i64 r) ∧ aC w w' := by
 have HR0 := ah.mk hr0
 have HC0 := ah.mk hc0
 clear hr0 hc0
 unfold bF.f at h
 have H := h
 clear h
 have H' := ah.mk H
 clear H
 go_enter Tryz.func167, Tryz.ntmps167
 go_wp2
 go_loopg [8] k (fun kq v8 w' => ∃ (x8_1 : Int), v8 = .int .i64 x8_1 ∧ ah (bF.l0 kq l0 a1 (l0.length : Int) x8_1 = some r) ∧ ah (kq ≤ k) ∧ aC w w')
 case atStart => exact ⟨(0), EQ, H', ⟨Nat.le_refl _⟩, by repeat (first | exact aC.refl _ | apply aC.step)⟩
 case round =>
  clear H'
  obtain ⟨x8_1, rfl, HA, HK1, ⟨m1, rfl⟩⟩ := hrel
  cases gk with
  | zero => exact absurd HA.out (by simp [bF.l0])
  | succ k1 =>
   have H := HA.out
   clear HA
   simp only [bF.l0] at H
   replace H := ifD H; rcases H with ⟨c3b0, H⟩ | ⟨c3b0, H⟩
   ·replace H := ifN H; obtain ⟨c4b0, H⟩ := H
    replace H := ifN H; obtain ⟨c5b0, H⟩ := H
    have p556 : 0 ≤ (x8_1 : Int) := OD
    have q556 : x8_1 < (l0.length : Int) := OD
    obtain ⟨ad556, e556, hx556_0⟩ := Kd.gG HR0.out x8_1 p556 q556
    cases e556
    replace p556 := eq_true p556
    replace q556 := eq_true q556
    replace H := ifE H; rcases H with ⟨c6b0, c6b1, H⟩ | ⟨c6, c6b0, c6b1, H⟩
    ·obtain rfl := Option.some.inj H
     go_wp2
     go_ret
     exact ⟨by first | rfl | (simp; done) | (simp [*]; done), by repeat (first | exact aC.refl _ | apply aC.step)⟩
    ·have H' := ah.mk H
     clear H
     go_wp2
     go_roundg k1
     case measure => have := HK1.out; omega
     case rel => exact ⟨(wrap64 (x8_1 + 1)), EQ, H', ⟨by have := HK1.out; omega⟩, by repeat (first | exact aC.refl _ | apply aC.step)⟩
   ·obtain rfl := Option.some.inj H
    go_wp2
    go_ret
    exact ⟨by first | rfl | (simp; done) | (simp [*]; done), by repeat (first | exact aC.refl _ | apply aC.step)⟩
def bS.f (k : Nat) (l0 : List ByteArray) (a1 : ByteArray) : Option (Bool) := (bF.f k l0 a1).bind fun t557 => (some (decide (t557 ≥ 0)))
theorem bS.calls (k : Nat) (A0 : Option Addr) (c0 : Nat) (l0 : List ByteArray) (a1 : ByteArray) (r : Bool) (w : World) (hr0 : Kd.C Kd.string w A0 l0.length l0) (hc0 : l0.length ≤ c0) (h : bS.f k l0 a1 = some r) :
  Calls Tryz.prog 117 #[.slice A0 l0.length c0, .string a1] w fun e w' => e = .returned (.bool r) ∧ aC w w' := by
 have HR0 := ah.mk hr0
 have HC0 := ah.mk hc0
 clear hr0 hc0
 unfold bS.f at h
 have H := h
 clear h
 replace H := be H; obtain ⟨t557, A3, H⟩ := H
 obtain rfl := Option.some.inj H
 go_enter Tryz.func117, Tryz.ntmps117
 go_wp2_with (first | ((with_reducible refine ay (f := 167) rfl ?_); refine bq (some 7) Tryz.func167 #[.slice A0 l0.length c0, .string a1] ?_; (with_reducible refine (bF.calls k _ _ l0 a1 t557 _ ?side1 ?side2 A3.out).mono ?_); (case side1 => repeat (first | exact HR0.out | (with_reducible refine Kd.eG ?_ _) | (with_reducible refine Kd.eH ?_ _) | (with_reducible refine Kd.fP ?_))); (case side2 => exact HC0.out); rintro e w' ⟨rfl, ⟨nd, rfl⟩⟩; refine ⟨_, rfl, ?_⟩))
 go_ret
 exact ⟨by first | rfl | (simp; done) | (simp [*]; done), by repeat (first | exact aC.refl _ | apply aC.step)⟩
def gF.l0 : Nat → List ByteArray → List ByteArray → Int → Int → Option (List ByteArray)
 | 0, _, _, _, _ => none
 | k + 1, a, b, c, d => if d < c then (if 0 ≤ d then (if d < (b.length : Int) then ((bS.f k a (dD ByteArray.empty b d)).bind fun e => (if e = true then (gF.l0 k a b c (wrap64 (d + 1))) else (if a.length < 8796093022208 then (gF.l0 k (a ++ [dD ByteArray.empty b d]) b c (wrap64 (d + 1))) else (none)))) else (none)) else (none)) else (some a)
def gF.f (k : Nat) (l0 : List ByteArray) : Option (List ByteArray) := gF.l0 k ([] : List ByteArray) l0 (l0.length : Int) 0
theorem gF.calls (k : Nat) (A0 : Option Addr) (c0 : Nat) (l0 r : List ByteArray) (w : World) (hr0 : Kd.C Kd.string w A0 l0.length l0) (hc0 : l0.length ≤ c0) (h : gF.f k l0 = some r) :
  Calls Tryz.prog 116 #[.slice A0 l0.length c0] w fun e w' => ∃ v0_ : Value, e = .returned (v0_) ∧ Kd.R Kd.string 9 w' w.heap.size (fun _ => True) v0_ r ∧ Below w.heap.size w w' := by
 have HR0 := ah.mk hr0
 have HC0 := ah.mk hc0
 clear hr0 hc0
 have HB := ah.mk (Below.refl w.heap.size w)
 unfold gF.f at h
 have H := h
 clear h
 have H' := ah.mk H
 clear H
 go_enter Tryz.func116, Tryz.ntmps116
 go_wp2
 go_loopg [3, 8] k (fun kq v3 v8 w' => ∃ (x3_1 : List ByteArray) (x8_1 : Int), v8 = .int .i64 x8_1 ∧ ah (gF.l0 kq x3_1 l0 (l0.length : Int) x8_1 = some r) ∧ ah (kq ≤ k) ∧ ah (Kd.R Kd.string 9 w' w.heap.size (fun _ => True) v3 x3_1) ∧ ah (Below w.heap.size w w'))
 case atStart => exact ⟨(([] : List ByteArray)), (0), EQ, H', ⟨Nat.le_refl _⟩, ⟨by first | exact Kd.ni _ _ _ _ _ | exact Kd.pK _ _ _ _ _ | exact Kd.pY _ _ _ _ _ | exact Kd.pV _ _ _ _ _ | exact Kd.pI _ _ _ _ _⟩, ⟨BL⟩⟩
 case round =>
  clear H'
  obtain ⟨x3_1, x8_1, rfl, HA, HK1, HO_3, HB⟩ := hrel
  cases gk with
  | zero => exact absurd HA.out (by simp [gF.l0])
  | succ k1 =>
   have H := HA.out
   clear HA
   simp only [gF.l0] at H
   replace H := ifD H; rcases H with ⟨c2b0, H⟩ | ⟨c2b0, H⟩
   ·replace H := ifN H; obtain ⟨c3b0, H⟩ := H
    replace H := ifN H; obtain ⟨c4b0, H⟩ := H
    replace H := be H; obtain ⟨t559, A5, H⟩ := H
    have p558 : 0 ≤ (x8_1 : Int) := OD
    have q558 : x8_1 < (l0.length : Int) := OD
    obtain ⟨ad558, e558, hx558_0⟩ := Kd.gG HR0.out x8_1 p558 q558
    cases e558
    try replace hx558_0 := (HB.out.cell (World.block_lt_of_cell? w _ hx558_0)).trans hx558_0
    replace p558 := eq_true p558
    replace q558 := eq_true q558
    obtain ⟨Ao7000, co7000, eo7000⟩ := Kd.dH HO_3.out
    subst eo7000
    replace H := ah.mk H
    go_wp2_with (first | ((with_reducible refine ay (f := 117) rfl ?_); refine bq (some 14) Tryz.func117 #[.slice Ao7000 x3_1.length co7000, .string (dD ByteArray.empty l0 x8_1)] ?_; (with_reducible refine (bS.calls k1 _ _ x3_1 (dD ByteArray.empty l0 x8_1) _ _ ?side1 ?side2 A5.out).mono ?_); (case side1 => exact CR2 HO_3); (case side2 => exact (Kd.bN HO_3.out).2.1); rintro e w' ⟨rfl, ⟨nd, rfl⟩⟩; refine ⟨_, rfl, ?_⟩; refine bP ?_))
    refine Hide.mk ?_
    replace H := H.out
    replace H := ifB H; rcases H with ⟨rfl, H⟩ | ⟨rfl, H⟩
    ·have H' := ah.mk H
     clear H
     try go_wp2
     go_roundg k1
     case measure => have := HK1.out; omega
     case rel => exact ⟨(x3_1), (wrap64 (x8_1 + 1)), EQ, H', ⟨by have := HK1.out; omega⟩, ⟨(RR HO_3)⟩, ⟨BL⟩⟩
    ·replace H := ifP H; obtain ⟨c8, H⟩ := H
     have LMc8 := ah.mk c8
     clear c8
     obtain ⟨y560, hy560⟩ : ∃ y_ : List ByteArray, y_ = (x3_1 ++ [dD ByteArray.empty l0 x8_1]) := ⟨_, rfl⟩
     replace H : (gF.l0 k1 y560 l0 (l0.length : Int) (wrap64 (x8_1 + 1))) = some r := by first | (rw [hy560]; with_reducible exact H) | (have H2_ := (Option.bind_some _ _).symm.trans H; rw [hy560]; with_reducible exact H2_) | (have H2_ := (Option.bind_some _ _).symm.trans H; with_reducible exact H2_) | with_reducible exact H | (rw [hy560]; exact H) | exact H
     have Ny560 := ah.mk hy560
     clear hy560
     have H' := ah.mk H
     clear H
     try go_wp2_with (first | ((with_reducible refine dn (b := .append) (xs := #[.tmp 16, .tmp 18]) rfl ?_); at_builtin; refine Kd.fT Kd.string (w0 := w) w.heap.size rfl (.tmp 16) (.tmp 18) 26 9 (.string ⟨#[]⟩) 16 rfl Tryz.underlying26 qX rfl (by decide) (by omega) (.slice Ao7000 x3_1.length co7000) x3_1 (dD ByteArray.empty l0 x8_1) [.string (dD ByteArray.empty l0 x8_1)] (fun _ => True) (fun _ => False) rfl rfl ?aP (fun _ hk => hk.elim) ?aF ?aO ?aB ?aS ?aL ?_; (case aP => exact rfl); (case aB => exact BL); (case aF => exact (fun _ _ => trivial)); (case aO => exact (RR HO_3)); (case aS => exact (aQ BL)); (case aL => have := LMc8.out; omega); intro v561 w7001 ho hb hg hat; rw [← Ny560.out] at ho; have n0_ := ah.mk (hb); have n1_ := ah.mk (ho); clear HB HO_3; have HB := n0_; have HO562 := n1_; clear n0_ n1_; clear ho hb hg hat))
     go_roundg k1
     case measure => have := HK1.out; omega
     case rel => exact ⟨(y560), (wrap64 (x8_1 + 1)), EQ, H', ⟨by have := HK1.out; omega⟩, ⟨(RR HO562)⟩, ⟨BL⟩⟩
   ·obtain rfl := Option.some.inj H
    go_wp2
    go_ret
    exact ⟨_, EWW, (RR HO_3), BL⟩
def jy.f (k : Nat) (l0 : List ByteArray) : Option (Int) := (gF.f k l0).bind fun t563 => (some (wrap64 ((l0.length : Int) - (t563.length : Int))))
theorem jy.calls (k : Nat) (A0 : Option Addr) (c0 : Nat) (l0 : List ByteArray) (r : Int) (w : World) (hr0 : Kd.C Kd.string w A0 l0.length l0) (hc0 : l0.length ≤ c0) (h : jy.f k l0 = some r) :
  Calls Tryz.prog 58 #[.slice A0 l0.length c0] w fun e w' => e = .returned (.int .i64 r) ∧ Below w.heap.size w w' := by
 have HR0 := ah.mk hr0
 have HC0 := ah.mk hc0
 clear hr0 hc0
 have HB := ah.mk (Below.refl w.heap.size w)
 unfold jy.f at h
 have H := h
 clear h
 replace H := be H; obtain ⟨t563, A2, H⟩ := H
 obtain rfl := Option.some.inj H
 go_enter Tryz.func58, Tryz.ntmps58
 go_wp2_with (first | ((with_reducible refine ay (f := 116) rfl ?_); refine bq (some 6) Tryz.func116 #[.slice A0 l0.length c0] ?_; (with_reducible refine (gF.calls k _ _ l0 t563 _ ?side1 ?side2 A2.out).mono ?_); (case side1 => repeat (first | exact HR0.out | (with_reducible refine Kd.eG ?_ _) | (with_reducible refine Kd.eH ?_ _) | (with_reducible refine Kd.fP ?_))); (case side2 => exact HC0.out); rintro e w3 ⟨v564, rfl, ho0, hb⟩; refine ⟨_, rfl, ?_⟩; have n0_ := ah.mk (Kd.cO ho0 (aQ BL)); replace HB := BS (w := w) hb; have HO565 := n0_; clear n0_; (try clear hb); (try clear ho0); obtain ⟨Ao4, co4, eo4⟩ := Kd.dH HO565.out; subst eo4))
 go_ret
 exact ⟨EWW, BL⟩
def jZ.f (k : Nat) (l0 : List ByteArray) (a1 : ByteArray) : Option (Bool) := (bS.f k l0 a1).bind fun t566 => (some t566)
theorem jZ.calls (k : Nat) (A0 : Option Addr) (c0 : Nat) (l0 : List ByteArray) (a1 : ByteArray) (r : Bool) (w : World) (hr0 : Kd.C Kd.string w A0 l0.length l0) (hc0 : l0.length ≤ c0) (h : jZ.f k l0 a1 = some r) :
  Calls Tryz.prog 59 #[.slice A0 l0.length c0, .string a1] w fun e w' => e = .returned (.bool r) ∧ aC w w' := by
 have HR0 := ah.mk hr0
 have HC0 := ah.mk hc0
 clear hr0 hc0
 unfold jZ.f at h
 have H := h
 clear h
 replace H := be H; obtain ⟨t566, A3, H⟩ := H
 obtain rfl := Option.some.inj H
 go_enter Tryz.func59, Tryz.ntmps59
 go_wp2_with (first | ((with_reducible refine ay (f := 117) rfl ?_); refine bq (some 7) Tryz.func117 #[.slice A0 l0.length c0, .string a1] ?_; (with_reducible refine (bS.calls k _ _ l0 a1 t566 _ ?side1 ?side2 A3.out).mono ?_); (case side1 => repeat (first | exact HR0.out | (with_reducible refine Kd.eG ?_ _) | (with_reducible refine Kd.eH ?_ _) | (with_reducible refine Kd.fP ?_))); (case side2 => exact HC0.out); rintro e w' ⟨rfl, ⟨nd, rfl⟩⟩; refine ⟨_, rfl, ?_⟩))
 go_ret
 exact ⟨by first | rfl | (simp; done) | (simp [*]; done), by repeat (first | exact aC.refl _ | apply aC.step)⟩
end Go.Proofs.YtnfiedfaaaphoaaGreat.PFnExactPuzzleCode
