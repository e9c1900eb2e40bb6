/- Walks of functions: what each computes. -/
import Derived.Test.YtnfiedfaaaphoaaGreatZPuzzleCodeG0
import Derived.Test.YtnfiedfaaaphoaaGreatZPuzzleCodeW
import Derived.Test.YtnfiedfaaaphoaaGreatZPuzzleCodeShelf
import Derived.Test.YtnfiedfaaaphoaaGreatZPuzzleCodeHandSort
import Derived.Test.YtnfiedfaaaphoaaGreatZPuzzleCodeHandForm
import Derived.Test.YtnfiedfaaaphoaaGreatZPuzzleCodeHandAlone
import Derived.Test.YtnfiedfaaaphoaaGreatZPuzzleCodeHandReach
import Derived.Test.YtnfiedfaaaphoaaGreatZPuzzleCodeHandPut
namespace Go.Proofs.YtnfiedfaaaphoaaGreat.PFnExactPuzzleCode
open Go.RowKit Go.Proofs.YtnfiedfaaaphoaaGreatW.PrintWords Go.Proofs.YtnfiedfaaaphoaaGreatW.PrintLast Go.Proofs.YtnfiedfaaaphoaaGreatW.PrintMore Go.Proofs.YtnfiedfaaaphoaaGreat.Sq
attribute [local go_sem] iH iJ jD jC gV gU iK iG
set_option maxHeartbeats 8000000
set_option maxRecDepth 100000
set_option linter.unusedVariables false
set_option linter.unusedSimpArgs false
mutual
def aY.j0 : Nat → Int → Int → Int → Int → Int → Int → ByteArray → Option (Int)
 | 0, _, _, _, _, _, _, _ => none
 | k + 1, a, b, c, d, e, f, g => if 0 ≤ a then (if a < (g.size : Int) then (if (bt g a) = 46 then (if c > 0 then (if 0 ≤ (wrap64 (a - b)) then (if (wrap64 (a - b)) < (g.size : Int) then (aY.j1 k a b c d ((bt g (wrap64 (a - b))) == 46) e f g) else (none)) else (none)) else (aY.j1 k a b c d false e f g)) else (aY.j1 k a b c d true e f g)) else (none)) else (none)
def aY.j1 : Nat → Int → Int → Int → Int → Bool → Int → Int → ByteArray → Option (Int)
 | 0, _, _, _, _, _, _, _, _ => none
 | k + 1, a, b, c, d, e, f, g, h => if e = true then (some 0) else (aY.l0 k a b c d 0 f g h)
def aY.l0 : Nat → Int → Int → Int → Int → Int → Int → Int → ByteArray → Option (Int)
 | 0, _, _, _, _, _, _, _, _ => none
 | k + 1, a, b, c, d, e, f, g, h => if (wrap64 (c + e)) < d then (if 0 ≤ (wrap64 (a + (wrap64 (e * b)))) then (if (wrap64 (a + (wrap64 (e * b)))) < (h.size : Int) then (if (bt h (wrap64 (a + (wrap64 (e * b))))) = 46 then (aY.l0 k a b c d (wrap64 (e + 1)) f g h) else (some e)) else (none)) else (none)) else (some e)
end
def aY.f (k : Nat) (EU EW : Int) (EX : ByteArray) (a1 : Int) (a2 : Bool) : Option (Int) := if EW = 0 then (none) else (if a2 = true then (aY.j0 k a1 EW (wrap64 (Int.tdiv a1 EW)) EU EU EW EX) else (aY.j0 k a1 1 (Int.tmod a1 EW) EW EU EW EX))
theorem aY.calls (k : Nat) (EU EW : Int) (EX : ByteArray) (a1 : Int) (a2 : Bool) (r : Int) (w : World) (h : aY.f k EU EW EX a1 a2 = some r) :
  Calls Tryz.prog 101 #[.agg #[.int .i64 EU, .int .i64 EW, .string EX], .int .i64 a1, .bool a2] w fun e w' => e = .returned (.int .i64 r) ∧ Below w.heap.size w w' := by
 have hu32 := Tryz.underlying32
 have HB := ah.mk (Below.refl w.heap.size w)
 unfold aY.f at h
 have H := h
 clear h
 by_cases c4 : EW = 0
 ·rw [if_pos c4] at H
  exact absurd H (by simp)
 ·rw [if_neg c4] at H
  have c4b0 : (EW == 0) = false := beq_eq_false_iff_ne.mpr c4
  have c4b1 : (EW != 0) = true := bne_iff_ne.mpr c4
  have HC5 := ah.mk H
  clear H
  go_enter Tryz.func101, Tryz.ntmps101
  go_upto_if 17 with (first | ((with_reducible refine aN (N := 3) rfl ?_); refine bC (N := 3) (cs := #[.int .i64 EU, .int .i64 EW, .string EX]) (t := 32) ?_; intro gb116 hg w9000 hbox hb; have BK116 := ah.mk hbox; have GW116 := SZ (w := w) hg; have GE116 := GW116; replace HB := BS (w := w) hb; clear hb hbox hg; obtain ⟨hcz9001_0, hcz9001_1, hcz9001_2, hfz9001_0, hfz9001_1, hfz9001_2⟩ := cz3 BK116.out))
  (try simp only [Act.put, List.setIfInBounds_toArray, List.set_cons_zero, List.set_cons_succ])
  go_cut [7, 8, 9] (fun v7 v8 v9 wc => ∃ (kq : Nat) (x7_4 : Int) (x8_4 : Int) (x9_4 : Int), v7 = .int .i64 x7_4 ∧ v8 = .int .i64 x8_4 ∧ v9 = .int .i64 x9_4 ∧ ah (aY.j0 kq a1 x7_4 x8_4 x9_4 EU EW EX = some r) ∧ ah (kq ≤ k) ∧ ah (wc.heap[gb116]? = some (.cells #[.int .i64 EU, .int .i64 EW, .string EX] 32 (0, 0))) ∧ ah (Below w.heap.size w wc))
  case first =>
   have H := HC5.out
   clear HC5
   by_cases c8 : a2 = true
   ·subst c8
    rw [if_pos rfl] at H
    have H' := ah.mk H
    clear H
    obtain ⟨hcz9002_0, hcz9002_1, hcz9002_2, hfz9002_0, hfz9002_1, hfz9002_2⟩ := cz3 BK116.out
    go_wp2
    go_meet
    case rel => exact ⟨_, (EW), (wrap64 (Int.tdiv a1 EW)), (EU), EQ, EQ, EQ, H', ⟨by first | omega | exact Nat.le_refl _⟩, ⟨BK⟩, ⟨BL⟩⟩
   ·replace c8 := Bool.eq_false_iff.mpr c8
    subst c8
    rw [if_neg Bool.false_ne_true] at H
    have H' := ah.mk H
    clear H
    go_wp2
    go_meet
    case rel => exact ⟨_, (1), (Int.tmod a1 EW), (EW), EQ, EQ, EQ, H', ⟨by first | omega | exact Nat.le_refl _⟩, ⟨BK⟩, ⟨BL⟩⟩
  case rest =>
   clear HC5
   try clear c4
   try clear c4b0
   try clear c4b1
   try clear hcz9001_0
   try clear hcz9001_1
   try clear hcz9001_2
   try clear hfz9001_0
   try clear hfz9001_1
   try clear hfz9001_2
   obtain ⟨kq, x7_4, x8_4, x9_4, rfl, rfl, rfl, HA, HJ4, BK116, HB⟩ := hcut
   cases kq with
   | zero => exact absurd HA.out (by simp [aY.j0])
   | succ kj4 =>
    have H := HA.out
    clear HA
    simp only [aY.j0] at H
    have HC10 := ah.mk H
    clear H
    go_upto_region 8 with (fail)
    go_cut [43] (fun v43 wc => ∃ (kq : Nat) (x43_9 : Bool), v43 = .bool x43_9 ∧ ah (aY.j1 kq a1 x7_4 x8_4 x9_4 x43_9 EU EW EX = some r) ∧ ah (kq ≤ kj4) ∧ ah (wc.heap[gb116]? = some (.cells #[.int .i64 EU, .int .i64 EW, .string EX] 32 (0, 0))) ∧ ah (Below w.heap.size w wc))
    case first =>
     have H := HC10.out
     clear HC10
     replace H := ifN H; obtain ⟨c11b0, H⟩ := H
     (first | rw [c11b0] | (simp only [iV, jQ]; rw [c11b0]) | skip)
     replace H := ifN H; obtain ⟨c12b0, H⟩ := H
     obtain ⟨hcz9003_0, hcz9003_1, hcz9003_2, hfz9003_0, hfz9003_1, hfz9003_2⟩ := cz3 BK116.out
     have p13 : (0 ≤ (a1 : Int)) = True := OT
     have q13 : (a1 < (EX.size : Int)) = True := OT
     have hx13 := gI EX a1
     replace H := ifE H; rcases H with ⟨c14b0, c14b1, H⟩ | ⟨c14, c14b0, c14b1, H⟩
     ·by_cases c15 : x8_4 > 0
      ·rw [if_pos c15] at H
       have c15b0 : decide (0 < x8_4) = true := decide_eq_true c15
       clear c15
       obtain ⟨ji16, hji16⟩ : ∃ j_ : Int, (wrap64 (a1 - x7_4)) = j_ := ⟨_, rfl⟩
       replace H : (if 0 ≤ (ji16) then (if (ji16) < (EX.size : Int) then (aY.j1 kj4 a1 x7_4 x8_4 x9_4 ((bt EX (ji16)) == 46) EU EW EX) else (none)) else (none)) = some r := by first | (rw [hji16] at H; exact H) | (simp only [hji16] at H ⊢; exact H)
       have hji16w : (IntKind.i64.wrap (a1 - x7_4)) = ji16 := (iV _).trans hji16
       replace H := ifN H; obtain ⟨c17b0, H⟩ := H
       replace H := ifN H; obtain ⟨c18b0, H⟩ := H
       have H' := ah.mk H
       clear H
       have p19 : (0 ≤ ((ji16) : Int)) = True := OT
       have q19 : ((ji16) < (EX.size : Int)) = True := OT
       have hx19 := gI EX (ji16)
       go_wp2
       go_meet
       case rel => exact ⟨_, (((bt EX (ji16)) == 46)), (by first | rfl | (simp; done) | (simp only [← hji16] <;> (first | rfl | simp)) | (simp [*]; done)), H', ⟨by have := HJ4.out; first | omega | exact Nat.le_refl _⟩, ⟨BK⟩, ⟨BL⟩⟩
      ·rw [if_neg c15] at H
       have c15b0 : decide (0 < x8_4) = false := decide_eq_false c15
       clear c15
       have H' := ah.mk H
       clear H
       go_wp2
       go_meet
       case rel => exact ⟨_, (false), EQ, H', ⟨by have := HJ4.out; first | omega | exact Nat.le_refl _⟩, ⟨BK⟩, ⟨BL⟩⟩
     ·have H' := ah.mk H
      clear H
      go_wp2
      go_meet
      case rel => exact ⟨_, (true), EQ, H', ⟨by have := HJ4.out; first | omega | exact Nat.le_refl _⟩, ⟨BK⟩, ⟨BL⟩⟩
    case rest =>
     clear HC10
     try clear c4
     try clear c4b0
     try clear c4b1
     try clear hcz9001_0
     try clear hcz9001_1
     try clear hcz9001_2
     try clear hfz9001_0
     try clear hfz9001_1
     try clear hfz9001_2
     obtain ⟨kq, x43_9, rfl, HA, HJ9, BK116, HB⟩ := hcut
     cases kq with
     | zero => exact absurd HA.out (by simp [aY.j1])
     | succ kj9 =>
      have H := HA.out
      clear HA
      simp only [aY.j1] at H
      replace H := ifB H; rcases H with ⟨rfl, H⟩ | ⟨rfl, H⟩
      ·obtain rfl := Option.some.inj H
       go_wp2
       go_ret
       exact ⟨EWW, BL⟩
      ·have H' := ah.mk H
       clear H
       go_wp2
       go_loopg [10] kj9 (fun kq v10 w' => ∃ (x10_3 : Int), v10 = .int .i64 x10_3 ∧ ah (aY.l0 kq a1 x7_4 x8_4 x9_4 x10_3 EU EW EX = some r) ∧ ah (kq ≤ kj9) ∧ ah (w'.heap[gb116]? = some (.cells #[.int .i64 EU, .int .i64 EW, .string EX] 32 (0, 0))) ∧ ah (Below w.heap.size w w'))
       case atStart => exact ⟨(0), EQ, H', ⟨Nat.le_refl _⟩, ⟨BK⟩, ⟨BL⟩⟩
       case round =>
        clear H'
        try clear c4
        try clear c4b0
        try clear c4b1
        try clear c23
        try clear hcz9001_0
        try clear hcz9001_1
        try clear hcz9001_2
        try clear hfz9001_0
        try clear hfz9001_1
        try clear hfz9001_2
        obtain ⟨x10_3, rfl, HA, HK3, BK116, HB⟩ := hrel
        cases gk with
        | zero => exact absurd HA.out (by simp [aY.l0])
        | succ k3 =>
         have H := HA.out
         clear HA
         simp only [aY.l0] at H
         replace H := ifD H; rcases H with ⟨c24b0, H⟩ | ⟨c24b0, H⟩
         ·obtain ⟨ji25, hji25⟩ : ∃ j_ : Int, (wrap64 (a1 + (wrap64 (x10_3 * x7_4)))) = j_ := ⟨_, rfl⟩
          replace H : (if 0 ≤ (ji25) then (if (ji25) < (EX.size : Int) then (if (bt EX (ji25)) = 46 then (aY.l0 k3 a1 x7_4 x8_4 x9_4 (wrap64 (x10_3 + 1)) EU EW EX) else (some x10_3)) else (none)) else (none)) = some r := by first | (rw [hji25] at H; exact H) | (simp only [hji25] at H ⊢; exact H)
          have hji25w : (IntKind.i64.wrap (a1 + (wrap64 (x10_3 * x7_4)))) = ji25 := (iV _).trans hji25
          replace H := ifN H; obtain ⟨c26b0, H⟩ := H
          replace H := ifN H; obtain ⟨c27b0, H⟩ := H
          obtain ⟨hcz9004_0, hcz9004_1, hcz9004_2, hfz9004_0, hfz9004_1, hfz9004_2⟩ := cz3 BK116.out
          have p28 : (0 ≤ ((ji25) : Int)) = True := OT
          have q28 : ((ji25) < (EX.size : Int)) = True := OT
          have hx28 := gI EX (ji25)
          replace H := ifE H; rcases H with ⟨c29b0, c29b1, H⟩ | ⟨c29, c29b0, c29b1, H⟩
          ·have H' := ah.mk H
           clear H
           go_wp2
           go_roundg k3
           case measure => have := HJ4.out; have := HJ9.out; have := HK3.out; omega
           case rel => exact ⟨(wrap64 (x10_3 + 1)), EQ, H', ⟨by have := HJ4.out; have := HJ9.out; have := HK3.out; omega⟩, ⟨BK⟩, ⟨BL⟩⟩
          ·obtain rfl := Option.some.inj H
           go_wp2
           go_ret
           exact ⟨by first | rfl | (simp [lN, lJ] <;> rfl) | (simp only [← hji25]; first | rfl | (simp [lN, lJ] <;> rfl)) | (simp [*, lN, lJ] <;> rfl), BL⟩
         ·obtain rfl := Option.some.inj H
          go_wp2
          go_ret
          exact ⟨EWW, BL⟩
mutual
def aR.l0 : Nat → List (dI) → Int → Int → Int → Int → ByteArray → Option ((List (dI)))
 | 0, _, _, _, _, _, _ => none
 | k + 1, a, b, c, d, e, f => if c < (f.size : Int) then ((bI.f k d e f).bind fun g => (aR.j1 k a b c g d e f)) else (aR.j1 k a b c false d e f)
def aR.j1 : Nat → List (dI) → Int → Int → Bool → Int → Int → ByteArray → Option ((List (dI)))
 | 0, _, _, _, _, _, _, _ => none
 | k + 1, a, b, c, d, e, f, g => if d = true then ((aY.f k e f g c false).bind fun h => ((aY.f k e f g c true).bind fun i => (if h ≥ 2 then (aR.j2 k a b c h i true e f g) else (aR.j2 k a b c h i (decide (i ≥ 2)) e f g)))) else (some a)
def aR.j2 : Nat → List (dI) → Int → Int → Int → Int → Bool → Int → Int → ByteArray → Option ((List (dI)))
 | 0, _, _, _, _, _, _, _, _, _ => none
 | k + 1, a, b, c, d, e, f, g, h, i => if f = true then (aR.j3 k a (wrap64 (b + 1)) c d e g h i) else (aR.j3 k a b c d e g h i)
def aR.j3 : Nat → List (dI) → Int → Int → Int → Int → Int → Int → ByteArray → Option ((List (dI)))
 | 0, _, _, _, _, _, _, _, _ => none
 | k + 1, a, b, c, d, e, f, g, h => if d ≥ 2 then (if a.length < 4398046511104 then ((some (a ++ [(⟨b, false, c, d⟩ : dI)] : List (dI))).bind fun i => (if e ≥ 2 then (if i.length < 4398046511104 then (aR.l0 k (i ++ [(⟨b, true, c, e⟩ : dI)]) b (wrap64 (c + 1)) f g h) else (none)) else (aR.l0 k i b (wrap64 (c + 1)) f g h))) else (none)) else (if e ≥ 2 then (if a.length < 4398046511104 then (aR.l0 k (a ++ [(⟨b, true, c, e⟩ : dI)]) b (wrap64 (c + 1)) f g h) else (none)) else (aR.l0 k a b (wrap64 (c + 1)) f g h))
end
def aR.f (k : Nat) (EU EW : Int) (EX : ByteArray) : Option ((List (dI))) := aR.l0 k (([] : List (dI))) 0 0 EU EW EX
theorem aR.calls (k : Nat) (EU EW : Int) (EX : ByteArray) (r : List (dI)) (w : World) (h : aR.f k EU EW EX = some r) :
  Calls Tryz.prog 49 #[.agg #[.int .i64 EU, .int .i64 EW, .string EX]] w fun e w' => ∃ v0_ : Value, e = .returned (v0_) ∧ Kd.R kX 115 w' w.heap.size (fun _ => True) v0_ r ∧ Below w.heap.size w w' := by
 have hu32 := Tryz.underlying32
 have hu115 := Tryz.underlying115
 have HB := ah.mk (Below.refl w.heap.size w)
 unfold aR.f at h
 have H := h
 clear h
 obtain ⟨y118, hy118⟩ : ∃ y_ : List (dI), y_ = (([] : List (dI))) := ⟨_, rfl⟩
 replace H : (aR.l0 k y118 0 0 EU EW EX) = some r := by first | (rw [hy118]; with_reducible exact H) | (have H2_ := (Option.bind_some _ _).symm.trans H; rw [hy118]; with_reducible exact H2_) | (have H2_ := (Option.bind_some _ _).symm.trans H; with_reducible exact H2_) | with_reducible exact H | (rw [hy118]; exact H) | exact H
 have Ny118 := ah.mk hy118
 clear hy118
 have H' := ah.mk H
 clear H
 go_enter Tryz.func49, Tryz.ntmps49
 go_wp2_with (first | ((with_reducible refine aN (N := 1) rfl ?_); refine bC (N := 1) (cs := #[.int .i64 EU, .int .i64 EW, .string EX]) (t := 32) ?_; intro gb117 hg w2 hbox hb; have BK117 := ah.mk hbox; have GW117 := SZ (w := w) hg; have GE117 := GW117; replace HB := BS (w := w) hb; clear hb hbox hg) | ((with_reducible refine aN (N := 8) rfl ?_); refine Kd.oq kX _ 115 ?hg (N := 8) ?hd (xs := ([] : List (dI))) (inner := []) (ok := fun _ => True) (okp := fun _ => True) ?hr ?hp (fun _ hk => hk) trivial (Below.refl _ _) (Nat.le_refl _) (by simp) ?_; (case hd => rfl); (case hg => rfl); (case hr => first | (go_simp; done) | (go_simp; rfl)); (case hp => exact (gD.none _ _)); intro v119 w3 ho4 hb hg_ hnew_; clear hg_ hnew_; (first | rw [← Ny118.out] at ho4 | (simp only [Int.reduceToNat] at ho4; rw [← Ny118.out] at ho4)); have n0_ := ah.mk (Kd.cO ho4 (aQ BL)); replace BK117 := KB BK117 hb; replace HB := BS (w := w) hb; have HO120 := n0_; clear n0_; clear hb ho4))
 go_loopg [3, 4, 5] k (fun kq v3 v4 v5 w' => ∃ (x3_1 : List (dI)) (x4_1 : Int) (x5_1 : Int), v4 = .int .i64 x4_1 ∧ v5 = .int .i64 x5_1 ∧ ah (aR.l0 kq x3_1 x4_1 x5_1 EU EW EX = some r) ∧ ah (kq ≤ k) ∧ ah (Kd.R kX 115 w' w.heap.size (fun _ => True) v3 x3_1) ∧ ah (w'.heap[gb117]? = some (.cells #[.int .i64 EU, .int .i64 EW, .string EX] 32 (0, 0))) ∧ ah (Below w.heap.size w w'))
 case atStart => exact ⟨(y118), (0), (0), EQ, EQ, H', ⟨Nat.le_refl _⟩, ⟨(RR HO120)⟩, ⟨BK⟩, ⟨BL⟩⟩
 case round =>
  clear H'
  obtain ⟨x3_1, x4_1, x5_1, rfl, rfl, HA, HK1, HO_3, BK117, HB⟩ := hrel
  cases gk with
  | zero => exact absurd HA.out (by simp [aR.l0])
  | succ k1 =>
   have H := HA.out
   clear HA
   simp only [aR.l0] at H
   have HC5 := ah.mk H
   clear H
   go_upto_region 4 with (fail)
   go_cut [17] (fun v17 wc => ∃ (kq : Nat) (x17_4 : Bool), v17 = .bool x17_4 ∧ ah (aR.j1 kq x3_1 x4_1 x5_1 x17_4 EU EW EX = some r) ∧ ah (kq ≤ k1) ∧ ah (Kd.R kX 115 wc w.heap.size (fun _ => True) u3 x3_1) ∧ ah (wc.heap[gb117]? = some (.cells #[.int .i64 EU, .int .i64 EW, .string EX] 32 (0, 0))) ∧ ah (Below w.heap.size w wc))
   case first =>
    have H := HC5.out
    clear HC5
    obtain ⟨hcz6000_0, hcz6000_1, hcz6000_2, hfz6000_0, hfz6000_1, hfz6000_2⟩ := cz3 BK117.out
    replace H := ifD H; rcases H with ⟨c6b0, H⟩ | ⟨c6b0, H⟩
    ·(first | rw [c6b0] | (simp only [iV, jQ]; rw [c6b0]) | skip)
     replace H := be H; obtain ⟨t121, A7, H⟩ := H
     have H' := ah.mk H
     clear H
     go_wp2_with (first | (go_at_call 96; (with_reducible refine (bI.calls k1 EU EW EX t121 _ A7.out).mono ?_); rintro e w6001 ⟨rfl, hb⟩; replace HO_3 := RB HO_3 hb; replace BK117 := KB BK117 hb; replace HB := BS (w := w) hb; (try clear hb); (try clear hb2); (try clear hk); (try clear hi)))
     go_meet
     case rel => exact ⟨_, (t121), EQ, H', ⟨by have := HK1.out; first | omega | exact Nat.le_refl _⟩, ⟨(RR HO_3)⟩, ⟨BK⟩, ⟨BL⟩⟩
    ·(first | rw [c6b0] | (simp only [iV, jQ]; rw [c6b0]) | skip)
     have H' := ah.mk H
     clear H
     go_wp2
     go_meet
     case rel => exact ⟨_, (false), EQ, H', ⟨by have := HK1.out; first | omega | exact Nat.le_refl _⟩, ⟨(RR HO_3)⟩, ⟨BK⟩, ⟨BL⟩⟩
   case rest =>
    clear HC5
    obtain ⟨kq, x17_4, rfl, HA, HJ4, HO_3, BK117, HB⟩ := hcut
    cases kq with
    | zero => exact absurd HA.out (by simp [aR.j1])
    | succ kj4 =>
     have H := HA.out
     clear HA
     simp only [aR.j1] at H
     replace H := ifB H; rcases H with ⟨rfl, H⟩ | ⟨rfl, H⟩
     ·replace H := be H; obtain ⟨t122, A12, H⟩ := H
      replace H := be H; obtain ⟨t123, A13, H⟩ := H
      have HC14 := ah.mk H
      clear H
      obtain ⟨hcz5000_0, hcz5000_1, hcz5000_2, hfz5000_0, hfz5000_1, hfz5000_2⟩ := cz3 BK117.out
      go_upto_region 8 with (first | ((with_reducible refine ay (f := 101) rfl ?_); refine bq (some 22) Tryz.func101 #[.agg #[.int .i64 EU, .int .i64 EW, .string EX], .int .i64 x5_1, .bool false] ?_; (with_reducible refine (aY.calls kj4 EU EW EX x5_1 false t122 _ A12.out).mono ?_); rintro e w5001 ⟨rfl, hb⟩; refine ⟨_, rfl, ?_⟩; replace HO_3 := RB HO_3 hb; replace BK117 := KB BK117 hb; replace HB := BS (w := w) hb; (try clear hb); obtain ⟨hcz5002_0, hcz5002_1, hcz5002_2, hfz5002_0, hfz5002_1, hfz5002_2⟩ := cz3 BK117.out) | ((with_reducible refine ay (f := 101) rfl ?_); refine bq (some 25) Tryz.func101 #[.agg #[.int .i64 EU, .int .i64 EW, .string EX], .int .i64 x5_1, .bool true] ?_; (with_reducible refine (aY.calls kj4 EU EW EX x5_1 true t123 _ A13.out).mono ?_); rintro e w5003 ⟨rfl, hb⟩; refine ⟨_, rfl, ?_⟩; replace HO_3 := RB HO_3 hb; replace BK117 := KB BK117 hb; replace HB := BS (w := w) hb; (try clear hb)))
      (try simp only [Act.put, List.setIfInBounds_toArray, List.set_cons_zero, List.set_cons_succ])
      go_cut [31] (fun v31 wc => ∃ (kq : Nat) (x31_13 : Bool), v31 = .bool x31_13 ∧ ah (aR.j2 kq x3_1 x4_1 x5_1 t122 t123 x31_13 EU EW EX = some r) ∧ ah (kq ≤ kj4) ∧ ah (Kd.R kX 115 wc w.heap.size (fun _ => True) u3 x3_1) ∧ ah (wc.heap[gb117]? = some (.cells #[.int .i64 EU, .int .i64 EW, .string EX] 32 (0, 0))) ∧ ah (Below w.heap.size w wc))
      case first =>
       have H := HC14.out
       clear HC14
       by_cases c19 : t122 ≥ 2
       ·rw [if_pos c19] at H
        have c19b0 : decide (2 ≤ t122) = true := decide_eq_true c19
        clear c19
        (first | rw [c19b0] | (simp only [iV, jQ]; rw [c19b0]) | skip)
        have H' := ah.mk H
        clear H
        go_wp2
        go_meet
        case rel => exact ⟨_, (true), EQ, H', ⟨by have := HK1.out; have := HJ4.out; first | omega | exact Nat.le_refl _⟩, ⟨(RR HO_3)⟩, ⟨BK⟩, ⟨BL⟩⟩
       ·rw [if_neg c19] at H
        have c19b0 : decide (2 ≤ t122) = false := decide_eq_false c19
        clear c19
        (first | rw [c19b0] | (simp only [iV, jQ]; rw [c19b0]) | skip)
        have H' := ah.mk H
        clear H
        go_wp2
        go_meet
        case rel => exact ⟨_, (decide (t123 ≥ 2)), EQ, H', ⟨by have := HK1.out; have := HJ4.out; first | omega | exact Nat.le_refl _⟩, ⟨(RR HO_3)⟩, ⟨BK⟩, ⟨BL⟩⟩
      case rest =>
       clear HC14
       try clear c11
       try clear hcz5000_0
       try clear hcz5000_1
       try clear hcz5000_2
       try clear hcz5002_0
       try clear hcz5002_1
       try clear hcz5002_2
       try clear hfz5000_0
       try clear hfz5000_1
       try clear hfz5000_2
       try clear hfz5002_0
       try clear hfz5002_1
       try clear hfz5002_2
       obtain ⟨kq, x31_13, rfl, HA, HJ13, HO_3, BK117, HB⟩ := hcut
       cases kq with
       | zero => exact absurd HA.out (by simp [aR.j2])
       | succ kj13 =>
        have H := HA.out
        clear HA
        simp only [aR.j2] at H
        have HC20 := ah.mk H
        clear H
        go_upto_if 31 with (fail)
        go_cut [4] (fun v4 wc => ∃ (kq : Nat) (x4_19 : Int), v4 = .int .i64 x4_19 ∧ ah (aR.j3 kq x3_1 x4_19 x5_1 t122 t123 EU EW EX = some r) ∧ ah (kq ≤ kj13) ∧ ah (Kd.R kX 115 wc w.heap.size (fun _ => True) u3 x3_1) ∧ ah (wc.heap[gb117]? = some (.cells #[.int .i64 EU, .int .i64 EW, .string EX] 32 (0, 0))) ∧ ah (Below w.heap.size w wc))
        case first =>
         have H := HC20.out
         clear HC20
         replace H := ifB H; rcases H with ⟨rfl, H⟩ | ⟨rfl, H⟩
         ·have H' := ah.mk H
          clear H
          go_wp2
          go_meet
          case rel => exact ⟨_, (wrap64 (x4_1 + 1)), EQ, H', ⟨by have := HK1.out; have := HJ4.out; have := HJ13.out; first | omega | exact Nat.le_refl _⟩, ⟨(RR HO_3)⟩, ⟨BK⟩, ⟨BL⟩⟩
         ·have H' := ah.mk H
          clear H
          go_wp2
          go_meet
          case rel => exact ⟨_, (x4_1), EQ, H', ⟨by have := HK1.out; have := HJ4.out; have := HJ13.out; first | omega | exact Nat.le_refl _⟩, ⟨(RR HO_3)⟩, ⟨BK⟩, ⟨BL⟩⟩
        case rest =>
         clear HC20
         try clear c11
         try clear hcz5000_0
         try clear hcz5000_1
         try clear hcz5000_2
         try clear hcz5002_0
         try clear hcz5002_1
         try clear hcz5002_2
         try clear hfz5000_0
         try clear hfz5000_1
         try clear hfz5000_2
         try clear hfz5002_0
         try clear hfz5002_1
         try clear hfz5002_2
         obtain ⟨kq, x4_19, rfl, HA, HJ19, HO_3, BK117, HB⟩ := hcut
         cases kq with
         | zero => exact absurd HA.out (by simp [aR.j3])
         | succ kj19 =>
          have H := HA.out
          clear HA
          simp only [aR.j3] at H
          by_cases c22 : t122 ≥ 2
          ·rw [if_pos c22] at H
           have c22b0 : decide (2 ≤ t122) = true := decide_eq_true c22
           clear c22
           replace H := ifP H; obtain ⟨c23, H⟩ := H
           have LMc23 := ah.mk c23
           clear c23
           obtain ⟨y124, hy124⟩ : ∃ y_ : List (dI), y_ = (x3_1 ++ [(⟨x4_19, false, x5_1, t122⟩ : dI)]) := ⟨_, rfl⟩
           replace H : (if t123 ≥ 2 then (if y124.length < 4398046511104 then (aR.l0 kj19 (y124 ++ [(⟨x4_19, true, x5_1, t123⟩ : dI)]) x4_19 (wrap64 (x5_1 + 1)) EU EW EX) else (none)) else (aR.l0 kj19 y124 x4_19 (wrap64 (x5_1 + 1)) EU EW EX)) = some r := by first | (rw [hy124]; with_reducible exact H) | (have H2_ := (Option.bind_some _ _).symm.trans H; rw [hy124]; with_reducible exact H2_) | (have H2_ := (Option.bind_some _ _).symm.trans H; with_reducible exact H2_) | with_reducible exact H | (rw [hy124]; exact H) | exact H
           have Ny124 := ah.mk hy124
           clear hy124
           replace H := ah.mk H
           go_wp2_with (first | ((with_reducible refine dn (b := .append) (xs := #[.tmp 36, .tmp 41]) rfl ?_); at_builtin; refine Kd.fT kX (w0 := w) w.heap.size rfl (.tmp 36) (.tmp 41) 75 115 (.agg #[(.int .i64 0), (.bool false), (.int .i64 0), (.int .i64 0)]) 32 rfl Tryz.underlying75 qm rfl (by decide) (by omega) u3 x3_1 (⟨x4_19, false, x5_1, t122⟩ : dI) [.int .i64 x4_19, .bool false, .int .i64 x5_1, .int .i64 t122] (fun _ => True) (fun _ => False) rfl rfl ?aP (fun _ hk => hk.elim) ?aF ?aO ?aB ?aS ?aL ?_; (case aP => exact nX _ _ _ (⟨x4_19, false, x5_1, t122⟩ : dI)); (case aB => exact BL); (case aF => exact (fun _ _ => trivial)); (case aO => exact (RR HO_3)); (case aS => exact (aQ BL)); (case aL => have := LMc23.out; omega); intro v125 w5004 ho hb hg hat; rw [← Ny124.out] at ho; have n0_ := ah.mk (dK (g := gb117) (o := .cells #[.int .i64 EU, .int .i64 EW, .string EX] 32 (0, 0)) BK hg (Kd.lq HO_3.out BK117.out (by decide))); have n1_ := ah.mk (hb); have n2_ := ah.mk (ho); clear BK117 HB HO_3; have BK117 := n0_; have HB := n1_; have HO126 := n2_; clear n0_ n1_ n2_; clear ho hb hg hat; refine bP ?_))
           refine Hide.mk ?_
           replace H := H.out
           by_cases c24 : t123 ≥ 2
           ·rw [if_pos c24] at H
            have c24b0 : decide (2 ≤ t123) = true := decide_eq_true c24
            clear c24
            replace H := ifP H; obtain ⟨c25, H⟩ := H
            have LMc25 := ah.mk c25
            clear c25
            obtain ⟨y127, hy127⟩ : ∃ y_ : List (dI), y_ = (y124 ++ [(⟨x4_19, true, x5_1, t123⟩ : dI)]) := ⟨_, rfl⟩
            replace H : (aR.l0 kj19 y127 x4_19 (wrap64 (x5_1 + 1)) EU EW EX) = some r := by first | (rw [hy127]; with_reducible exact H) | (have H2_ := (Option.bind_some _ _).symm.trans H; rw [hy127]; with_reducible exact H2_) | (have H2_ := (Option.bind_some _ _).symm.trans H; with_reducible exact H2_) | with_reducible exact H | (rw [hy127]; exact H) | exact H
            have Ny127 := ah.mk hy127
            clear hy127
            have H' := ah.mk H
            clear H
            try go_wp2_with (first | ((with_reducible refine dn (b := .append) (xs := #[.tmp 45, .tmp 50]) rfl ?_); at_builtin; refine Kd.fT kX (w0 := w) w.heap.size rfl (.tmp 45) (.tmp 50) 75 115 (.agg #[(.int .i64 0), (.bool false), (.int .i64 0), (.int .i64 0)]) 32 rfl Tryz.underlying75 qm rfl (by decide) (by omega) v125 y124 (⟨x4_19, true, x5_1, t123⟩ : dI) [.int .i64 x4_19, .bool true, .int .i64 x5_1, .int .i64 t123] (fun _ => True) (fun _ => False) rfl rfl ?aP (fun _ hk => hk.elim) ?aF ?aO ?aB ?aS ?aL ?_; (case aP => exact nX _ _ _ (⟨x4_19, true, x5_1, t123⟩ : dI)); (case aB => exact BL); (case aF => exact (fun _ _ => trivial)); (case aO => exact (RR HO126)); (case aS => exact (aQ BL)); (case aL => have := LMc25.out; omega); intro v128 w5005 ho hb hg hat; rw [← Ny127.out] at ho; have n0_ := ah.mk (dK (g := gb117) (o := .cells #[.int .i64 EU, .int .i64 EW, .string EX] 32 (0, 0)) BK hg (Kd.lq HO126.out BK117.out (by decide))); have n1_ := ah.mk (hb); have n2_ := ah.mk (ho); clear BK117 HB HO126; have BK117 := n0_; have HB := n1_; have HO129 := n2_; clear n0_ n1_ n2_; clear ho hb hg hat))
            go_roundg kj19
            case measure => have := HK1.out; have := HJ4.out; have := HJ13.out; have := HJ19.out; omega
            case rel => exact ⟨(y127), (x4_19), (wrap64 (x5_1 + 1)), EQ, EQ, H', ⟨by have := HK1.out; have := HJ4.out; have := HJ13.out; have := HJ19.out; omega⟩, ⟨(RR HO129)⟩, ⟨BK⟩, ⟨BL⟩⟩
           ·rw [if_neg c24] at H
            have c24b0 : decide (2 ≤ t123) = false := decide_eq_false c24
            clear c24
            have H' := ah.mk H
            clear H
            try go_wp2
            go_roundg kj19
            case measure => have := HK1.out; have := HJ4.out; have := HJ13.out; have := HJ19.out; omega
            case rel => exact ⟨(y124), (x4_19), (wrap64 (x5_1 + 1)), EQ, EQ, H', ⟨by have := HK1.out; have := HJ4.out; have := HJ13.out; have := HJ19.out; omega⟩, ⟨(RR HO126)⟩, ⟨BK⟩, ⟨BL⟩⟩
          ·rw [if_neg c22] at H
           have c22b0 : decide (2 ≤ t122) = false := decide_eq_false c22
           clear c22
           by_cases c29 : t123 ≥ 2
           ·rw [if_pos c29] at H
            have c29b0 : decide (2 ≤ t123) = true := decide_eq_true c29
            clear c29
            replace H := ifP H; obtain ⟨c30, H⟩ := H
            have LMc30 := ah.mk c30
            clear c30
            obtain ⟨y130, hy130⟩ : ∃ y_ : List (dI), y_ = (x3_1 ++ [(⟨x4_19, true, x5_1, t123⟩ : dI)]) := ⟨_, rfl⟩
            replace H : (aR.l0 kj19 y130 x4_19 (wrap64 (x5_1 + 1)) EU EW EX) = some r := by first | (rw [hy130]; with_reducible exact H) | (have H2_ := (Option.bind_some _ _).symm.trans H; rw [hy130]; with_reducible exact H2_) | (have H2_ := (Option.bind_some _ _).symm.trans H; with_reducible exact H2_) | with_reducible exact H | (rw [hy130]; exact H) | exact H
            have Ny130 := ah.mk hy130
            clear hy130
            have H' := ah.mk H
            clear H
            go_wp2_with (first | ((with_reducible refine dn (b := .append) (xs := #[.tmp 45, .tmp 50]) rfl ?_); at_builtin; refine Kd.fT kX (w0 := w) w.heap.size rfl (.tmp 45) (.tmp 50) 75 115 (.agg #[(.int .i64 0), (.bool false), (.int .i64 0), (.int .i64 0)]) 32 rfl Tryz.underlying75 qm rfl (by decide) (by omega) u3 x3_1 (⟨x4_19, true, x5_1, t123⟩ : dI) [.int .i64 x4_19, .bool true, .int .i64 x5_1, .int .i64 t123] (fun _ => True) (fun _ => False) rfl rfl ?aP (fun _ hk => hk.elim) ?aF ?aO ?aB ?aS ?aL ?_; (case aP => exact nX _ _ _ (⟨x4_19, true, x5_1, t123⟩ : dI)); (case aB => exact BL); (case aF => exact (fun _ _ => trivial)); (case aO => exact (RR HO_3)); (case aS => exact (aQ BL)); (case aL => have := LMc30.out; omega); intro v131 w5004 ho hb hg hat; rw [← Ny130.out] at ho; have n0_ := ah.mk (dK (g := gb117) (o := .cells #[.int .i64 EU, .int .i64 EW, .string EX] 32 (0, 0)) BK hg (Kd.lq HO_3.out BK117.out (by decide))); have n1_ := ah.mk (hb); have n2_ := ah.mk (ho); clear BK117 HB HO_3; have BK117 := n0_; have HB := n1_; have HO132 := n2_; clear n0_ n1_ n2_; clear ho hb hg hat))
            go_roundg kj19
            case measure => have := HK1.out; have := HJ4.out; have := HJ13.out; have := HJ19.out; omega
            case rel => exact ⟨(y130), (x4_19), (wrap64 (x5_1 + 1)), EQ, EQ, H', ⟨by have := HK1.out; have := HJ4.out; have := HJ13.out; have := HJ19.out; omega⟩, ⟨(RR HO132)⟩, ⟨BK⟩, ⟨BL⟩⟩
           ·rw [if_neg c29] at H
            have c29b0 : decide (2 ≤ t123) = false := decide_eq_false c29
            clear c29
            have H' := ah.mk H
            clear H
            go_wp2
            go_roundg kj19
            case measure => have := HK1.out; have := HJ4.out; have := HJ13.out; have := HJ19.out; omega
            case rel => exact ⟨(x3_1), (x4_19), (wrap64 (x5_1 + 1)), EQ, EQ, H', ⟨by have := HK1.out; have := HJ4.out; have := HJ13.out; have := HJ19.out; omega⟩, ⟨(RR HO_3)⟩, ⟨BK⟩, ⟨BL⟩⟩
     ·obtain rfl := Option.some.inj H
      go_wp2
      go_ret
      exact ⟨_, EWW, (RR HO_3), BL⟩
theorem Dm (d : Nat) (w : World) (x0 y0 : Int) (x1 y1 : Int) (x2 y2 : ByteArray) :
  (Op.equalIn (d + 2) 32 (.agg #[.int .i64 x0, .int .i64 x1, .string x2]) (.agg #[.int .i64 y0, .int .i64 y1, .string y2])).run Tryz.prog w = .ok (x0 == y0 && (x1 == y1 && (x2.toList == y2.toList))) w := by
 refine zm Tryz.underlying32 (by kernel_rfl) ?_
 refine oh (by rfl) (by go_simp; rfl) (by go_simp; rfl) (by go_simp) ?_
 refine oh (by rfl) (by go_simp; rfl) (by go_simp; rfl) (by go_simp) ?_
 exact wJ (by rfl) (by go_simp; rfl) (by go_simp; rfl) (by go_simp)
mutual
def bK.j0 : Nat → ByteArray → Bool → Int → Int → ByteArray → Option (Bool)
 | 0, _, _, _, _, _ => none
 | k + 1, a, b, c, d, e => if b = true then (some false) else (bK.l0 k a 0 c d e)
def bK.l0 : Nat → ByteArray → Int → Int → Int → ByteArray → Option (Bool)
 | 0, _, _, _, _, _ => none
 | k + 1, a, b, c, d, e => if b < (a.size : Int) then (if 0 ≤ b then (if (bt a b) = 63 then (if b < (e.size : Int) then (if (bt e b) = 35 then (if (bt a b) = 35 then (if (bt e b) = 46 then (bK.l0 k a (wrap64 (b + 1)) c d e) else (bK.l0 k a (wrap64 (b + 1)) c d e)) else (some false)) else (if (bt e b) = 46 then (bK.l0 k a (wrap64 (b + 1)) c d e) else (bK.l0 k a (wrap64 (b + 1)) c d e))) else (none)) else (if (bt a b) ≥ 97 then (if b < (e.size : Int) then (if (bt e b) = 35 then (if (bt a b) = 35 then (if (bt e b) = 46 then (if ((bt a b) ≤ 122) then (bK.l0 k a (wrap64 (b + 1)) c d e) else (some false)) else (bK.l0 k a (wrap64 (b + 1)) c d e)) else (some false)) else (if (bt e b) = 46 then (if ((bt a b) ≤ 122) then (bK.l0 k a (wrap64 (b + 1)) c d e) else (some false)) else (bK.l0 k a (wrap64 (b + 1)) c d e))) else (none)) else (if b < (e.size : Int) then (if (bt e b) = 35 then (if (bt a b) = 35 then (if (bt e b) = 46 then (some false) else (bK.l0 k a (wrap64 (b + 1)) c d e)) else (some false)) else (if (bt e b) = 46 then (some false) else (bK.l0 k a (wrap64 (b + 1)) c d e))) else (none)))) else (none)) else (some true)
end
def bK.f (k : Nat) (EU EW : Int) (EX a1 : ByteArray) : Option (Bool) := (bI.f k EU EW EX).bind fun t134 => (if t134 = true then (bK.j0 k a1 ((a1.size : Int) != (EX.size : Int)) EU EW EX) else (bK.j0 k a1 true EU EW EX))
theorem bK.calls (k : Nat) (EU EW : Int) (EX a1 : ByteArray) (r : Bool) (w : World) (h : bK.f k EU EW EX a1 = some r) :
  Calls Tryz.prog 65 #[.agg #[.int .i64 EU, .int .i64 EW, .string EX], .string a1] w fun e w' => e = .returned (.bool r) ∧ Below w.heap.size w w' := by
 have hu32 := Tryz.underlying32
 have HB := ah.mk (Below.refl w.heap.size w)
 unfold bK.f at h
 have H := h
 clear h
 have HC3 := ah.mk H
 clear H
 go_enter Tryz.func65, Tryz.ntmps65
 go_upto_region 1 with (first | ((with_reducible refine aN (N := 2) rfl ?_); (try (refine jX (by rfl) ?_; dsimp only)); refine bC (N := 2) (cs := #[.int .i64 EU, .int .i64 EW, .string EX]) (t := 32) ?_; intro gb133 hg w4 hbox hb; have BK133 := ah.mk hbox; have GW133 := SZ (w := w) hg; have GE133 := GW133; replace HB := BS (w := w) hb; clear hb hbox hg))
 (try simp only [Act.put, List.setIfInBounds_toArray, List.set_cons_zero, List.set_cons_succ])
 go_cut [17] (fun v17 wc => ∃ (kq : Nat) (x17_2 : Bool), v17 = .bool x17_2 ∧ ah (bK.j0 kq a1 x17_2 EU EW EX = some r) ∧ ah (kq ≤ k) ∧ ah (wc.heap[gb133]? = some (.cells #[.int .i64 EU, .int .i64 EW, .string EX] 32 (0, 0))) ∧ ah (Below w.heap.size w wc))
 case first =>
  have H := HC3.out
  clear HC3
  replace H := be H; obtain ⟨t134, A5, H⟩ := H
  obtain ⟨hcz8000_0, hcz8000_1, hcz8000_2, hfz8000_0, hfz8000_1, hfz8000_2⟩ := cz3 BK133.out
  replace H := ah.mk H
  go_wp2_with (first | ((with_reducible refine ay (f := 96) rfl ?_); refine bq (some 8) Tryz.func96 #[.agg #[.int .i64 EU, .int .i64 EW, .string EX]] ?_; (with_reducible refine (bI.calls k EU EW EX _ _ A5.out).mono ?_); rintro e w8001 ⟨rfl, hb⟩; refine ⟨_, rfl, ?_⟩; replace BK133 := KB BK133 hb; replace HB := BS (w := w) hb; (try clear hb); obtain ⟨hcz8002_0, hcz8002_1, hcz8002_2, hfz8002_0, hfz8002_1, hfz8002_2⟩ := cz3 BK133.out; refine bP ?_))
  refine Hide.mk ?_
  replace H := H.out
  replace H := ifB H; rcases H with ⟨rfl, H⟩ | ⟨rfl, H⟩
  ·have H' := ah.mk H
   clear H
   try go_wp2
   go_meet
   case rel => exact ⟨_, (((a1.size : Int) != (EX.size : Int))), EQ, H', ⟨by first | omega | exact Nat.le_refl _⟩, ⟨BK⟩, ⟨BL⟩⟩
  ·have H' := ah.mk H
   clear H
   try go_wp2
   go_meet
   case rel => exact ⟨_, (true), EQ, H', ⟨by first | omega | exact Nat.le_refl _⟩, ⟨BK⟩, ⟨BL⟩⟩
 case rest =>
  clear HC3
  obtain ⟨kq, x17_2, rfl, HA, HJ2, BK133, HB⟩ := hcut
  cases kq with
  | zero => exact absurd HA.out (by simp [bK.j0])
  | succ kj2 =>
   have H := HA.out
   clear HA
   simp only [bK.j0] at H
   replace H := ifB H; rcases H with ⟨rfl, H⟩ | ⟨rfl, H⟩
   ·obtain rfl := Option.some.inj H
    go_wp2
    go_ret
    exact ⟨EWW, BL⟩
   ·have H' := ah.mk H
    clear H
    go_wp2
    go_loopg [5] kj2 (fun kq v5 w' => ∃ (x5_2 : Int), v5 = .int .i64 x5_2 ∧ ah (bK.l0 kq a1 x5_2 EU EW EX = some r) ∧ ah (kq ≤ kj2) ∧ ah (w'.heap[gb133]? = some (.cells #[.int .i64 EU, .int .i64 EW, .string EX] 32 (0, 0))) ∧ ah (Below w.heap.size w w'))
    case atStart => exact ⟨(0), EQ, H', ⟨Nat.le_refl _⟩, ⟨BK⟩, ⟨BL⟩⟩
    case round =>
     clear H'
     try clear c12
     obtain ⟨x5_2, rfl, HA, HK2, BK133, HB⟩ := hrel
     cases gk with
     | zero => exact absurd HA.out (by simp [bK.l0])
     | succ k2 =>
      have H := HA.out
      clear HA
      simp only [bK.l0] at H
      replace H := ifD H; rcases H with ⟨c13b0, H⟩ | ⟨c13b0, H⟩
      ·replace H := ifN H; obtain ⟨c14b0, H⟩ := H
       replace H := ifE H; rcases H with ⟨c16b0, c16b1, H⟩ | ⟨c16, c16b0, c16b1, H⟩
       ·replace H := ifN H; obtain ⟨c17b0, H⟩ := H
        have p15 : (0 ≤ (x5_2 : Int)) = True := OT
        have q15 : (x5_2 < (a1.size : Int)) = True := OT
        have hx15 := gI a1 x5_2
        obtain ⟨hcz7000_0, hcz7000_1, hcz7000_2, hfz7000_0, hfz7000_1, hfz7000_2⟩ := cz3 BK133.out
        have p18 : (0 ≤ (x5_2 : Int)) = True := OT
        have q18 : (x5_2 < (EX.size : Int)) = True := OT
        have hx18 := gI EX x5_2
        replace H := ifE H; rcases H with ⟨c19b0, c19b1, H⟩ | ⟨c19, c19b0, c19b1, H⟩
        ·have p20 : (0 ≤ (x5_2 : Int)) = True := OT
         have q20 : (x5_2 < (a1.size : Int)) = True := OT
         have hx20 := gI a1 x5_2
         replace H := ifE H; rcases H with ⟨c21b0, c21b1, H⟩ | ⟨c21, c21b0, c21b1, H⟩
         ·have p22 : (0 ≤ (x5_2 : Int)) = True := OT
          have q22 : (x5_2 < (EX.size : Int)) = True := OT
          have hx22 := gI EX x5_2
          replace H := ifE H; rcases H with ⟨c23b0, c23b1, H⟩ | ⟨c23, c23b0, c23b1, H⟩
          ·have H' := ah.mk H
           clear H
           go_wp2
           go_roundg k2
           case measure => have := HJ2.out; have := HK2.out; omega
           case rel => exact ⟨(wrap64 (x5_2 + 1)), EQ, H', ⟨by have := HJ2.out; have := HK2.out; omega⟩, ⟨BK⟩, ⟨BL⟩⟩
          ·have H' := ah.mk H
           clear H
           go_wp2
           go_roundg k2
           case measure => have := HJ2.out; have := HK2.out; omega
           case rel => exact ⟨(wrap64 (x5_2 + 1)), EQ, H', ⟨by have := HJ2.out; have := HK2.out; omega⟩, ⟨BK⟩, ⟨BL⟩⟩
         ·obtain rfl := Option.some.inj H
          go_wp2
          go_ret
          exact ⟨EWW, BL⟩
        ·have p27 : (0 ≤ (x5_2 : Int)) = True := OT
         have q27 : (x5_2 < (EX.size : Int)) = True := OT
         have hx27 := gI EX x5_2
         replace H := ifE H; rcases H with ⟨c28b0, c28b1, H⟩ | ⟨c28, c28b0, c28b1, H⟩
         ·have H' := ah.mk H
          clear H
          go_wp2
          go_roundg k2
          case measure => have := HJ2.out; have := HK2.out; omega
          case rel => exact ⟨(wrap64 (x5_2 + 1)), EQ, H', ⟨by have := HJ2.out; have := HK2.out; omega⟩, ⟨BK⟩, ⟨BL⟩⟩
         ·have H' := ah.mk H
          clear H
          go_wp2
          go_roundg k2
          case measure => have := HJ2.out; have := HK2.out; omega
          case rel => exact ⟨(wrap64 (x5_2 + 1)), EQ, H', ⟨by have := HJ2.out; have := HK2.out; omega⟩, ⟨BK⟩, ⟨BL⟩⟩
       ·have p15 : (0 ≤ (x5_2 : Int)) = True := OT
        have q15 : (x5_2 < (a1.size : Int)) = True := OT
        have hx15 := gI a1 x5_2
        by_cases c32 : (bt a1 x5_2) ≥ 97
        ·rw [if_pos c32] at H
         have c32b0 : decide (97 ≤ (bt a1 x5_2)) = true := decide_eq_true c32
         clear c32
         replace H := ifN H; obtain ⟨c34b0, H⟩ := H
         have p31 : (0 ≤ (x5_2 : Int)) = True := OT
         have q31 : (x5_2 < (a1.size : Int)) = True := OT
         have hx31 := gI a1 x5_2
         have p33 : (0 ≤ (x5_2 : Int)) = True := OT
         have q33 : (x5_2 < (a1.size : Int)) = True := OT
         have hx33 := gI a1 x5_2
         obtain ⟨hcz7000_0, hcz7000_1, hcz7000_2, hfz7000_0, hfz7000_1, hfz7000_2⟩ := cz3 BK133.out
         have p35 : (0 ≤ (x5_2 : Int)) = True := OT
         have q35 : (x5_2 < (EX.size : Int)) = True := OT
         have hx35 := gI EX x5_2
         replace H := ifE H; rcases H with ⟨c36b0, c36b1, H⟩ | ⟨c36, c36b0, c36b1, H⟩
         ·have p37 : (0 ≤ (x5_2 : Int)) = True := OT
          have q37 : (x5_2 < (a1.size : Int)) = True := OT
          have hx37 := gI a1 x5_2
          replace H := ifE H; rcases H with ⟨c38b0, c38b1, H⟩ | ⟨c38, c38b0, c38b1, H⟩
          ·have p39 : (0 ≤ (x5_2 : Int)) = True := OT
           have q39 : (x5_2 < (EX.size : Int)) = True := OT
           have hx39 := gI EX x5_2
           replace H := ifE H; rcases H with ⟨c40b0, c40b1, H⟩ | ⟨c40, c40b0, c40b1, H⟩
           ·by_cases c41 : ((bt a1 x5_2) ≤ 122)
            ·rw [if_pos c41] at H
             have c41b0 : decide ((bt a1 x5_2) ≤ 122) = true := decide_eq_true c41
             clear c41
             have H' := ah.mk H
             clear H
             go_wp2
             go_roundg k2
             case measure => have := HJ2.out; have := HK2.out; omega
             case rel => exact ⟨(wrap64 (x5_2 + 1)), EQ, H', ⟨by have := HJ2.out; have := HK2.out; omega⟩, ⟨BK⟩, ⟨BL⟩⟩
            ·rw [if_neg c41] at H
             have c41b0 : decide ((bt a1 x5_2) ≤ 122) = false := decide_eq_false c41
             clear c41
             obtain rfl := Option.some.inj H
             go_wp2
             go_ret
             exact ⟨EWW, BL⟩
           ·have H' := ah.mk H
            clear H
            go_wp2
            go_roundg k2
            case measure => have := HJ2.out; have := HK2.out; omega
            case rel => exact ⟨(wrap64 (x5_2 + 1)), EQ, H', ⟨by have := HJ2.out; have := HK2.out; omega⟩, ⟨BK⟩, ⟨BL⟩⟩
          ·obtain rfl := Option.some.inj H
           go_wp2
           go_ret
           exact ⟨EWW, BL⟩
         ·have p46 : (0 ≤ (x5_2 : Int)) = True := OT
          have q46 : (x5_2 < (EX.size : Int)) = True := OT
          have hx46 := gI EX x5_2
          replace H := ifE H; rcases H with ⟨c47b0, c47b1, H⟩ | ⟨c47, c47b0, c47b1, H⟩
          ·by_cases c48 : ((bt a1 x5_2) ≤ 122)
           ·rw [if_pos c48] at H
            have c48b0 : decide ((bt a1 x5_2) ≤ 122) = true := decide_eq_true c48
            clear c48
            have H' := ah.mk H
            clear H
            go_wp2
            go_roundg k2
            case measure => have := HJ2.out; have := HK2.out; omega
            case rel => exact ⟨(wrap64 (x5_2 + 1)), EQ, H', ⟨by have := HJ2.out; have := HK2.out; omega⟩, ⟨BK⟩, ⟨BL⟩⟩
           ·rw [if_neg c48] at H
            have c48b0 : decide ((bt a1 x5_2) ≤ 122) = false := decide_eq_false c48
            clear c48
            obtain rfl := Option.some.inj H
            go_wp2
            go_ret
            exact ⟨EWW, BL⟩
          ·have H' := ah.mk H
           clear H
           go_wp2
           go_roundg k2
           case measure => have := HJ2.out; have := HK2.out; omega
           case rel => exact ⟨(wrap64 (x5_2 + 1)), EQ, H', ⟨by have := HJ2.out; have := HK2.out; omega⟩, ⟨BK⟩, ⟨BL⟩⟩
        ·rw [if_neg c32] at H
         have c32b0 : decide (97 ≤ (bt a1 x5_2)) = false := decide_eq_false c32
         clear c32
         replace H := ifN H; obtain ⟨c52b0, H⟩ := H
         have p31 : (0 ≤ (x5_2 : Int)) = True := OT
         have q31 : (x5_2 < (a1.size : Int)) = True := OT
         have hx31 := gI a1 x5_2
         obtain ⟨hcz7000_0, hcz7000_1, hcz7000_2, hfz7000_0, hfz7000_1, hfz7000_2⟩ := cz3 BK133.out
         have p53 : (0 ≤ (x5_2 : Int)) = True := OT
         have q53 : (x5_2 < (EX.size : Int)) = True := OT
         have hx53 := gI EX x5_2
         replace H := ifE H; rcases H with ⟨c54b0, c54b1, H⟩ | ⟨c54, c54b0, c54b1, H⟩
         ·have p55 : (0 ≤ (x5_2 : Int)) = True := OT
          have q55 : (x5_2 < (a1.size : Int)) = True := OT
          have hx55 := gI a1 x5_2
          replace H := ifE H; rcases H with ⟨c56b0, c56b1, H⟩ | ⟨c56, c56b0, c56b1, H⟩
          ·have p57 : (0 ≤ (x5_2 : Int)) = True := OT
           have q57 : (x5_2 < (EX.size : Int)) = True := OT
           have hx57 := gI EX x5_2
           replace H := ifE H; rcases H with ⟨c58b0, c58b1, H⟩ | ⟨c58, c58b0, c58b1, H⟩
           ·obtain rfl := Option.some.inj H
            go_wp2
            go_ret
            exact ⟨EWW, BL⟩
           ·have H' := ah.mk H
            clear H
            go_wp2
            go_roundg k2
            case measure => have := HJ2.out; have := HK2.out; omega
            case rel => exact ⟨(wrap64 (x5_2 + 1)), EQ, H', ⟨by have := HJ2.out; have := HK2.out; omega⟩, ⟨BK⟩, ⟨BL⟩⟩
          ·obtain rfl := Option.some.inj H
           go_wp2
           go_ret
           exact ⟨EWW, BL⟩
         ·have p62 : (0 ≤ (x5_2 : Int)) = True := OT
          have q62 : (x5_2 < (EX.size : Int)) = True := OT
          have hx62 := gI EX x5_2
          replace H := ifE H; rcases H with ⟨c63b0, c63b1, H⟩ | ⟨c63, c63b0, c63b1, H⟩
          ·obtain rfl := Option.some.inj H
           go_wp2
           go_ret
           exact ⟨EWW, BL⟩
          ·have H' := ah.mk H
           clear H
           go_wp2
           go_roundg k2
           case measure => have := HJ2.out; have := HK2.out; omega
           case rel => exact ⟨(wrap64 (x5_2 + 1)), EQ, H', ⟨by have := HJ2.out; have := HK2.out; omega⟩, ⟨BK⟩, ⟨BL⟩⟩
      ·obtain rfl := Option.some.inj H
       go_wp2
       go_ret
       exact ⟨EWW, BL⟩
theorem D9 (d : Nat) (w : World) (x0 y0 : Int) (x1 y1 : Bool) (x2 y2 : Int) (x3 y3 : Int) :
  (Op.equalIn (d + 2) 115 (.agg #[.int .i64 x0, .bool x1, .int .i64 x2, .int .i64 x3]) (.agg #[.int .i64 y0, .bool y1, .int .i64 y2, .int .i64 y3])).run Tryz.prog w = .ok (x0 == y0 && (x1 == y1 && (x2 == y2 && (x3 == y3)))) w := by
 refine zm Tryz.underlying115 (by kernel_rfl) ?_
 refine oh (by rfl) (by go_simp; rfl) (by go_simp; rfl) (by go_simp) ?_
 refine oh (by rfl) (by go_simp; rfl) (by go_simp; rfl) (by go_simp) ?_
 refine oh (by rfl) (by go_simp; rfl) (by go_simp; rfl) (by go_simp) ?_
 exact wJ (by rfl) (by go_simp; rfl) (by go_simp; rfl) (by go_simp)
end Go.Proofs.YtnfiedfaaaphoaaGreat.PFnExactPuzzleCode
