/- Walks of functions: what each computes. -/
import Derived.Test.YtnfiedfaaaphoaaGreatZOneRoundG0
import Derived.Test.YtnfiedfaaaphoaaGreatZOneRoundG4
import Derived.Test.YtnfiedfaaaphoaaGreatZOneRoundW
import Derived.Test.YtnfiedfaaaphoaaGreatZOneRoundShelf
import Derived.Test.YtnfiedfaaaphoaaGreatZOneRoundHandSort
import Derived.Test.YtnfiedfaaaphoaaGreatZOneRoundHandForm
import Derived.Test.YtnfiedfaaaphoaaGreatZOneRoundHandAlone
import Derived.Test.YtnfiedfaaaphoaaGreatZOneRoundHandReach
import Derived.Test.YtnfiedfaaaphoaaGreatZOneRoundHandPut
namespace Go.Proofs.YtnfiedfaaaphoaaGreat.PFnExactOneRound
open Go.RowKit Go.Proofs.YtnfiedfaaaphoaaGreatW.PrintWords Go.Proofs.YtnfiedfaaaphoaaGreatW.PrintLast Go.Proofs.YtnfiedfaaaphoaaGreatW.PrintMore Go.Proofs.YtnfiedfaaaphoaaGreat.Sq
attribute [local go_sem] lK lG ng mY kD kE lJ lF
set_option maxHeartbeats 8000000
set_option maxRecDepth 100000
set_option linter.unusedVariables false
set_option linter.unusedSimpArgs false
mutual
def eD.j0 : Nat → Int → Int → Int → Int → Int → Int → ByteArray → Option (Int)
 | 0, _, _, _, _, _, _, _ => none
 | k + 1, a, b, c, d, e, f, g => if 0 ≤ a then (if a < (g.size : Int) then (if (bt g a) = 46 then (if c > 0 then (if 0 ≤ (wrap64 (a - b)) then (if (wrap64 (a - b)) < (g.size : Int) then (eD.j1 k a b c d ((bt g (wrap64 (a - b))) == 46) e f g) else (none)) else (none)) else (eD.j1 k a b c d false e f g)) else (eD.j1 k a b c d true e f g)) else (none)) else (none)
def eD.j1 : Nat → Int → Int → Int → Int → Bool → Int → Int → ByteArray → Option (Int)
 | 0, _, _, _, _, _, _, _, _ => none
 | k + 1, a, b, c, d, e, f, g, h => if e = true then (some 0) else (eD.l0 k a b c d 0 f g h)
def eD.l0 : Nat → Int → Int → Int → Int → Int → Int → Int → ByteArray → Option (Int)
 | 0, _, _, _, _, _, _, _, _ => none
 | k + 1, a, b, c, d, e, f, g, h => if (wrap64 (c + e)) < d then (if 0 ≤ (wrap64 (a + (wrap64 (e * b)))) then (if (wrap64 (a + (wrap64 (e * b)))) < (h.size : Int) then (if (bt h (wrap64 (a + (wrap64 (e * b))))) = 46 then (eD.l0 k a b c d (wrap64 (e + 1)) f g h) else (some e)) else (none)) else (none)) else (some e)
end
def eD.f (k : Nat) (FV FW : Int) (FX : ByteArray) (a1 : Int) (a2 : Bool) : Option (Int) := if FW = 0 then (none) else (if a2 = true then (eD.j0 k a1 FW (wrap64 (Int.tdiv a1 FW)) FV FV FW FX) else (eD.j0 k a1 1 (Int.tmod a1 FW) FW FV FW FX))
theorem eD.calls (k : Nat) (FV FW : Int) (FX : ByteArray) (a1 : Int) (a2 : Bool) (r : Int) (w : World) (h : eD.f k FV FW FX a1 a2 = some r) :
  Calls Tryz.prog 164 #[.agg #[.int .i64 FV, .int .i64 FW, .string FX], .int .i64 a1, .bool a2] w fun e w' => e = .returned (.int .i64 r) ∧ Below w.heap.size w w' := by
 have hu32 := Tryz.underlying32
 have HB := ah.mk (Below.refl w.heap.size w)
 unfold eD.f at h
 have H := h
 clear h
 by_cases c4 : FW = 0
 ·rw [if_pos c4] at H
  exact absurd H (by simp)
 ·rw [if_neg c4] at H
  have c4b0 : (FW == 0) = false := beq_eq_false_iff_ne.mpr c4
  have c4b1 : (FW != 0) = true := bne_iff_ne.mpr c4
  have HC5 := ah.mk H
  clear H
  go_enter Tryz.func164, Tryz.ntmps164
  go_upto_if 17 with (first | ((with_reducible refine aJ (N := 3) rfl ?_); refine bg (N := 3) (cs := #[.int .i64 FV, .int .i64 FW, .string FX]) (t := 32) ?_; intro gb469 hg w9000 hbox hb; have BK469 := ah.mk hbox; have GW469 := SZ (w := w) hg; have GE469 := GW469; replace HB := BS (w := w) hb; clear hb hbox hg; obtain ⟨hcz9001_0, hcz9001_1, hcz9001_2, hfz9001_0, hfz9001_1, hfz9001_2⟩ := cz3 BK469.out))
  repeat (go_quiet (first | ((with_reducible refine aJ (N := 3) rfl ?_); refine bg (N := 3) (cs := #[.int .i64 FV, .int .i64 FW, .string FX]) (t := 32) ?_; intro gb469 hg w9000 hbox hb; have BK469 := ah.mk hbox; have GW469 := SZ (w := w) hg; have GE469 := GW469; replace HB := BS (w := w) hb; clear hb hbox hg; obtain ⟨hcz9001_0, hcz9001_1, hcz9001_2, hfz9001_0, hfz9001_1, hfz9001_2⟩ := cz3 BK469.out)); go_upto_if 17 with (first | ((with_reducible refine aJ (N := 3) rfl ?_); refine bg (N := 3) (cs := #[.int .i64 FV, .int .i64 FW, .string FX]) (t := 32) ?_; intro gb469 hg w9000 hbox hb; have BK469 := ah.mk hbox; have GW469 := SZ (w := w) hg; have GE469 := GW469; replace HB := BS (w := w) hb; clear hb hbox hg; obtain ⟨hcz9001_0, hcz9001_1, hcz9001_2, hfz9001_0, hfz9001_1, hfz9001_2⟩ := cz3 BK469.out)))
  (try simp only [Act.put, List.setIfInBounds_toArray, List.set_cons_zero, List.set_cons_succ])
  go_cut [7, 8, 9] (fun v7 v8 v9 wc => ∃ (kq : Nat) (x7_4 : Int) (x8_4 : Int) (x9_4 : Int), v7 = .int .i64 x7_4 ∧ v8 = .int .i64 x8_4 ∧ v9 = .int .i64 x9_4 ∧ ah (eD.j0 kq a1 x7_4 x8_4 x9_4 FV FW FX = some r) ∧ ah (kq ≤ k) ∧ ah (wc.heap[gb469]? = some (.cells #[.int .i64 FV, .int .i64 FW, .string FX] 32 (0, 0))) ∧ ah (Below w.heap.size w wc))
  case first =>
   have H := HC5.out
   clear HC5
   by_cases c8 : a2 = true
   ·subst c8
    rw [if_pos rfl] at H
    have H' := ah.mk H
    clear H
    obtain ⟨hcz9002_0, hcz9002_1, hcz9002_2, hfz9002_0, hfz9002_1, hfz9002_2⟩ := cz3 BK469.out
    go_wp2
    repeat (go_quiet (fail); try go_wp2)
    go_meet
    case rel => exact ⟨_, (FW), (wrap64 (Int.tdiv a1 FW)), (FV), EQ, EQ, EQ, H', ⟨by first | omega | exact Nat.le_refl _⟩, ⟨BK⟩, ⟨BL⟩⟩
   ·replace c8 := Bool.eq_false_iff.mpr c8
    subst c8
    rw [if_neg Bool.false_ne_true] at H
    have H' := ah.mk H
    clear H
    go_wp2
    repeat (go_quiet (fail); try go_wp2)
    go_meet
    case rel => exact ⟨_, (1), (Int.tmod a1 FW), (FW), EQ, EQ, EQ, H', ⟨by first | omega | exact Nat.le_refl _⟩, ⟨BK⟩, ⟨BL⟩⟩
  case rest =>
   clear HC5
   try clear c4
   try clear c4b0
   try clear c4b1
   try clear hcz9001_0
   try clear hcz9001_1
   try clear hcz9001_2
   try clear hfz9001_0
   try clear hfz9001_1
   try clear hfz9001_2
   obtain ⟨kq, x7_4, x8_4, x9_4, rfl, rfl, rfl, HA, HJ4, BK469, HB⟩ := hcut
   cases kq with
   | zero => exact absurd HA.out (by simp [eD.j0])
   | succ kj4 =>
    have H := HA.out
    clear HA
    simp only [eD.j0] at H
    have HC10 := ah.mk H
    clear H
    go_upto_region 4 with (fail)
    repeat (go_quiet (fail); go_upto_region 4 with (fail))
    go_cut [43] (fun v43 wc => ∃ (kq : Nat) (x43_9 : Bool), v43 = .bool x43_9 ∧ ah (eD.j1 kq a1 x7_4 x8_4 x9_4 x43_9 FV FW FX = some r) ∧ ah (kq ≤ kj4) ∧ ah (wc.heap[gb469]? = some (.cells #[.int .i64 FV, .int .i64 FW, .string FX] 32 (0, 0))) ∧ ah (Below w.heap.size w wc))
    case first =>
     have H := HC10.out
     clear HC10
     replace H := ifN H; obtain ⟨c11b0, H⟩ := H
     (first | rw [c11b0] | (simp only [iC, jg]; rw [c11b0]) | skip)
     replace H := ifN H; obtain ⟨c12b0, H⟩ := H
     obtain ⟨hcz9003_0, hcz9003_1, hcz9003_2, hfz9003_0, hfz9003_1, hfz9003_2⟩ := cz3 BK469.out
     have p13 : (0 ≤ (a1 : Int)) = True := OT
     have q13 : (a1 < (FX.size : Int)) = True := OT
     have hx13 := fO FX a1
     replace H := ifE H; rcases H with ⟨c14b0, c14b1, H⟩ | ⟨c14, c14b0, c14b1, H⟩
     ·by_cases c15 : x8_4 > 0
      ·rw [if_pos c15] at H
       have c15b0 : decide (0 < x8_4) = true := decide_eq_true c15
       clear c15
       obtain ⟨ji16, hji16⟩ : ∃ j_ : Int, (wrap64 (a1 - x7_4)) = j_ := ⟨_, rfl⟩
       replace H : (if 0 ≤ (ji16) then (if (ji16) < (FX.size : Int) then (eD.j1 kj4 a1 x7_4 x8_4 x9_4 ((bt FX (ji16)) == 46) FV FW FX) else (none)) else (none)) = some r := by first | (rw [hji16] at H; exact H) | (simp only [hji16] at H ⊢; exact H)
       have hji16w : (IntKind.i64.wrap (a1 - x7_4)) = ji16 := (iC _).trans hji16
       replace H := ifN H; obtain ⟨c17b0, H⟩ := H
       replace H := ifN H; obtain ⟨c18b0, H⟩ := H
       have H' := ah.mk H
       clear H
       have p19 : (0 ≤ ((ji16) : Int)) = True := OT
       have q19 : ((ji16) < (FX.size : Int)) = True := OT
       have hx19 := fO FX (ji16)
       go_wp2
       repeat (go_quiet (fail); try go_wp2)
       go_meet
       case rel => exact ⟨_, (((bt FX (ji16)) == 46)), (by first | rfl | (simp; done) | (simp only [← hji16] <;> (first | rfl | simp)) | (simp [*]; done)), H', ⟨by have := HJ4.out; first | omega | exact Nat.le_refl _⟩, ⟨BK⟩, ⟨BL⟩⟩
      ·rw [if_neg c15] at H
       have c15b0 : decide (0 < x8_4) = false := decide_eq_false c15
       clear c15
       have H' := ah.mk H
       clear H
       go_wp2
       repeat (go_quiet (fail); try go_wp2)
       go_meet
       case rel => exact ⟨_, (false), EQ, H', ⟨by have := HJ4.out; first | omega | exact Nat.le_refl _⟩, ⟨BK⟩, ⟨BL⟩⟩
     ·have H' := ah.mk H
      clear H
      go_wp2
      repeat (go_quiet (fail); try go_wp2)
      go_meet
      case rel => exact ⟨_, (true), EQ, H', ⟨by have := HJ4.out; first | omega | exact Nat.le_refl _⟩, ⟨BK⟩, ⟨BL⟩⟩
    case rest =>
     clear HC10
     try clear c4
     try clear c4b0
     try clear c4b1
     try clear hcz9001_0
     try clear hcz9001_1
     try clear hcz9001_2
     try clear hfz9001_0
     try clear hfz9001_1
     try clear hfz9001_2
     obtain ⟨kq, x43_9, rfl, HA, HJ9, BK469, HB⟩ := hcut
     cases kq with
     | zero => exact absurd HA.out (by simp [eD.j1])
     | succ kj9 =>
      have H := HA.out
      clear HA
      simp only [eD.j1] at H
      replace H := ifB H; rcases H with ⟨rfl, H⟩ | ⟨rfl, H⟩
      ·obtain rfl := Option.some.inj H
       go_wp2
       repeat (go_quiet (fail); try go_wp2)
       go_ret
       exact ⟨EWW, BL⟩
      ·have H' := ah.mk H
       clear H
       go_wp2
       repeat (go_quiet (fail); try go_wp2)
       go_loopg [10] kj9 (fun kq v10 w' => ∃ (x10_3 : Int), v10 = .int .i64 x10_3 ∧ ah (eD.l0 kq a1 x7_4 x8_4 x9_4 x10_3 FV FW FX = some r) ∧ ah (kq ≤ kj9) ∧ ah (w'.heap[gb469]? = some (.cells #[.int .i64 FV, .int .i64 FW, .string FX] 32 (0, 0))) ∧ ah (Below w.heap.size w w'))
       case atStart => exact ⟨(0), EQ, H', ⟨Nat.le_refl _⟩, ⟨BK⟩, ⟨BL⟩⟩
       case round =>
        clear H'
        try clear c4
        try clear c4b0
        try clear c4b1
        try clear c23
        try clear hcz9001_0
        try clear hcz9001_1
        try clear hcz9001_2
        try clear hfz9001_0
        try clear hfz9001_1
        try clear hfz9001_2
        obtain ⟨x10_3, rfl, HA, HK3, BK469, HB⟩ := hrel
        cases gk with
        | zero => exact absurd HA.out (by simp [eD.l0])
        | succ k3 =>
         have H := HA.out
         clear HA
         simp only [eD.l0] at H
         replace H := ifD H; rcases H with ⟨c24b0, H⟩ | ⟨c24b0, H⟩
         ·obtain ⟨ji25, hji25⟩ : ∃ j_ : Int, (wrap64 (a1 + (wrap64 (x10_3 * x7_4)))) = j_ := ⟨_, rfl⟩
          replace H : (if 0 ≤ (ji25) then (if (ji25) < (FX.size : Int) then (if (bt FX (ji25)) = 46 then (eD.l0 k3 a1 x7_4 x8_4 x9_4 (wrap64 (x10_3 + 1)) FV FW FX) else (some x10_3)) else (none)) else (none)) = some r := by first | (rw [hji25] at H; exact H) | (simp only [hji25] at H ⊢; exact H)
          have hji25w : (IntKind.i64.wrap (a1 + (wrap64 (x10_3 * x7_4)))) = ji25 := (iC _).trans hji25
          replace H := ifN H; obtain ⟨c26b0, H⟩ := H
          replace H := ifN H; obtain ⟨c27b0, H⟩ := H
          obtain ⟨hcz9004_0, hcz9004_1, hcz9004_2, hfz9004_0, hfz9004_1, hfz9004_2⟩ := cz3 BK469.out
          have p28 : (0 ≤ ((ji25) : Int)) = True := OT
          have q28 : ((ji25) < (FX.size : Int)) = True := OT
          have hx28 := fO FX (ji25)
          replace H := ifE H; rcases H with ⟨c29b0, c29b1, H⟩ | ⟨c29, c29b0, c29b1, H⟩
          ·have H' := ah.mk H
           clear H
           go_wp2
           repeat (go_quiet (fail); try go_wp2)
           go_roundg k3
           case measure => have := HJ4.out; have := HJ9.out; have := HK3.out; omega
           case rel => exact ⟨(wrap64 (x10_3 + 1)), EQ, H', ⟨by have := HJ4.out; have := HJ9.out; have := HK3.out; omega⟩, ⟨BK⟩, ⟨BL⟩⟩
          ·obtain rfl := Option.some.inj H
           go_wp2
           repeat (go_quiet (fail); try go_wp2)
           go_ret
           exact ⟨by first | rfl | (simp [l9, lY] <;> rfl) | (simp only [← hji25]; first | rfl | (simp [l9, lY] <;> rfl)) | (simp [*, l9, lY] <;> rfl), BL⟩
         ·obtain rfl := Option.some.inj H
          go_wp2
          repeat (go_quiet (fail); try go_wp2)
          go_ret
          exact ⟨EWW, BL⟩
mutual
def aZ.l0 : Nat → List (dJ) → Int → Int → Int → Int → Int → ByteArray → Option ((List (dJ)))
 | 0, _, _, _, _, _, _, _ => none
 | k + 1, a, b, c, d, e, f, g => if d < c then ((eD.f k e f g d false).bind fun h => ((eD.f k e f g d true).bind fun i => (if h ≥ 2 then (aZ.j1 k a b d h i c d true e f g) else (aZ.j1 k a b d h i c d (decide (i ≥ 2)) e f g)))) else (some a)
def aZ.j1 : Nat → List (dJ) → Int → Int → Int → Int → Int → Int → Bool → Int → Int → ByteArray → Option ((List (dJ)))
 | 0, _, _, _, _, _, _, _, _, _, _, _ => none
 | k + 1, a, b, c, d, e, f, g, h, i, j, l => if h = true then (aZ.j2 k a (wrap64 (b + 1)) c d e f g i j l) else (aZ.j2 k a b c d e f g i j l)
def aZ.j2 : Nat → List (dJ) → Int → Int → Int → Int → Int → Int → Int → Int → ByteArray → Option ((List (dJ)))
 | 0, _, _, _, _, _, _, _, _, _, _ => none
 | k + 1, a, b, c, d, e, f, g, h, i, j => if d ≥ 2 then (if a.length < 4398046511104 then ((some (a ++ [(⟨b, false, c, d⟩ : dJ)] : List (dJ))).bind fun l => (if e ≥ 2 then (if l.length < 4398046511104 then (aZ.l0 k (l ++ [(⟨b, true, c, e⟩ : dJ)]) b f (wrap64 (g + 1)) h i j) else (none)) else (aZ.l0 k l b f (wrap64 (g + 1)) h i j))) else (none)) else (if e ≥ 2 then (if a.length < 4398046511104 then (aZ.l0 k (a ++ [(⟨b, true, c, e⟩ : dJ)]) b f (wrap64 (g + 1)) h i j) else (none)) else (aZ.l0 k a b f (wrap64 (g + 1)) h i j))
end
def aZ.f (k : Nat) (FV FW : Int) (FX : ByteArray) : Option ((List (dJ))) := (bD.f k FV FW FX).bind fun t471 => (if t471 = true then (aZ.l0 k ([] : List (dJ)) 0 (FX.size : Int) 0 FV FW FX) else (some ([] : List (dJ))))
def aZ.T8 : Bool × List (List Nat × List Nat) := (true, [([], []), ([], []), ([0, 1], [0, 1]), ([], []), ([], []), ([3, 4, 2], [3, 4]), ([2, 5, 0, 1, 2], [2]), ([5, 6, 0, 1, 2, 3, 4, 5, 6], [5])])
def aZ.B8 : List Nat := [0, 0, 3, 0, 0, 31, 63, 127]
theorem aZ.Ep : kG .any (opsOf Tryz.f113 8) = aZ.T8 := by kernel_rfl
theorem aZ.Cr : iW aZ.T8.2 aZ.B8 = true := by kernel_rfl
theorem aZ.calls (k : Nat) (FV FW : Int) (FX : ByteArray) (r : List (dJ)) (w : World) (h : aZ.f k FV FW FX = some r) :
  Calls Tryz.prog 113 #[.agg #[.int .i64 FV, .int .i64 FW, .string FX]] w fun e w' => ∃ v0_ : Value, e = .returned (v0_) ∧ Kd.R lW 115 w' w.heap.size (fun _ => True) v0_ r ∧ Below w.heap.size w w' := by
 have hu32 := Tryz.underlying32
 have hu115 := Tryz.underlying115
 have HB := ah.mk (Below.refl w.heap.size w)
 unfold aZ.f at h
 have H := h
 clear h
 replace H := be H; obtain ⟨t471, A2, H⟩ := H
 replace H := ah.mk H
 go_enter Tryz.func113, Tryz.ntmps113
 go_wp2_with (first | ((with_reducible refine aJ (N := 1) rfl ?_); refine bg (N := 1) (cs := #[.int .i64 FV, .int .i64 FW, .string FX]) (t := 32) ?_; intro gb470 hg w9000 hbox hb; have BK470 := ah.mk hbox; have GW470 := SZ (w := w) hg; have GE470 := GW470; replace HB := BS (w := w) hb; clear hb hbox hg; obtain ⟨hcz9001_0, hcz9001_1, hcz9001_2, hfz9001_0, hfz9001_1, hfz9001_2⟩ := cz3 BK470.out) | ((with_reducible refine ay (f := 110) rfl ?_); refine bE (some 9) Tryz.func110 #[.agg #[.int .i64 FV, .int .i64 FW, .string FX]] ?_; (with_reducible refine (bD.calls k FV FW FX _ _ A2.out).mono ?_); rintro e w9002 ⟨rfl, hb⟩; refine ⟨_, rfl, ?_⟩; replace BK470 := KB BK470 hb; replace HB := BS (w := w) hb; (try clear hb); obtain ⟨hcz9003_0, hcz9003_1, hcz9003_2, hfz9003_0, hfz9003_1, hfz9003_2⟩ := cz3 BK470.out; refine bU ?_))
 refine Hide.mk ?_
 replace H := H.out
 replace H := ifB H; rcases H with ⟨rfl, H⟩ | ⟨rfl, H⟩
 ·have H' := ah.mk H
  clear H
  try go_wp2
  go_loopg [3, 4, 14] k (fun kq v3 v4 v14 w' => ∃ (x3_1 : List (dJ)) (x4_1 : Int) (x14_1 : Int), v4 = .int .i64 x4_1 ∧ v14 = .int .i64 x14_1 ∧ ah (aZ.l0 kq x3_1 x4_1 (FX.size : Int) x14_1 FV FW FX = some r) ∧ ah (kq ≤ k) ∧ ah (Kd.R lW 115 w' w.heap.size (fun _ => True) v3 x3_1) ∧ ah (w'.heap[gb470]? = some (.cells #[.int .i64 FV, .int .i64 FW, .string FX] 32 (0, 0))) ∧ ah (Below w.heap.size w w'))
  case atStart => exact ⟨(([] : List (dJ))), (0), (0), EQ, EQ, H', ⟨Nat.le_refl _⟩, ⟨by first | exact Kd.nX _ _ _ _ _ | exact Kd.rz _ _ _ _ _ | exact Kd.qZ _ _ _ _ _ | exact Kd.qU _ _ _ _ _ | exact Kd.qV _ _ _ _ _⟩, ⟨BK⟩, ⟨BL⟩⟩
  case round =>
   clear H'
   try clear c3
   try clear hcz9001_0
   try clear hcz9001_1
   try clear hcz9001_2
   try clear hcz9003_0
   try clear hcz9003_1
   try clear hcz9003_2
   try clear hfz9001_0
   try clear hfz9001_1
   try clear hfz9001_2
   try clear hfz9003_0
   try clear hfz9003_1
   try clear hfz9003_2
   obtain ⟨x3_1, x4_1, x14_1, rfl, rfl, HA, HK1, HO_3, BK470, HB⟩ := hrel
   cases gk with
   | zero => exact absurd HA.out (by simp [aZ.l0])
   | succ k1 =>
    have H := HA.out
    clear HA
    simp only [aZ.l0] at H
    replace H := ifD H; rcases H with ⟨c8b0, H⟩ | ⟨c8b0, H⟩
    ·replace H := be H; obtain ⟨t472, A9, H⟩ := H
     replace H := be H; obtain ⟨t473, A10, H⟩ := H
     have HC11 := ah.mk H
     clear H
     try go_wp2
     replace HO_3 := ah.mk (Kd.eu HO_3.out)
     replace BK470 := ah.mk (aH BK470.out)
     replace HB := ah.mk (dH HB.out)
     refine ji (n := 8) (S := fun w' => w'.cell? ⟨gb470, 0, none⟩ = some (.int .i64 FV) ∧ w'.cell? ⟨gb470, 1, none⟩ = some (.int .i64 FW) ∧ w'.cell? ⟨gb470, 2, none⟩ = some (.string FX)) (ds := []) #[F,F,F,F,F,F,F,F] (by kernel_rfl) rfl rfl ⟨(ak BK470.out 0).trans rfl, (ak BK470.out 1).trans rfl, (ak BK470.out 2).trans rfl⟩ (fun hHeld => ?_); refine iI aZ.Ep aZ.Cr (fun HT_ HW_ => ?_)
     generalize wr.drew = w9004 at HO_3 BK470 HB hHeld ⊢
     refine puS (i := 1) (N := some 18) #[F,T,F,F,F,F,F,F] (aK HT_.out (by kernel_rfl)) ?_
     refine puS (i := 4) (N := some 21) #[F,T,F,F,T,F,F,F] (aK HT_.out (by kernel_rfl)) ?_
     refine taS (i := 0) (N := some 17) #[T,T,F,F,T,F,F,F] (eF HT_.out HW_.out (by kernel_rfl)) hHeld ?_
     refine taS (i := 3) (N := some 20) #[T,T,F,T,T,F,F,F] (eF HT_.out HW_.out (by kernel_rfl)) hHeld ?_
     refine kW (i := 2) (N := some 19) #[T,T,T,T,T,F,F,F] rfl rfl (jf HT_.out (by kernel_rfl)) (by decide) (fun K hK => ?_)
     refine iZ Tryz.func164 #[.agg #[.int .i64 FV, .int .i64 FW, .string FX], .int .i64 x14_1, .bool false] ?_
     with_reducible refine (eD.calls k1 FV FW FX x14_1 false t472 _ A9.out).mono ?_
     rintro e w9005 ⟨rfl, hb⟩
     refine ⟨_, rfl, ?_⟩
     replace HO_3 := RB HO_3 hb
     replace BK470 := KB BK470 hb
     replace HB := BS (w := w) hb
     (try clear hb)
     refine hK.out _ _ ⟨(ak BK470.out 0).trans rfl, (ak BK470.out 1).trans rfl, (ak BK470.out 2).trans rfl⟩ (fun hHeld => ?_)
     clear hK K
     refine nrm (some 19) ?_
     refine kW (i := 5) (N := some 22) #[T,T,T,T,T,T,F,F] rfl rfl (jf HT_.out (by kernel_rfl)) (by decide) (fun K hK => ?_)
     refine iZ Tryz.func164 #[.agg #[.int .i64 FV, .int .i64 FW, .string FX], .int .i64 x14_1, .bool true] ?_
     with_reducible refine (eD.calls k1 FV FW FX x14_1 true t473 _ A10.out).mono ?_
     rintro e w9006 ⟨rfl, hb⟩
     refine ⟨_, rfl, ?_⟩
     replace HO_3 := RB HO_3 hb
     replace BK470 := KB BK470 hb
     replace HB := BS (w := w) hb
     (try clear hb)
     refine hK.out _ _ ⟨(ak BK470.out 0).trans rfl, (ak BK470.out 1).trans rfl, (ak BK470.out 2).trans rfl⟩ (fun hHeld => ?_)
     clear hK K
     refine nrm (some 22) ?_
     refine puS (i := 6) (N := some 6) #[T,T,T,T,T,T,T,F] (aK HT_.out (by kernel_rfl)) ?_
     refine puS (i := 7) (N := some 7) #[T,T,T,T,T,T,T,T] (aK HT_.out (by kernel_rfl)) ?_
     refine iD (gG HT_.out (by kernel_rfl)) ?_
     go_upto_region 9 with (fail)
     go_cut [28] (fun v28 wc => ∃ (kq : Nat) (x28_10 : Bool), v28 = .bool x28_10 ∧ ah (aZ.j1 kq x3_1 x4_1 x14_1 t472 t473 (FX.size : Int) x14_1 x28_10 FV FW FX = some r) ∧ ah (kq ≤ k1) ∧ ah (Kd.R lW 115 wc w.heap.size (fun _ => True) u3 x3_1) ∧ ah (wc.heap[gb470]? = some (.cells #[.int .i64 FV, .int .i64 FW, .string FX] 32 (0, 0))) ∧ ah (Below w.heap.size w wc))
     case first =>
      have H := HC11.out
      clear HC11
      by_cases c15 : t472 ≥ 2
      ·rw [if_pos c15] at H
       have c15b0 : decide (2 ≤ t472) = true := decide_eq_true c15
       clear c15
       (first | rw [c15b0] | (simp only [iC, jg]; rw [c15b0]) | skip)
       have H' := ah.mk H
       clear H
       go_wp2
       go_meet
       case rel => exact ⟨_, (true), EQ, H', ⟨by have := HK1.out; first | omega | exact Nat.le_refl _⟩, ⟨(RR HO_3)⟩, ⟨BK⟩, ⟨BL⟩⟩
      ·rw [if_neg c15] at H
       have c15b0 : decide (2 ≤ t472) = false := decide_eq_false c15
       clear c15
       (first | rw [c15b0] | (simp only [iC, jg]; rw [c15b0]) | skip)
       have H' := ah.mk H
       clear H
       go_wp2
       go_meet
       case rel => exact ⟨_, (decide (t473 ≥ 2)), EQ, H', ⟨by have := HK1.out; first | omega | exact Nat.le_refl _⟩, ⟨(RR HO_3)⟩, ⟨BK⟩, ⟨BL⟩⟩
     case rest =>
      clear HC11
      try clear c3
      try clear c8
      try clear c8b0
      try clear hcz9001_0
      try clear hcz9001_1
      try clear hcz9001_2
      try clear hcz9003_0
      try clear hcz9003_1
      try clear hcz9003_2
      try clear hfz9001_0
      try clear hfz9001_1
      try clear hfz9001_2
      try clear hfz9003_0
      try clear hfz9003_1
      try clear hfz9003_2
      obtain ⟨kq, x28_10, rfl, HA, HJ10, HO_3, BK470, HB⟩ := hcut
      cases kq with
      | zero => exact absurd HA.out (by simp [aZ.j1])
      | succ kj10 =>
       have H := HA.out
       clear HA
       simp only [aZ.j1] at H
       have HC16 := ah.mk H
       clear H
       go_upto_if 28 with (fail)
       go_cut [4] (fun v4 wc => ∃ (kq : Nat) (x4_15 : Int), v4 = .int .i64 x4_15 ∧ ah (aZ.j2 kq x3_1 x4_15 x14_1 t472 t473 (FX.size : Int) x14_1 FV FW FX = some r) ∧ ah (kq ≤ kj10) ∧ ah (Kd.R lW 115 wc w.heap.size (fun _ => True) u3 x3_1) ∧ ah (wc.heap[gb470]? = some (.cells #[.int .i64 FV, .int .i64 FW, .string FX] 32 (0, 0))) ∧ ah (Below w.heap.size w wc))
       case first =>
        have H := HC16.out
        clear HC16
        replace H := ifB H; rcases H with ⟨rfl, H⟩ | ⟨rfl, H⟩
        ·have H' := ah.mk H
         clear H
         go_wp2
         go_meet
         case rel => exact ⟨_, (wrap64 (x4_1 + 1)), EQ, H', ⟨by have := HK1.out; have := HJ10.out; first | omega | exact Nat.le_refl _⟩, ⟨(RR HO_3)⟩, ⟨BK⟩, ⟨BL⟩⟩
        ·have H' := ah.mk H
         clear H
         go_wp2
         go_meet
         case rel => exact ⟨_, (x4_1), EQ, H', ⟨by have := HK1.out; have := HJ10.out; first | omega | exact Nat.le_refl _⟩, ⟨(RR HO_3)⟩, ⟨BK⟩, ⟨BL⟩⟩
       case rest =>
        clear HC16
        try clear c3
        try clear c8
        try clear c8b0
        try clear hcz9001_0
        try clear hcz9001_1
        try clear hcz9001_2
        try clear hcz9003_0
        try clear hcz9003_1
        try clear hcz9003_2
        try clear hfz9001_0
        try clear hfz9001_1
        try clear hfz9001_2
        try clear hfz9003_0
        try clear hfz9003_1
        try clear hfz9003_2
        obtain ⟨kq, x4_15, rfl, HA, HJ15, HO_3, BK470, HB⟩ := hcut
        cases kq with
        | zero => exact absurd HA.out (by simp [aZ.j2])
        | succ kj15 =>
         have H := HA.out
         clear HA
         simp only [aZ.j2] at H
         by_cases c18 : t472 ≥ 2
         ·rw [if_pos c18] at H
          have c18b0 : decide (2 ≤ t472) = true := decide_eq_true c18
          clear c18
          replace H := ifP H; obtain ⟨c19, H⟩ := H
          have LMc19 := ah.mk c19
          clear c19
          obtain ⟨y474, hy474⟩ : ∃ y_ : List (dJ), y_ = (x3_1 ++ [(⟨x4_15, false, x14_1, t472⟩ : dJ)]) := ⟨_, rfl⟩
          replace H : (if t473 ≥ 2 then (if y474.length < 4398046511104 then (aZ.l0 kj15 (y474 ++ [(⟨x4_15, true, x14_1, t473⟩ : dJ)]) x4_15 (FX.size : Int) (wrap64 (x14_1 + 1)) FV FW FX) else (none)) else (aZ.l0 kj15 y474 x4_15 (FX.size : Int) (wrap64 (x14_1 + 1)) FV FW FX)) = some r := by first | (rw [hy474]; with_reducible exact H) | (have H2_ := (Option.bind_some _ _).symm.trans H; rw [hy474]; with_reducible exact H2_) | (have H2_ := (Option.bind_some _ _).symm.trans H; with_reducible exact H2_) | with_reducible exact H | (rw [hy474]; exact H) | exact H
          have Ny474 := ah.mk hy474
          clear hy474
          replace H := ah.mk H
          go_wp2_with (first | ((with_reducible refine dQ (b := .append) (xs := #[.tmp 33, .tmp 38]) rfl ?_); at_builtin; refine Kd.gU lW (w0 := w) w.heap.size rfl (.tmp 33) (.tmp 38) 75 115 (.agg #[(.int .i64 0), (.bool false), (.int .i64 0), (.int .i64 0)]) 32 rfl Tryz.underlying75 qz rfl (by decide) (by omega) u3 x3_1 (⟨x4_15, false, x14_1, t472⟩ : dJ) [.int .i64 x4_15, .bool false, .int .i64 x14_1, .int .i64 t472] (fun _ => True) (fun _ => False) rfl rfl ?aP (fun _ hk => hk.elim) ?aF ?aO ?aB ?aS ?aL ?_; (case aP => exact oP _ _ _ (⟨x4_15, false, x14_1, t472⟩ : dJ)); (case aB => exact BL); (case aF => exact (fun _ _ => trivial)); (case aO => exact (RR HO_3)); (case aS => exact (aQ BL)); (case aL => have := LMc19.out; omega); intro v475 w9007 ho hb hg hat; rw [← Ny474.out] at ho; have n0_ := ah.mk (d9 (g := gb470) (o := .cells #[.int .i64 FV, .int .i64 FW, .string FX] 32 (0, 0)) BK hg (Kd.mg HO_3.out BK470.out (by decide))); have n1_ := ah.mk (hb); have n2_ := ah.mk (ho); clear BK470 HB HO_3; have BK470 := n0_; have HB := n1_; have HO476 := n2_; clear n0_ n1_ n2_; clear ho hb hg hat; refine bU ?_))
          refine Hide.mk ?_
          replace H := H.out
          by_cases c20 : t473 ≥ 2
          ·rw [if_pos c20] at H
           have c20b0 : decide (2 ≤ t473) = true := decide_eq_true c20
           clear c20
           replace H := ifP H; obtain ⟨c21, H⟩ := H
           have LMc21 := ah.mk c21
           clear c21
           obtain ⟨y477, hy477⟩ : ∃ y_ : List (dJ), y_ = (y474 ++ [(⟨x4_15, true, x14_1, t473⟩ : dJ)]) := ⟨_, rfl⟩
           replace H : (aZ.l0 kj15 y477 x4_15 (FX.size : Int) (wrap64 (x14_1 + 1)) FV FW FX) = some r := by first | (rw [hy477]; with_reducible exact H) | (have H2_ := (Option.bind_some _ _).symm.trans H; rw [hy477]; with_reducible exact H2_) | (have H2_ := (Option.bind_some _ _).symm.trans H; with_reducible exact H2_) | with_reducible exact H | (rw [hy477]; exact H) | exact H
           have Ny477 := ah.mk hy477
           clear hy477
           have H' := ah.mk H
           clear H
           try go_wp2_with (first | ((with_reducible refine dQ (b := .append) (xs := #[.tmp 42, .tmp 47]) rfl ?_); at_builtin; refine Kd.gU lW (w0 := w) w.heap.size rfl (.tmp 42) (.tmp 47) 75 115 (.agg #[(.int .i64 0), (.bool false), (.int .i64 0), (.int .i64 0)]) 32 rfl Tryz.underlying75 qz rfl (by decide) (by omega) v475 y474 (⟨x4_15, true, x14_1, t473⟩ : dJ) [.int .i64 x4_15, .bool true, .int .i64 x14_1, .int .i64 t473] (fun _ => True) (fun _ => False) rfl rfl ?aP (fun _ hk => hk.elim) ?aF ?aO ?aB ?aS ?aL ?_; (case aP => exact oP _ _ _ (⟨x4_15, true, x14_1, t473⟩ : dJ)); (case aB => exact BL); (case aF => exact (fun _ _ => trivial)); (case aO => exact (RR HO476)); (case aS => exact (aQ BL)); (case aL => have := LMc21.out; omega); intro v478 w9008 ho hb hg hat; rw [← Ny477.out] at ho; have n0_ := ah.mk (d9 (g := gb470) (o := .cells #[.int .i64 FV, .int .i64 FW, .string FX] 32 (0, 0)) BK hg (Kd.mg HO476.out BK470.out (by decide))); have n1_ := ah.mk (hb); have n2_ := ah.mk (ho); clear BK470 HB HO476; have BK470 := n0_; have HB := n1_; have HO479 := n2_; clear n0_ n1_ n2_; clear ho hb hg hat))
           go_roundg kj15
           case measure => have := HK1.out; have := HJ10.out; have := HJ15.out; omega
           case rel => exact ⟨(y477), (x4_15), (wrap64 (x14_1 + 1)), EQ, EQ, H', ⟨by have := HK1.out; have := HJ10.out; have := HJ15.out; omega⟩, ⟨(RR HO479)⟩, ⟨BK⟩, ⟨BL⟩⟩
          ·rw [if_neg c20] at H
           have c20b0 : decide (2 ≤ t473) = false := decide_eq_false c20
           clear c20
           have H' := ah.mk H
           clear H
           try go_wp2
           go_roundg kj15
           case measure => have := HK1.out; have := HJ10.out; have := HJ15.out; omega
           case rel => exact ⟨(y474), (x4_15), (wrap64 (x14_1 + 1)), EQ, EQ, H', ⟨by have := HK1.out; have := HJ10.out; have := HJ15.out; omega⟩, ⟨(RR HO476)⟩, ⟨BK⟩, ⟨BL⟩⟩
         ·rw [if_neg c18] at H
          have c18b0 : decide (2 ≤ t472) = false := decide_eq_false c18
          clear c18
          by_cases c25 : t473 ≥ 2
          ·rw [if_pos c25] at H
           have c25b0 : decide (2 ≤ t473) = true := decide_eq_true c25
           clear c25
           replace H := ifP H; obtain ⟨c26, H⟩ := H
           have LMc26 := ah.mk c26
           clear c26
           obtain ⟨y480, hy480⟩ : ∃ y_ : List (dJ), y_ = (x3_1 ++ [(⟨x4_15, true, x14_1, t473⟩ : dJ)]) := ⟨_, rfl⟩
           replace H : (aZ.l0 kj15 y480 x4_15 (FX.size : Int) (wrap64 (x14_1 + 1)) FV FW FX) = some r := by first | (rw [hy480]; with_reducible exact H) | (have H2_ := (Option.bind_some _ _).symm.trans H; rw [hy480]; with_reducible exact H2_) | (have H2_ := (Option.bind_some _ _).symm.trans H; with_reducible exact H2_) | with_reducible exact H | (rw [hy480]; exact H) | exact H
           have Ny480 := ah.mk hy480
           clear hy480
           have H' := ah.mk H
           clear H
           go_wp2_with (first | ((with_reducible refine dQ (b := .append) (xs := #[.tmp 42, .tmp 47]) rfl ?_); at_builtin; refine Kd.gU lW (w0 := w) w.heap.size rfl (.tmp 42) (.tmp 47) 75 115 (.agg #[(.int .i64 0), (.bool false), (.int .i64 0), (.int .i64 0)]) 32 rfl Tryz.underlying75 qz rfl (by decide) (by omega) u3 x3_1 (⟨x4_15, true, x14_1, t473⟩ : dJ) [.int .i64 x4_15, .bool true, .int .i64 x14_1, .int .i64 t473] (fun _ => True) (fun _ => False) rfl rfl ?aP (fun _ hk => hk.elim) ?aF ?aO ?aB ?aS ?aL ?_; (case aP => exact oP _ _ _ (⟨x4_15, true, x14_1, t473⟩ : dJ)); (case aB => exact BL); (case aF => exact (fun _ _ => trivial)); (case aO => exact (RR HO_3)); (case aS => exact (aQ BL)); (case aL => have := LMc26.out; omega); intro v481 w9007 ho hb hg hat; rw [← Ny480.out] at ho; have n0_ := ah.mk (d9 (g := gb470) (o := .cells #[.int .i64 FV, .int .i64 FW, .string FX] 32 (0, 0)) BK hg (Kd.mg HO_3.out BK470.out (by decide))); have n1_ := ah.mk (hb); have n2_ := ah.mk (ho); clear BK470 HB HO_3; have BK470 := n0_; have HB := n1_; have HO482 := n2_; clear n0_ n1_ n2_; clear ho hb hg hat))
           go_roundg kj15
           case measure => have := HK1.out; have := HJ10.out; have := HJ15.out; omega
           case rel => exact ⟨(y480), (x4_15), (wrap64 (x14_1 + 1)), EQ, EQ, H', ⟨by have := HK1.out; have := HJ10.out; have := HJ15.out; omega⟩, ⟨(RR HO482)⟩, ⟨BK⟩, ⟨BL⟩⟩
          ·rw [if_neg c25] at H
           have c25b0 : decide (2 ≤ t473) = false := decide_eq_false c25
           clear c25
           have H' := ah.mk H
           clear H
           go_wp2
           go_roundg kj15
           case measure => have := HK1.out; have := HJ10.out; have := HJ15.out; omega
           case rel => exact ⟨(x3_1), (x4_15), (wrap64 (x14_1 + 1)), EQ, EQ, H', ⟨by have := HK1.out; have := HJ10.out; have := HJ15.out; omega⟩, ⟨(RR HO_3)⟩, ⟨BK⟩, ⟨BL⟩⟩
    ·obtain rfl := Option.some.inj H
     go_wp2
     go_ret
     exact ⟨_, EWW, (RR HO_3), BL⟩
 ·obtain rfl := Option.some.inj H
  try go_wp2
  go_ret
  exact ⟨_, EWW, by first | exact Kd.nX _ _ _ _ _ | exact Kd.rz _ _ _ _ _ | exact Kd.qZ _ _ _ _ _ | exact Kd.qU _ _ _ _ _ | exact Kd.qV _ _ _ _ _, BL⟩
mutual
def eZ.j0 : Nat → Int → Int → Bool → Int → Int → Option (List Int)
 | 0, _, _, _, _, _ => none
 | k + 1, a, b, c, d, e => eZ.l0 k a ([] : List Int) e 0 b c d e
def eZ.l0 : Nat → Int → List Int → Int → Int → Int → Bool → Int → Int → Option (List Int)
 | 0, _, _, _, _, _, _, _, _ => none
 | k + 1, a, b, c, d, e, f, g, h => if d < c then (if b.length < 17592186044416 then (eZ.l0 k a (b ++ [wrap64 (g + (wrap64 (d * a)))]) c (wrap64 (d + 1)) e f g h) else (none)) else (some b)
end
def eZ.f (k : Nat) (FV FW : Int) (FX : ByteArray) (FY : Int) (FZ : Bool) (F3 a1_3 : Int) : Option (List Int) := if FZ = true then (eZ.j0 k FW FY FZ F3 a1_3) else (eZ.j0 k 1 FY FZ F3 a1_3)
theorem eZ.calls (k : Nat) (FV FW : Int) (FX : ByteArray) (FY : Int) (FZ : Bool) (F3 a1_3 : Int) (r : List Int) (w : World) (h : eZ.f k FV FW FX FY FZ F3 a1_3 = some r) :
  Calls Tryz.prog 135 #[.agg #[.int .i64 FV, .int .i64 FW, .string FX], .agg #[.int .i64 FY, .bool FZ, .int .i64 F3, .int .i64 a1_3]] w fun e w' => ∃ v0_ : Value, e = .returned (v0_) ∧ Kd.R (Kd.int .i64) 3 w' w.heap.size (fun _ => True) v0_ r ∧ Below w.heap.size w w' := by
 have hu32 := Tryz.underlying32
 have hu115 := Tryz.underlying115
 have HB := ah.mk (Below.refl w.heap.size w)
 unfold eZ.f at h
 have H := h
 clear h
 have HC3 := ah.mk H
 clear H
 go_enter Tryz.func135, Tryz.ntmps135
 go_upto_if 9 with (first | ((with_reducible refine aJ (N := 2) rfl ?_); refine bg (N := 2) (cs := #[.int .i64 FV, .int .i64 FW, .string FX]) (t := 32) ?_; intro gb483 hg w4 hbox hb; have BK483 := ah.mk hbox; have GW483 := SZ (w := w) hg; have GE483 := GW483; replace HB := BS (w := w) hb; clear hb hbox hg) | ((with_reducible refine aJ (N := 3) rfl ?_); refine bg (N := 3) (cs := #[.int .i64 FY, .bool FZ, .int .i64 F3, .int .i64 a1_3]) (t := 115) ?_; intro gb484 hg w5 hbox hb; have n0_ := KB BK483 hb; have n1_ := BS (w := w) hb; have n2_ := ah.mk (hbox); have n3_ := SZ (w := w) hg; have n4_ := SZ (w := w) hg; have n5_ := NL BK483 hg; have n6_ := NG BK483 hg; clear BK483 HB; have BK483 := n0_; have HB := n1_; have BK484 := n2_; have GW484 := n3_; have GE484 := n4_; have NB483_484 := n5_; have NB484_483 := n6_; clear n0_ n1_ n2_ n3_ n4_ n5_ n6_; clear hb hbox hg; have hnb6 := NB484_483.out; have hnc6 := NB483_484.out; obtain ⟨hcz7_0, hcz7_1, hcz7_2, hcz7_3, hfz7_0, hfz7_1, hfz7_2, hfz7_3⟩ := cz4 BK484.out))
 (try simp only [Act.put, List.setIfInBounds_toArray, List.set_cons_zero, List.set_cons_succ])
 go_cut [5] (fun v5 wc => ∃ (kq : Nat) (x5_2 : Int), v5 = .int .i64 x5_2 ∧ ah (eZ.j0 kq x5_2 FY FZ F3 a1_3 = some r) ∧ ah (kq ≤ k) ∧ ah (wc.heap[gb483]? = some (.cells #[.int .i64 FV, .int .i64 FW, .string FX] 32 (0, 0))) ∧ ah (wc.heap[gb484]? = some (.cells #[.int .i64 FY, .bool FZ, .int .i64 F3, .int .i64 a1_3] 115 (0, 0))) ∧ ah (Below w.heap.size w wc))
 case first =>
  have H := HC3.out
  clear HC3
  by_cases c8 : FZ = true
  ·subst c8
   rw [if_pos rfl] at H
   have H' := ah.mk H
   clear H
   have hnb8000 := NB483_484.out
   have hnc8000 := NB484_483.out
   obtain ⟨hcz8001_0, hcz8001_1, hcz8001_2, hfz8001_0, hfz8001_1, hfz8001_2⟩ := cz3 BK483.out
   go_wp2
   go_meet
   case rel => exact ⟨_, (FW), EQ, H', ⟨by first | omega | exact Nat.le_refl _⟩, ⟨BK⟩, ⟨BK⟩, ⟨BL⟩⟩
  ·replace c8 := Bool.eq_false_iff.mpr c8
   subst c8
   rw [if_neg Bool.false_ne_true] at H
   have H' := ah.mk H
   clear H
   go_wp2
   go_meet
   case rel => exact ⟨_, (1), EQ, H', ⟨by first | omega | exact Nat.le_refl _⟩, ⟨BK⟩, ⟨BK⟩, ⟨BL⟩⟩
 case rest =>
  clear HC3
  try clear hcz7_0
  try clear hcz7_1
  try clear hcz7_2
  try clear hcz7_3
  try clear hfz7_0
  try clear hfz7_1
  try clear hfz7_2
  try clear hfz7_3
  obtain ⟨kq, x5_2, rfl, HA, HJ2, BK483, BK484, HB⟩ := hcut
  cases kq with
  | zero => exact absurd HA.out (by simp [eZ.j0])
  | succ kj2 =>
   have H := HA.out
   clear HA
   simp only [eZ.j0] at H
   have H' := ah.mk H
   clear H
   have hnb11 := NB484_483.out
   have hnc11 := NB483_484.out
   obtain ⟨hcz12_0, hcz12_1, hcz12_2, hcz12_3, hfz12_0, hfz12_1, hfz12_2, hfz12_3⟩ := cz4 BK484.out
   go_wp2
   go_loopg [6, 14] kj2 (fun kq v6 v14 w' => ∃ (x6_2 : List Int) (x14_2 : Int), v14 = .int .i64 x14_2 ∧ ah (eZ.l0 kq x5_2 x6_2 a1_3 x14_2 FY FZ F3 a1_3 = some r) ∧ ah (kq ≤ kj2) ∧ ah (Kd.R (Kd.int .i64) 3 w' w.heap.size (fun _ => True) v6 x6_2) ∧ ah (w'.heap[gb483]? = some (.cells #[.int .i64 FV, .int .i64 FW, .string FX] 32 (0, 0))) ∧ ah (w'.heap[gb484]? = some (.cells #[.int .i64 FY, .bool FZ, .int .i64 F3, .int .i64 a1_3] 115 (0, 0))) ∧ ah (Below w.heap.size w w'))
   case atStart => exact ⟨(([] : List Int)), (0), EQ, H', ⟨Nat.le_refl _⟩, ⟨by first | exact Kd.nX _ _ _ _ _ | exact Kd.rz _ _ _ _ _ | exact Kd.qZ _ _ _ _ _ | exact Kd.qU _ _ _ _ _ | exact Kd.qV _ _ _ _ _⟩, ⟨BK⟩, ⟨BK⟩, ⟨BL⟩⟩
   case round =>
    clear H'
    try clear hcz12_0
    try clear hcz12_1
    try clear hcz12_2
    try clear hcz12_3
    try clear hcz7_0
    try clear hcz7_1
    try clear hcz7_2
    try clear hcz7_3
    try clear hfz12_0
    try clear hfz12_1
    try clear hfz12_2
    try clear hfz12_3
    try clear hfz7_0
    try clear hfz7_1
    try clear hfz7_2
    try clear hfz7_3
    obtain ⟨x6_2, x14_2, rfl, HA, HK2, HO_6, BK483, BK484, HB⟩ := hrel
    cases gk with
    | zero => exact absurd HA.out (by simp [eZ.l0])
    | succ k2 =>
     have H := HA.out
     clear HA
     simp only [eZ.l0] at H
     replace H := ifD H; rcases H with ⟨c13b0, H⟩ | ⟨c13b0, H⟩
     ·replace H := ifP H; obtain ⟨c14, H⟩ := H
      have LMc14 := ah.mk c14
      clear c14
      obtain ⟨y485, hy485⟩ : ∃ y_ : List Int, y_ = (x6_2 ++ [wrap64 (F3 + (wrap64 (x14_2 * x5_2)))]) := ⟨_, rfl⟩
      replace H : (eZ.l0 k2 x5_2 y485 a1_3 (wrap64 (x14_2 + 1)) FY FZ F3 a1_3) = some r := by first | (rw [hy485]; with_reducible exact H) | (have H2_ := (Option.bind_some _ _).symm.trans H; rw [hy485]; with_reducible exact H2_) | (have H2_ := (Option.bind_some _ _).symm.trans H; with_reducible exact H2_) | with_reducible exact H | (rw [hy485]; exact H) | exact H
      have Ny485 := ah.mk hy485
      clear hy485
      have H' := ah.mk H
      clear H
      have hnb5000 := NB484_483.out
      have hnc5000 := NB483_484.out
      obtain ⟨hcz5001_0, hcz5001_1, hcz5001_2, hcz5001_3, hfz5001_0, hfz5001_1, hfz5001_2, hfz5001_3⟩ := cz4 BK484.out
      go_wp2_with (first | ((with_reducible refine dQ (b := .append) (xs := #[.tmp 17, .tmp 24]) rfl ?_); at_builtin; refine Kd.gU (Kd.int .i64) (w0 := w) w.heap.size rfl (.tmp 17) (.tmp 24) 43 3 (.int .i64 0) 8 rfl Tryz.underlying43 info3 rfl (by decide) (by omega) u6 x6_2 (wrap64 (F3 + (wrap64 (x14_2 * x5_2)))) [.int .i64 (wrap64 (F3 + (wrap64 (x14_2 * x5_2))))] (fun _ => True) (fun _ => False) rfl rfl ?aP (fun _ hk => hk.elim) ?aF ?aO ?aB ?aS ?aL ?_; (case aP => exact rfl); (case aB => exact BL); (case aF => exact (fun _ _ => trivial)); (case aO => exact (RR HO_6)); (case aS => exact (aQ BL)); (case aL => have := LMc14.out; omega); intro v486 w5002 ho hb hg hat; rw [← Ny485.out] at ho; have n0_ := ah.mk (d9 (g := gb483) (o := .cells #[.int .i64 FV, .int .i64 FW, .string FX] 32 (0, 0)) BK hg (Kd.mg HO_6.out BK483.out (by decide))); have n1_ := ah.mk (d9 (g := gb484) (o := .cells #[.int .i64 FY, .bool FZ, .int .i64 F3, .int .i64 a1_3] 115 (0, 0)) BK hg (Kd.mg HO_6.out BK484.out (by decide))); have n2_ := ah.mk (hb); have n3_ := ah.mk (ho); clear BK483 BK484 HB HO_6; have BK483 := n0_; have BK484 := n1_; have HB := n2_; have HO487 := n3_; clear n0_ n1_ n2_ n3_; clear ho hb hg hat))
      go_roundg k2
      case measure => have := HJ2.out; have := HK2.out; omega
      case rel => exact ⟨(y485), (wrap64 (x14_2 + 1)), EQ, H', ⟨by have := HJ2.out; have := HK2.out; omega⟩, ⟨(RR HO487)⟩, ⟨BK⟩, ⟨BK⟩, ⟨BL⟩⟩
     ·obtain rfl := Option.some.inj H
      go_wp2
      go_ret
      exact ⟨_, EWW, (RR HO_6), BL⟩
def dX.l0 : Nat → List (List Int) → List (dJ) → Int → Int → Int → Int → ByteArray → Option ((List (List Int)))
 | 0, _, _, _, _, _, _, _ => none
 | k + 1, a, b, c, d, e, f, g => if d < c then (if 0 ≤ d then (if d < (b.length : Int) then ((eZ.f k e f g ((aM b d).f0) ((aM b d).f1) ((aM b d).f2) ((aM b d).f3)).bind fun h => (if a.length < 5864062014805 then (dX.l0 k (a ++ [h]) b c (wrap64 (d + 1)) e f g) else (none))) else (none)) else (none)) else (some a)
def dX.f (k : Nat) (FV FW : Int) (FX : ByteArray) : Option ((List (List Int))) := (aZ.f k FV FW FX).bind fun t489 => (dX.l0 k ([] : List (List Int)) t489 (t489.length : Int) 0 FV FW FX)
theorem dX.calls (k : Nat) (FV FW : Int) (FX : ByteArray) (r : List (List Int)) (w : World) (h : dX.f k FV FW FX = some r) :
  Calls Tryz.prog 82 #[.agg #[.int .i64 FV, .int .i64 FW, .string FX]] w fun e w' => ∃ v0_ : Value, e = .returned (v0_) ∧ Kd.S (Kd.slice 3 (Kd.int .i64)) 43 w' w.heap.size (fun _ => True) v0_ r ∧ Below w.heap.size w w' := by
 have hu32 := Tryz.underlying32
 have hu115 := Tryz.underlying115
 have HB := ah.mk (Below.refl w.heap.size w)
 unfold dX.f at h
 have H := h
 clear h
 replace H := be H; obtain ⟨t489, A2, H⟩ := H
 have H' := ah.mk H
 clear H
 go_enter Tryz.func82, Tryz.ntmps82
 go_wp2_with (first | ((with_reducible refine aJ (N := 1) rfl ?_); refine bg (N := 1) (cs := #[.int .i64 FV, .int .i64 FW, .string FX]) (t := 32) ?_; intro gb488 hg w3 hbox hb; have BK488 := ah.mk hbox; have GW488 := SZ (w := w) hg; have GE488 := GW488; replace HB := BS (w := w) hb; clear hb hbox hg; obtain ⟨hcz4_0, hcz4_1, hcz4_2, hfz4_0, hfz4_1, hfz4_2⟩ := cz3 BK488.out) | ((with_reducible refine ay (f := 113) rfl ?_); refine bE (some 7) Tryz.func113 #[.agg #[.int .i64 FV, .int .i64 FW, .string FX]] ?_; (with_reducible refine (aZ.calls k FV FW FX t489 _ A2.out).mono ?_); rintro e w5 ⟨v490, rfl, ho0, hb⟩; refine ⟨_, rfl, ?_⟩; have n0_ := ah.mk (Kd.cO ho0 (aQ BL)); replace BK488 := KB BK488 hb; replace HB := BS (w := w) hb; have HO491 := n0_; clear n0_; (try clear hb); (try clear ho0); obtain ⟨Ao6, co6, eo6⟩ := Kd.dL HO491.out; subst eo6))
 go_loopg [3, 9] k (fun kq v3 v9 w' => ∃ (x3_1 : List (List Int)) (x9_1 : Int), v9 = .int .i64 x9_1 ∧ ah (dX.l0 kq x3_1 t489 (t489.length : Int) x9_1 FV FW FX = some r) ∧ ah (kq ≤ k) ∧ ah (Kd.S (Kd.slice 3 (Kd.int .i64)) 43 w' w.heap.size (fun _ => True) v3 x3_1) ∧ ah (Kd.R lW 115 w' w.heap.size (fun _ => True) (.slice Ao6 t489.length co6) t489) ∧ ah (w'.heap[gb488]? = some (.cells #[.int .i64 FV, .int .i64 FW, .string FX] 32 (0, 0))) ∧ ah (Below w.heap.size w w'))
 case atStart => exact ⟨(([] : List (List Int))), (0), EQ, H', ⟨Nat.le_refl _⟩, ⟨by first | exact Kd.qV _ _ _ _ _ | exact Kd.rz _ _ _ _ _ | exact Kd.qZ _ _ _ _ _ | exact Kd.qU _ _ _ _ _ | exact Kd.nX _ _ _ _ _⟩, ⟨(RR HO491)⟩, ⟨BK⟩, ⟨BL⟩⟩
 case round =>
  clear H'
  try clear hcz4_0
  try clear hcz4_1
  try clear hcz4_2
  try clear hfz4_0
  try clear hfz4_1
  try clear hfz4_2
  obtain ⟨x3_1, x9_1, rfl, HA, HK1, HO_3, HO_7, BK488, HB⟩ := hrel
  cases gk with
  | zero => exact absurd HA.out (by simp [dX.l0])
  | succ k1 =>
   have H := HA.out
   clear HA
   simp only [dX.l0] at H
   replace H := ifD H; rcases H with ⟨c7b0, H⟩ | ⟨c7b0, H⟩
   ·replace H := ifN H; obtain ⟨c8b0, H⟩ := H
    replace H := ifN H; obtain ⟨c9b0, H⟩ := H
    replace H := be H; obtain ⟨t494, A10, H⟩ := H
    replace H := ifP H; obtain ⟨c11, H⟩ := H
    have LMc11 := ah.mk c11
    clear c11
    obtain ⟨y497, hy497⟩ : ∃ y_ : List (List Int), y_ = (x3_1 ++ [t494]) := ⟨_, rfl⟩
    replace H : (dX.l0 k1 y497 t489 (t489.length : Int) (wrap64 (x9_1 + 1)) FV FW FX) = some r := by first | (rw [hy497]; with_reducible exact H) | (have H2_ := (Option.bind_some _ _).symm.trans H; rw [hy497]; with_reducible exact H2_) | (have H2_ := (Option.bind_some _ _).symm.trans H; with_reducible exact H2_) | with_reducible exact H | (rw [hy497]; exact H) | exact H
    have Ny497 := ah.mk hy497
    clear hy497
    have H' := ah.mk H
    clear H
    have p492 : 0 ≤ (x9_1 : Int) := OD
    have q492 : x9_1 < (t489.length : Int) := OD
    obtain ⟨ad492, e492, hx492_0, hx492_1, hx492_2, hx492_3⟩ := nu (Kd.bP HO_7.out).2.2 x9_1 p492 q492
    cases e492
    replace p492 := eq_true p492
    replace q492 := eq_true q492
    go_wp2_with (first | ((with_reducible refine aJ (N := 5) rfl ?_); refine bg (N := 5) (cs := #[.int .i64 0, .bool false, .int .i64 0, .int .i64 0]) (t := 115) ?_; intro gb493 hg w7000 hbox hb; have n0_ := ah.mk (Kd.gI (SR HO_3) hb); have n1_ := ah.mk (Kd.jW (Kd.sD (RR HO_7) gb493 (Nat.le_of_eq hg.symm)) hb); have n2_ := KB BK488 hb; have n3_ := BS (w := w) hb; have n4_ := ah.mk (hbox); have n5_ := SZ (w := w) hg; have n6_ := SZ (w := w) hg; have n7_ := NL BK488 hg; have n8_ := NG BK488 hg; clear HO_3 HO_7 BK488 HB; have HO_3 := n0_; have HO_7 := n1_; have BK488 := n2_; have HB := n3_; have BK493 := n4_; have GW493 := n5_; have GE493 := n6_; have NB488_493 := n7_; have NB493_488 := n8_; clear n0_ n1_ n2_ n3_ n4_ n5_ n6_ n7_ n8_; clear hb hbox hg; have hnb7001 := NB493_488.out; have hnc7001 := NB488_493.out; obtain ⟨hcz7002_0, hcz7002_1, hcz7002_2, hcz7002_3, hfz7002_0, hfz7002_1, hfz7002_2, hfz7002_3⟩ := cz4 BK493.out; obtain ⟨hcz7003_0, hcz7003_1, hcz7003_2, hfz7003_0, hfz7003_1, hfz7003_2⟩ := cz3 BK488.out) | ((with_reducible refine ay (f := 135) rfl ?_); refine bE (some 16) Tryz.func135 #[.agg #[.int .i64 FV, .int .i64 FW, .string FX], .agg #[.int .i64 ((aM t489 x9_1).f0), .bool ((aM t489 x9_1).f1), .int .i64 ((aM t489 x9_1).f2), .int .i64 ((aM t489 x9_1).f3)]] ?_; (with_reducible refine (eZ.calls k1 FV FW FX ((aM t489 x9_1).f0) ((aM t489 x9_1).f1) ((aM t489 x9_1).f2) ((aM t489 x9_1).f3) t494 _ A10.out).mono ?_); rintro e w7004 ⟨v495, rfl, ho0, hb⟩; refine ⟨_, rfl, ?_⟩; have n0_ := ah.mk (Kd.qp (by (with_reducible repeat (first | apply Kd.mI | apply Kd.mD | apply Kd.mU)); exact (Kd.mQ (Kd.kg (p := ⟨gb493, 3, none⟩) (Kd.kg (p := ⟨gb493, 2, none⟩) (Kd.kg (p := ⟨gb493, 1, none⟩) (Kd.kg (p := ⟨gb493, 0, none⟩) (Kd.qD HO_3.out BK493.out (by decide)) (fun _ hk => hk.2) (.int .i64 ((aM t489 x9_1).f0))) (fun _ hk => hk.2) (.bool ((aM t489 x9_1).f1))) (fun _ hk => hk.2) (.int .i64 ((aM t489 x9_1).f2))) (fun _ hk => hk.2) (.int .i64 ((aM t489 x9_1).f3))) (fun _ h_ => h_.1))) (Kd.lV ho0) hb); have n1_ := ah.mk (Kd.jW (by (with_reducible repeat (first | apply Kd.fI | apply Kd.fJ | apply Kd.eu)); exact (Kd.dY (Kd.fP (p := ⟨gb493, 3, none⟩) (Kd.fP (p := ⟨gb493, 2, none⟩) (Kd.fP (p := ⟨gb493, 1, none⟩) (Kd.fP (p := ⟨gb493, 0, none⟩) (Kd.dY HO_7.out (fun k_ hk => (⟨hk, hk.2⟩ : _ ∧ k_ ≠ gb493))) (fun _ hk => hk.2) (.int .i64 ((aM t489 x9_1).f0))) (fun _ hk => hk.2) (.bool ((aM t489 x9_1).f1))) (fun _ hk => hk.2) (.int .i64 ((aM t489 x9_1).f2))) (fun _ hk => hk.2) (.int .i64 ((aM t489 x9_1).f3))) (fun _ h_ => h_.1))) hb); have n2_ := ah.mk (Kd.cO ho0 (aQ BL)); have n3_ := ah.mk (aR (g := gb488) (o := .cells #[.int .i64 FV, .int .i64 FW, .string FX] 32 (0, 0)) (by (with_reducible repeat (first | refine aG ?_ _ | refine aH ?_ | refine aD ?_ _)); refine dN ?_ NB488_493.out _; (with_reducible repeat (first | refine aG ?_ _ | refine aH ?_ | refine aD ?_ _)); refine dN ?_ NB488_493.out _; (with_reducible repeat (first | refine aG ?_ _ | refine aH ?_ | refine aD ?_ _)); refine dN ?_ NB488_493.out _; (with_reducible repeat (first | refine aG ?_ _ | refine aH ?_ | refine aD ?_ _)); refine dN ?_ NB488_493.out _; (with_reducible repeat (first | refine aG ?_ _ | refine aH ?_ | refine aD ?_ _)); exact BK488.out) hb); have n4_ := ah.mk (aR (g := gb493) (o := .cells #[.int .i64 ((aM t489 x9_1).f0), .bool ((aM t489 x9_1).f1), .int .i64 ((aM t489 x9_1).f2), .int .i64 ((aM t489 x9_1).f3)] 115 (0, 0)) (by (with_reducible repeat (first | refine aG ?_ _ | refine aH ?_ | refine aD ?_ _)); refine aY (cs := #[.int .i64 ((aM t489 x9_1).f0), .bool ((aM t489 x9_1).f1), .int .i64 ((aM t489 x9_1).f2), .int .i64 0]) ?_ 3 _ rfl; (with_reducible repeat (first | refine aG ?_ _ | refine aH ?_ | refine aD ?_ _)); refine aY (cs := #[.int .i64 ((aM t489 x9_1).f0), .bool ((aM t489 x9_1).f1), .int .i64 0, .int .i64 0]) ?_ 2 _ rfl; (with_reducible repeat (first | refine aG ?_ _ | refine aH ?_ | refine aD ?_ _)); refine aY (cs := #[.int .i64 ((aM t489 x9_1).f0), .bool false, .int .i64 0, .int .i64 0]) ?_ 1 _ rfl; (with_reducible repeat (first | refine aG ?_ _ | refine aH ?_ | refine aD ?_ _)); refine aY (cs := #[.int .i64 0, .bool false, .int .i64 0, .int .i64 0]) ?_ 0 _ rfl; (with_reducible repeat (first | refine aG ?_ _ | refine aH ?_ | refine aD ?_ _)); exact BK493.out) hb); replace HB := BS (w := w) hb; clear HO_3 HO_7 BK488 BK493; have HO_3 := n0_; have HO_7 := n1_; have HO496 := n2_; have BK488 := n3_; have BK493 := n4_; clear n0_ n1_ n2_ n3_ n4_; (try clear hb); (try clear hk); (try clear ho0); obtain ⟨Ao7005, co7005, eo7005⟩ := Kd.dL HO496.out; subst eo7005) | ((with_reducible refine dQ (b := .append) (xs := #[.tmp 13, .tmp 17]) rfl ?_); at_builtin; refine Kd.Cq (Kd.slice 3 (Kd.int .i64)) (w0 := w) w.heap.size rfl (.tmp 13) (.tmp 17) 101 43 (.slice none 0 0) 24 rfl Tryz.underlying101 ES rfl (by decide) (by omega) u3 x3_1 t494 [.slice Ao7005 t494.length co7005] (fun _ => True) (fun k_ => some k_ = (.slice Ao7005 t494.length co7005 : Value).ownBlock) rfl rfl ?aP (fun k_ hk_ => ((Kd.dY (ok' := fun k_ => ((fun _ => True)) k_ ∧ some k_ ≠ (u3 : Value).ownBlock) (Kd.sw (HO496.out) (Kd.sP HO_3.out) (by decide)) (fun k_ hk => ⟨trivial, hk.2⟩))).1 k_ hk_.symm) ?aF ?aO ?aB ?aS ?aL ?_; (case aP => exact Kd.Fy (Kd.dY (Kd.yB rfl (Kd.dY (ok' := fun k_ => ((fun _ => True)) k_ ∧ some k_ ≠ (u3 : Value).ownBlock) (Kd.sw (HO496.out) (Kd.sP HO_3.out) (by decide)) (fun k_ hk => ⟨trivial, hk.2⟩))) (fun _ h_ => h_))); (case aB => exact BL); (case aF => exact (fun _ _ => trivial)); (case aO => exact (by (with_reducible repeat (first | apply Kd.mI | apply Kd.mD | apply Kd.mU)); exact Kd.mQ HO_3.out (fun k_ hk => ⟨trivial, fun e_ => hk.2 e_⟩))); (case aS => exact (aQ BL)); (case aL => have := LMc11.out; omega); intro v498 w7006 ho hb hg hat; rw [← Ny497.out] at ho; have n0_ := ah.mk (Kd.mX (RR HO_7) (Kd.sP (SR HO_3)) (by decide) hg); have n1_ := ah.mk (d9 (g := gb488) (o := .cells #[.int .i64 FV, .int .i64 FW, .string FX] 32 (0, 0)) BK hg (Kd.Fq HO_3.out BK488.out (by decide))); have n2_ := ah.mk (d9 (g := gb493) (o := .cells #[.int .i64 ((aM t489 x9_1).f0), .bool ((aM t489 x9_1).f1), .int .i64 ((aM t489 x9_1).f2), .int .i64 ((aM t489 x9_1).f3)] 115 (0, 0)) BK hg (Kd.Fq HO_3.out BK493.out (by decide))); have n3_ := ah.mk (hb); have n4_ := ah.mk (ho); clear HO_7 BK488 BK493 HB HO_3 HO496; have HO_7 := n0_; have BK488 := n1_; have BK493 := n2_; have HB := n3_; have HO499 := n4_; clear n0_ n1_ n2_ n3_ n4_; clear ho hb hg hat))
    go_roundg k1
    case measure => have := HK1.out; omega
    case rel => exact ⟨(y497), (wrap64 (x9_1 + 1)), EQ, H', ⟨by have := HK1.out; omega⟩, ⟨(SR HO499)⟩, ⟨by (with_reducible repeat (first | apply Kd.fI | apply Kd.fJ | apply Kd.eu)); exact Kd.dY HO_7.out (fun _ hk => trivial)⟩, ⟨BK⟩, ⟨BL⟩⟩
   ·obtain rfl := Option.some.inj H
    go_wp2
    go_ret
    exact ⟨_, EWW, (SR HO_3), BL⟩
def cB.l0 : Nat → List Int → Int → Int → Int → Option (Int)
 | 0, _, _, _, _ => none
 | k + 1, a, b, c, d => if d < c then (if 0 ≤ d then (if d < (a.length : Int) then (if b = (rd a d) then (some d) else (cB.l0 k a b c (wrap64 (d + 1)))) else (none)) else (none)) else (some (-1))
def cB.f (k : Nat) (l0 : List Int) (a1 : Int) : Option (Int) := cB.l0 k l0 a1 (l0.length : Int) 0
theorem cB.calls (k : Nat) (A0 : Option Addr) (c0 : Nat) (l0 : List Int) (a1 r : Int) (w : World) (hr0 : Kd.C (Kd.int .i64) w A0 l0.length l0) (hc0 : l0.length ≤ c0) (h : cB.f k l0 a1 = some r) :
  Calls Tryz.prog 181 #[.slice A0 l0.length c0, .int .i64 a1] w fun e w' => e = .returned (.int .i64 r) ∧ cK w w' := by
 have HR0 := ah.mk hr0
 have HC0 := ah.mk hc0
 clear hr0 hc0
 unfold cB.f at h
 have H := h
 clear h
 have H' := ah.mk H
 clear H
 go_enter Tryz.func181, Tryz.ntmps181
 go_wp2
 go_loopg [8] k (fun kq v8 w' => ∃ (x8_1 : Int), v8 = .int .i64 x8_1 ∧ ah (cB.l0 kq l0 a1 (l0.length : Int) x8_1 = some r) ∧ ah (kq ≤ k) ∧ cK w w')
 case atStart => exact ⟨(0), EQ, H', ⟨Nat.le_refl _⟩, DR⟩
 case round =>
  clear H'
  obtain ⟨x8_1, rfl, HA, HK1, ⟨m1, rfl⟩⟩ := hrel
  cases gk with
  | zero => exact absurd HA.out (by simp [cB.l0])
  | succ k1 =>
   have H := HA.out
   clear HA
   simp only [cB.l0] at H
   replace H := ifD H; rcases H with ⟨c3b0, H⟩ | ⟨c3b0, H⟩
   ·replace H := ifN H; obtain ⟨c4b0, H⟩ := H
    replace H := ifN H; obtain ⟨c5b0, H⟩ := H
    have p500 : 0 ≤ (x8_1 : Int) := OD
    have q500 : x8_1 < (l0.length : Int) := OD
    obtain ⟨ad500, e500, hx500_0⟩ := Kd.mG HR0.out x8_1 p500 q500
    cases e500
    replace p500 := eq_true p500
    replace q500 := eq_true q500
    replace H := ifE H; rcases H with ⟨c6b0, c6b1, H⟩ | ⟨c6, c6b0, c6b1, H⟩
    ·obtain rfl := Option.some.inj H
     go_wp2
     go_ret
     exact ⟨EQ, DR⟩
    ·have H' := ah.mk H
     clear H
     go_wp2
     go_roundg k1
     case measure => have := HK1.out; omega
     case rel => exact ⟨(wrap64 (x8_1 + 1)), EQ, H', ⟨by have := HK1.out; omega⟩, DR⟩
   ·obtain rfl := Option.some.inj H
    go_wp2
    go_ret
    exact ⟨EQ, DR⟩
def gF.f (k : Nat) (l0 : List Int) (a1 : Int) : Option (Bool) := (cB.f k l0 a1).bind fun t501 => (some (decide (t501 ≥ 0)))
theorem gF.calls (k : Nat) (A0 : Option Addr) (c0 : Nat) (l0 : List Int) (a1 : Int) (r : Bool) (w : World) (hr0 : Kd.C (Kd.int .i64) w A0 l0.length l0) (hc0 : l0.length ≤ c0) (h : gF.f k l0 a1 = some r) :
  Calls Tryz.prog 216 #[.slice A0 l0.length c0, .int .i64 a1] w fun e w' => e = .returned (.bool r) ∧ cK w w' := by
 have HR0 := ah.mk hr0
 have HC0 := ah.mk hc0
 clear hr0 hc0
 unfold gF.f at h
 have H := h
 clear h
 replace H := be H; obtain ⟨t501, A3, H⟩ := H
 obtain rfl := Option.some.inj H
 go_enter Tryz.func216, Tryz.ntmps216
 go_wp2_with (first | ((with_reducible refine ay (f := 181) rfl ?_); refine bE (some 7) Tryz.func181 #[.slice A0 l0.length c0, .int .i64 a1] ?_; (with_reducible refine (cB.calls k _ _ l0 a1 t501 _ ?side1 ?side2 A3.out).mono ?_); (case side1 => repeat (first | exact HR0.out | (with_reducible refine Kd.gy ?_ _) | (with_reducible refine Kd.gD ?_ _) | (with_reducible refine Kd.ig ?_))); (case side2 => exact HC0.out); rintro e w' ⟨rfl, ⟨nd, rfl⟩⟩; refine ⟨_, rfl, ?_⟩))
 go_ret
 exact ⟨EQ, DR⟩
def fD.l0 : Nat → Int → List Int → List (List Int) → Int → Int → Option (List Int)
 | 0, _, _, _, _, _ => none
 | k + 1, a, b, c, d, e => if e < d then (if 0 ≤ e then (if e < (c.length : Int) then ((gF.f k (iO c e) a).bind fun f => (if f = true then (if b.length < 17592186044416 then (fD.l0 k a (b ++ [e]) c d (wrap64 (e + 1))) else (none)) else (fD.l0 k a b c d (wrap64 (e + 1))))) else (none)) else (none)) else (some b)
def fD.f (k : Nat) (FV FW : Int) (FX : ByteArray) (a1 : Int) : Option (List Int) := (dX.f k FV FW FX).bind fun t503 => (fD.l0 k a1 ([] : List Int) t503 (t503.length : Int) 0)
theorem fD.calls (k : Nat) (FV FW : Int) (FX : ByteArray) (a1 : Int) (r : List Int) (w : World) (h : fD.f k FV FW FX a1 = some r) :
  Calls Tryz.prog 202 #[.agg #[.int .i64 FV, .int .i64 FW, .string FX], .int .i64 a1] w fun e w' => ∃ v0_ : Value, e = .returned (v0_) ∧ Kd.R (Kd.int .i64) 3 w' w.heap.size (fun _ => True) v0_ r ∧ Below w.heap.size w w' := by
 have hu32 := Tryz.underlying32
 have HB := ah.mk (Below.refl w.heap.size w)
 unfold fD.f at h
 have H := h
 clear h
 replace H := be H; obtain ⟨t503, A3, H⟩ := H
 have H' := ah.mk H
 clear H
 go_enter Tryz.func202, Tryz.ntmps202
 go_wp2_with (first | ((with_reducible refine aJ (N := 2) rfl ?_); refine bg (N := 2) (cs := #[.int .i64 FV, .int .i64 FW, .string FX]) (t := 32) ?_; intro gb502 hg w4 hbox hb; have BK502 := ah.mk hbox; have GW502 := SZ (w := w) hg; have GE502 := GW502; replace HB := BS (w := w) hb; clear hb hbox hg; obtain ⟨hcz5_0, hcz5_1, hcz5_2, hfz5_0, hfz5_1, hfz5_2⟩ := cz3 BK502.out) | ((with_reducible refine ay (f := 82) rfl ?_); refine bE (some 9) Tryz.func82 #[.agg #[.int .i64 FV, .int .i64 FW, .string FX]] ?_; (with_reducible refine (dX.calls k FV FW FX t503 _ A3.out).mono ?_); rintro e w6 ⟨v504, rfl, ho0, hb⟩; refine ⟨_, rfl, ?_⟩; have n0_ := ah.mk (Kd.nT ho0 (aQ BL)); replace BK502 := KB BK502 hb; replace HB := BS (w := w) hb; have HO505 := n0_; clear n0_; (try clear hb); (try clear ho0); obtain ⟨Ao7, co7, eo7⟩ := Kd.oI HO505.out; subst eo7))
 go_loopg [5, 11] k (fun kq v5 v11 w' => ∃ (x5_1 : List Int) (x11_1 : Int), v11 = .int .i64 x11_1 ∧ ah (fD.l0 kq a1 x5_1 t503 (t503.length : Int) x11_1 = some r) ∧ ah (kq ≤ k) ∧ ah (Kd.R (Kd.int .i64) 3 w' w.heap.size (fun _ => True) v5 x5_1) ∧ ah (Kd.S (Kd.slice 3 (Kd.int .i64)) 43 w' w.heap.size (fun k_ => some k_ ≠ (v5 : Value).ownBlock) (.slice Ao7 t503.length co7) t503) ∧ ah (w'.heap[gb502]? = some (.cells #[.int .i64 FV, .int .i64 FW, .string FX] 32 (0, 0))) ∧ ah (Below w.heap.size w w'))
 case atStart => exact ⟨(([] : List Int)), (0), EQ, H', ⟨Nat.le_refl _⟩, ⟨by first | exact Kd.nX _ _ _ _ _ | exact Kd.rz _ _ _ _ _ | exact Kd.qZ _ _ _ _ _ | exact Kd.qU _ _ _ _ _ | exact Kd.qV _ _ _ _ _⟩, ⟨by (with_reducible repeat (first | apply Kd.mI | apply Kd.mD | apply Kd.mU)); exact Kd.mQ HO505.out (fun _ hk => (by simp [Value.ownBlock]))⟩, ⟨BK⟩, ⟨BL⟩⟩
 case round =>
  clear H'
  try clear hcz5_0
  try clear hcz5_1
  try clear hcz5_2
  try clear hfz5_0
  try clear hfz5_1
  try clear hfz5_2
  obtain ⟨x5_1, x11_1, rfl, HA, HK1, HO_5, HO_9, BK502, HB⟩ := hrel
  cases gk with
  | zero => exact absurd HA.out (by simp [fD.l0])
  | succ k1 =>
   have H := HA.out
   clear HA
   simp only [fD.l0] at H
   replace H := ifD H; rcases H with ⟨c8b0, H⟩ | ⟨c8b0, H⟩
   ·replace H := ifN H; obtain ⟨c9b0, H⟩ := H
    replace H := ifN H; obtain ⟨c10b0, H⟩ := H
    replace H := be H; obtain ⟨t507, A11, H⟩ := H
    have p506 : 0 ≤ (x11_1 : Int) := OD
    have q506 : x11_1 < (t503.length : Int) := OD
    obtain ⟨ad506, A506_0, c506_0, e506, hx506_0, hl506_0, hi506_0⟩ := yc (Kd.iL HO_9.out).2.2 x11_1 p506 q506
    cases e506
    obtain ⟨ce506, hce506, hMe506, hcc506⟩ := Kd.y5 HO_9.out [] x11_1 p506 (by first | exact q506 | exact OD | (have e_ := (Kd.iL HO_9.out).1; omega))
    obtain ⟨ve506_0, rfl, ge506_0⟩ := hMe506
    have hv506_0 := hcc506 0 _ rfl
    rw [Nat.add_zero, show ((Kd.slice 3 (Kd.int .i64))).sz = 1 from rfl, Nat.mul_one] at hv506_0
    replace hv506_0 := Option.some.inj (hv506_0.symm.trans hx506_0)
    rw [hv506_0] at ge506_0
    have HL506_0 := ah.mk (show Kd.R (Kd.int .i64) 3 _ _ _ _ (iO t503 x11_1) from ge506_0)
    clear hv506_0 ge506_0
    clear hcc506 hce506
    have HR506_0 := ah.mk hi506_0
    have HC506_0 := ah.mk hl506_0
    clear hi506_0 hl506_0
    replace p506 := eq_true p506
    replace q506 := eq_true q506
    replace H := ah.mk H
    go_wp2_with (first | ((with_reducible refine ay (f := 216) rfl ?_); refine bE (some 18) Tryz.func216 #[.slice A506_0 (iO t503 x11_1).length c506_0, .int .i64 a1] ?_; (with_reducible refine (gF.calls k1 _ _ (iO t503 x11_1) a1 _ _ ?side1 ?side2 A11.out).mono ?_); (case side1 => repeat (first | exact (by repeat (first | (with_reducible exact HR506_0.out) | (with_reducible refine Kd.gy ?_ _) | (with_reducible refine Kd.gD ?_ _) | (with_reducible refine Kd.ig ?_) | exact HR506_0.out)) | (with_reducible refine Kd.gy ?_ _) | (with_reducible refine Kd.gD ?_ _) | (with_reducible refine Kd.ig ?_))); (case side2 => exact HC506_0.out); rintro e w' ⟨rfl, ⟨nd, rfl⟩⟩; refine ⟨_, rfl, ?_⟩; refine bU ?_))
    refine Hide.mk ?_
    replace H := H.out
    replace H := ifB H; rcases H with ⟨rfl, H⟩ | ⟨rfl, H⟩
    ·replace H := ifP H; obtain ⟨c13, H⟩ := H
     have LMc13 := ah.mk c13
     clear c13
     obtain ⟨y508, hy508⟩ : ∃ y_ : List Int, y_ = (x5_1 ++ [x11_1]) := ⟨_, rfl⟩
     replace H : (fD.l0 k1 a1 y508 t503 (t503.length : Int) (wrap64 (x11_1 + 1))) = some r := by first | (rw [hy508]; with_reducible exact H) | (have H2_ := (Option.bind_some _ _).symm.trans H; rw [hy508]; with_reducible exact H2_) | (have H2_ := (Option.bind_some _ _).symm.trans H; with_reducible exact H2_) | with_reducible exact H | (rw [hy508]; exact H) | exact H
     have Ny508 := ah.mk hy508
     clear hy508
     have H' := ah.mk H
     clear H
     try go_wp2_with (first | ((with_reducible refine dQ (b := .append) (xs := #[.tmp 19, .tmp 21]) rfl ?_); at_builtin; refine Kd.gU (Kd.int .i64) (w0 := w) w.heap.size rfl (.tmp 19) (.tmp 21) 43 3 (.int .i64 0) 8 rfl Tryz.underlying43 info3 rfl (by decide) (by omega) u5 x5_1 x11_1 [.int .i64 x11_1] (fun _ => True) (fun _ => False) rfl rfl ?aP (fun _ hk => hk.elim) ?aF ?aO ?aB ?aS ?aL ?_; (case aP => exact rfl); (case aB => exact BL); (case aF => exact (fun _ _ => trivial)); (case aO => exact (RR HO_5)); (case aS => exact (aQ BL)); (case aL => have := LMc13.out; omega); intro v509 w7000 ho hb hg hat; rw [← Ny508.out] at ho; have n0_ := ah.mk (Kd.DC (ok := (fun _ => True)) (by (with_reducible repeat (first | apply Kd.mI | apply Kd.mD | apply Kd.mU)); exact Kd.mQ HO_9.out (fun _ hk => ⟨trivial, hk⟩)) hg hat); have n1_ := ah.mk (d9 (g := gb502) (o := .cells #[.int .i64 FV, .int .i64 FW, .string FX] 32 (0, 0)) BK hg (Kd.mg HO_5.out BK502.out (by decide))); have n2_ := ah.mk (Kd.qJ (ok := (fun k_ => some k_ ≠ (.slice (some ad506) t503.length co7 : Value).ownBlock)) (by (with_reducible repeat (first | apply Kd.fI | apply Kd.fJ | apply Kd.eu)); exact Kd.dY HL506_0.out (fun _ hk => ⟨hk.2, hk.1⟩)) hg hat); have n3_ := ah.mk (hb); have n4_ := ah.mk (ho); clear HO_9 BK502 HL506_0 HB HO_5; have HO_9 := n0_; have BK502 := n1_; have HL506_0 := n2_; have HB := n3_; have HO510 := n4_; clear n0_ n1_ n2_ n3_ n4_; clear ho hb hg hat))
     go_roundg k1
     case measure => have := HK1.out; omega
     case rel => exact ⟨(y508), (wrap64 (x11_1 + 1)), EQ, H', ⟨by have := HK1.out; omega⟩, ⟨(RR HO510)⟩, ⟨by (with_reducible repeat (first | apply Kd.mI | apply Kd.mD | apply Kd.mU)); exact Kd.mQ HO_9.out (fun _ hk => hk.2)⟩, ⟨BK⟩, ⟨BL⟩⟩
    ·have H' := ah.mk H
     clear H
     try go_wp2
     go_roundg k1
     case measure => have := HK1.out; omega
     case rel => exact ⟨(x5_1), (wrap64 (x11_1 + 1)), EQ, H', ⟨by have := HK1.out; omega⟩, ⟨(RR HO_5)⟩, ⟨(SR HO_9)⟩, ⟨BK⟩, ⟨BL⟩⟩
   ·obtain rfl := Option.some.inj H
    go_wp2
    go_ret
    exact ⟨_, EWW, (RR HO_5), BL⟩
def jA.f (k : Nat) (FV FW : Int) (FX : ByteArray) (a1 : Int) : Option (Bool) := (fD.f k FV FW FX a1).bind fun t512 => (some ((t512.length : Int) == 2))
theorem jA.calls (k : Nat) (FV FW : Int) (FX : ByteArray) (a1 : Int) (r : Bool) (w : World) (h : jA.f k FV FW FX a1 = some r) :
  Calls Tryz.prog 166 #[.agg #[.int .i64 FV, .int .i64 FW, .string FX], .int .i64 a1] w fun e w' => e = .returned (.bool r) ∧ Below w.heap.size w w' := by
 have hu32 := Tryz.underlying32
 have HB := ah.mk (Below.refl w.heap.size w)
 unfold jA.f at h
 have H := h
 clear h
 replace H := be H; obtain ⟨t512, A3, H⟩ := H
 obtain rfl := Option.some.inj H
 go_enter Tryz.func166, Tryz.ntmps166
 go_wp2_with (first | ((with_reducible refine aJ (N := 2) rfl ?_); refine bg (N := 2) (cs := #[.int .i64 FV, .int .i64 FW, .string FX]) (t := 32) ?_; intro gb511 hg w4 hbox hb; have BK511 := ah.mk hbox; have GW511 := SZ (w := w) hg; have GE511 := GW511; replace HB := BS (w := w) hb; clear hb hbox hg; obtain ⟨hcz5_0, hcz5_1, hcz5_2, hfz5_0, hfz5_1, hfz5_2⟩ := cz3 BK511.out) | ((with_reducible refine ay (f := 202) rfl ?_); refine bE (some 7) Tryz.func202 #[.agg #[.int .i64 FV, .int .i64 FW, .string FX], .int .i64 a1] ?_; (with_reducible refine (fD.calls k FV FW FX a1 t512 _ A3.out).mono ?_); rintro e w6 ⟨v513, rfl, ho0, hb⟩; refine ⟨_, rfl, ?_⟩; have n0_ := ah.mk (Kd.cO ho0 (aQ BL)); replace BK511 := KB BK511 hb; replace HB := BS (w := w) hb; have HO514 := n0_; clear n0_; (try clear hb); (try clear ho0); obtain ⟨Ao7, co7, eo7⟩ := Kd.dL HO514.out; subst eo7))
 go_ret
 exact ⟨EWW, BL⟩
def dF.l0 : Nat → Int → List Int → Int → Int → Int → Int → ByteArray → Option (Int)
 | 0, _, _, _, _, _, _, _ => none
 | k + 1, a, b, c, d, e, f, g => if d < c then (if 0 ≤ d then (if d < (b.length : Int) then ((jA.f k e f g (rd b d)).bind fun h => (if h = true then (dF.l0 k a b c (wrap64 (d + 1)) e f g) else (dF.l0 k (wrap64 (a + 1)) b c (wrap64 (d + 1)) e f g))) else (none)) else (none)) else (some a)
def dF.f (k : Nat) (FV FW : Int) (FX : ByteArray) (a1 : Int) : Option (Int) := (dX.f k FV FW FX).bind fun t516 => ((lq.f a1 (t516.length : Int)).bind fun t519 => (if t519 = true then (if 0 ≤ a1 then (if a1 < (t516.length : Int) then (dF.l0 k 0 (iO t516 a1) ((iO t516 a1).length : Int) 0 FV FW FX) else (none)) else (none)) else (some (-1))))
theorem dF.calls (k : Nat) (FV FW : Int) (FX : ByteArray) (a1 r : Int) (w : World) (h : dF.f k FV FW FX a1 = some r) :
  Calls Tryz.prog 114 #[.agg #[.int .i64 FV, .int .i64 FW, .string FX], .int .i64 a1] w fun e w' => e = .returned (.int .i64 r) ∧ Below w.heap.size w w' := by
 have hu32 := Tryz.underlying32
 have HB := ah.mk (Below.refl w.heap.size w)
 unfold dF.f at h
 have H := h
 clear h
 replace H := be H; obtain ⟨t516, A3, H⟩ := H
 replace H := be H; obtain ⟨t519, A4, H⟩ := H
 replace H := ah.mk H
 go_enter Tryz.func114, Tryz.ntmps114
 go_wp2_with (first | ((with_reducible refine aJ (N := 2) rfl ?_); refine bg (N := 2) (cs := #[.int .i64 FV, .int .i64 FW, .string FX]) (t := 32) ?_; intro gb515 hg w9000 hbox hb; have BK515 := ah.mk hbox; have GW515 := SZ (w := w) hg; have GE515 := GW515; replace HB := BS (w := w) hb; clear hb hbox hg; obtain ⟨hcz9001_0, hcz9001_1, hcz9001_2, hfz9001_0, hfz9001_1, hfz9001_2⟩ := cz3 BK515.out) | ((with_reducible refine ay (f := 82) rfl ?_); refine bE (some 10) Tryz.func82 #[.agg #[.int .i64 FV, .int .i64 FW, .string FX]] ?_; (with_reducible refine (dX.calls k FV FW FX t516 _ A3.out).mono ?_); rintro e w9002 ⟨v517, rfl, ho0, hb⟩; refine ⟨_, rfl, ?_⟩; have n0_ := ah.mk (Kd.nT ho0 (aQ BL)); replace BK515 := KB BK515 hb; replace HB := BS (w := w) hb; have HO518 := n0_; clear n0_; (try clear hb); (try clear ho0); obtain ⟨Ao9003, co9003, eo9003⟩ := Kd.oI HO518.out; subst eo9003) | ((with_reducible refine ay (f := 165) rfl ?_); refine bE (some 14) Tryz.func165 #[.int .i64 a1, .int .i64 (t516.length : Int)] ?_; (with_reducible refine (lq.calls a1 (t516.length : Int) _ _ A4.out).mono ?_); rintro e w' ⟨rfl, ⟨nd, rfl⟩⟩; refine ⟨_, rfl, ?_⟩; refine bU ?_))
 refine Hide.mk ?_
 replace H := H.out
 replace H := ifB H; rcases H with ⟨rfl, H⟩ | ⟨rfl, H⟩
 ·replace H := ifN H; obtain ⟨c6b0, H⟩ := H
  replace H := ifN H; obtain ⟨c7b0, H⟩ := H
  have H' := ah.mk H
  clear H
  have p520 : 0 ≤ (a1 : Int) := OD
  have q520 : a1 < (t516.length : Int) := OD
  obtain ⟨ad520, A520_0, c520_0, e520, hx520_0, hl520_0, hi520_0⟩ := yc (Kd.iL HO518.out).2.2 a1 p520 q520
  cases e520
  obtain ⟨ce520, hce520, hMe520, hcc520⟩ := Kd.y5 HO518.out [] a1 p520 (by first | exact q520 | exact OD | (have e_ := (Kd.iL HO518.out).1; omega))
  obtain ⟨ve520_0, rfl, ge520_0⟩ := hMe520
  have hv520_0 := hcc520 0 _ rfl
  rw [Nat.add_zero, show ((Kd.slice 3 (Kd.int .i64))).sz = 1 from rfl, Nat.mul_one] at hv520_0
  replace hv520_0 := Option.some.inj (hv520_0.symm.trans hx520_0)
  rw [hv520_0] at ge520_0
  have HL520_0 := ah.mk (show Kd.R (Kd.int .i64) 3 _ _ _ _ (iO t516 a1) from ge520_0)
  clear hv520_0 ge520_0
  clear hcc520 hce520
  have HR520_0 := ah.mk hi520_0
  have HC520_0 := ah.mk hl520_0
  clear hi520_0 hl520_0
  replace p520 := eq_true p520
  replace q520 := eq_true q520
  go_wp2
  go_loopg [6, 21] k (fun kq v6 v21 w' => ∃ (x6_1 : Int) (x21_1 : Int), v6 = .int .i64 x6_1 ∧ v21 = .int .i64 x21_1 ∧ ah (dF.l0 kq x6_1 (iO t516 a1) ((iO t516 a1).length : Int) x21_1 FV FW FX = some r) ∧ ah (kq ≤ k) ∧ ah (w'.heap[gb515]? = some (.cells #[.int .i64 FV, .int .i64 FW, .string FX] 32 (0, 0))) ∧ ah (Kd.C (Kd.int .i64) w' A520_0 (iO t516 a1).length (iO t516 a1)) ∧ ah (Below w.heap.size w w'))
  case atStart => exact ⟨(0), (0), EQ, EQ, H', ⟨Nat.le_refl _⟩, ⟨BK⟩, ⟨by repeat (first | (with_reducible exact HR520_0.out) | (with_reducible refine Kd.gy ?_ _) | (with_reducible refine Kd.gD ?_ _) | (with_reducible refine Kd.ig ?_) | exact HR520_0.out)⟩, ⟨BL⟩⟩
  case round =>
   clear H'
   try clear c5
   try clear c6
   try clear c6b0
   try clear c7
   try clear c7b0
   try clear hcz9001_0
   try clear hcz9001_1
   try clear hcz9001_2
   try clear hfz9001_0
   try clear hfz9001_1
   try clear hfz9001_2
   try clear hx520_0
   try clear p520
   try clear q520
   obtain ⟨x6_1, x21_1, rfl, rfl, HA, HK1, BK515, HR520_0, HB⟩ := hrel
   cases gk with
   | zero => exact absurd HA.out (by simp [dF.l0])
   | succ k1 =>
    have H := HA.out
    clear HA
    simp only [dF.l0] at H
    replace H := ifD H; rcases H with ⟨c12b0, H⟩ | ⟨c12b0, H⟩
    ·replace H := ifN H; obtain ⟨c13b0, H⟩ := H
     replace H := ifN H; obtain ⟨c14b0, H⟩ := H
     replace H := be H; obtain ⟨t522, A15, H⟩ := H
     have p521 : 0 ≤ (x21_1 : Int) := OD
     have q521 : x21_1 < ((iO t516 a1).length : Int) := OD
     obtain ⟨ad521, e521, hx521_0⟩ := Kd.mG HR520_0.out x21_1 p521 q521
     cases e521
     try replace hx521_0 := (HB.out.cell (World.block_lt_of_cell? w _ hx521_0)).trans hx521_0
     replace p521 := eq_true p521
     replace q521 := eq_true q521
     obtain ⟨hcz9004_0, hcz9004_1, hcz9004_2, hfz9004_0, hfz9004_1, hfz9004_2⟩ := cz3 BK515.out
     replace H := ah.mk H
     go_wp2_with (first | ((with_reducible refine ay (f := 166) rfl ?_); refine bE (some 27) Tryz.func166 #[.agg #[.int .i64 FV, .int .i64 FW, .string FX], .int .i64 (rd (iO t516 a1) x21_1)] ?_; (with_reducible refine (jA.calls k1 FV FW FX (rd (iO t516 a1) x21_1) _ _ A15.out).mono ?_); rintro e w9005 ⟨rfl, hb⟩; refine ⟨_, rfl, ?_⟩; have n0_ := KB BK515 hb; have n1_ := ah.mk (Kd.eO (by repeat (first | (with_reducible exact HR520_0.out) | (with_reducible refine Kd.gy ?_ _) | (with_reducible refine Kd.gD ?_ _) | (with_reducible refine Kd.ig ?_) | exact HR520_0.out)) hb); have n2_ := BS (w := w) hb; clear BK515 HR520_0 HB; have BK515 := n0_; have HR520_0 := n1_; have HB := n2_; clear n0_ n1_ n2_; (try clear hb); refine bU ?_))
     refine Hide.mk ?_
     replace H := H.out
     replace H := ifB H; rcases H with ⟨rfl, H⟩ | ⟨rfl, H⟩
     ·have H' := ah.mk H
      clear H
      try go_wp2
      go_roundg k1
      case measure => have := HK1.out; omega
      case rel => exact ⟨(x6_1), (wrap64 (x21_1 + 1)), EQ, EQ, H', ⟨by have := HK1.out; omega⟩, ⟨BK⟩, ⟨by repeat (first | (with_reducible exact HR520_0.out) | (with_reducible refine Kd.gy ?_ _) | (with_reducible refine Kd.gD ?_ _) | (with_reducible refine Kd.ig ?_) | exact HR520_0.out)⟩, ⟨BL⟩⟩
     ·have H' := ah.mk H
      clear H
      try go_wp2
      go_roundg k1
      case measure => have := HK1.out; omega
      case rel => exact ⟨(wrap64 (x6_1 + 1)), (wrap64 (x21_1 + 1)), EQ, EQ, H', ⟨by have := HK1.out; omega⟩, ⟨BK⟩, ⟨by repeat (first | (with_reducible exact HR520_0.out) | (with_reducible refine Kd.gy ?_ _) | (with_reducible refine Kd.gD ?_ _) | (with_reducible refine Kd.ig ?_) | exact HR520_0.out)⟩, ⟨BL⟩⟩
    ·obtain rfl := Option.some.inj H
     go_wp2
     go_ret
     exact ⟨EWW, BL⟩
 ·obtain rfl := Option.some.inj H
  try go_wp2
  go_ret
  exact ⟨EWW, BL⟩
def dZ.f (a0 : Int) : Option (Bool) := if a0 ≥ 97 then (some (decide (a0 ≤ 122))) else (some false)
theorem dZ.calls (a0 : Int) (r : Bool) (w : World) (h : dZ.f a0 = some r) :
  Calls Tryz.prog 134 #[.int .u8 a0] w fun e w' => e = .returned (.bool r) ∧ cK w w' := by
 unfold dZ.f at h
 have H := h
 clear h
 replace H := ah.mk H
 go_enter Tryz.func134, Tryz.ntmps134
 replace H := H.out
 by_cases c2 : a0 ≥ 97
 ·rw [if_pos c2] at H
  have c2b0 : decide (97 ≤ a0) = true := decide_eq_true c2
  clear c2
  obtain rfl := Option.some.inj H
  try go_wp2
  go_ret
  exact ⟨EQ, DR⟩
 ·rw [if_neg c2] at H
  have c2b0 : decide (97 ≤ a0) = false := decide_eq_false c2
  clear c2
  obtain rfl := Option.some.inj H
  try go_wp2
  go_ret
  exact ⟨EQ, DR⟩
def mM.f (k : Nat) (FV FW : Int) (FX a1 : ByteArray) : Option Bool := (dX.f k FV FW FX).bind fun rows => HandAlone.xZ dZ.f k rows FX a1
theorem mM.calls (k : Nat) (FV FW : Int) (FX a1 : ByteArray) (r : Bool) (w : World) (h : mM.f k FV FW FX a1 = some r) :
  Calls Tryz.prog 115 #[.agg #[.int .i64 FV, .int .i64 FW, .string FX], .string a1] w fun e w' => e = .returned (.bool r) ∧ Below w.heap.size w w' := by
 obtain ⟨rows, h1, h2⟩ := Option.bind_eq_some_iff.mp h
 exact HandAlone.DX k FV FW FX a1 dZ.f rows r w (fun x b hx V => dZ.calls x b V hx) (fun V => dX.calls k FV FW FX rows V h1) h2
mutual
def dD.l0 : Nat → List (dJ) → List (dJ) → Int → Int → Int → Int → ByteArray → Option (Int)
 | 0, _, _, _, _, _, _, _ => none
 | k + 1, a, b, c, d, e, f, g => if d < c then (if 0 ≤ d then (if d < (b.length : Int) then (if ((aM b d).f3) < 3 then (some 4) else (dD.l0 k a b c (wrap64 (d + 1)) e f g)) else (none)) else (none)) else (dD.l1 k a (a.length : Int) 0 e f g)
def dD.l1 : Nat → List (dJ) → Int → Int → Int → Int → ByteArray → Option (Int)
 | 0, _, _, _, _, _, _ => none
 | k + 1, a, b, c, d, e, f => if c < b then (if 0 ≤ c then (if c < (a.length : Int) then ((dF.f k d e f c).bind fun g => (if (wrap64 (2 * g)) > ((aM a c).f3) then (some 5) else (dD.l1 k a b (wrap64 (c + 1)) d e f))) else (none)) else (none)) else ((mM.f k d e f f).bind fun h => (if h = true then (some 5) else (some 0)))
end
def dD.f (k : Nat) (FV FW : Int) (FX : ByteArray) : Option (Int) := (bD.f k FV FW FX).bind fun t524 => (if t524 = true then ((dU.f k FV FW FX).bind fun t525 => (if t525 = true then ((iV.f k FV FW FX).bind fun t526 => (if t526 = true then ((aZ.f k FV FW FX).bind fun t527 => (dD.l0 k t527 t527 (t527.length : Int) 0 FV FW FX)) else (some 3))) else (some 2))) else (some 1))
theorem dD.calls (k : Nat) (FV FW : Int) (FX : ByteArray) (r : Int) (w : World) (h : dD.f k FV FW FX = some r) :
  Calls Tryz.prog 56 #[.agg #[.int .i64 FV, .int .i64 FW, .string FX]] w fun e w' => e = .returned (.int .i64 r) ∧ Below w.heap.size w w' := by
 have hu32 := Tryz.underlying32
 have hu115 := Tryz.underlying115
 have HB := ah.mk (Below.refl w.heap.size w)
 unfold dD.f at h
 have H := h
 clear h
 replace H := be H; obtain ⟨t524, A2, H⟩ := H
 replace H := ah.mk H
 go_enter Tryz.func56, Tryz.ntmps56
 go_wp2_with (first | ((with_reducible refine aJ (N := 1) rfl ?_); refine bg (N := 1) (cs := #[.int .i64 FV, .int .i64 FW, .string FX]) (t := 32) ?_; intro gb523 hg w9000 hbox hb; have BK523 := ah.mk hbox; have GW523 := SZ (w := w) hg; have GE523 := GW523; replace HB := BS (w := w) hb; clear hb hbox hg; obtain ⟨hcz9001_0, hcz9001_1, hcz9001_2, hfz9001_0, hfz9001_1, hfz9001_2⟩ := cz3 BK523.out) | ((with_reducible refine ay (f := 110) rfl ?_); refine bE (some 10) Tryz.func110 #[.agg #[.int .i64 FV, .int .i64 FW, .string FX]] ?_; (with_reducible refine (bD.calls k FV FW FX _ _ A2.out).mono ?_); rintro e w9002 ⟨rfl, hb⟩; refine ⟨_, rfl, ?_⟩; replace BK523 := KB BK523 hb; replace HB := BS (w := w) hb; (try clear hb); obtain ⟨hcz9003_0, hcz9003_1, hcz9003_2, hfz9003_0, hfz9003_1, hfz9003_2⟩ := cz3 BK523.out; refine bU ?_))
 refine Hide.mk ?_
 replace H := H.out
 replace H := ifB H; rcases H with ⟨rfl, H⟩ | ⟨rfl, H⟩
 ·replace H := be H; obtain ⟨t525, A4, H⟩ := H
  replace H := ah.mk H
  go_wp2_with (first | ((with_reducible refine ay (f := 111) rfl ?_); refine bE (some 14) Tryz.func111 #[.agg #[.int .i64 FV, .int .i64 FW, .string FX]] ?_; (with_reducible refine (dU.calls k FV FW FX _ _ A4.out).mono ?_); rintro e w9004 ⟨rfl, hb⟩; refine ⟨_, rfl, ?_⟩; replace BK523 := KB BK523 hb; replace HB := BS (w := w) hb; (try clear hb); obtain ⟨hcz9005_0, hcz9005_1, hcz9005_2, hfz9005_0, hfz9005_1, hfz9005_2⟩ := cz3 BK523.out; refine bU ?_))
  refine Hide.mk ?_
  replace H := H.out
  replace H := ifB H; rcases H with ⟨rfl, H⟩ | ⟨rfl, H⟩
  ·replace H := be H; obtain ⟨t526, A6, H⟩ := H
   replace H := ah.mk H
   go_wp2_with (first | ((with_reducible refine ay (f := 112) rfl ?_); refine bE (some 18) Tryz.func112 #[.agg #[.int .i64 FV, .int .i64 FW, .string FX]] ?_; (with_reducible refine (iV.calls k FV FW FX _ _ A6.out).mono ?_); rintro e w9006 ⟨rfl, hb⟩; refine ⟨_, rfl, ?_⟩; replace BK523 := KB BK523 hb; replace HB := BS (w := w) hb; (try clear hb); obtain ⟨hcz9007_0, hcz9007_1, hcz9007_2, hfz9007_0, hfz9007_1, hfz9007_2⟩ := cz3 BK523.out; refine bU ?_))
   refine Hide.mk ?_
   replace H := H.out
   replace H := ifB H; rcases H with ⟨rfl, H⟩ | ⟨rfl, H⟩
   ·replace H := be H; obtain ⟨t527, A8, H⟩ := H
    have H' := ah.mk H
    clear H
    try go_wp2_with (first | ((with_reducible refine ay (f := 113) rfl ?_); refine bE (some 21) Tryz.func113 #[.agg #[.int .i64 FV, .int .i64 FW, .string FX]] ?_; (with_reducible refine (aZ.calls k FV FW FX t527 _ A8.out).mono ?_); rintro e w9008 ⟨v528, rfl, ho0, hb⟩; refine ⟨_, rfl, ?_⟩; have n0_ := ah.mk (Kd.cO ho0 (aQ BL)); replace BK523 := KB BK523 hb; replace HB := BS (w := w) hb; have HO529 := n0_; clear n0_; (try clear hb); (try clear ho0); obtain ⟨Ao9009, co9009, eo9009⟩ := Kd.dL HO529.out; subst eo9009))
    go_loopg [24] k (fun kq v24 w' => ∃ (x24_1 : Int), v24 = .int .i64 x24_1 ∧ ah (dD.l0 kq t527 t527 (t527.length : Int) x24_1 FV FW FX = some r) ∧ ah (kq ≤ k) ∧ ah (Kd.R lW 115 w' w.heap.size (fun _ => True) (.slice Ao9009 t527.length co9009) t527) ∧ ah (Kd.R lW 115 w' w.heap.size (fun _ => True) (.slice Ao9009 t527.length co9009) t527) ∧ ah (w'.heap[gb523]? = some (.cells #[.int .i64 FV, .int .i64 FW, .string FX] 32 (0, 0))) ∧ ah (Below w.heap.size w w'))
    case atStart => exact ⟨(0), EQ, H', ⟨Nat.le_refl _⟩, ⟨(RR HO529)⟩, ⟨(RR HO529)⟩, ⟨BK⟩, ⟨BL⟩⟩
    case round =>
     clear H'
     try clear c3
     try clear c5
     try clear c7
     try clear hcz9001_0
     try clear hcz9001_1
     try clear hcz9001_2
     try clear hcz9003_0
     try clear hcz9003_1
     try clear hcz9003_2
     try clear hcz9005_0
     try clear hcz9005_1
     try clear hcz9005_2
     try clear hcz9007_0
     try clear hcz9007_1
     try clear hcz9007_2
     try clear hfz9001_0
     try clear hfz9001_1
     try clear hfz9001_2
     try clear hfz9003_0
     try clear hfz9003_1
     try clear hfz9003_2
     try clear hfz9005_0
     try clear hfz9005_1
     try clear hfz9005_2
     try clear hfz9007_0
     try clear hfz9007_1
     try clear hfz9007_2
     obtain ⟨x24_1, rfl, HA, HK1, HO_3, HO_22, BK523, HB⟩ := hrel
     cases gk with
     | zero => exact absurd HA.out (by simp [dD.l0])
     | succ k1 =>
      have H := HA.out
      clear HA
      simp only [dD.l0] at H
      replace H := ifD H; rcases H with ⟨c19b0, H⟩ | ⟨c19b0, H⟩
      ·replace H := ifN H; obtain ⟨c20b0, H⟩ := H
       replace H := ifN H; obtain ⟨c21b0, H⟩ := H
       have p530 : 0 ≤ (x24_1 : Int) := OD
       have q530 : x24_1 < (t527.length : Int) := OD
       obtain ⟨ad530, e530, hx530_0, hx530_1, hx530_2, hx530_3⟩ := nu (Kd.bP HO_22.out).2.2 x24_1 p530 q530
       cases e530
       replace p530 := eq_true p530
       replace q530 := eq_true q530
       replace H := ah.mk H
       go_wp2_with (first | ((with_reducible refine aJ (N := 5) rfl ?_); refine bg (N := 5) (cs := #[.int .i64 0, .bool false, .int .i64 0, .int .i64 0]) (t := 115) ?_; intro gb531 hg w9010 hbox hb; have n0_ := ah.mk (Kd.jW (Kd.sD (RR HO_3) gb531 (Nat.le_of_eq hg.symm)) hb); have n1_ := ah.mk (Kd.jW (Kd.sD (RR HO_22) gb531 (Nat.le_of_eq hg.symm)) hb); have n2_ := KB BK523 hb; have n3_ := BS (w := w) hb; have n4_ := ah.mk (hbox); have n5_ := SZ (w := w) hg; have n6_ := SZ (w := w) hg; have n7_ := NL BK523 hg; have n8_ := NG BK523 hg; clear HO_3 HO_22 BK523 HB; have HO_3 := n0_; have HO_22 := n1_; have BK523 := n2_; have HB := n3_; have BK531 := n4_; have GW531 := n5_; have GE531 := n6_; have NB523_531 := n7_; have NB531_523 := n8_; clear n0_ n1_ n2_ n3_ n4_ n5_ n6_ n7_ n8_; clear hb hbox hg; have hnb9011 := NB531_523.out; have hnc9011 := NB523_531.out; obtain ⟨hcz9012_0, hcz9012_1, hcz9012_2, hcz9012_3, hfz9012_0, hfz9012_1, hfz9012_2, hfz9012_3⟩ := cz4 BK531.out; refine bU ?_))
       refine Hide.mk ?_
       replace H := H.out
       replace H := ifD H; rcases H with ⟨c22b0, H⟩ | ⟨c22b0, H⟩
       ·obtain rfl := Option.some.inj H
        try go_wp2
        go_ret
        exact ⟨EWW, BL⟩
       ·have H' := ah.mk H
        clear H
        try go_wp2
        go_roundg k1
        case measure => have := HK1.out; omega
        case rel => exact ⟨(wrap64 (x24_1 + 1)), EQ, H', ⟨by have := HK1.out; omega⟩, ⟨by (with_reducible repeat (first | apply Kd.fI | apply Kd.fJ | apply Kd.eu)); exact Kd.dY (Kd.fP (p := ⟨gb531, 3, none⟩) (Kd.fP (p := ⟨gb531, 2, none⟩) (Kd.fP (p := ⟨gb531, 1, none⟩) (Kd.fP (p := ⟨gb531, 0, none⟩) (Kd.dY HO_3.out (fun k_ hk => (⟨hk, hk.2⟩ : _ ∧ k_ ≠ gb531))) (fun _ hk => hk.2) (.int .i64 ((aM t527 x24_1).f0))) (fun _ hk => hk.2) (.bool ((aM t527 x24_1).f1))) (fun _ hk => hk.2) (.int .i64 ((aM t527 x24_1).f2))) (fun _ hk => hk.2) (.int .i64 ((aM t527 x24_1).f3))) (fun _ hk => trivial)⟩, ⟨by (with_reducible repeat (first | apply Kd.fI | apply Kd.fJ | apply Kd.eu)); exact Kd.dY (Kd.fP (p := ⟨gb531, 3, none⟩) (Kd.fP (p := ⟨gb531, 2, none⟩) (Kd.fP (p := ⟨gb531, 1, none⟩) (Kd.fP (p := ⟨gb531, 0, none⟩) (Kd.dY HO_22.out (fun k_ hk => (⟨hk, hk.2⟩ : _ ∧ k_ ≠ gb531))) (fun _ hk => hk.2) (.int .i64 ((aM t527 x24_1).f0))) (fun _ hk => hk.2) (.bool ((aM t527 x24_1).f1))) (fun _ hk => hk.2) (.int .i64 ((aM t527 x24_1).f2))) (fun _ hk => hk.2) (.int .i64 ((aM t527 x24_1).f3))) (fun _ hk => trivial)⟩, ⟨by (with_reducible repeat (first | refine aG ?_ _ | refine aH ?_ | refine aD ?_ _)); refine dN ?_ NB523_531.out _; (with_reducible repeat (first | refine aG ?_ _ | refine aH ?_ | refine aD ?_ _)); refine dN ?_ NB523_531.out _; (with_reducible repeat (first | refine aG ?_ _ | refine aH ?_ | refine aD ?_ _)); refine dN ?_ NB523_531.out _; (with_reducible repeat (first | refine aG ?_ _ | refine aH ?_ | refine aD ?_ _)); refine dN ?_ NB523_531.out _; (with_reducible repeat (first | refine aG ?_ _ | refine aH ?_ | refine aD ?_ _)); exact BK523.out⟩, ⟨BL⟩⟩
      ·have H' := ah.mk H
       clear H
       go_wp2
       go_loopg [34] k1 (fun kq v34 w' => ∃ (x34_2 : Int), v34 = .int .i64 x34_2 ∧ ah (dD.l1 kq t527 (t527.length : Int) x34_2 FV FW FX = some r) ∧ ah (kq ≤ k1) ∧ ah (Kd.R lW 115 w' w.heap.size (fun _ => True) (.slice Ao9009 t527.length co9009) t527) ∧ ah (w'.heap[gb523]? = some (.cells #[.int .i64 FV, .int .i64 FW, .string FX] 32 (0, 0))) ∧ ah (Below w.heap.size w w'))
       case atStart => exact ⟨(0), EQ, H', ⟨Nat.le_refl _⟩, ⟨(RR HO_3)⟩, ⟨BK⟩, ⟨BL⟩⟩
       case round =>
        clear H'
        try clear c3
        try clear c5
        try clear c7
        try clear c19
        try clear c19b0
        try clear hcz9001_0
        try clear hcz9001_1
        try clear hcz9001_2
        try clear hcz9003_0
        try clear hcz9003_1
        try clear hcz9003_2
        try clear hcz9005_0
        try clear hcz9005_1
        try clear hcz9005_2
        try clear hcz9007_0
        try clear hcz9007_1
        try clear hcz9007_2
        try clear hfz9001_0
        try clear hfz9001_1
        try clear hfz9001_2
        try clear hfz9003_0
        try clear hfz9003_1
        try clear hfz9003_2
        try clear hfz9005_0
        try clear hfz9005_1
        try clear hfz9005_2
        try clear hfz9007_0
        try clear hfz9007_1
        try clear hfz9007_2
        obtain ⟨x34_2, rfl, HA, HK2, HO_32, BK523, HB⟩ := hrel
        cases gk with
        | zero => exact absurd HA.out (by simp [dD.l1])
        | succ k2 =>
         have H := HA.out
         clear HA
         simp only [dD.l1] at H
         replace H := ifD H; rcases H with ⟨c29b0, H⟩ | ⟨c29b0, H⟩
         ·replace H := ifN H; obtain ⟨c30b0, H⟩ := H
          replace H := ifN H; obtain ⟨c31b0, H⟩ := H
          replace H := be H; obtain ⟨t534, A32, H⟩ := H
          have p532 : 0 ≤ (x34_2 : Int) := OD
          have q532 : x34_2 < (t527.length : Int) := OD
          obtain ⟨ad532, e532, hx532_0, hx532_1, hx532_2, hx532_3⟩ := nu (Kd.bP HO_32.out).2.2 x34_2 p532 q532
          cases e532
          replace p532 := eq_true p532
          replace q532 := eq_true q532
          replace H := ah.mk H
          try go_wp2_with (first | ((with_reducible refine aJ (N := 7) rfl ?_); refine bg (N := 7) (cs := #[.int .i64 0, .bool false, .int .i64 0, .int .i64 0]) (t := 115) ?_; intro gb533 hg w9010 hbox hb; have n0_ := ah.mk (Kd.jW (Kd.sD (RR HO_32) gb533 (Nat.le_of_eq hg.symm)) hb); have n1_ := KB BK523 hb; have n2_ := BS (w := w) hb; have n3_ := ah.mk (hbox); have n4_ := SZ (w := w) hg; have n5_ := SZ (w := w) hg; have n6_ := NL BK523 hg; have n7_ := NG BK523 hg; clear HO_32 BK523 HB; have HO_32 := n0_; have BK523 := n1_; have HB := n2_; have BK533 := n3_; have GW533 := n4_; have GE533 := n5_; have NB523_533 := n6_; have NB533_523 := n7_; clear n0_ n1_ n2_ n3_ n4_ n5_ n6_ n7_; clear hb hbox hg; have hnb9011 := NB533_523.out; have hnc9011 := NB523_533.out; obtain ⟨hcz9012_0, hcz9012_1, hcz9012_2, hcz9012_3, hfz9012_0, hfz9012_1, hfz9012_2, hfz9012_3⟩ := cz4 BK533.out))
          have n0_ : ah (Kd.R lW 115 ((((w9010.setCell ⟨gb533, 0, none⟩ (.int .i64 ((aM t527 x34_2).f0))).setCell ⟨gb533, 1, none⟩ (.bool ((aM t527 x34_2).f1))).setCell ⟨gb533, 2, none⟩ (.int .i64 ((aM t527 x34_2).f2))).setCell ⟨gb533, 3, none⟩ (.int .i64 ((aM t527 x34_2).f3))) w.heap.size (fun k_ => k_ ≠ gb533) (.slice (some ad532) t527.length co9009) t527) := ⟨by (with_reducible repeat (first | apply Kd.fI | apply Kd.fJ | apply Kd.eu)); exact Kd.dY (Kd.fP (p := ⟨gb533, 3, none⟩) (Kd.fP (p := ⟨gb533, 2, none⟩) (Kd.fP (p := ⟨gb533, 1, none⟩) (Kd.fP (p := ⟨gb533, 0, none⟩) (Kd.dY HO_32.out (fun k_ hk => (⟨hk, hk.2⟩ : _ ∧ k_ ≠ gb533))) (fun _ hk => hk.2) (.int .i64 ((aM t527 x34_2).f0))) (fun _ hk => hk.2) (.bool ((aM t527 x34_2).f1))) (fun _ hk => hk.2) (.int .i64 ((aM t527 x34_2).f2))) (fun _ hk => hk.2) (.int .i64 ((aM t527 x34_2).f3))) (fun _ hk => hk.1.2)⟩
          have n1_ : ah (((((w9010.setCell ⟨gb533, 0, none⟩ (.int .i64 ((aM t527 x34_2).f0))).setCell ⟨gb533, 1, none⟩ (.bool ((aM t527 x34_2).f1))).setCell ⟨gb533, 2, none⟩ (.int .i64 ((aM t527 x34_2).f2))).setCell ⟨gb533, 3, none⟩ (.int .i64 ((aM t527 x34_2).f3))).heap[gb523]? = some (.cells #[.int .i64 FV, .int .i64 FW, .string FX] 32 (0, 0))) := ⟨by (with_reducible repeat (first | refine aG ?_ _ | refine aH ?_ | refine aD ?_ _)); refine dN ?_ NB523_533.out _; (with_reducible repeat (first | refine aG ?_ _ | refine aH ?_ | refine aD ?_ _)); refine dN ?_ NB523_533.out _; (with_reducible repeat (first | refine aG ?_ _ | refine aH ?_ | refine aD ?_ _)); refine dN ?_ NB523_533.out _; (with_reducible repeat (first | refine aG ?_ _ | refine aH ?_ | refine aD ?_ _)); refine dN ?_ NB523_533.out _; (with_reducible repeat (first | refine aG ?_ _ | refine aH ?_ | refine aD ?_ _)); exact BK523.out⟩
          have n2_ : ah (((((w9010.setCell ⟨gb533, 0, none⟩ (.int .i64 ((aM t527 x34_2).f0))).setCell ⟨gb533, 1, none⟩ (.bool ((aM t527 x34_2).f1))).setCell ⟨gb533, 2, none⟩ (.int .i64 ((aM t527 x34_2).f2))).setCell ⟨gb533, 3, none⟩ (.int .i64 ((aM t527 x34_2).f3))).heap[gb533]? = some (.cells #[.int .i64 ((aM t527 x34_2).f0), .bool ((aM t527 x34_2).f1), .int .i64 ((aM t527 x34_2).f2), .int .i64 ((aM t527 x34_2).f3)] 115 (0, 0))) := ⟨by (with_reducible repeat (first | refine aG ?_ _ | refine aH ?_ | refine aD ?_ _)); refine aY (cs := #[.int .i64 ((aM t527 x34_2).f0), .bool ((aM t527 x34_2).f1), .int .i64 ((aM t527 x34_2).f2), .int .i64 0]) ?_ 3 _ rfl; (with_reducible repeat (first | refine aG ?_ _ | refine aH ?_ | refine aD ?_ _)); refine aY (cs := #[.int .i64 ((aM t527 x34_2).f0), .bool ((aM t527 x34_2).f1), .int .i64 0, .int .i64 0]) ?_ 2 _ rfl; (with_reducible repeat (first | refine aG ?_ _ | refine aH ?_ | refine aD ?_ _)); refine aY (cs := #[.int .i64 ((aM t527 x34_2).f0), .bool false, .int .i64 0, .int .i64 0]) ?_ 1 _ rfl; (with_reducible repeat (first | refine aG ?_ _ | refine aH ?_ | refine aD ?_ _)); refine aY (cs := #[.int .i64 0, .bool false, .int .i64 0, .int .i64 0]) ?_ 0 _ rfl; (with_reducible repeat (first | refine aG ?_ _ | refine aH ?_ | refine aD ?_ _)); exact BK533.out⟩
          have n3_ : ah (Below w.heap.size w ((((w9010.setCell ⟨gb533, 0, none⟩ (.int .i64 ((aM t527 x34_2).f0))).setCell ⟨gb533, 1, none⟩ (.bool ((aM t527 x34_2).f1))).setCell ⟨gb533, 2, none⟩ (.int .i64 ((aM t527 x34_2).f2))).setCell ⟨gb533, 3, none⟩ (.int .i64 ((aM t527 x34_2).f3)))) := ⟨BL⟩
          (try clear HO_32)
          (try clear BK523)
          (try clear BK533)
          (try clear HB)
          generalize ((((w9010.setCell ⟨gb533, 0, none⟩ (.int .i64 ((aM t527 x34_2).f0))).setCell ⟨gb533, 1, none⟩ (.bool ((aM t527 x34_2).f1))).setCell ⟨gb533, 2, none⟩ (.int .i64 ((aM t527 x34_2).f2))).setCell ⟨gb533, 3, none⟩ (.int .i64 ((aM t527 x34_2).f3))) = w9013 at n0_ n1_ n2_ n3_ ⊢
          have HO_32 := n0_
          have BK523 := n1_
          have BK533 := n2_
          have HB := n3_
          clear n0_ n1_ n2_ n3_
          replace HO_32 := ah.mk (Kd.eu HO_32.out)
          replace BK523 := ah.mk (aH BK523.out)
          replace BK533 := ah.mk (aH BK533.out)
          replace HB := ah.mk (dH HB.out)
          refine ji (n := 7) (S := fun w' => w'.cell? ⟨gb523, 0, none⟩ = some (.int .i64 FV) ∧ w'.cell? ⟨gb523, 1, none⟩ = some (.int .i64 FW) ∧ w'.cell? ⟨gb523, 2, none⟩ = some (.string FX) ∧ w'.cell? ⟨gb533, 0, none⟩ = some (.int .i64 ((aM t527 x34_2).f0)) ∧ w'.cell? ⟨gb533, 1, none⟩ = some (.bool ((aM t527 x34_2).f1)) ∧ w'.cell? ⟨gb533, 2, none⟩ = some (.int .i64 ((aM t527 x34_2).f2)) ∧ w'.cell? ⟨gb533, 3, none⟩ = some (.int .i64 ((aM t527 x34_2).f3))) (ds := []) #[F,F,F,F,F,F,F] (by kernel_rfl) rfl rfl ⟨(ak BK523.out 0).trans rfl, (ak BK523.out 1).trans rfl, (ak BK523.out 2).trans rfl, (ak BK533.out 0).trans rfl, (ak BK533.out 1).trans rfl, (ak BK533.out 2).trans rfl, (ak BK533.out 3).trans rfl⟩ (fun hHeld => ?_)
          generalize w9013.drew = w9014 at HO_32 BK523 BK533 HB hHeld ⊢
          refine puS (i := 1) (N := some 40) #[F,T,F,F,F,F,F] (by kernel_rfl) ?_
          refine puS (i := 4) (N := some 43) #[F,T,F,F,T,F,F] (by kernel_rfl) ?_
          refine taS (i := 0) (N := some 39) #[T,T,F,F,T,F,F] (by kernel_rfl) hHeld ?_
          refine taS (i := 5) (N := some 44) #[T,T,F,F,T,T,F] (by kernel_rfl) hHeld ?_
          refine kW (i := 2) (N := some 41) #[T,T,T,F,T,T,F] rfl rfl (by kernel_rfl) (by decide) (fun K hK => ?_)
          refine iZ Tryz.func114 #[.agg #[.int .i64 FV, .int .i64 FW, .string FX], .int .i64 x34_2] ?_
          with_reducible refine (dF.calls k2 FV FW FX x34_2 t534 _ A32.out).mono ?_
          rintro e w9015 ⟨rfl, hb⟩
          refine ⟨_, rfl, ?_⟩
          replace HO_32 := RB HO_32 hb
          replace BK523 := KB BK523 hb
          replace BK533 := KB BK533 hb
          replace HB := BS (w := w) hb
          (try clear hb)
          refine hK.out _ _ ⟨(ak BK523.out 0).trans rfl, (ak BK523.out 1).trans rfl, (ak BK523.out 2).trans rfl, (ak BK533.out 0).trans rfl, (ak BK533.out 1).trans rfl, (ak BK533.out 2).trans rfl, (ak BK533.out 3).trans rfl⟩ (fun hHeld => ?_)
          clear hK K
          refine nrm (some 41) ?_
          replace H := H.out
          by_cases c33 : (wrap64 (2 * t534)) > ((aM t527 x34_2).f3)
          ·rw [if_pos c33] at H
           have c33b0 : decide (((aM t527 x34_2).f3) < (wrap64 (2 * t534))) = true := decide_eq_true c33
           clear c33
           obtain rfl := Option.some.inj H
           refine puS (i := 3) (N := some 42) #[T,T,T,T,T,T,F] (by kernel_rfl) ?_
           refine puS (i := 6) (N := some 45) #[T,T,T,T,T,T,T] (by kernel_rfl) ?_
           refine iD (by kernel_rfl) ?_
           try go_wp2
           go_ret
           exact ⟨EWW, BL⟩
          ·rw [if_neg c33] at H
           have c33b0 : decide (((aM t527 x34_2).f3) < (wrap64 (2 * t534))) = false := decide_eq_false c33
           clear c33
           have H' := ah.mk H
           clear H
           refine puS (i := 3) (N := some 42) #[T,T,T,T,T,T,F] (by kernel_rfl) ?_
           refine puS (i := 6) (N := some 45) #[T,T,T,T,T,T,T] (by kernel_rfl) ?_
           refine iD (by kernel_rfl) ?_
           try go_wp2
           go_roundg k2
           case measure => have := HK1.out; have := HK2.out; omega
           case rel => exact ⟨(wrap64 (x34_2 + 1)), EQ, H', ⟨by have := HK1.out; have := HK2.out; omega⟩, ⟨by (with_reducible repeat (first | apply Kd.fI | apply Kd.fJ | apply Kd.eu)); exact Kd.dY HO_32.out (fun _ hk => trivial)⟩, ⟨BK⟩, ⟨BL⟩⟩
         ·replace H := be H; obtain ⟨t535, A46, H⟩ := H
          obtain ⟨hcz9010_0, hcz9010_1, hcz9010_2, hfz9010_0, hfz9010_1, hfz9010_2⟩ := cz3 BK523.out
          replace H := ah.mk H
          go_wp2_with (first | ((with_reducible refine ay (f := 115) rfl ?_); refine bE (some 50) Tryz.func115 #[.agg #[.int .i64 FV, .int .i64 FW, .string FX], .string FX] ?_; (with_reducible refine (mM.calls k2 FV FW FX FX _ _ A46.out).mono ?_); rintro e w9011 ⟨rfl, hb⟩; refine ⟨_, rfl, ?_⟩; replace HO_32 := RB HO_32 hb; replace BK523 := KB BK523 hb; replace HB := BS (w := w) hb; (try clear hb); refine bU ?_))
          refine Hide.mk ?_
          replace H := H.out
          replace H := ifB H; rcases H with ⟨rfl, H⟩ | ⟨rfl, H⟩
          ·obtain rfl := Option.some.inj H
           try go_wp2
           go_ret
           exact ⟨EWW, BL⟩
          ·obtain rfl := Option.some.inj H
           try go_wp2
           go_ret
           exact ⟨EWW, BL⟩
   ·obtain rfl := Option.some.inj H
    try go_wp2
    go_ret
    exact ⟨EWW, BL⟩
  ·obtain rfl := Option.some.inj H
   try go_wp2
   go_ret
   exact ⟨EWW, BL⟩
 ·obtain rfl := Option.some.inj H
  try go_wp2
  go_ret
  exact ⟨EWW, BL⟩
def bM.l0 : Nat → ByteArray → Int → Int → Option (Bool)
 | 0, _, _, _ => none
 | k + 1, a, b, c => if c < b then (if 0 ≤ c then (if c < (a.size : Int) then ((dZ.f (bt a c)).bind fun d => (if d = true then (bM.l0 k a b (wrap64 (c + 1))) else (some false))) else (none)) else (none)) else (some true)
def bM.f (k : Nat) (a0 : ByteArray) : Option (Bool) := (dh.f (a0.size : Int) 1 8).bind fun t536 => (if t536 = true then (bM.l0 k a0 (a0.size : Int) 0) else (some false))
theorem bM.calls (k : Nat) (a0 : ByteArray) (r : Bool) (w : World) (h : bM.f k a0 = some r) :
  Calls Tryz.prog 145 #[.string a0] w fun e w' => e = .returned (.bool r) ∧ cK w w' := by
 unfold bM.f at h
 have H := h
 clear h
 replace H := be H; obtain ⟨t536, A2, H⟩ := H
 replace H := ah.mk H
 go_enter Tryz.func145, Tryz.ntmps145
 go_wp2_with (first | ((with_reducible refine ay (f := 89) rfl ?_); refine bE (some 6) Tryz.func89 #[.int .i64 (a0.size : Int), .int .i64 1, .int .i64 8] ?_; (with_reducible refine (dh.calls (a0.size : Int) 1 8 _ _ A2.out).mono ?_); rintro e w' ⟨rfl, ⟨nd, rfl⟩⟩; refine ⟨_, rfl, ?_⟩; refine bU ?_))
 refine Hide.mk ?_
 replace H := H.out
 replace H := ifB H; rcases H with ⟨rfl, H⟩ | ⟨rfl, H⟩
 ·have H' := ah.mk H
  clear H
  try go_wp2
  go_loopg [10] k (fun kq v10 w' => ∃ (x10_1 : Int), v10 = .int .i64 x10_1 ∧ ah (bM.l0 kq a0 (a0.size : Int) x10_1 = some r) ∧ ah (kq ≤ k) ∧ cK w w')
  case atStart => exact ⟨(0), EQ, H', ⟨Nat.le_refl _⟩, DR⟩
  case round =>
   clear H'
   try clear c3
   obtain ⟨x10_1, rfl, HA, HK1, ⟨m1, rfl⟩⟩ := hrel
   cases gk with
   | zero => exact absurd HA.out (by simp [bM.l0])
   | succ k1 =>
    have H := HA.out
    clear HA
    simp only [bM.l0] at H
    replace H := ifD H; rcases H with ⟨c4b0, H⟩ | ⟨c4b0, H⟩
    ·replace H := ifN H; obtain ⟨c5b0, H⟩ := H
     replace H := ifN H; obtain ⟨c6b0, H⟩ := H
     replace H := be H; obtain ⟨t537, A8, H⟩ := H
     have p7 : (0 ≤ (x10_1 : Int)) = True := OT
     have q7 : (x10_1 < (a0.size : Int)) = True := OT
     have hx7 := fO a0 x10_1
     replace H := ah.mk H
     go_wp2_with (first | ((with_reducible refine ay (f := 134) rfl ?_); refine bE (some 16) Tryz.func134 #[.int .u8 (bt a0 x10_1)] ?_; (with_reducible refine (dZ.calls (bt a0 x10_1) _ _ A8.out).mono ?_); rintro e w' ⟨rfl, ⟨nd, rfl⟩⟩; refine ⟨_, rfl, ?_⟩; refine bU ?_))
     refine Hide.mk ?_
     replace H := H.out
     replace H := ifB H; rcases H with ⟨rfl, H⟩ | ⟨rfl, H⟩
     ·have H' := ah.mk H
      clear H
      try go_wp2
      go_roundg k1
      case measure => have := HK1.out; omega
      case rel => exact ⟨(wrap64 (x10_1 + 1)), EQ, H', ⟨by have := HK1.out; omega⟩, DR⟩
     ·obtain rfl := Option.some.inj H
      try go_wp2
      go_ret
      exact ⟨EQ, DR⟩
    ·obtain rfl := Option.some.inj H
     go_wp2
     go_ret
     exact ⟨EQ, DR⟩
 ·obtain rfl := Option.some.inj H
  try go_wp2
  go_ret
  exact ⟨EQ, DR⟩
def jB.f (a0 : Int) : Option (Bool) := if a0 = 3 then (some true) else (some (decide (a0 ≥ 6)))
theorem jB.calls (a0 : Int) (r : Bool) (w : World) (h : jB.f a0 = some r) :
  Calls Tryz.prog 203 #[.int .i64 a0] w fun e w' => e = .returned (.bool r) ∧ cK w w' := by
 unfold jB.f at h
 have H := h
 clear h
 replace H := ah.mk H
 go_enter Tryz.func203, Tryz.ntmps203
 replace H := H.out
 replace H := ifE H; rcases H with ⟨c2b0, c2b1, H⟩ | ⟨c2, c2b0, c2b1, H⟩
 ·obtain rfl := Option.some.inj H
  try go_wp2
  go_ret
  exact ⟨EQ, DR⟩
 ·obtain rfl := Option.some.inj H
  try go_wp2
  go_ret
  exact ⟨EQ, DR⟩
def iY.f (a0 : Int) : Option (Bool) := if a0 = 4 then (some true) else (some (a0 == 5))
theorem iY.calls (a0 : Int) (r : Bool) (w : World) (h : iY.f a0 = some r) :
  Calls Tryz.prog 204 #[.int .i64 a0] w fun e w' => e = .returned (.bool r) ∧ cK w w' := by
 unfold iY.f at h
 have H := h
 clear h
 replace H := ah.mk H
 go_enter Tryz.func204, Tryz.ntmps204
 replace H := H.out
 replace H := ifE H; rcases H with ⟨c2b0, c2b1, H⟩ | ⟨c2, c2b0, c2b1, H⟩
 ·obtain rfl := Option.some.inj H
  try go_wp2
  go_ret
  exact ⟨EQ, DR⟩
 ·obtain rfl := Option.some.inj H
  try go_wp2
  go_ret
  exact ⟨EQ, DR⟩
end Go.Proofs.YtnfiedfaaaphoaaGreat.PFnExactOneRound
