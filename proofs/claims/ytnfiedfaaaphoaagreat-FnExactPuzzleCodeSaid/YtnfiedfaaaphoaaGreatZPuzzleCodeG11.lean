/- Walks of functions: what each computes. -/
import Derived.Test.YtnfiedfaaaphoaaGreatZPuzzleCodeG0
import Derived.Test.YtnfiedfaaaphoaaGreatZPuzzleCodeG10
import Derived.Test.YtnfiedfaaaphoaaGreatZPuzzleCodeW
import Derived.Test.YtnfiedfaaaphoaaGreatZPuzzleCodeShelf
import Derived.Test.YtnfiedfaaaphoaaGreatZPuzzleCodeHandSort
import Derived.Test.YtnfiedfaaaphoaaGreatZPuzzleCodeHandForm
import Derived.Test.YtnfiedfaaaphoaaGreatZPuzzleCodeHandAlone
import Derived.Test.YtnfiedfaaaphoaaGreatZPuzzleCodeHandReach
import Derived.Test.YtnfiedfaaaphoaaGreatZPuzzleCodeHandPut
namespace Go.Proofs.YtnfiedfaaaphoaaGreat.PFnExactPuzzleCode
open Go.RowKit Go.Proofs.YtnfiedfaaaphoaaGreatW.PrintWords Go.Proofs.YtnfiedfaaaphoaaGreatW.PrintLast Go.Proofs.YtnfiedfaaaphoaaGreatW.PrintMore Go.Proofs.YtnfiedfaaaphoaaGreat.Sq
attribute [local go_sem] iH iJ jD jC gV gU iK iG
set_option maxHeartbeats 8000000
set_option maxRecDepth 100000
set_option linter.unusedVariables false
set_option linter.unusedSimpArgs false
mutual
def aU.l0 : Nat → List (dI) → Int → Int → Int → Int → Int → ByteArray → Option ((List (dI)))
 | 0, _, _, _, _, _, _, _ => none
 | k + 1, a, b, c, d, e, f, g => if d < c then ((dX.f k e f g d false).bind fun h => ((dX.f k e f g d true).bind fun i => (if h ≥ 2 then (aU.j1 k a b d h i c d true e f g) else (aU.j1 k a b d h i c d (decide (i ≥ 2)) e f g)))) else (some a)
def aU.j1 : Nat → List (dI) → Int → Int → Int → Int → Int → Int → Bool → Int → Int → ByteArray → Option ((List (dI)))
 | 0, _, _, _, _, _, _, _, _, _, _, _ => none
 | k + 1, a, b, c, d, e, f, g, h, i, j, l => if h = true then (aU.j2 k a (wrap64 (b + 1)) c d e f g i j l) else (aU.j2 k a b c d e f g i j l)
def aU.j2 : Nat → List (dI) → Int → Int → Int → Int → Int → Int → Int → Int → ByteArray → Option ((List (dI)))
 | 0, _, _, _, _, _, _, _, _, _, _ => none
 | k + 1, a, b, c, d, e, f, g, h, i, j => if d ≥ 2 then (if a.length < 4398046511104 then ((some (a ++ [(⟨b, false, c, d⟩ : dI)] : List (dI))).bind fun l => (if e ≥ 2 then (if l.length < 4398046511104 then (aU.l0 k (l ++ [(⟨b, true, c, e⟩ : dI)]) b f (wrap64 (g + 1)) h i j) else (none)) else (aU.l0 k l b f (wrap64 (g + 1)) h i j))) else (none)) else (if e ≥ 2 then (if a.length < 4398046511104 then (aU.l0 k (a ++ [(⟨b, true, c, e⟩ : dI)]) b f (wrap64 (g + 1)) h i j) else (none)) else (aU.l0 k a b f (wrap64 (g + 1)) h i j))
end
def aU.f (k : Nat) (EU EW : Int) (EX : ByteArray) : Option ((List (dI))) := (bn.f k EU EW EX).bind fun t457 => (if t457 = true then (aU.l0 k ([] : List (dI)) 0 (EX.size : Int) 0 EU EW EX) else (some ([] : List (dI))))
def aU.T8 : Bool × List (List Nat × List Nat) := (true, [([], []), ([], []), ([0, 1], [0, 1]), ([], []), ([], []), ([3, 4, 2], [3, 4]), ([2, 5, 0, 1, 2], [2]), ([5, 6, 0, 1, 2, 3, 4, 5, 6], [5])])
def aU.B8 : List Nat := [0, 0, 3, 0, 0, 31, 63, 127]
theorem aU.ER : kD .any (opsOf Tryz.f113 8) = aU.T8 := by kernel_rfl
theorem aU.Em : iZ aU.T8.2 aU.B8 = true := by kernel_rfl
theorem aU.calls (k : Nat) (EU EW : Int) (EX : ByteArray) (r : List (dI)) (w : World) (h : aU.f k EU EW EX = some r) :
  Calls Tryz.prog 113 #[.agg #[.int .i64 EU, .int .i64 EW, .string EX]] w fun e w' => ∃ v0_ : Value, e = .returned (v0_) ∧ Kd.R kX 115 w' w.heap.size (fun _ => True) v0_ r ∧ Below w.heap.size w w' := by
 have hu32 := Tryz.underlying32
 have hu115 := Tryz.underlying115
 have HB := ah.mk (Below.refl w.heap.size w)
 unfold aU.f at h
 have H := h
 clear h
 replace H := be H; obtain ⟨t457, A2, H⟩ := H
 replace H := ah.mk H
 go_enter Tryz.func113, Tryz.ntmps113
 go_wp2_with (first | ((with_reducible refine aN (N := 1) rfl ?_); refine bC (N := 1) (cs := #[.int .i64 EU, .int .i64 EW, .string EX]) (t := 32) ?_; intro gb456 hg w9000 hbox hb; have BK456 := ah.mk hbox; have GW456 := SZ (w := w) hg; have GE456 := GW456; replace HB := BS (w := w) hb; clear hb hbox hg; obtain ⟨hcz9001_0, hcz9001_1, hcz9001_2, hfz9001_0, hfz9001_1, hfz9001_2⟩ := cz3 BK456.out) | ((with_reducible refine ay (f := 110) rfl ?_); refine bq (some 9) Tryz.func110 #[.agg #[.int .i64 EU, .int .i64 EW, .string EX]] ?_; (with_reducible refine (bn.calls k EU EW EX _ _ A2.out).mono ?_); rintro e w9002 ⟨rfl, hb⟩; refine ⟨_, rfl, ?_⟩; replace BK456 := KB BK456 hb; replace HB := BS (w := w) hb; (try clear hb); obtain ⟨hcz9003_0, hcz9003_1, hcz9003_2, hfz9003_0, hfz9003_1, hfz9003_2⟩ := cz3 BK456.out; refine bP ?_))
 refine Hide.mk ?_
 replace H := H.out
 replace H := ifB H; rcases H with ⟨rfl, H⟩ | ⟨rfl, H⟩
 ·have H' := ah.mk H
  clear H
  try go_wp2
  go_loopg [3, 4, 14] k (fun kq v3 v4 v14 w' => ∃ (x3_1 : List (dI)) (x4_1 : Int) (x14_1 : Int), v4 = .int .i64 x4_1 ∧ v14 = .int .i64 x14_1 ∧ ah (aU.l0 kq x3_1 x4_1 (EX.size : Int) x14_1 EU EW EX = some r) ∧ ah (kq ≤ k) ∧ ah (Kd.R kX 115 w' w.heap.size (fun _ => True) v3 x3_1) ∧ ah (w'.heap[gb456]? = some (.cells #[.int .i64 EU, .int .i64 EW, .string EX] 32 (0, 0))) ∧ ah (Below w.heap.size w w'))
  case atStart => exact ⟨(([] : List (dI))), (0), (0), EQ, EQ, H', ⟨Nat.le_refl _⟩, ⟨by first | exact Kd.ni _ _ _ _ _ | exact Kd.pK _ _ _ _ _ | exact Kd.pY _ _ _ _ _ | exact Kd.pV _ _ _ _ _ | exact Kd.pI _ _ _ _ _⟩, ⟨BK⟩, ⟨BL⟩⟩
  case round =>
   clear H'
   try clear c3
   try clear hcz9001_0
   try clear hcz9001_1
   try clear hcz9001_2
   try clear hcz9003_0
   try clear hcz9003_1
   try clear hcz9003_2
   try clear hfz9001_0
   try clear hfz9001_1
   try clear hfz9001_2
   try clear hfz9003_0
   try clear hfz9003_1
   try clear hfz9003_2
   obtain ⟨x3_1, x4_1, x14_1, rfl, rfl, HA, HK1, HO_3, BK456, HB⟩ := hrel
   cases gk with
   | zero => exact absurd HA.out (by simp [aU.l0])
   | succ k1 =>
    have H := HA.out
    clear HA
    simp only [aU.l0] at H
    replace H := ifD H; rcases H with ⟨c8b0, H⟩ | ⟨c8b0, H⟩
    ·replace H := be H; obtain ⟨t458, A9, H⟩ := H
     replace H := be H; obtain ⟨t459, A10, H⟩ := H
     have HC11 := ah.mk H
     clear H
     try go_wp2
     replace HO_3 := ah.mk (Kd.fM HO_3.out)
     replace BK456 := ah.mk (aI BK456.out)
     replace HB := ah.mk (dL HB.out)
     refine ji (n := 8) (S := fun w' => w'.cell? ⟨gb456, 0, none⟩ = some (.int .i64 EU) ∧ w'.cell? ⟨gb456, 1, none⟩ = some (.int .i64 EW) ∧ w'.cell? ⟨gb456, 2, none⟩ = some (.string EX)) (ds := []) #[F,F,F,F,F,F,F,F] (by kernel_rfl) rfl rfl ⟨(av BK456.out 0).trans rfl, (av BK456.out 1).trans rfl, (av BK456.out 2).trans rfl⟩ (fun hHeld => ?_); refine gT aU.ER aU.Em (fun HT_ HW_ => ?_)
     generalize wr.drew = w9004 at HO_3 BK456 HB hHeld ⊢
     refine puS (i := 1) (N := some 18) #[F,T,F,F,F,F,F,F] (aJ HT_.out (by kernel_rfl)) ?_
     refine puS (i := 4) (N := some 21) #[F,T,F,F,T,F,F,F] (aJ HT_.out (by kernel_rfl)) ?_
     refine taS (i := 0) (N := some 17) #[T,T,F,F,T,F,F,F] (dJ HT_.out HW_.out (by kernel_rfl)) hHeld ?_
     refine taS (i := 3) (N := some 20) #[T,T,F,T,T,F,F,F] (dJ HT_.out HW_.out (by kernel_rfl)) hHeld ?_
     refine kH (i := 2) (N := some 19) #[T,T,T,T,T,F,F,F] rfl rfl (iO HT_.out (by kernel_rfl)) (by decide) (fun K hK => ?_)
     refine iU Tryz.func164 #[.agg #[.int .i64 EU, .int .i64 EW, .string EX], .int .i64 x14_1, .bool false] ?_
     with_reducible refine (dX.calls k1 EU EW EX x14_1 false t458 _ A9.out).mono ?_
     rintro e w9005 ⟨rfl, hb⟩
     refine ⟨_, rfl, ?_⟩
     replace HO_3 := RB HO_3 hb
     replace BK456 := KB BK456 hb
     replace HB := BS (w := w) hb
     (try clear hb)
     refine hK.out _ _ ⟨(av BK456.out 0).trans rfl, (av BK456.out 1).trans rfl, (av BK456.out 2).trans rfl⟩ (fun hHeld => ?_)
     clear hK K
     refine nrm (some 19) ?_
     refine kH (i := 5) (N := some 22) #[T,T,T,T,T,T,F,F] rfl rfl (iO HT_.out (by kernel_rfl)) (by decide) (fun K hK => ?_)
     refine iU Tryz.func164 #[.agg #[.int .i64 EU, .int .i64 EW, .string EX], .int .i64 x14_1, .bool true] ?_
     with_reducible refine (dX.calls k1 EU EW EX x14_1 true t459 _ A10.out).mono ?_
     rintro e w9006 ⟨rfl, hb⟩
     refine ⟨_, rfl, ?_⟩
     replace HO_3 := RB HO_3 hb
     replace BK456 := KB BK456 hb
     replace HB := BS (w := w) hb
     (try clear hb)
     refine hK.out _ _ ⟨(av BK456.out 0).trans rfl, (av BK456.out 1).trans rfl, (av BK456.out 2).trans rfl⟩ (fun hHeld => ?_)
     clear hK K
     refine nrm (some 22) ?_
     refine puS (i := 6) (N := some 6) #[T,T,T,T,T,T,T,F] (aJ HT_.out (by kernel_rfl)) ?_
     refine puS (i := 7) (N := some 7) #[T,T,T,T,T,T,T,T] (aJ HT_.out (by kernel_rfl)) ?_
     refine gX (fH HT_.out (by kernel_rfl)) ?_
     go_upto_region 9 with (fail)
     go_cut [28] (fun v28 wc => ∃ (kq : Nat) (x28_10 : Bool), v28 = .bool x28_10 ∧ ah (aU.j1 kq x3_1 x4_1 x14_1 t458 t459 (EX.size : Int) x14_1 x28_10 EU EW EX = some r) ∧ ah (kq ≤ k1) ∧ ah (Kd.R kX 115 wc w.heap.size (fun _ => True) u3 x3_1) ∧ ah (wc.heap[gb456]? = some (.cells #[.int .i64 EU, .int .i64 EW, .string EX] 32 (0, 0))) ∧ ah (Below w.heap.size w wc))
     case first =>
      have H := HC11.out
      clear HC11
      by_cases c15 : t458 ≥ 2
      ·rw [if_pos c15] at H
       have c15b0 : decide (2 ≤ t458) = true := decide_eq_true c15
       clear c15
       (first | rw [c15b0] | (simp only [iV, jQ]; rw [c15b0]) | skip)
       have H' := ah.mk H
       clear H
       go_wp2
       go_meet
       case rel => exact ⟨_, (true), EQ, H', ⟨by have := HK1.out; first | omega | exact Nat.le_refl _⟩, ⟨(RR HO_3)⟩, ⟨BK⟩, ⟨BL⟩⟩
      ·rw [if_neg c15] at H
       have c15b0 : decide (2 ≤ t458) = false := decide_eq_false c15
       clear c15
       (first | rw [c15b0] | (simp only [iV, jQ]; rw [c15b0]) | skip)
       have H' := ah.mk H
       clear H
       go_wp2
       go_meet
       case rel => exact ⟨_, (decide (t459 ≥ 2)), EQ, H', ⟨by have := HK1.out; first | omega | exact Nat.le_refl _⟩, ⟨(RR HO_3)⟩, ⟨BK⟩, ⟨BL⟩⟩
     case rest =>
      clear HC11
      try clear c3
      try clear c8
      try clear c8b0
      try clear hcz9001_0
      try clear hcz9001_1
      try clear hcz9001_2
      try clear hcz9003_0
      try clear hcz9003_1
      try clear hcz9003_2
      try clear hfz9001_0
      try clear hfz9001_1
      try clear hfz9001_2
      try clear hfz9003_0
      try clear hfz9003_1
      try clear hfz9003_2
      obtain ⟨kq, x28_10, rfl, HA, HJ10, HO_3, BK456, HB⟩ := hcut
      cases kq with
      | zero => exact absurd HA.out (by simp [aU.j1])
      | succ kj10 =>
       have H := HA.out
       clear HA
       simp only [aU.j1] at H
       have HC16 := ah.mk H
       clear H
       go_upto_if 28 with (fail)
       go_cut [4] (fun v4 wc => ∃ (kq : Nat) (x4_15 : Int), v4 = .int .i64 x4_15 ∧ ah (aU.j2 kq x3_1 x4_15 x14_1 t458 t459 (EX.size : Int) x14_1 EU EW EX = some r) ∧ ah (kq ≤ kj10) ∧ ah (Kd.R kX 115 wc w.heap.size (fun _ => True) u3 x3_1) ∧ ah (wc.heap[gb456]? = some (.cells #[.int .i64 EU, .int .i64 EW, .string EX] 32 (0, 0))) ∧ ah (Below w.heap.size w wc))
       case first =>
        have H := HC16.out
        clear HC16
        replace H := ifB H; rcases H with ⟨rfl, H⟩ | ⟨rfl, H⟩
        ·have H' := ah.mk H
         clear H
         go_wp2
         go_meet
         case rel => exact ⟨_, (wrap64 (x4_1 + 1)), EQ, H', ⟨by have := HK1.out; have := HJ10.out; first | omega | exact Nat.le_refl _⟩, ⟨(RR HO_3)⟩, ⟨BK⟩, ⟨BL⟩⟩
        ·have H' := ah.mk H
         clear H
         go_wp2
         go_meet
         case rel => exact ⟨_, (x4_1), EQ, H', ⟨by have := HK1.out; have := HJ10.out; first | omega | exact Nat.le_refl _⟩, ⟨(RR HO_3)⟩, ⟨BK⟩, ⟨BL⟩⟩
       case rest =>
        clear HC16
        try clear c3
        try clear c8
        try clear c8b0
        try clear hcz9001_0
        try clear hcz9001_1
        try clear hcz9001_2
        try clear hcz9003_0
        try clear hcz9003_1
        try clear hcz9003_2
        try clear hfz9001_0
        try clear hfz9001_1
        try clear hfz9001_2
        try clear hfz9003_0
        try clear hfz9003_1
        try clear hfz9003_2
        obtain ⟨kq, x4_15, rfl, HA, HJ15, HO_3, BK456, HB⟩ := hcut
        cases kq with
        | zero => exact absurd HA.out (by simp [aU.j2])
        | succ kj15 =>
         have H := HA.out
         clear HA
         simp only [aU.j2] at H
         by_cases c18 : t458 ≥ 2
         ·rw [if_pos c18] at H
          have c18b0 : decide (2 ≤ t458) = true := decide_eq_true c18
          clear c18
          replace H := ifP H; obtain ⟨c19, H⟩ := H
          have LMc19 := ah.mk c19
          clear c19
          obtain ⟨y460, hy460⟩ : ∃ y_ : List (dI), y_ = (x3_1 ++ [(⟨x4_15, false, x14_1, t458⟩ : dI)]) := ⟨_, rfl⟩
          replace H : (if t459 ≥ 2 then (if y460.length < 4398046511104 then (aU.l0 kj15 (y460 ++ [(⟨x4_15, true, x14_1, t459⟩ : dI)]) x4_15 (EX.size : Int) (wrap64 (x14_1 + 1)) EU EW EX) else (none)) else (aU.l0 kj15 y460 x4_15 (EX.size : Int) (wrap64 (x14_1 + 1)) EU EW EX)) = some r := by first | (rw [hy460]; with_reducible exact H) | (have H2_ := (Option.bind_some _ _).symm.trans H; rw [hy460]; with_reducible exact H2_) | (have H2_ := (Option.bind_some _ _).symm.trans H; with_reducible exact H2_) | with_reducible exact H | (rw [hy460]; exact H) | exact H
          have Ny460 := ah.mk hy460
          clear hy460
          replace H := ah.mk H
          go_wp2_with (first | ((with_reducible refine dn (b := .append) (xs := #[.tmp 33, .tmp 38]) rfl ?_); at_builtin; refine Kd.fT kX (w0 := w) w.heap.size rfl (.tmp 33) (.tmp 38) 75 115 (.agg #[(.int .i64 0), (.bool false), (.int .i64 0), (.int .i64 0)]) 32 rfl Tryz.underlying75 qm rfl (by decide) (by omega) u3 x3_1 (⟨x4_15, false, x14_1, t458⟩ : dI) [.int .i64 x4_15, .bool false, .int .i64 x14_1, .int .i64 t458] (fun _ => True) (fun _ => False) rfl rfl ?aP (fun _ hk => hk.elim) ?aF ?aO ?aB ?aS ?aL ?_; (case aP => exact nX _ _ _ (⟨x4_15, false, x14_1, t458⟩ : dI)); (case aB => exact BL); (case aF => exact (fun _ _ => trivial)); (case aO => exact (RR HO_3)); (case aS => exact (aQ BL)); (case aL => have := LMc19.out; omega); intro v461 w9007 ho hb hg hat; rw [← Ny460.out] at ho; have n0_ := ah.mk (dK (g := gb456) (o := .cells #[.int .i64 EU, .int .i64 EW, .string EX] 32 (0, 0)) BK hg (Kd.lq HO_3.out BK456.out (by decide))); have n1_ := ah.mk (hb); have n2_ := ah.mk (ho); clear BK456 HB HO_3; have BK456 := n0_; have HB := n1_; have HO462 := n2_; clear n0_ n1_ n2_; clear ho hb hg hat; refine bP ?_))
          refine Hide.mk ?_
          replace H := H.out
          by_cases c20 : t459 ≥ 2
          ·rw [if_pos c20] at H
           have c20b0 : decide (2 ≤ t459) = true := decide_eq_true c20
           clear c20
           replace H := ifP H; obtain ⟨c21, H⟩ := H
           have LMc21 := ah.mk c21
           clear c21
           obtain ⟨y463, hy463⟩ : ∃ y_ : List (dI), y_ = (y460 ++ [(⟨x4_15, true, x14_1, t459⟩ : dI)]) := ⟨_, rfl⟩
           replace H : (aU.l0 kj15 y463 x4_15 (EX.size : Int) (wrap64 (x14_1 + 1)) EU EW EX) = some r := by first | (rw [hy463]; with_reducible exact H) | (have H2_ := (Option.bind_some _ _).symm.trans H; rw [hy463]; with_reducible exact H2_) | (have H2_ := (Option.bind_some _ _).symm.trans H; with_reducible exact H2_) | with_reducible exact H | (rw [hy463]; exact H) | exact H
           have Ny463 := ah.mk hy463
           clear hy463
           have H' := ah.mk H
           clear H
           try go_wp2_with (first | ((with_reducible refine dn (b := .append) (xs := #[.tmp 42, .tmp 47]) rfl ?_); at_builtin; refine Kd.fT kX (w0 := w) w.heap.size rfl (.tmp 42) (.tmp 47) 75 115 (.agg #[(.int .i64 0), (.bool false), (.int .i64 0), (.int .i64 0)]) 32 rfl Tryz.underlying75 qm rfl (by decide) (by omega) v461 y460 (⟨x4_15, true, x14_1, t459⟩ : dI) [.int .i64 x4_15, .bool true, .int .i64 x14_1, .int .i64 t459] (fun _ => True) (fun _ => False) rfl rfl ?aP (fun _ hk => hk.elim) ?aF ?aO ?aB ?aS ?aL ?_; (case aP => exact nX _ _ _ (⟨x4_15, true, x14_1, t459⟩ : dI)); (case aB => exact BL); (case aF => exact (fun _ _ => trivial)); (case aO => exact (RR HO462)); (case aS => exact (aQ BL)); (case aL => have := LMc21.out; omega); intro v464 w9008 ho hb hg hat; rw [← Ny463.out] at ho; have n0_ := ah.mk (dK (g := gb456) (o := .cells #[.int .i64 EU, .int .i64 EW, .string EX] 32 (0, 0)) BK hg (Kd.lq HO462.out BK456.out (by decide))); have n1_ := ah.mk (hb); have n2_ := ah.mk (ho); clear BK456 HB HO462; have BK456 := n0_; have HB := n1_; have HO465 := n2_; clear n0_ n1_ n2_; clear ho hb hg hat))
           go_roundg kj15
           case measure => have := HK1.out; have := HJ10.out; have := HJ15.out; omega
           case rel => exact ⟨(y463), (x4_15), (wrap64 (x14_1 + 1)), EQ, EQ, H', ⟨by have := HK1.out; have := HJ10.out; have := HJ15.out; omega⟩, ⟨(RR HO465)⟩, ⟨BK⟩, ⟨BL⟩⟩
          ·rw [if_neg c20] at H
           have c20b0 : decide (2 ≤ t459) = false := decide_eq_false c20
           clear c20
           have H' := ah.mk H
           clear H
           try go_wp2
           go_roundg kj15
           case measure => have := HK1.out; have := HJ10.out; have := HJ15.out; omega
           case rel => exact ⟨(y460), (x4_15), (wrap64 (x14_1 + 1)), EQ, EQ, H', ⟨by have := HK1.out; have := HJ10.out; have := HJ15.out; omega⟩, ⟨(RR HO462)⟩, ⟨BK⟩, ⟨BL⟩⟩
         ·rw [if_neg c18] at H
          have c18b0 : decide (2 ≤ t458) = false := decide_eq_false c18
          clear c18
          by_cases c25 : t459 ≥ 2
          ·rw [if_pos c25] at H
           have c25b0 : decide (2 ≤ t459) = true := decide_eq_true c25
           clear c25
           replace H := ifP H; obtain ⟨c26, H⟩ := H
           have LMc26 := ah.mk c26
           clear c26
           obtain ⟨y466, hy466⟩ : ∃ y_ : List (dI), y_ = (x3_1 ++ [(⟨x4_15, true, x14_1, t459⟩ : dI)]) := ⟨_, rfl⟩
           replace H : (aU.l0 kj15 y466 x4_15 (EX.size : Int) (wrap64 (x14_1 + 1)) EU EW EX) = some r := by first | (rw [hy466]; with_reducible exact H) | (have H2_ := (Option.bind_some _ _).symm.trans H; rw [hy466]; with_reducible exact H2_) | (have H2_ := (Option.bind_some _ _).symm.trans H; with_reducible exact H2_) | with_reducible exact H | (rw [hy466]; exact H) | exact H
           have Ny466 := ah.mk hy466
           clear hy466
           have H' := ah.mk H
           clear H
           go_wp2_with (first | ((with_reducible refine dn (b := .append) (xs := #[.tmp 42, .tmp 47]) rfl ?_); at_builtin; refine Kd.fT kX (w0 := w) w.heap.size rfl (.tmp 42) (.tmp 47) 75 115 (.agg #[(.int .i64 0), (.bool false), (.int .i64 0), (.int .i64 0)]) 32 rfl Tryz.underlying75 qm rfl (by decide) (by omega) u3 x3_1 (⟨x4_15, true, x14_1, t459⟩ : dI) [.int .i64 x4_15, .bool true, .int .i64 x14_1, .int .i64 t459] (fun _ => True) (fun _ => False) rfl rfl ?aP (fun _ hk => hk.elim) ?aF ?aO ?aB ?aS ?aL ?_; (case aP => exact nX _ _ _ (⟨x4_15, true, x14_1, t459⟩ : dI)); (case aB => exact BL); (case aF => exact (fun _ _ => trivial)); (case aO => exact (RR HO_3)); (case aS => exact (aQ BL)); (case aL => have := LMc26.out; omega); intro v467 w9007 ho hb hg hat; rw [← Ny466.out] at ho; have n0_ := ah.mk (dK (g := gb456) (o := .cells #[.int .i64 EU, .int .i64 EW, .string EX] 32 (0, 0)) BK hg (Kd.lq HO_3.out BK456.out (by decide))); have n1_ := ah.mk (hb); have n2_ := ah.mk (ho); clear BK456 HB HO_3; have BK456 := n0_; have HB := n1_; have HO468 := n2_; clear n0_ n1_ n2_; clear ho hb hg hat))
           go_roundg kj15
           case measure => have := HK1.out; have := HJ10.out; have := HJ15.out; omega
           case rel => exact ⟨(y466), (x4_15), (wrap64 (x14_1 + 1)), EQ, EQ, H', ⟨by have := HK1.out; have := HJ10.out; have := HJ15.out; omega⟩, ⟨(RR HO468)⟩, ⟨BK⟩, ⟨BL⟩⟩
          ·rw [if_neg c25] at H
           have c25b0 : decide (2 ≤ t459) = false := decide_eq_false c25
           clear c25
           have H' := ah.mk H
           clear H
           go_wp2
           go_roundg kj15
           case measure => have := HK1.out; have := HJ10.out; have := HJ15.out; omega
           case rel => exact ⟨(x3_1), (x4_15), (wrap64 (x14_1 + 1)), EQ, EQ, H', ⟨by have := HK1.out; have := HJ10.out; have := HJ15.out; omega⟩, ⟨(RR HO_3)⟩, ⟨BK⟩, ⟨BL⟩⟩
    ·obtain rfl := Option.some.inj H
     go_wp2
     go_ret
     exact ⟨_, EWW, (RR HO_3), BL⟩
 ·obtain rfl := Option.some.inj H
  try go_wp2
  go_ret
  exact ⟨_, EWW, by first | exact Kd.ni _ _ _ _ _ | exact Kd.pK _ _ _ _ _ | exact Kd.pY _ _ _ _ _ | exact Kd.pV _ _ _ _ _ | exact Kd.pI _ _ _ _ _, BL⟩
mutual
def eU.j0 : Nat → Int → Int → Bool → Int → Int → Option (List Int)
 | 0, _, _, _, _, _ => none
 | k + 1, a, b, c, d, e => eU.l0 k a ([] : List Int) e 0 b c d e
def eU.l0 : Nat → Int → List Int → Int → Int → Int → Bool → Int → Int → Option (List Int)
 | 0, _, _, _, _, _, _, _, _ => none
 | k + 1, a, b, c, d, e, f, g, h => if d < c then (if b.length < 17592186044416 then (eU.l0 k a (b ++ [wrap64 (g + (wrap64 (d * a)))]) c (wrap64 (d + 1)) e f g h) else (none)) else (some b)
end
def eU.f (k : Nat) (EU EW : Int) (EX : ByteArray) (EY : Int) (EZ : Bool) (E5 a1_3 : Int) : Option (List Int) := if EZ = true then (eU.j0 k EW EY EZ E5 a1_3) else (eU.j0 k 1 EY EZ E5 a1_3)
theorem eU.calls (k : Nat) (EU EW : Int) (EX : ByteArray) (EY : Int) (EZ : Bool) (E5 a1_3 : Int) (r : List Int) (w : World) (h : eU.f k EU EW EX EY EZ E5 a1_3 = some r) :
  Calls Tryz.prog 135 #[.agg #[.int .i64 EU, .int .i64 EW, .string EX], .agg #[.int .i64 EY, .bool EZ, .int .i64 E5, .int .i64 a1_3]] w fun e w' => ∃ v0_ : Value, e = .returned (v0_) ∧ Kd.R (Kd.int .i64) 3 w' w.heap.size (fun _ => True) v0_ r ∧ Below w.heap.size w w' := by
 have hu32 := Tryz.underlying32
 have hu115 := Tryz.underlying115
 have HB := ah.mk (Below.refl w.heap.size w)
 unfold eU.f at h
 have H := h
 clear h
 have HC3 := ah.mk H
 clear H
 go_enter Tryz.func135, Tryz.ntmps135
 go_upto_if 9 with (first | ((with_reducible refine aN (N := 2) rfl ?_); refine bC (N := 2) (cs := #[.int .i64 EU, .int .i64 EW, .string EX]) (t := 32) ?_; intro gb469 hg w4 hbox hb; have BK469 := ah.mk hbox; have GW469 := SZ (w := w) hg; have GE469 := GW469; replace HB := BS (w := w) hb; clear hb hbox hg) | ((with_reducible refine aN (N := 3) rfl ?_); refine bC (N := 3) (cs := #[.int .i64 EY, .bool EZ, .int .i64 E5, .int .i64 a1_3]) (t := 115) ?_; intro gb470 hg w5 hbox hb; have n0_ := KB BK469 hb; have n1_ := BS (w := w) hb; have n2_ := ah.mk (hbox); have n3_ := SZ (w := w) hg; have n4_ := SZ (w := w) hg; have n5_ := NL BK469 hg; have n6_ := NG BK469 hg; clear BK469 HB; have BK469 := n0_; have HB := n1_; have BK470 := n2_; have GW470 := n3_; have GE470 := n4_; have NB469_470 := n5_; have NB470_469 := n6_; clear n0_ n1_ n2_ n3_ n4_ n5_ n6_; clear hb hbox hg; have hnb6 := NB470_469.out; have hnc6 := NB469_470.out; obtain ⟨hcz7_0, hcz7_1, hcz7_2, hcz7_3, hfz7_0, hfz7_1, hfz7_2, hfz7_3⟩ := cz4 BK470.out))
 (try simp only [Act.put, List.setIfInBounds_toArray, List.set_cons_zero, List.set_cons_succ])
 go_cut [5] (fun v5 wc => ∃ (kq : Nat) (x5_2 : Int), v5 = .int .i64 x5_2 ∧ ah (eU.j0 kq x5_2 EY EZ E5 a1_3 = some r) ∧ ah (kq ≤ k) ∧ ah (wc.heap[gb469]? = some (.cells #[.int .i64 EU, .int .i64 EW, .string EX] 32 (0, 0))) ∧ ah (wc.heap[gb470]? = some (.cells #[.int .i64 EY, .bool EZ, .int .i64 E5, .int .i64 a1_3] 115 (0, 0))) ∧ ah (Below w.heap.size w wc))
 case first =>
  have H := HC3.out
  clear HC3
  by_cases c8 : EZ = true
  ·subst c8
   rw [if_pos rfl] at H
   have H' := ah.mk H
   clear H
   have hnb8000 := NB469_470.out
   have hnc8000 := NB470_469.out
   obtain ⟨hcz8001_0, hcz8001_1, hcz8001_2, hfz8001_0, hfz8001_1, hfz8001_2⟩ := cz3 BK469.out
   go_wp2
   go_meet
   case rel => exact ⟨_, (EW), EQ, H', ⟨by first | omega | exact Nat.le_refl _⟩, ⟨BK⟩, ⟨BK⟩, ⟨BL⟩⟩
  ·replace c8 := Bool.eq_false_iff.mpr c8
   subst c8
   rw [if_neg Bool.false_ne_true] at H
   have H' := ah.mk H
   clear H
   go_wp2
   go_meet
   case rel => exact ⟨_, (1), EQ, H', ⟨by first | omega | exact Nat.le_refl _⟩, ⟨BK⟩, ⟨BK⟩, ⟨BL⟩⟩
 case rest =>
  clear HC3
  try clear hcz7_0
  try clear hcz7_1
  try clear hcz7_2
  try clear hcz7_3
  try clear hfz7_0
  try clear hfz7_1
  try clear hfz7_2
  try clear hfz7_3
  obtain ⟨kq, x5_2, rfl, HA, HJ2, BK469, BK470, HB⟩ := hcut
  cases kq with
  | zero => exact absurd HA.out (by simp [eU.j0])
  | succ kj2 =>
   have H := HA.out
   clear HA
   simp only [eU.j0] at H
   have H' := ah.mk H
   clear H
   have hnb11 := NB470_469.out
   have hnc11 := NB469_470.out
   obtain ⟨hcz12_0, hcz12_1, hcz12_2, hcz12_3, hfz12_0, hfz12_1, hfz12_2, hfz12_3⟩ := cz4 BK470.out
   go_wp2
   go_loopg [6, 14] kj2 (fun kq v6 v14 w' => ∃ (x6_2 : List Int) (x14_2 : Int), v14 = .int .i64 x14_2 ∧ ah (eU.l0 kq x5_2 x6_2 a1_3 x14_2 EY EZ E5 a1_3 = some r) ∧ ah (kq ≤ kj2) ∧ ah (Kd.R (Kd.int .i64) 3 w' w.heap.size (fun _ => True) v6 x6_2) ∧ ah (w'.heap[gb469]? = some (.cells #[.int .i64 EU, .int .i64 EW, .string EX] 32 (0, 0))) ∧ ah (w'.heap[gb470]? = some (.cells #[.int .i64 EY, .bool EZ, .int .i64 E5, .int .i64 a1_3] 115 (0, 0))) ∧ ah (Below w.heap.size w w'))
   case atStart => exact ⟨(([] : List Int)), (0), EQ, H', ⟨Nat.le_refl _⟩, ⟨by first | exact Kd.ni _ _ _ _ _ | exact Kd.pK _ _ _ _ _ | exact Kd.pY _ _ _ _ _ | exact Kd.pV _ _ _ _ _ | exact Kd.pI _ _ _ _ _⟩, ⟨BK⟩, ⟨BK⟩, ⟨BL⟩⟩
   case round =>
    clear H'
    try clear hcz12_0
    try clear hcz12_1
    try clear hcz12_2
    try clear hcz12_3
    try clear hcz7_0
    try clear hcz7_1
    try clear hcz7_2
    try clear hcz7_3
    try clear hfz12_0
    try clear hfz12_1
    try clear hfz12_2
    try clear hfz12_3
    try clear hfz7_0
    try clear hfz7_1
    try clear hfz7_2
    try clear hfz7_3
    obtain ⟨x6_2, x14_2, rfl, HA, HK2, HO_6, BK469, BK470, HB⟩ := hrel
    cases gk with
    | zero => exact absurd HA.out (by simp [eU.l0])
    | succ k2 =>
     have H := HA.out
     clear HA
     simp only [eU.l0] at H
     replace H := ifD H; rcases H with ⟨c13b0, H⟩ | ⟨c13b0, H⟩
     ·replace H := ifP H; obtain ⟨c14, H⟩ := H
      have LMc14 := ah.mk c14
      clear c14
      obtain ⟨y471, hy471⟩ : ∃ y_ : List Int, y_ = (x6_2 ++ [wrap64 (E5 + (wrap64 (x14_2 * x5_2)))]) := ⟨_, rfl⟩
      replace H : (eU.l0 k2 x5_2 y471 a1_3 (wrap64 (x14_2 + 1)) EY EZ E5 a1_3) = some r := by first | (rw [hy471]; with_reducible exact H) | (have H2_ := (Option.bind_some _ _).symm.trans H; rw [hy471]; with_reducible exact H2_) | (have H2_ := (Option.bind_some _ _).symm.trans H; with_reducible exact H2_) | with_reducible exact H | (rw [hy471]; exact H) | exact H
      have Ny471 := ah.mk hy471
      clear hy471
      have H' := ah.mk H
      clear H
      have hnb5000 := NB470_469.out
      have hnc5000 := NB469_470.out
      obtain ⟨hcz5001_0, hcz5001_1, hcz5001_2, hcz5001_3, hfz5001_0, hfz5001_1, hfz5001_2, hfz5001_3⟩ := cz4 BK470.out
      go_wp2_with (first | ((with_reducible refine dn (b := .append) (xs := #[.tmp 17, .tmp 24]) rfl ?_); at_builtin; refine Kd.fT (Kd.int .i64) (w0 := w) w.heap.size rfl (.tmp 17) (.tmp 24) 43 3 (.int .i64 0) 8 rfl Tryz.underlying43 info3 rfl (by decide) (by omega) u6 x6_2 (wrap64 (E5 + (wrap64 (x14_2 * x5_2)))) [.int .i64 (wrap64 (E5 + (wrap64 (x14_2 * x5_2))))] (fun _ => True) (fun _ => False) rfl rfl ?aP (fun _ hk => hk.elim) ?aF ?aO ?aB ?aS ?aL ?_; (case aP => exact rfl); (case aB => exact BL); (case aF => exact (fun _ _ => trivial)); (case aO => exact (RR HO_6)); (case aS => exact (aQ BL)); (case aL => have := LMc14.out; omega); intro v472 w5002 ho hb hg hat; rw [← Ny471.out] at ho; have n0_ := ah.mk (dK (g := gb469) (o := .cells #[.int .i64 EU, .int .i64 EW, .string EX] 32 (0, 0)) BK hg (Kd.lq HO_6.out BK469.out (by decide))); have n1_ := ah.mk (dK (g := gb470) (o := .cells #[.int .i64 EY, .bool EZ, .int .i64 E5, .int .i64 a1_3] 115 (0, 0)) BK hg (Kd.lq HO_6.out BK470.out (by decide))); have n2_ := ah.mk (hb); have n3_ := ah.mk (ho); clear BK469 BK470 HB HO_6; have BK469 := n0_; have BK470 := n1_; have HB := n2_; have HO473 := n3_; clear n0_ n1_ n2_ n3_; clear ho hb hg hat))
      go_roundg k2
      case measure => have := HJ2.out; have := HK2.out; omega
      case rel => exact ⟨(y471), (wrap64 (x14_2 + 1)), EQ, H', ⟨by have := HJ2.out; have := HK2.out; omega⟩, ⟨(RR HO473)⟩, ⟨BK⟩, ⟨BK⟩, ⟨BL⟩⟩
     ·obtain rfl := Option.some.inj H
      go_wp2
      go_ret
      exact ⟨_, EWW, (RR HO_6), BL⟩
def eD.l0 : Nat → List (List Int) → List (dI) → Int → Int → Int → Int → ByteArray → Option ((List (List Int)))
 | 0, _, _, _, _, _, _, _ => none
 | k + 1, a, b, c, d, e, f, g => if d < c then (if 0 ≤ d then (if d < (b.length : Int) then ((eU.f k e f g ((aM b d).f0) ((aM b d).f1) ((aM b d).f2) ((aM b d).f3)).bind fun h => (if a.length < 5864062014805 then (eD.l0 k (a ++ [h]) b c (wrap64 (d + 1)) e f g) else (none))) else (none)) else (none)) else (some a)
def eD.f (k : Nat) (EU EW : Int) (EX : ByteArray) : Option ((List (List Int))) := (aU.f k EU EW EX).bind fun t475 => (eD.l0 k ([] : List (List Int)) t475 (t475.length : Int) 0 EU EW EX)
theorem eD.calls (k : Nat) (EU EW : Int) (EX : ByteArray) (r : List (List Int)) (w : World) (h : eD.f k EU EW EX = some r) :
  Calls Tryz.prog 82 #[.agg #[.int .i64 EU, .int .i64 EW, .string EX]] w fun e w' => ∃ v0_ : Value, e = .returned (v0_) ∧ Kd.S (Kd.slice 3 (Kd.int .i64)) 43 w' w.heap.size (fun _ => True) v0_ r ∧ Below w.heap.size w w' := by
 have hu32 := Tryz.underlying32
 have hu115 := Tryz.underlying115
 have HB := ah.mk (Below.refl w.heap.size w)
 unfold eD.f at h
 have H := h
 clear h
 replace H := be H; obtain ⟨t475, A2, H⟩ := H
 have H' := ah.mk H
 clear H
 go_enter Tryz.func82, Tryz.ntmps82
 go_wp2_with (first | ((with_reducible refine aN (N := 1) rfl ?_); refine bC (N := 1) (cs := #[.int .i64 EU, .int .i64 EW, .string EX]) (t := 32) ?_; intro gb474 hg w3 hbox hb; have BK474 := ah.mk hbox; have GW474 := SZ (w := w) hg; have GE474 := GW474; replace HB := BS (w := w) hb; clear hb hbox hg; obtain ⟨hcz4_0, hcz4_1, hcz4_2, hfz4_0, hfz4_1, hfz4_2⟩ := cz3 BK474.out) | ((with_reducible refine ay (f := 113) rfl ?_); refine bq (some 7) Tryz.func113 #[.agg #[.int .i64 EU, .int .i64 EW, .string EX]] ?_; (with_reducible refine (aU.calls k EU EW EX t475 _ A2.out).mono ?_); rintro e w5 ⟨v476, rfl, ho0, hb⟩; refine ⟨_, rfl, ?_⟩; have n0_ := ah.mk (Kd.cO ho0 (aQ BL)); replace BK474 := KB BK474 hb; replace HB := BS (w := w) hb; have HO477 := n0_; clear n0_; (try clear hb); (try clear ho0); obtain ⟨Ao6, co6, eo6⟩ := Kd.dH HO477.out; subst eo6))
 go_loopg [3, 9] k (fun kq v3 v9 w' => ∃ (x3_1 : List (List Int)) (x9_1 : Int), v9 = .int .i64 x9_1 ∧ ah (eD.l0 kq x3_1 t475 (t475.length : Int) x9_1 EU EW EX = some r) ∧ ah (kq ≤ k) ∧ ah (Kd.S (Kd.slice 3 (Kd.int .i64)) 43 w' w.heap.size (fun _ => True) v3 x3_1) ∧ ah (Kd.R kX 115 w' w.heap.size (fun _ => True) (.slice Ao6 t475.length co6) t475) ∧ ah (w'.heap[gb474]? = some (.cells #[.int .i64 EU, .int .i64 EW, .string EX] 32 (0, 0))) ∧ ah (Below w.heap.size w w'))
 case atStart => exact ⟨(([] : List (List Int))), (0), EQ, H', ⟨Nat.le_refl _⟩, ⟨by first | exact Kd.pI _ _ _ _ _ | exact Kd.pK _ _ _ _ _ | exact Kd.pY _ _ _ _ _ | exact Kd.pV _ _ _ _ _ | exact Kd.ni _ _ _ _ _⟩, ⟨(RR HO477)⟩, ⟨BK⟩, ⟨BL⟩⟩
 case round =>
  clear H'
  try clear hcz4_0
  try clear hcz4_1
  try clear hcz4_2
  try clear hfz4_0
  try clear hfz4_1
  try clear hfz4_2
  obtain ⟨x3_1, x9_1, rfl, HA, HK1, HO_3, HO_7, BK474, HB⟩ := hrel
  cases gk with
  | zero => exact absurd HA.out (by simp [eD.l0])
  | succ k1 =>
   have H := HA.out
   clear HA
   simp only [eD.l0] at H
   replace H := ifD H; rcases H with ⟨c7b0, H⟩ | ⟨c7b0, H⟩
   ·replace H := ifN H; obtain ⟨c8b0, H⟩ := H
    replace H := ifN H; obtain ⟨c9b0, H⟩ := H
    replace H := be H; obtain ⟨t480, A10, H⟩ := H
    replace H := ifP H; obtain ⟨c11, H⟩ := H
    have LMc11 := ah.mk c11
    clear c11
    obtain ⟨y483, hy483⟩ : ∃ y_ : List (List Int), y_ = (x3_1 ++ [t480]) := ⟨_, rfl⟩
    replace H : (eD.l0 k1 y483 t475 (t475.length : Int) (wrap64 (x9_1 + 1)) EU EW EX) = some r := by first | (rw [hy483]; with_reducible exact H) | (have H2_ := (Option.bind_some _ _).symm.trans H; rw [hy483]; with_reducible exact H2_) | (have H2_ := (Option.bind_some _ _).symm.trans H; with_reducible exact H2_) | with_reducible exact H | (rw [hy483]; exact H) | exact H
    have Ny483 := ah.mk hy483
    clear hy483
    have H' := ah.mk H
    clear H
    have p478 : 0 ≤ (x9_1 : Int) := OD
    have q478 : x9_1 < (t475.length : Int) := OD
    obtain ⟨ad478, e478, hx478_0, hx478_1, hx478_2, hx478_3⟩ := mX (Kd.bN HO_7.out).2.2 x9_1 p478 q478
    cases e478
    replace p478 := eq_true p478
    replace q478 := eq_true q478
    go_wp2_with (first | ((with_reducible refine aN (N := 5) rfl ?_); refine bC (N := 5) (cs := #[.int .i64 0, .bool false, .int .i64 0, .int .i64 0]) (t := 115) ?_; intro gb479 hg w7000 hbox hb; have n0_ := ah.mk (Kd.gH (SR HO_3) hb); have n1_ := ah.mk (Kd.lW (Kd.rX (RR HO_7) gb479 (Nat.le_of_eq hg.symm)) hb); have n2_ := KB BK474 hb; have n3_ := BS (w := w) hb; have n4_ := ah.mk (hbox); have n5_ := SZ (w := w) hg; have n6_ := SZ (w := w) hg; have n7_ := NL BK474 hg; have n8_ := NG BK474 hg; clear HO_3 HO_7 BK474 HB; have HO_3 := n0_; have HO_7 := n1_; have BK474 := n2_; have HB := n3_; have BK479 := n4_; have GW479 := n5_; have GE479 := n6_; have NB474_479 := n7_; have NB479_474 := n8_; clear n0_ n1_ n2_ n3_ n4_ n5_ n6_ n7_ n8_; clear hb hbox hg; have hnb7001 := NB479_474.out; have hnc7001 := NB474_479.out; obtain ⟨hcz7002_0, hcz7002_1, hcz7002_2, hcz7002_3, hfz7002_0, hfz7002_1, hfz7002_2, hfz7002_3⟩ := cz4 BK479.out; obtain ⟨hcz7003_0, hcz7003_1, hcz7003_2, hfz7003_0, hfz7003_1, hfz7003_2⟩ := cz3 BK474.out) | ((with_reducible refine ay (f := 135) rfl ?_); refine bq (some 16) Tryz.func135 #[.agg #[.int .i64 EU, .int .i64 EW, .string EX], .agg #[.int .i64 ((aM t475 x9_1).f0), .bool ((aM t475 x9_1).f1), .int .i64 ((aM t475 x9_1).f2), .int .i64 ((aM t475 x9_1).f3)]] ?_; (with_reducible refine (eU.calls k1 EU EW EX ((aM t475 x9_1).f0) ((aM t475 x9_1).f1) ((aM t475 x9_1).f2) ((aM t475 x9_1).f3) t480 _ A10.out).mono ?_); rintro e w7004 ⟨v481, rfl, ho0, hb⟩; refine ⟨_, rfl, ?_⟩; have n0_ := ah.mk (Kd.pR (by (with_reducible repeat (first | apply Kd.oC | apply Kd.oK | apply Kd.rF)); exact (Kd.oL (Kd.Ad (p := ⟨gb479, 3, none⟩) (Kd.Ad (p := ⟨gb479, 2, none⟩) (Kd.Ad (p := ⟨gb479, 1, none⟩) (Kd.Ad (p := ⟨gb479, 0, none⟩) (Kd.Cz HO_3.out BK479.out (by decide)) (fun _ hk => hk.2) (.int .i64 ((aM t475 x9_1).f0))) (fun _ hk => hk.2) (.bool ((aM t475 x9_1).f1))) (fun _ hk => hk.2) (.int .i64 ((aM t475 x9_1).f2))) (fun _ hk => hk.2) (.int .i64 ((aM t475 x9_1).f3))) (fun _ h_ => h_.1))) (Kd.kK ho0) hb); have n1_ := ah.mk (Kd.lW (by (with_reducible repeat (first | apply Kd.gy | apply Kd.gu | apply Kd.fM)); exact (Kd.eF (Kd.jH (p := ⟨gb479, 3, none⟩) (Kd.jH (p := ⟨gb479, 2, none⟩) (Kd.jH (p := ⟨gb479, 1, none⟩) (Kd.jH (p := ⟨gb479, 0, none⟩) (Kd.eF HO_7.out (fun k_ hk => (⟨hk, hk.2⟩ : _ ∧ k_ ≠ gb479))) (fun _ hk => hk.2) (.int .i64 ((aM t475 x9_1).f0))) (fun _ hk => hk.2) (.bool ((aM t475 x9_1).f1))) (fun _ hk => hk.2) (.int .i64 ((aM t475 x9_1).f2))) (fun _ hk => hk.2) (.int .i64 ((aM t475 x9_1).f3))) (fun _ h_ => h_.1))) hb); have n2_ := ah.mk (Kd.cO ho0 (aQ BL)); have n3_ := ah.mk (gW (g := gb474) (o := .cells #[.int .i64 EU, .int .i64 EW, .string EX] 32 (0, 0)) (by (with_reducible repeat (first | refine aG ?_ _ | refine aI ?_ | refine aD ?_ _)); refine fI ?_ NB474_479.out _; (with_reducible repeat (first | refine aG ?_ _ | refine aI ?_ | refine aD ?_ _)); refine fI ?_ NB474_479.out _; (with_reducible repeat (first | refine aG ?_ _ | refine aI ?_ | refine aD ?_ _)); refine fI ?_ NB474_479.out _; (with_reducible repeat (first | refine aG ?_ _ | refine aI ?_ | refine aD ?_ _)); refine fI ?_ NB474_479.out _; (with_reducible repeat (first | refine aG ?_ _ | refine aI ?_ | refine aD ?_ _)); exact BK474.out) hb); have n4_ := ah.mk (gW (g := gb479) (o := .cells #[.int .i64 ((aM t475 x9_1).f0), .bool ((aM t475 x9_1).f1), .int .i64 ((aM t475 x9_1).f2), .int .i64 ((aM t475 x9_1).f3)] 115 (0, 0)) (by (with_reducible repeat (first | refine aG ?_ _ | refine aI ?_ | refine aD ?_ _)); refine aX (cs := #[.int .i64 ((aM t475 x9_1).f0), .bool ((aM t475 x9_1).f1), .int .i64 ((aM t475 x9_1).f2), .int .i64 0]) ?_ 3 _ rfl; (with_reducible repeat (first | refine aG ?_ _ | refine aI ?_ | refine aD ?_ _)); refine aX (cs := #[.int .i64 ((aM t475 x9_1).f0), .bool ((aM t475 x9_1).f1), .int .i64 0, .int .i64 0]) ?_ 2 _ rfl; (with_reducible repeat (first | refine aG ?_ _ | refine aI ?_ | refine aD ?_ _)); refine aX (cs := #[.int .i64 ((aM t475 x9_1).f0), .bool false, .int .i64 0, .int .i64 0]) ?_ 1 _ rfl; (with_reducible repeat (first | refine aG ?_ _ | refine aI ?_ | refine aD ?_ _)); refine aX (cs := #[.int .i64 0, .bool false, .int .i64 0, .int .i64 0]) ?_ 0 _ rfl; (with_reducible repeat (first | refine aG ?_ _ | refine aI ?_ | refine aD ?_ _)); exact BK479.out) hb); replace HB := BS (w := w) hb; clear HO_3 HO_7 BK474 BK479; have HO_3 := n0_; have HO_7 := n1_; have HO482 := n2_; have BK474 := n3_; have BK479 := n4_; clear n0_ n1_ n2_ n3_ n4_; (try clear hb); (try clear hk); (try clear ho0); obtain ⟨Ao7005, co7005, eo7005⟩ := Kd.dH HO482.out; subst eo7005) | ((with_reducible refine dn (b := .append) (xs := #[.tmp 13, .tmp 17]) rfl ?_); at_builtin; refine Kd.Ci (Kd.slice 3 (Kd.int .i64)) (w0 := w) w.heap.size rfl (.tmp 13) (.tmp 17) 101 43 (.slice none 0 0) 24 rfl Tryz.underlying101 DY rfl (by decide) (by omega) u3 x3_1 t480 [.slice Ao7005 t480.length co7005] (fun _ => True) (fun k_ => some k_ = (.slice Ao7005 t480.length co7005 : Value).ownBlock) rfl rfl ?aP (fun k_ hk_ => ((Kd.eF (ok' := fun k_ => ((fun _ => True)) k_ ∧ some k_ ≠ (u3 : Value).ownBlock) (Kd.sM (HO482.out) (Kd.sZ HO_3.out) (by decide)) (fun k_ hk => ⟨trivial, hk.2⟩))).1 k_ hk_.symm) ?aF ?aO ?aB ?aS ?aL ?_; (case aP => exact Kd.Eo (Kd.eF (Kd.yu rfl (Kd.eF (ok' := fun k_ => ((fun _ => True)) k_ ∧ some k_ ≠ (u3 : Value).ownBlock) (Kd.sM (HO482.out) (Kd.sZ HO_3.out) (by decide)) (fun k_ hk => ⟨trivial, hk.2⟩))) (fun _ h_ => h_))); (case aB => exact BL); (case aF => exact (fun _ _ => trivial)); (case aO => exact (by (with_reducible repeat (first | apply Kd.oC | apply Kd.oK | apply Kd.rF)); exact Kd.oL HO_3.out (fun k_ hk => ⟨trivial, fun e_ => hk.2 e_⟩))); (case aS => exact (aQ BL)); (case aL => have := LMc11.out; omega); intro v484 w7006 ho hb hg hat; rw [← Ny483.out] at ho; have n0_ := ah.mk (Kd.lU (RR HO_7) (Kd.sZ (SR HO_3)) (by decide) hg); have n1_ := ah.mk (dK (g := gb474) (o := .cells #[.int .i64 EU, .int .i64 EW, .string EX] 32 (0, 0)) BK hg (Kd.Ey HO_3.out BK474.out (by decide))); have n2_ := ah.mk (dK (g := gb479) (o := .cells #[.int .i64 ((aM t475 x9_1).f0), .bool ((aM t475 x9_1).f1), .int .i64 ((aM t475 x9_1).f2), .int .i64 ((aM t475 x9_1).f3)] 115 (0, 0)) BK hg (Kd.Ey HO_3.out BK479.out (by decide))); have n3_ := ah.mk (hb); have n4_ := ah.mk (ho); clear HO_7 BK474 BK479 HB HO_3 HO482; have HO_7 := n0_; have BK474 := n1_; have BK479 := n2_; have HB := n3_; have HO485 := n4_; clear n0_ n1_ n2_ n3_ n4_; clear ho hb hg hat))
    go_roundg k1
    case measure => have := HK1.out; omega
    case rel => exact ⟨(y483), (wrap64 (x9_1 + 1)), EQ, H', ⟨by have := HK1.out; omega⟩, ⟨(SR HO485)⟩, ⟨by (with_reducible repeat (first | apply Kd.gy | apply Kd.gu | apply Kd.fM)); exact Kd.eF HO_7.out (fun _ hk => trivial)⟩, ⟨BK⟩, ⟨BL⟩⟩
   ·obtain rfl := Option.some.inj H
    go_wp2
    go_ret
    exact ⟨_, EWW, (SR HO_3), BL⟩
def dZ.l0 : Nat → ByteArray → List Int → List Int → Int → Int → Option (ByteArray)
 | 0, _, _, _, _, _ => none
 | k + 1, a, b, c, d, e => if e < d then (if 0 ≤ e then (if e < (c.length : Int) then (if 0 ≤ (rd c e) then (if (rd c e) < (a.size : Int) then (if b.length < 140737488355328 then (dZ.l0 k a (b ++ [bt a (rd c e)]) c d (wrap64 (e + 1))) else (none)) else (none)) else (none)) else (none)) else (none)) else (some (strOfNums b))
def dZ.f (k : Nat) (a0 : ByteArray) (l1 : List Int) : Option (ByteArray) := dZ.l0 k a0 ([] : List Int) l1 (l1.length : Int) 0
theorem dZ.calls (k : Nat) (a0 : ByteArray) (A1 : Option Addr) (c1 : Nat) (l1 : List Int) (r : ByteArray) (w : World) (hr1 : Kd.C (Kd.int .i64) w A1 l1.length l1) (hc1 : l1.length ≤ c1) (h : dZ.f k a0 l1 = some r) :
  Calls Tryz.prog 129 #[.string a0, .slice A1 l1.length c1] w fun e w' => e = .returned (.string r) ∧ Below w.heap.size w w' := by
 have HR1 := ah.mk hr1
 have HC1 := ah.mk hc1
 clear hr1 hc1
 have HB := ah.mk (Below.refl w.heap.size w)
 unfold dZ.f at h
 have H := h
 clear h
 have H' := ah.mk H
 clear H
 go_enter Tryz.func129, Tryz.ntmps129
 go_wp2
 go_loopg [5, 10] k (fun kq v5 v10 w' => ∃ (x5_1 : List Int) (x10_1 : Int), v10 = .int .i64 x10_1 ∧ ah (dZ.l0 kq a0 x5_1 l1 (l1.length : Int) x10_1 = some r) ∧ ah (kq ≤ k) ∧ ah (Kd.R (Kd.int .u8) 5 w' w.heap.size (fun _ => True) v5 x5_1) ∧ ah (Below w.heap.size w w'))
 case atStart => exact ⟨(([] : List Int)), (0), EQ, H', ⟨Nat.le_refl _⟩, ⟨by first | exact Kd.ni _ _ _ _ _ | exact Kd.pK _ _ _ _ _ | exact Kd.pY _ _ _ _ _ | exact Kd.pV _ _ _ _ _ | exact Kd.pI _ _ _ _ _⟩, ⟨BL⟩⟩
 case round =>
  clear H'
  try clear c1
  obtain ⟨x5_1, x10_1, rfl, HA, HK1, HO_5, HB⟩ := hrel
  cases gk with
  | zero => exact absurd HA.out (by simp [dZ.l0])
  | succ k1 =>
   have H := HA.out
   clear HA
   simp only [dZ.l0] at H
   replace H := ifD H; rcases H with ⟨c3b0, H⟩ | ⟨c3b0, H⟩
   ·replace H := ifN H; obtain ⟨c4b0, H⟩ := H
    replace H := ifN H; obtain ⟨c5b0, H⟩ := H
    replace H := ifN H; obtain ⟨c6b0, H⟩ := H
    replace H := ifN H; obtain ⟨c7b0, H⟩ := H
    replace H := ifP H; obtain ⟨c9, H⟩ := H
    have LMc9 := ah.mk c9
    clear c9
    obtain ⟨y487, hy487⟩ : ∃ y_ : List Int, y_ = (x5_1 ++ [bt a0 (rd l1 x10_1)]) := ⟨_, rfl⟩
    replace H : (dZ.l0 k1 a0 y487 l1 (l1.length : Int) (wrap64 (x10_1 + 1))) = some r := by first | (rw [hy487]; with_reducible exact H) | (have H2_ := (Option.bind_some _ _).symm.trans H; rw [hy487]; with_reducible exact H2_) | (have H2_ := (Option.bind_some _ _).symm.trans H; with_reducible exact H2_) | with_reducible exact H | (rw [hy487]; exact H) | exact H
    have Ny487 := ah.mk hy487
    clear hy487
    have H' := ah.mk H
    clear H
    have p486 : 0 ≤ (x10_1 : Int) := OD
    have q486 : x10_1 < (l1.length : Int) := OD
    obtain ⟨ad486, e486, hx486_0⟩ := Kd.pG HR1.out x10_1 p486 q486
    cases e486
    try replace hx486_0 := (HB.out.cell (World.block_lt_of_cell? w _ hx486_0)).trans hx486_0
    replace p486 := eq_true p486
    replace q486 := eq_true q486
    have p8 : (0 ≤ ((rd l1 x10_1) : Int)) = True := OT
    have q8 : ((rd l1 x10_1) < (a0.size : Int)) = True := OT
    have hx8 := gI a0 (rd l1 x10_1)
    go_wp2_with (first | ((with_reducible refine dn (b := .append) (xs := #[.tmp 14, .tmp 18]) rfl ?_); at_builtin; refine Kd.fT (Kd.int .u8) (w0 := w) w.heap.size rfl (.tmp 14) (.tmp 18) 130 5 (.int .u8 0) 1 rfl Tryz.underlying130 info5 rfl (by decide) (by omega) u5 x5_1 (bt a0 (rd l1 x10_1)) [.int .u8 (bt a0 (rd l1 x10_1))] (fun _ => True) (fun _ => False) rfl rfl ?aP (fun _ hk => hk.elim) ?aF ?aO ?aB ?aS ?aL ?_; (case aP => exact rfl); (case aB => exact BL); (case aF => exact (fun _ _ => trivial)); (case aO => exact (RR HO_5)); (case aS => exact (aQ BL)); (case aL => have := LMc9.out; omega); intro v488 w7000 ho hb hg hat; rw [← Ny487.out] at ho; have n0_ := ah.mk (hb); have n1_ := ah.mk (ho); clear HB HO_5; have HB := n0_; have HO489 := n1_; clear n0_ n1_; clear ho hb hg hat))
    go_roundg k1
    case measure => have := HK1.out; omega
    case rel => exact ⟨(y487), (wrap64 (x10_1 + 1)), EQ, H', ⟨by have := HK1.out; omega⟩, ⟨(RR HO489)⟩, ⟨BL⟩⟩
   ·obtain rfl := Option.some.inj H
    have hcv11 := zi (P := Tryz.prog) Tryz.underlying130 Tryz.underlying5 Tryz.underlying9 (Kd.rW HO_5.out)
    go_wp2
    go_ret
    exact ⟨EWW, BL⟩
end Go.Proofs.YtnfiedfaaaphoaaGreat.PFnExactPuzzleCode
