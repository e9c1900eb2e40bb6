/- Walks of functions: what each computes. -/
import Derived.Test.YtnfiedfaaaphoaaGreatZPuzzleCodeG0
import Derived.Test.YtnfiedfaaaphoaaGreatZPuzzleCodeG1
import Derived.Test.YtnfiedfaaaphoaaGreatZPuzzleCodeW
import Derived.Test.YtnfiedfaaaphoaaGreatZPuzzleCodeShelf
import Derived.Test.YtnfiedfaaaphoaaGreatZPuzzleCodeHandSort
import Derived.Test.YtnfiedfaaaphoaaGreatZPuzzleCodeHandForm
import Derived.Test.YtnfiedfaaaphoaaGreatZPuzzleCodeHandAlone
import Derived.Test.YtnfiedfaaaphoaaGreatZPuzzleCodeHandReach
import Derived.Test.YtnfiedfaaaphoaaGreatZPuzzleCodeHandPut
namespace Go.Proofs.YtnfiedfaaaphoaaGreat.PFnExactPuzzleCode
open Go.RowKit Go.Proofs.YtnfiedfaaaphoaaGreatW.PrintWords Go.Proofs.YtnfiedfaaaphoaaGreatW.PrintLast Go.Proofs.YtnfiedfaaaphoaaGreatW.PrintMore Go.Proofs.YtnfiedfaaaphoaaGreat.Sq
attribute [local go_sem] iH iJ jD jC gV gU iK iG
set_option maxHeartbeats 8000000
set_option maxRecDepth 100000
set_option linter.unusedVariables false
set_option linter.unusedSimpArgs false
attribute [local go_sem high] D9
mutual
def bL.l0 : Nat → List Int → List (dI) → Int → Int → Int → ByteArray → Int → Bool → Int → Int → Option (List Int)
 | 0, _, _, _, _, _, _, _, _, _, _ => none
 | k + 1, a, b, c, d, e, f, g, h, i, j => if c < (b.length : Int) then (if 0 ≤ c then (if (!(((aM b c).f0) == g) || (!(((aM b c).f1) == h) || (!(((aM b c).f2) == i) || (!(((aM b c).f3) == j))))) = true then (bL.l0 k a b (wrap64 (c + 1)) d e f g h i j) else (bL.l1 k a b c 0 d e f g h i j)) else (none)) else (some a)
def bL.l1 : Nat → List Int → List (dI) → Int → Int → Int → Int → ByteArray → Int → Bool → Int → Int → Option (List Int)
 | 0, _, _, _, _, _, _, _, _, _, _, _ => none
 | k + 1, a, b, c, d, e, f, g, h, i, j, l => if d < l then (if i = true then (if a.length < 17592186044416 then (bL.l1 k (a ++ [wrap64 (j + (wrap64 (d * f)))]) b c (wrap64 (d + 1)) e f g h i j l) else (none)) else (if a.length < 17592186044416 then (bL.l1 k (a ++ [wrap64 (j + d)]) b c (wrap64 (d + 1)) e f g h i j l) else (none))) else (bL.l0 k a b (wrap64 (c + 1)) e f g h i j l)
end
def bL.f (k : Nat) (EU EW : Int) (EX : ByteArray) (EY : Int) (EZ : Bool) (E5 a1_3 : Int) : Option (List Int) := (aR.f k EU EW EX).bind fun t140 => (bL.l0 k (([] : List Int)) t140 0 EU EW EX EY EZ E5 a1_3)
theorem bL.calls (k : Nat) (EU EW : Int) (EX : ByteArray) (EY : Int) (EZ : Bool) (E5 a1_3 : Int) (r : List Int) (w : World) (h : bL.f k EU EW EX EY EZ E5 a1_3 = some r) :
  Calls Tryz.prog 125 #[.agg #[.int .i64 EU, .int .i64 EW, .string EX], .agg #[.int .i64 EY, .bool EZ, .int .i64 E5, .int .i64 a1_3]] w fun e w' => ∃ v0_ : Value, e = .returned (v0_) ∧ Kd.R (Kd.int .i64) 3 w' w.heap.size (fun _ => True) v0_ r ∧ Below w.heap.size w w' := by
 have hu32 := Tryz.underlying32
 have hu115 := Tryz.underlying115
 have HB := ah.mk (Below.refl w.heap.size w)
 unfold bL.f at h
 have H := h
 clear h
 obtain ⟨y137, hy137⟩ : ∃ y_ : List Int, y_ = (([] : List Int)) := ⟨_, rfl⟩
 replace H : ((aR.f k EU EW EX).bind fun t140 => (bL.l0 k y137 t140 0 EU EW EX EY EZ E5 a1_3)) = some r := by first | (rw [hy137]; with_reducible exact H) | (have H2_ := (Option.bind_some _ _).symm.trans H; rw [hy137]; with_reducible exact H2_) | (have H2_ := (Option.bind_some _ _).symm.trans H; with_reducible exact H2_) | with_reducible exact H | (rw [hy137]; exact H) | exact H
 have Ny137 := ah.mk hy137
 clear hy137
 replace H := be H; obtain ⟨t140, A3, H⟩ := H
 have H' := ah.mk H
 clear H
 go_enter Tryz.func125, Tryz.ntmps125
 go_wp2_with (first | ((with_reducible refine aN (N := 2) rfl ?_); refine bC (N := 2) (cs := #[.int .i64 EU, .int .i64 EW, .string EX]) (t := 32) ?_; intro gb135 hg w4 hbox hb; have BK135 := ah.mk hbox; have GW135 := SZ (w := w) hg; have GE135 := GW135; replace HB := BS (w := w) hb; clear hb hbox hg) | ((with_reducible refine aN (N := 3) rfl ?_); refine bC (N := 3) (cs := #[.int .i64 EY, .bool EZ, .int .i64 E5, .int .i64 a1_3]) (t := 115) ?_; intro gb136 hg w5 hbox hb; have n0_ := KB BK135 hb; have n1_ := BS (w := w) hb; have n2_ := ah.mk (hbox); have n3_ := SZ (w := w) hg; have n4_ := SZ (w := w) hg; have n5_ := NL BK135 hg; have n6_ := NG BK135 hg; clear BK135 HB; have BK135 := n0_; have HB := n1_; have BK136 := n2_; have GW136 := n3_; have GE136 := n4_; have NB135_136 := n5_; have NB136_135 := n6_; clear n0_ n1_ n2_ n3_ n4_ n5_ n6_; clear hb hbox hg) | ((with_reducible refine aN (N := 9) rfl ?_); refine Kd.oq (Kd.int .i64) _ 3 ?hg (N := 9) ?hd (xs := ([] : List Int)) (inner := []) (ok := fun _ => True) (okp := fun _ => True) ?hr ?hp (fun _ hk => hk) trivial (Below.refl _ _) (Nat.le_refl _) (by simp) ?_; (case hd => rfl); (case hg => rfl); (case hr => first | (go_simp; done) | (go_simp; rfl)); (case hp => exact (gD.none _ _)); intro v138 w6 ho7 hb hg_ hnew_; clear hg_ hnew_; (first | rw [← Ny137.out] at ho7 | (simp only [Int.reduceToNat] at ho7; rw [← Ny137.out] at ho7)); have n0_ := ah.mk (Kd.cO ho7 (aQ BL)); replace BK135 := KB BK135 hb; replace BK136 := KB BK136 hb; replace HB := BS (w := w) hb; have HO139 := n0_; clear n0_; clear hb ho7; have hnb8 := NB135_136.out; have hnc8 := NB136_135.out; obtain ⟨hcz9_0, hcz9_1, hcz9_2, hfz9_0, hfz9_1, hfz9_2⟩ := cz3 BK135.out) | (go_at_call 49; (with_reducible refine (aR.calls k EU EW EX t140 _ A3.out).mono ?_); rintro e w10 ⟨v141, rfl, ho0, hb⟩; have n1_ := ah.mk (Kd.cO (Kd.ze ho0 (g := gb136) (o := .cells #[.int .i64 EY, .bool EZ, .int .i64 E5, .int .i64 a1_3] 115 (0, 0)) BK) (aQ BL)); replace HO139 := RB HO139 hb; replace BK135 := KB BK135 hb; replace BK136 := KB BK136 hb; replace HB := BS (w := w) hb; have HO142 := n1_; clear n1_; (try clear hb); (try clear hk); (try clear ho0)))
 repeat (go_quiet (first | ((with_reducible refine aN (N := 2) rfl ?_); refine bC (N := 2) (cs := #[.int .i64 EU, .int .i64 EW, .string EX]) (t := 32) ?_; intro gb135 hg w4 hbox hb; have BK135 := ah.mk hbox; have GW135 := SZ (w := w) hg; have GE135 := GW135; replace HB := BS (w := w) hb; clear hb hbox hg) | ((with_reducible refine aN (N := 3) rfl ?_); refine bC (N := 3) (cs := #[.int .i64 EY, .bool EZ, .int .i64 E5, .int .i64 a1_3]) (t := 115) ?_; intro gb136 hg w5 hbox hb; have n0_ := KB BK135 hb; have n1_ := BS (w := w) hb; have n2_ := ah.mk (hbox); have n3_ := SZ (w := w) hg; have n4_ := SZ (w := w) hg; have n5_ := NL BK135 hg; have n6_ := NG BK135 hg; clear BK135 HB; have BK135 := n0_; have HB := n1_; have BK136 := n2_; have GW136 := n3_; have GE136 := n4_; have NB135_136 := n5_; have NB136_135 := n6_; clear n0_ n1_ n2_ n3_ n4_ n5_ n6_; clear hb hbox hg) | ((with_reducible refine aN (N := 9) rfl ?_); refine Kd.oq (Kd.int .i64) _ 3 ?hg (N := 9) ?hd (xs := ([] : List Int)) (inner := []) (ok := fun _ => True) (okp := fun _ => True) ?hr ?hp (fun _ hk => hk) trivial (Below.refl _ _) (Nat.le_refl _) (by simp) ?_; (case hd => rfl); (case hg => rfl); (case hr => first | (go_simp; done) | (go_simp; rfl)); (case hp => exact (gD.none _ _)); intro v138 w6 ho7 hb hg_ hnew_; clear hg_ hnew_; (first | rw [← Ny137.out] at ho7 | (simp only [Int.reduceToNat] at ho7; rw [← Ny137.out] at ho7)); have n0_ := ah.mk (Kd.cO ho7 (aQ BL)); replace BK135 := KB BK135 hb; replace BK136 := KB BK136 hb; replace HB := BS (w := w) hb; have HO139 := n0_; clear n0_; clear hb ho7; have hnb8 := NB135_136.out; have hnc8 := NB136_135.out; obtain ⟨hcz9_0, hcz9_1, hcz9_2, hfz9_0, hfz9_1, hfz9_2⟩ := cz3 BK135.out) | (go_at_call 49; (with_reducible refine (aR.calls k EU EW EX t140 _ A3.out).mono ?_); rintro e w10 ⟨v141, rfl, ho0, hb⟩; have n1_ := ah.mk (Kd.cO (Kd.ze ho0 (g := gb136) (o := .cells #[.int .i64 EY, .bool EZ, .int .i64 E5, .int .i64 a1_3] 115 (0, 0)) BK) (aQ BL)); replace HO139 := RB HO139 hb; replace BK135 := KB BK135 hb; replace BK136 := KB BK136 hb; replace HB := BS (w := w) hb; have HO142 := n1_; clear n1_; (try clear hb); (try clear hk); (try clear ho0))); try go_wp2_with (first | ((with_reducible refine aN (N := 2) rfl ?_); refine bC (N := 2) (cs := #[.int .i64 EU, .int .i64 EW, .string EX]) (t := 32) ?_; intro gb135 hg w4 hbox hb; have BK135 := ah.mk hbox; have GW135 := SZ (w := w) hg; have GE135 := GW135; replace HB := BS (w := w) hb; clear hb hbox hg) | ((with_reducible refine aN (N := 3) rfl ?_); refine bC (N := 3) (cs := #[.int .i64 EY, .bool EZ, .int .i64 E5, .int .i64 a1_3]) (t := 115) ?_; intro gb136 hg w5 hbox hb; have n0_ := KB BK135 hb; have n1_ := BS (w := w) hb; have n2_ := ah.mk (hbox); have n3_ := SZ (w := w) hg; have n4_ := SZ (w := w) hg; have n5_ := NL BK135 hg; have n6_ := NG BK135 hg; clear BK135 HB; have BK135 := n0_; have HB := n1_; have BK136 := n2_; have GW136 := n3_; have GE136 := n4_; have NB135_136 := n5_; have NB136_135 := n6_; clear n0_ n1_ n2_ n3_ n4_ n5_ n6_; clear hb hbox hg) | ((with_reducible refine aN (N := 9) rfl ?_); refine Kd.oq (Kd.int .i64) _ 3 ?hg (N := 9) ?hd (xs := ([] : List Int)) (inner := []) (ok := fun _ => True) (okp := fun _ => True) ?hr ?hp (fun _ hk => hk) trivial (Below.refl _ _) (Nat.le_refl _) (by simp) ?_; (case hd => rfl); (case hg => rfl); (case hr => first | (go_simp; done) | (go_simp; rfl)); (case hp => exact (gD.none _ _)); intro v138 w6 ho7 hb hg_ hnew_; clear hg_ hnew_; (first | rw [← Ny137.out] at ho7 | (simp only [Int.reduceToNat] at ho7; rw [← Ny137.out] at ho7)); have n0_ := ah.mk (Kd.cO ho7 (aQ BL)); replace BK135 := KB BK135 hb; replace BK136 := KB BK136 hb; replace HB := BS (w := w) hb; have HO139 := n0_; clear n0_; clear hb ho7; have hnb8 := NB135_136.out; have hnc8 := NB136_135.out; obtain ⟨hcz9_0, hcz9_1, hcz9_2, hfz9_0, hfz9_1, hfz9_2⟩ := cz3 BK135.out) | (go_at_call 49; (with_reducible refine (aR.calls k EU EW EX t140 _ A3.out).mono ?_); rintro e w10 ⟨v141, rfl, ho0, hb⟩; have n1_ := ah.mk (Kd.cO (Kd.ze ho0 (g := gb136) (o := .cells #[.int .i64 EY, .bool EZ, .int .i64 E5, .int .i64 a1_3] 115 (0, 0)) BK) (aQ BL)); replace HO139 := RB HO139 hb; replace BK135 := KB BK135 hb; replace BK136 := KB BK136 hb; replace HB := BS (w := w) hb; have HO142 := n1_; clear n1_; (try clear hb); (try clear hk); (try clear ho0))))
 go_loopg [5, 7] k (fun kq v5 v7 w' => ∃ (x5_1 : List Int) (x7_1 : Int), v7 = .int .i64 x7_1 ∧ ah (bL.l0 kq x5_1 t140 x7_1 EU EW EX EY EZ E5 a1_3 = some r) ∧ ah (kq ≤ k) ∧ ah (Kd.R (Kd.int .i64) 3 w' w.heap.size (fun _ => True) v5 x5_1) ∧ ah (Kd.R kX 115 w' w.heap.size (fun k_ => k_ ≠ gb136) v141 t140) ∧ ah (w'.heap[gb135]? = some (.cells #[.int .i64 EU, .int .i64 EW, .string EX] 32 (0, 0))) ∧ ah (w'.heap[gb136]? = some (.cells #[.int .i64 EY, .bool EZ, .int .i64 E5, .int .i64 a1_3] 115 (0, 0))) ∧ ah (Below w.heap.size w w'))
 case atStart => exact ⟨(y137), (0), EQ, H', ⟨Nat.le_refl _⟩, ⟨(RR HO139)⟩, ⟨by (with_reducible repeat (first | apply Kd.gy | apply Kd.gu | apply Kd.fM)); exact Kd.eF HO142.out (fun _ hk => hk.2)⟩, ⟨BK⟩, ⟨BK⟩, ⟨BL⟩⟩
 case round =>
  clear H'
  try clear hcz9_0
  try clear hcz9_1
  try clear hcz9_2
  try clear hfz9_0
  try clear hfz9_1
  try clear hfz9_2
  obtain ⟨x5_1, x7_1, rfl, HA, HK1, HO_5, HO_6, BK135, BK136, HB⟩ := hrel
  cases gk with
  | zero => exact absurd HA.out (by simp [bL.l0])
  | succ k1 =>
   have H := HA.out
   clear HA
   simp only [bL.l0] at H
   obtain ⟨Ao7000, co7000, eo7000⟩ := Kd.dH HO_6.out
   subst eo7000
   replace H := ifD H; rcases H with ⟨c11b0, H⟩ | ⟨c11b0, H⟩
   ·replace H := ifN H; obtain ⟨c12b0, H⟩ := H
    have p143 : 0 ≤ (x7_1 : Int) := OD
    have q143 : x7_1 < (t140.length : Int) := OD
    obtain ⟨ad143, e143, hx143_0, hx143_1, hx143_2, hx143_3⟩ := mX (Kd.bN HO_6.out).2.2 x7_1 p143 q143
    cases e143
    replace p143 := eq_true p143
    replace q143 := eq_true q143
    have hnb7001 := NB136_135.out
    have hnc7001 := NB135_136.out
    obtain ⟨hcz7002_0, hcz7002_1, hcz7002_2, hcz7002_3, hfz7002_0, hfz7002_1, hfz7002_2, hfz7002_3⟩ := cz4 BK136.out
    by_cases c13 : (!(((aM t140 x7_1).f0) == EY) || (!(((aM t140 x7_1).f1) == EZ) || (!(((aM t140 x7_1).f2) == E5) || (!(((aM t140 x7_1).f3) == a1_3))))) = true
    ·rw [if_pos c13] at H
     have c13b0 : (!(((aM t140 x7_1).f0) == EY) || (!(((aM t140 x7_1).f1) == EZ) || (!(((aM t140 x7_1).f2) == E5) || (!(((aM t140 x7_1).f3) == a1_3))))) = true := c13
     clear c13
     have H' := ah.mk H
     clear H
     go_wp2
     repeat (go_quiet (fail); try go_wp2)
     go_roundg k1
     case measure => have := HK1.out; omega
     case rel => exact ⟨(x5_1), (wrap64 (x7_1 + 1)), EQ, H', ⟨by have := HK1.out; omega⟩, ⟨(RR HO_5)⟩, ⟨(RR HO_6)⟩, ⟨BK⟩, ⟨BK⟩, ⟨BL⟩⟩
    ·rw [if_neg c13] at H
     have c13b0 : (!(((aM t140 x7_1).f0) == EY) || (!(((aM t140 x7_1).f1) == EZ) || (!(((aM t140 x7_1).f2) == E5) || (!(((aM t140 x7_1).f3) == a1_3))))) = false := by simpa using c13
     clear c13
     have H' := ah.mk H
     clear H
     go_wp2
     repeat (go_quiet (fail); try go_wp2)
     go_loopg [5, 8] k1 (fun kq v5 v8 w' => ∃ (x5_2 : List Int) (x8_2 : Int), v8 = .int .i64 x8_2 ∧ ah (bL.l1 kq x5_2 t140 x7_1 x8_2 EU EW EX EY EZ E5 a1_3 = some r) ∧ ah (kq ≤ k1) ∧ ah (Kd.R (Kd.int .i64) 3 w' w.heap.size (fun _ => True) v5 x5_2) ∧ ah (Kd.R kX 115 w' w.heap.size (fun k_ => k_ ≠ gb136) (.slice (some ad143) t140.length co7000) t140) ∧ ah (w'.heap[gb135]? = some (.cells #[.int .i64 EU, .int .i64 EW, .string EX] 32 (0, 0))) ∧ ah (w'.heap[gb136]? = some (.cells #[.int .i64 EY, .bool EZ, .int .i64 E5, .int .i64 a1_3] 115 (0, 0))) ∧ ah (Below w.heap.size w w'))
     case atStart => exact ⟨(x5_1), (0), EQ, H', ⟨Nat.le_refl _⟩, ⟨(RR HO_5)⟩, ⟨(RR HO_6)⟩, ⟨BK⟩, ⟨BK⟩, ⟨BL⟩⟩
     case round =>
      clear H'
      try clear c11
      try clear c11b0
      try clear c12
      try clear c12b0
      try clear c13
      try clear c13b0
      try clear hcz7002_0
      try clear hcz7002_1
      try clear hcz7002_2
      try clear hcz7002_3
      try clear hcz9_0
      try clear hcz9_1
      try clear hcz9_2
      try clear hfz7002_0
      try clear hfz7002_1
      try clear hfz7002_2
      try clear hfz7002_3
      try clear hfz9_0
      try clear hfz9_1
      try clear hfz9_2
      try clear hx143_0
      try clear hx143_1
      try clear hx143_2
      try clear hx143_3
      try clear p143
      try clear q143
      obtain ⟨x5_2, x8_2, rfl, HA, HK2, HO_5, HO_6, BK135, BK136, HB⟩ := hrel
      cases gk with
      | zero => exact absurd HA.out (by simp [bL.l1])
      | succ k2 =>
       have H := HA.out
       clear HA
       simp only [bL.l1] at H
       replace H := ifD H; rcases H with ⟨c20b0, H⟩ | ⟨c20b0, H⟩
       ·by_cases c21 : EZ = true
        ·subst c21
         rw [if_pos rfl] at H
         replace H := ifP H; obtain ⟨c22, H⟩ := H
         have LMc22 := ah.mk c22
         clear c22
         obtain ⟨y144, hy144⟩ : ∃ y_ : List Int, y_ = (x5_2 ++ [wrap64 (E5 + (wrap64 (x8_2 * EW)))]) := ⟨_, rfl⟩
         replace H : (bL.l1 k2 y144 t140 x7_1 (wrap64 (x8_2 + 1)) EU EW EX EY true E5 a1_3) = some r := by first | (rw [hy144]; with_reducible exact H) | (have H2_ := (Option.bind_some _ _).symm.trans H; rw [hy144]; with_reducible exact H2_) | (have H2_ := (Option.bind_some _ _).symm.trans H; with_reducible exact H2_) | with_reducible exact H | (rw [hy144]; exact H) | exact H
         have Ny144 := ah.mk hy144
         clear hy144
         have H' := ah.mk H
         clear H
         have hnb7003 := NB136_135.out
         have hnc7003 := NB135_136.out
         obtain ⟨hcz7004_0, hcz7004_1, hcz7004_2, hcz7004_3, hfz7004_0, hfz7004_1, hfz7004_2, hfz7004_3⟩ := cz4 BK136.out
         obtain ⟨hcz7005_0, hcz7005_1, hcz7005_2, hfz7005_0, hfz7005_1, hfz7005_2⟩ := cz3 BK135.out
         go_wp2_with (first | ((with_reducible refine dn (b := .append) (xs := #[.tmp 32, .tmp 40]) rfl ?_); at_builtin; refine Kd.fT (Kd.int .i64) (w0 := w) w.heap.size rfl (.tmp 32) (.tmp 40) 43 3 (.int .i64 0) 8 rfl Tryz.underlying43 info3 rfl (by decide) (by omega) u5 x5_2 (wrap64 (E5 + (wrap64 (x8_2 * EW)))) [.int .i64 (wrap64 (E5 + (wrap64 (x8_2 * EW))))] (fun _ => True) (fun _ => False) rfl rfl ?aP (fun _ hk => hk.elim) ?aF ?aO ?aB ?aS ?aL ?_; (case aP => exact rfl); (case aB => exact BL); (case aF => exact (fun _ _ => trivial)); (case aO => exact (RR HO_5)); (case aS => exact (aQ BL)); (case aL => have := LMc22.out; omega); intro v145 w7006 ho hb hg hat; rw [← Ny144.out] at ho; have n0_ := ah.mk (Kd.lU (RR HO_6) (Kd.lX (RR HO_5)) (by decide) hg); have n1_ := ah.mk (dK (g := gb135) (o := .cells #[.int .i64 EU, .int .i64 EW, .string EX] 32 (0, 0)) BK hg (Kd.lq HO_5.out BK135.out (by decide))); have n2_ := ah.mk (dK (g := gb136) (o := .cells #[.int .i64 EY, .bool true, .int .i64 E5, .int .i64 a1_3] 115 (0, 0)) BK hg (Kd.lq HO_5.out BK136.out (by decide))); have n3_ := ah.mk (hb); have n4_ := ah.mk (ho); clear HO_6 BK135 BK136 HB HO_5; have HO_6 := n0_; have BK135 := n1_; have BK136 := n2_; have HB := n3_; have HO146 := n4_; clear n0_ n1_ n2_ n3_ n4_; clear ho hb hg hat))
         repeat (go_quiet (first | ((with_reducible refine dn (b := .append) (xs := #[.tmp 32, .tmp 40]) rfl ?_); at_builtin; refine Kd.fT (Kd.int .i64) (w0 := w) w.heap.size rfl (.tmp 32) (.tmp 40) 43 3 (.int .i64 0) 8 rfl Tryz.underlying43 info3 rfl (by decide) (by omega) u5 x5_2 (wrap64 (E5 + (wrap64 (x8_2 * EW)))) [.int .i64 (wrap64 (E5 + (wrap64 (x8_2 * EW))))] (fun _ => True) (fun _ => False) rfl rfl ?aP (fun _ hk => hk.elim) ?aF ?aO ?aB ?aS ?aL ?_; (case aP => exact rfl); (case aB => exact BL); (case aF => exact (fun _ _ => trivial)); (case aO => exact (RR HO_5)); (case aS => exact (aQ BL)); (case aL => have := LMc22.out; omega); intro v145 w7006 ho hb hg hat; rw [← Ny144.out] at ho; have n0_ := ah.mk (Kd.lU (RR HO_6) (Kd.lX (RR HO_5)) (by decide) hg); have n1_ := ah.mk (dK (g := gb135) (o := .cells #[.int .i64 EU, .int .i64 EW, .string EX] 32 (0, 0)) BK hg (Kd.lq HO_5.out BK135.out (by decide))); have n2_ := ah.mk (dK (g := gb136) (o := .cells #[.int .i64 EY, .bool true, .int .i64 E5, .int .i64 a1_3] 115 (0, 0)) BK hg (Kd.lq HO_5.out BK136.out (by decide))); have n3_ := ah.mk (hb); have n4_ := ah.mk (ho); clear HO_6 BK135 BK136 HB HO_5; have HO_6 := n0_; have BK135 := n1_; have BK136 := n2_; have HB := n3_; have HO146 := n4_; clear n0_ n1_ n2_ n3_ n4_; clear ho hb hg hat)); try go_wp2_with (first | ((with_reducible refine dn (b := .append) (xs := #[.tmp 32, .tmp 40]) rfl ?_); at_builtin; refine Kd.fT (Kd.int .i64) (w0 := w) w.heap.size rfl (.tmp 32) (.tmp 40) 43 3 (.int .i64 0) 8 rfl Tryz.underlying43 info3 rfl (by decide) (by omega) u5 x5_2 (wrap64 (E5 + (wrap64 (x8_2 * EW)))) [.int .i64 (wrap64 (E5 + (wrap64 (x8_2 * EW))))] (fun _ => True) (fun _ => False) rfl rfl ?aP (fun _ hk => hk.elim) ?aF ?aO ?aB ?aS ?aL ?_; (case aP => exact rfl); (case aB => exact BL); (case aF => exact (fun _ _ => trivial)); (case aO => exact (RR HO_5)); (case aS => exact (aQ BL)); (case aL => have := LMc22.out; omega); intro v145 w7006 ho hb hg hat; rw [← Ny144.out] at ho; have n0_ := ah.mk (Kd.lU (RR HO_6) (Kd.lX (RR HO_5)) (by decide) hg); have n1_ := ah.mk (dK (g := gb135) (o := .cells #[.int .i64 EU, .int .i64 EW, .string EX] 32 (0, 0)) BK hg (Kd.lq HO_5.out BK135.out (by decide))); have n2_ := ah.mk (dK (g := gb136) (o := .cells #[.int .i64 EY, .bool true, .int .i64 E5, .int .i64 a1_3] 115 (0, 0)) BK hg (Kd.lq HO_5.out BK136.out (by decide))); have n3_ := ah.mk (hb); have n4_ := ah.mk (ho); clear HO_6 BK135 BK136 HB HO_5; have HO_6 := n0_; have BK135 := n1_; have BK136 := n2_; have HB := n3_; have HO146 := n4_; clear n0_ n1_ n2_ n3_ n4_; clear ho hb hg hat)))
         go_roundg k2
         case measure => have := HK1.out; have := HK2.out; omega
         case rel => exact ⟨(y144), (wrap64 (x8_2 + 1)), EQ, H', ⟨by have := HK1.out; have := HK2.out; omega⟩, ⟨(RR HO146)⟩, ⟨(RR HO_6)⟩, ⟨BK⟩, ⟨BK⟩, ⟨BL⟩⟩
        ·replace c21 := Bool.eq_false_iff.mpr c21
         subst c21
         rw [if_neg Bool.false_ne_true] at H
         replace H := ifP H; obtain ⟨c27, H⟩ := H
         have LMc27 := ah.mk c27
         clear c27
         obtain ⟨y147, hy147⟩ : ∃ y_ : List Int, y_ = (x5_2 ++ [wrap64 (E5 + x8_2)]) := ⟨_, rfl⟩
         replace H : (bL.l1 k2 y147 t140 x7_1 (wrap64 (x8_2 + 1)) EU EW EX EY false E5 a1_3) = some r := by first | (rw [hy147]; with_reducible exact H) | (have H2_ := (Option.bind_some _ _).symm.trans H; rw [hy147]; with_reducible exact H2_) | (have H2_ := (Option.bind_some _ _).symm.trans H; with_reducible exact H2_) | with_reducible exact H | (rw [hy147]; exact H) | exact H
         have Ny147 := ah.mk hy147
         clear hy147
         have H' := ah.mk H
         clear H
         have hnb7003 := NB136_135.out
         have hnc7003 := NB135_136.out
         obtain ⟨hcz7004_0, hcz7004_1, hcz7004_2, hcz7004_3, hfz7004_0, hfz7004_1, hfz7004_2, hfz7004_3⟩ := cz4 BK136.out
         go_wp2_with (first | ((with_reducible refine dn (b := .append) (xs := #[.tmp 42, .tmp 47]) rfl ?_); at_builtin; refine Kd.fT (Kd.int .i64) (w0 := w) w.heap.size rfl (.tmp 42) (.tmp 47) 43 3 (.int .i64 0) 8 rfl Tryz.underlying43 info3 rfl (by decide) (by omega) u5 x5_2 (wrap64 (E5 + x8_2)) [.int .i64 (wrap64 (E5 + x8_2))] (fun _ => True) (fun _ => False) rfl rfl ?aP (fun _ hk => hk.elim) ?aF ?aO ?aB ?aS ?aL ?_; (case aP => exact rfl); (case aB => exact BL); (case aF => exact (fun _ _ => trivial)); (case aO => exact (RR HO_5)); (case aS => exact (aQ BL)); (case aL => have := LMc27.out; omega); intro v148 w7005 ho hb hg hat; rw [← Ny147.out] at ho; have n0_ := ah.mk (Kd.lU (RR HO_6) (Kd.lX (RR HO_5)) (by decide) hg); have n1_ := ah.mk (dK (g := gb135) (o := .cells #[.int .i64 EU, .int .i64 EW, .string EX] 32 (0, 0)) BK hg (Kd.lq HO_5.out BK135.out (by decide))); have n2_ := ah.mk (dK (g := gb136) (o := .cells #[.int .i64 EY, .bool false, .int .i64 E5, .int .i64 a1_3] 115 (0, 0)) BK hg (Kd.lq HO_5.out BK136.out (by decide))); have n3_ := ah.mk (hb); have n4_ := ah.mk (ho); clear HO_6 BK135 BK136 HB HO_5; have HO_6 := n0_; have BK135 := n1_; have BK136 := n2_; have HB := n3_; have HO149 := n4_; clear n0_ n1_ n2_ n3_ n4_; clear ho hb hg hat))
         repeat (go_quiet (first | ((with_reducible refine dn (b := .append) (xs := #[.tmp 42, .tmp 47]) rfl ?_); at_builtin; refine Kd.fT (Kd.int .i64) (w0 := w) w.heap.size rfl (.tmp 42) (.tmp 47) 43 3 (.int .i64 0) 8 rfl Tryz.underlying43 info3 rfl (by decide) (by omega) u5 x5_2 (wrap64 (E5 + x8_2)) [.int .i64 (wrap64 (E5 + x8_2))] (fun _ => True) (fun _ => False) rfl rfl ?aP (fun _ hk => hk.elim) ?aF ?aO ?aB ?aS ?aL ?_; (case aP => exact rfl); (case aB => exact BL); (case aF => exact (fun _ _ => trivial)); (case aO => exact (RR HO_5)); (case aS => exact (aQ BL)); (case aL => have := LMc27.out; omega); intro v148 w7005 ho hb hg hat; rw [← Ny147.out] at ho; have n0_ := ah.mk (Kd.lU (RR HO_6) (Kd.lX (RR HO_5)) (by decide) hg); have n1_ := ah.mk (dK (g := gb135) (o := .cells #[.int .i64 EU, .int .i64 EW, .string EX] 32 (0, 0)) BK hg (Kd.lq HO_5.out BK135.out (by decide))); have n2_ := ah.mk (dK (g := gb136) (o := .cells #[.int .i64 EY, .bool false, .int .i64 E5, .int .i64 a1_3] 115 (0, 0)) BK hg (Kd.lq HO_5.out BK136.out (by decide))); have n3_ := ah.mk (hb); have n4_ := ah.mk (ho); clear HO_6 BK135 BK136 HB HO_5; have HO_6 := n0_; have BK135 := n1_; have BK136 := n2_; have HB := n3_; have HO149 := n4_; clear n0_ n1_ n2_ n3_ n4_; clear ho hb hg hat)); try go_wp2_with (first | ((with_reducible refine dn (b := .append) (xs := #[.tmp 42, .tmp 47]) rfl ?_); at_builtin; refine Kd.fT (Kd.int .i64) (w0 := w) w.heap.size rfl (.tmp 42) (.tmp 47) 43 3 (.int .i64 0) 8 rfl Tryz.underlying43 info3 rfl (by decide) (by omega) u5 x5_2 (wrap64 (E5 + x8_2)) [.int .i64 (wrap64 (E5 + x8_2))] (fun _ => True) (fun _ => False) rfl rfl ?aP (fun _ hk => hk.elim) ?aF ?aO ?aB ?aS ?aL ?_; (case aP => exact rfl); (case aB => exact BL); (case aF => exact (fun _ _ => trivial)); (case aO => exact (RR HO_5)); (case aS => exact (aQ BL)); (case aL => have := LMc27.out; omega); intro v148 w7005 ho hb hg hat; rw [← Ny147.out] at ho; have n0_ := ah.mk (Kd.lU (RR HO_6) (Kd.lX (RR HO_5)) (by decide) hg); have n1_ := ah.mk (dK (g := gb135) (o := .cells #[.int .i64 EU, .int .i64 EW, .string EX] 32 (0, 0)) BK hg (Kd.lq HO_5.out BK135.out (by decide))); have n2_ := ah.mk (dK (g := gb136) (o := .cells #[.int .i64 EY, .bool false, .int .i64 E5, .int .i64 a1_3] 115 (0, 0)) BK hg (Kd.lq HO_5.out BK136.out (by decide))); have n3_ := ah.mk (hb); have n4_ := ah.mk (ho); clear HO_6 BK135 BK136 HB HO_5; have HO_6 := n0_; have BK135 := n1_; have BK136 := n2_; have HB := n3_; have HO149 := n4_; clear n0_ n1_ n2_ n3_ n4_; clear ho hb hg hat)))
         go_roundg k2
         case measure => have := HK1.out; have := HK2.out; omega
         case rel => exact ⟨(y147), (wrap64 (x8_2 + 1)), EQ, H', ⟨by have := HK1.out; have := HK2.out; omega⟩, ⟨(RR HO149)⟩, ⟨(RR HO_6)⟩, ⟨BK⟩, ⟨BK⟩, ⟨BL⟩⟩
       ·have H' := ah.mk H
        clear H
        have hnb7003 := NB136_135.out
        have hnc7003 := NB135_136.out
        obtain ⟨hcz7004_0, hcz7004_1, hcz7004_2, hcz7004_3, hfz7004_0, hfz7004_1, hfz7004_2, hfz7004_3⟩ := cz4 BK136.out
        go_wp2
        repeat (go_quiet (fail); try go_wp2)
        go_roundg k2
        case measure => have := HK1.out; have := HK2.out; omega
        case rel => exact ⟨(x5_2), (wrap64 (x7_1 + 1)), EQ, H', ⟨by have := HK1.out; have := HK2.out; omega⟩, ⟨(RR HO_5)⟩, ⟨(RR HO_6)⟩, ⟨BK⟩, ⟨BK⟩, ⟨BL⟩⟩
   ·obtain rfl := Option.some.inj H
    go_wp2
    repeat (go_quiet (fail); try go_wp2)
    go_ret
    exact ⟨_, EWW, (RR HO_5), BL⟩
mutual
def bg.j0 : Nat → ByteArray → Int → List (dI) → Bool → Int → Int → ByteArray → Option (ByteArray)
 | 0, _, _, _, _, _, _, _ => none
 | k + 1, a, b, c, d, e, f, g => if d = true then (some (⟨#[]⟩ : ByteArray)) else (if 0 ≤ b then (if b < (c.length : Int) then ((bL.f k e f g ((aM c b).f0) ((aM c b).f1) ((aM c b).f2) ((aM c b).f3)).bind fun h => (bg.l0 k a (⟨#[]⟩ : ByteArray) h 0)) else (none)) else (none))
def bg.l0 : Nat → ByteArray → ByteArray → List Int → Int → Option (ByteArray)
 | 0, _, _, _, _ => none
 | k + 1, a, b, c, d => if d < (c.length : Int) then (if 0 ≤ d then (if 0 ≤ (rd c d) then (if (rd c d) ≤ (wrap64 ((rd c d) + 1)) then (if (wrap64 ((rd c d) + 1)) ≤ (a.size : Int) then (if b.size + (a.extract ((rd c d) : Int).toNat ((wrap64 ((rd c d) + 1)) : Int).toNat).size ≤ 9223372036854775807 then (bg.l0 k a (b ++ (a.extract ((rd c d) : Int).toNat ((wrap64 ((rd c d) + 1)) : Int).toNat)) c (wrap64 (d + 1))) else (none)) else (none)) else (none)) else (none)) else (none)) else (some b)
end
def bg.f (k : Nat) (EU EW : Int) (EX a1 : ByteArray) (a2 : Int) : Option (ByteArray) := (aR.f k EU EW EX).bind fun t151 => ((bK.f k EU EW EX a1).bind fun t154 => (if t154 = true then ((bD.f a2 0 (wrap64 ((t151.length : Int) - 1))).bind fun t155 => (bg.j0 k a1 a2 t151 (!t155) EU EW EX)) else (bg.j0 k a1 a2 t151 true EU EW EX)))
def bg.T9 : Bool × List (List Nat × List Nat) := (true, [([], []), ([], []), ([], []), ([], []), ([2, 3], [2, 3]), ([4], [4]), ([], []), ([], []), ([6, 7], [6, 7]), ([8], [8]), ([9], [9]), ([1, 5, 10], [1, 5, 10]), ([0, 11], [0, 11]), ([12, 0, 1, 2, 3, 4, 5, 6, 7, 8, 9, 10, 11, 12], [0, 12])])
def bg.B9 : List Nat := [0, 0, 0, 0, 12, 28, 0, 0, 192, 448, 960, 2046, 4095, 8191]
theorem bg.ES : kD .any (opsOf Tryz.f66 9) = bg.T9 := by kernel_rfl
theorem bg.Ee : iZ bg.T9.2 bg.B9 = true := by kernel_rfl
theorem bg.calls (k : Nat) (EU EW : Int) (EX a1 : ByteArray) (a2 : Int) (r : ByteArray) (w : World) (h : bg.f k EU EW EX a1 a2 = some r) :
  Calls Tryz.prog 66 #[.agg #[.int .i64 EU, .int .i64 EW, .string EX], .string a1, .int .i64 a2] w fun e w' => e = .returned (.string r) ∧ Below w.heap.size w w' := by
 have hu32 := Tryz.underlying32
 have hu115 := Tryz.underlying115
 have HB := ah.mk (Below.refl w.heap.size w)
 unfold bg.f at h
 have H := h
 clear h
 replace H := be H; obtain ⟨t151, A4, H⟩ := H
 have HC5 := ah.mk H
 clear H
 go_enter Tryz.func66, Tryz.ntmps66
 go_upto_region 2 with (first | ((with_reducible refine aN (N := 3) rfl ?_); (try (refine jX (by rfl) ?_; dsimp only)); refine bC (N := 3) (cs := #[.int .i64 EU, .int .i64 EW, .string EX]) (t := 32) ?_; intro gb150 hg w6 hbox hb; have BK150 := ah.mk hbox; have GW150 := SZ (w := w) hg; have GE150 := GW150; replace HB := BS (w := w) hb; clear hb hbox hg; obtain ⟨hcz7_0, hcz7_1, hcz7_2, hfz7_0, hfz7_1, hfz7_2⟩ := cz3 BK150.out) | ((with_reducible refine ay (f := 49) rfl ?_); refine bq (some 12) Tryz.func49 #[.agg #[.int .i64 EU, .int .i64 EW, .string EX]] ?_; (with_reducible refine (aR.calls k EU EW EX t151 _ A4.out).mono ?_); rintro e w8 ⟨v152, rfl, ho0, hb⟩; refine ⟨_, rfl, ?_⟩; have n0_ := ah.mk (Kd.cO ho0 (aQ BL)); replace BK150 := KB BK150 hb; replace HB := BS (w := w) hb; have HO153 := n0_; clear n0_; (try clear hb); (try clear ho0)))
 (try simp only [Act.put, List.setIfInBounds_toArray, List.set_cons_zero, List.set_cons_succ])
 go_cut [24] (fun v24 wc => ∃ (kq : Nat) (x24_4 : Bool), v24 = .bool x24_4 ∧ ah (bg.j0 kq a1 a2 t151 x24_4 EU EW EX = some r) ∧ ah (kq ≤ k) ∧ ah (Kd.R kX 115 wc w.heap.size (fun _ => True) v152 t151) ∧ ah (wc.heap[gb150]? = some (.cells #[.int .i64 EU, .int .i64 EW, .string EX] 32 (0, 0))) ∧ ah (Below w.heap.size w wc))
 case first =>
  have H := HC5.out
  clear HC5
  replace H := be H; obtain ⟨t154, A9, H⟩ := H
  obtain ⟨hcz8000_0, hcz8000_1, hcz8000_2, hfz8000_0, hfz8000_1, hfz8000_2⟩ := cz3 BK150.out
  replace H := ah.mk H
  go_wp2_with (first | ((with_reducible refine ay (f := 65) rfl ?_); refine bq (some 15) Tryz.func65 #[.agg #[.int .i64 EU, .int .i64 EW, .string EX], .string a1] ?_; (with_reducible refine (bK.calls k EU EW EX a1 _ _ A9.out).mono ?_); rintro e w8001 ⟨rfl, hb⟩; refine ⟨_, rfl, ?_⟩; replace HO153 := RB HO153 hb; replace BK150 := KB BK150 hb; replace HB := BS (w := w) hb; (try clear hb); refine bP ?_))
  refine Hide.mk ?_
  replace H := H.out
  replace H := ifB H; rcases H with ⟨rfl, H⟩ | ⟨rfl, H⟩
  ·replace H := be H; obtain ⟨t155, A11, H⟩ := H
   have H' := ah.mk H
   clear H
   obtain ⟨Ao8002, co8002, eo8002⟩ := Kd.dH HO153.out
   subst eo8002
   go_wp2_with (first | (go_at_call 86; (with_reducible refine (bD.calls a2 0 (wrap64 ((t151.length : Int) - 1)) t155 _ A11.out).mono ?_); rintro e w' ⟨rfl, ⟨nd, rfl⟩⟩))
   go_meet
   case rel => exact ⟨_, (!t155), EQ, H', ⟨by first | omega | exact Nat.le_refl _⟩, ⟨(RR HO153)⟩, ⟨BK⟩, ⟨BL⟩⟩
  ·have H' := ah.mk H
   clear H
   try go_wp2
   go_meet
   case rel => exact ⟨_, (true), EQ, H', ⟨by first | omega | exact Nat.le_refl _⟩, ⟨(RR HO153)⟩, ⟨BK⟩, ⟨BL⟩⟩
 case rest =>
  clear HC5
  try clear hcz7_0
  try clear hcz7_1
  try clear hcz7_2
  try clear hfz7_0
  try clear hfz7_1
  try clear hfz7_2
  obtain ⟨kq, x24_4, rfl, HA, HJ4, HO_7, BK150, HB⟩ := hcut
  cases kq with
  | zero => exact absurd HA.out (by simp [bg.j0])
  | succ kj4 =>
   have H := HA.out
   clear HA
   simp only [bg.j0] at H
   replace H := ifB H; rcases H with ⟨rfl, H⟩ | ⟨rfl, H⟩
   ·obtain rfl := Option.some.inj H
    go_wp2
    go_ret
    exact ⟨EWW, BL⟩
   ·replace H := ifN H; obtain ⟨c18b0, H⟩ := H
    replace H := ifN H; obtain ⟨c19b0, H⟩ := H
    replace H := be H; obtain ⟨t157, A20, H⟩ := H
    have H' := ah.mk H
    clear H
    try go_wp2
    replace HO_7 := ah.mk (Kd.fM HO_7.out)
    replace BK150 := ah.mk (aI BK150.out)
    replace HB := ah.mk (dL HB.out)
    obtain ⟨Ao7000, co7000, eo7000⟩ := Kd.dH HO_7.out
    (first | subst eo7000 | (injection eo7000 with f1_ f2_ f3_; have f4_ := f1_.symm; have f5_ := f3_.symm; clear f1_ f2_ f3_; subst f4_; subst f5_))
    have p156 : 0 ≤ (a2 : Int) := OD
    have q156 : a2 < (t151.length : Int) := OD
    obtain ⟨ad156, e156, hx156_0, hx156_1, hx156_2, hx156_3⟩ := mX (Kd.bN HO_7.out).2.2 a2 p156 q156
    cases e156
    replace p156 := eq_true p156
    replace q156 := eq_true q156
    refine ji (n := 7) (S := fun w' => w'.cell? ⟨gb150, 0, none⟩ = some (.int .i64 EU) ∧ w'.cell? ⟨gb150, 1, none⟩ = some (.int .i64 EW) ∧ w'.cell? ⟨gb150, 2, none⟩ = some (.string EX) ∧ w'.cell? (ad156.add ((a2).toNat * 4)) = some (.int .i64 ((aM t151 a2).f0)) ∧ w'.cell? ⟨(ad156.add ((a2).toNat * 4)).block, (ad156.add ((a2).toNat * 4)).off + 1, none⟩ = some (.bool ((aM t151 a2).f1)) ∧ w'.cell? ⟨(ad156.add ((a2).toNat * 4)).block, (ad156.add ((a2).toNat * 4)).off + 2, none⟩ = some (.int .i64 ((aM t151 a2).f2)) ∧ w'.cell? ⟨(ad156.add ((a2).toNat * 4)).block, (ad156.add ((a2).toNat * 4)).off + 3, none⟩ = some (.int .i64 ((aM t151 a2).f3))) (ds := []) #[F,F,F,F,F,F,F] (by kernel_rfl) rfl rfl ⟨(av BK150.out 0).trans rfl, (av BK150.out 1).trans rfl, (av BK150.out 2).trans rfl, hx156_0, hx156_1, hx156_2, hx156_3⟩ (fun hHeld => ?_)
    generalize wc.drew = w7001 at HO_7 BK150 HB hx156_0 hx156_1 hx156_2 hx156_3 hHeld ⊢
    refine puS (i := 1) (N := some 26) #[F,T,F,F,F,F,F] (by kernel_rfl) ?_
    refine puS (i := 2) (N := some 27) #[F,T,T,F,F,F,F] (by kernel_rfl) ?_
    refine puS (i := 3) (N := some 28) #[F,T,T,T,F,F,F] (by kernel_rfl) ?_
    refine taS (i := 0) (N := some 25) #[T,T,T,T,F,F,F] (by kernel_rfl) hHeld ?_
    refine taS (i := 4) (N := some 29) #[T,T,T,T,T,F,F] (by kernel_rfl) hHeld ?_
    refine kH (i := 5) (N := some 30) #[T,T,T,T,T,T,F] rfl rfl (by kernel_rfl) (by decide) (fun K hK => ?_)
    refine iU Tryz.func125 #[.agg #[.int .i64 EU, .int .i64 EW, .string EX], .agg #[.int .i64 ((aM t151 a2).f0), .bool ((aM t151 a2).f1), .int .i64 ((aM t151 a2).f2), .int .i64 ((aM t151 a2).f3)]] ?_
    with_reducible refine (bL.calls kj4 EU EW EX ((aM t151 a2).f0) ((aM t151 a2).f1) ((aM t151 a2).f2) ((aM t151 a2).f3) t157 _ A20.out).mono ?_
    rintro e w7002 ⟨v158, rfl, ho0, hb⟩
    have HS3_ := (hb.cell (World.block_lt_of_cell? _ _ (hHeld.2.2.2.1))).trans (hHeld.2.2.2.1)
    have HS4_ := (hb.cell (World.block_lt_of_cell? _ _ (hHeld.2.2.2.2.1))).trans (hHeld.2.2.2.2.1)
    have HS5_ := (hb.cell (World.block_lt_of_cell? _ _ (hHeld.2.2.2.2.2.1))).trans (hHeld.2.2.2.2.2.1)
    have HS6_ := (hb.cell (World.block_lt_of_cell? _ _ (hHeld.2.2.2.2.2.2))).trans (hHeld.2.2.2.2.2.2)
    refine ⟨_, rfl, ?_⟩
    have n0_ := RB HO_7 hb
    have n1_ := ah.mk (Kd.cO ho0 (aQ BL))
    have n2_ := KB BK150 hb
    have n3_ := BS (w := w) hb
    clear HO_7
    clear BK150
    clear HB
    have HO_7 := n0_
    have HO159 := n1_
    have BK150 := n2_
    have HB := n3_
    clear n0_ n1_ n2_ n3_
    (try clear hb)
    (try clear ho0)
    refine hK.out _ _ ⟨(av BK150.out 0).trans rfl, (av BK150.out 1).trans rfl, (av BK150.out 2).trans rfl, HS3_, HS4_, HS5_, HS6_⟩ (fun hHeld => ?_)
    clear hK K
    refine nrm (some 30) ?_
    refine puS (i := 6) (N := some 9) #[T,T,T,T,T,T,T] (by kernel_rfl) ?_
    refine gX (by kernel_rfl) ?_
    try go_wp2
    go_loopg [8, 10] kj4 (fun kq v8 v10 w' => ∃ (x8_2 : ByteArray) (x10_2 : Int), v8 = .string x8_2 ∧ v10 = .int .i64 x10_2 ∧ ah (bg.l0 kq a1 x8_2 t157 x10_2 = some r) ∧ ah (kq ≤ kj4) ∧ ah (Kd.R (Kd.int .i64) 3 w' w.heap.size (fun _ => True) v158 t157) ∧ ah (w'.heap[gb150]? = some (.cells #[.int .i64 EU, .int .i64 EW, .string EX] 32 (0, 0))) ∧ ah (Below w.heap.size w w'))
    case atStart => exact ⟨((⟨#[]⟩ : ByteArray)), (0), EQ, EQ, H', ⟨Nat.le_refl _⟩, ⟨(RR HO159)⟩, ⟨BK⟩, ⟨BL⟩⟩
    case round =>
     clear H'
     try clear c17
     try clear c18
     try clear c18b0
     try clear c19
     try clear c19b0
     try clear hcz7_0
     try clear hcz7_1
     try clear hcz7_2
     try clear hfz7_0
     try clear hfz7_1
     try clear hfz7_2
     try clear hx156_0
     try clear hx156_1
     try clear hx156_2
     try clear hx156_3
     try clear p156
     try clear q156
     obtain ⟨x8_2, x10_2, rfl, rfl, HA, HK2, HO_9, BK150, HB⟩ := hrel
     cases gk with
     | zero => exact absurd HA.out (by simp [bg.l0])
     | succ k2 =>
      have H := HA.out
      clear HA
      simp only [bg.l0] at H
      obtain ⟨Ao7003, co7003, eo7003⟩ := Kd.dH HO_9.out
      subst eo7003
      replace H := ifD H; rcases H with ⟨c24b0, H⟩ | ⟨c24b0, H⟩
      ·replace H := ifN H; obtain ⟨c25b0, H⟩ := H
       replace H := ifP H; obtain ⟨c26, H⟩ := H
       have c26b0 := eq_true c26
       have c26b1 : decide (0 ≤ (rd t157 x10_2)) = true := decide_eq_true c26
       clear c26
       replace H := ifP H; obtain ⟨c27, H⟩ := H
       have c27b0 := eq_true c27
       have c27b1 : decide ((rd t157 x10_2) ≤ (wrap64 ((rd t157 x10_2) + 1))) = true := decide_eq_true c27
       replace H := ifP H; obtain ⟨c28, H⟩ := H
       have c28b0 := eq_true c28
       have c28b1 : decide ((wrap64 ((rd t157 x10_2) + 1)) ≤ (a1.size : Int)) = true := decide_eq_true c28
       by_cases c29 : x8_2.size + (a1.extract ((rd t157 x10_2) : Int).toNat ((wrap64 ((rd t157 x10_2) + 1)) : Int).toNat).size ≤ 9223372036854775807
       ·rw [if_pos c29] at H
        have c29b0 := eq_true c29
        have c29b1 : decide (x8_2.size + (a1.extract ((rd t157 x10_2) : Int).toNat ((wrap64 ((rd t157 x10_2) + 1)) : Int).toNat).size ≤ 9223372036854775807) = true := decide_eq_true c29
        try have c29b2 : (9223372036854775807 < x8_2.size + (a1.extract ((rd t157 x10_2) : Int).toNat ((wrap64 ((rd t157 x10_2) + 1)) : Int).toNat).size) = False := eq_false (Nat.not_lt.2 c29)
        have c29b3c : (9223372036854775807 < x8_2.size + (((wrap64 ((rd t157 x10_2) + 1))).toNat - ((rd t157 x10_2)).toNat)) = False := by
         have hy_ : (wrap64 ((rd t157 x10_2) + 1)) ≤ (a1.size : Int) := OD
         have hs_ : (a1.extract ((rd t157 x10_2) : Int).toNat ((wrap64 ((rd t157 x10_2) + 1)) : Int).toNat).size = ((wrap64 ((rd t157 x10_2) + 1))).toNat - ((rd t157 x10_2)).toNat := by rw [ByteArray.size_extract]; omega
         rw [← hs_]; exact c29b2
        have H' := ah.mk H
        clear H
        try go_wp2
        replace HO_9 := ah.mk (Kd.fM HO_9.out)
        replace BK150 := ah.mk (aI BK150.out)
        replace HB := ah.mk (dL HB.out)
        have p160 : 0 ≤ (x10_2 : Int) := OD
        have q160 : x10_2 < (t157.length : Int) := OD
        obtain ⟨ad160, e160, hx160_0⟩ := Kd.pG (Kd.bN HO_9.out).2.2 x10_2 p160 q160
        cases e160
        replace p160 := eq_true p160
        replace q160 := eq_true q160
        have p161 : 0 ≤ (x10_2 : Int) := OD
        have q161 : x10_2 < (t157.length : Int) := OD
        obtain ⟨ad161, e161, hx161_0⟩ := Kd.pG (Kd.bN HO_9.out).2.2 x10_2 p161 q161
        obtain rfl : ad160 = ad161 := (by injection e161)
        replace p161 := eq_true p161
        replace q161 := eq_true q161
        refine ji (n := 14) (S := fun w' => w'.cell? (ad160.add (x10_2).toNat) = some (.int .i64 (rd t157 x10_2)) ∧ w'.cell? (ad160.add (x10_2).toNat) = some (.int .i64 (rd t157 x10_2))) (ds := []) #[F,F,F,F,F,F,F,F,F,F,F,F,F,F] (by kernel_rfl) rfl rfl ⟨hx160_0, hx161_0⟩ (fun hHeld => ?_); refine gT bg.ES bg.Ee (fun HT_ HW_ => ?_)
        generalize wr.drew = w7004 at HO_9 BK150 HB hx160_0 hx161_0 hHeld ⊢
        refine puS (i := 0) (N := some 37) #[T,F,F,F,F,F,F,F,F,F,F,F,F,F] (aJ HT_.out (by kernel_rfl)) ?_
        refine puS (i := 1) (N := some 38) #[T,T,F,F,F,F,F,F,F,F,F,F,F,F] (aJ HT_.out (by kernel_rfl)) ?_
        refine puS (i := 2) (N := some 39) #[T,T,T,F,F,F,F,F,F,F,F,F,F,F] (aJ HT_.out (by kernel_rfl)) ?_
        refine puS (i := 3) (N := some 40) #[T,T,T,T,F,F,F,F,F,F,F,F,F,F] (aJ HT_.out (by kernel_rfl)) ?_
        refine puS (i := 4) (N := some 41) #[T,T,T,T,T,F,F,F,F,F,F,F,F,F] (aJ HT_.out (by kernel_rfl)) ?_
        refine puS (i := 6) (N := some 43) #[T,T,T,T,T,F,T,F,F,F,F,F,F,F] (aJ HT_.out (by kernel_rfl)) ?_
        refine puS (i := 7) (N := some 44) #[T,T,T,T,T,F,T,T,F,F,F,F,F,F] (aJ HT_.out (by kernel_rfl)) ?_
        refine puS (i := 8) (N := some 45) #[T,T,T,T,T,F,T,T,T,F,F,F,F,F] (aJ HT_.out (by kernel_rfl)) ?_
        refine taS (i := 5) (N := some 42) #[T,T,T,T,T,T,T,T,T,F,F,F,F,F] (dJ HT_.out HW_.out (by kernel_rfl)) hHeld ?_
        refine taS (i := 9) (N := some 46) #[T,T,T,T,T,T,T,T,T,T,F,F,F,F] (dJ HT_.out HW_.out (by kernel_rfl)) hHeld ?_
        refine puS (i := 10) (N := some 47) #[T,T,T,T,T,T,T,T,T,T,T,F,F,F] (aJ HT_.out (by kernel_rfl)) ?_
        refine puS (i := 11) (N := some 48) #[T,T,T,T,T,T,T,T,T,T,T,T,F,F] (aJ HT_.out (by kernel_rfl)) ?_
        refine puS (i := 12) (N := some 49) #[T,T,T,T,T,T,T,T,T,T,T,T,T,F] (aJ HT_.out (by kernel_rfl)) ?_
        refine puS (i := 13) (N := some 8) #[T,T,T,T,T,T,T,T,T,T,T,T,T,T] (aJ HT_.out (by kernel_rfl)) ?_
        refine gX (fH HT_.out (by kernel_rfl)) ?_
        try go_wp2
        go_roundg k2
        case measure => have := HJ4.out; have := HK2.out; omega
        case rel => exact ⟨(x8_2 ++ (a1.extract ((rd t157 x10_2) : Int).toNat ((wrap64 ((rd t157 x10_2) + 1)) : Int).toNat)), (wrap64 (x10_2 + 1)), EQ, EQ, H', ⟨by have := HJ4.out; have := HK2.out; omega⟩, ⟨(RR HO_9)⟩, ⟨BK⟩, ⟨BL⟩⟩
       ·rw [if_neg c29] at H
        exact absurd H (by simp)
      ·obtain rfl := Option.some.inj H
       go_wp2
       go_ret
       exact ⟨EWW, BL⟩
def fD.l0 : Nat → ByteArray → Int → Option (Bool)
 | 0, _, _ => none
 | k + 1, a, b => if b < (a.size : Int) then (if 0 ≤ b then (if (bt a b) = 63 then (some true) else (fD.l0 k a (wrap64 (b + 1)))) else (none)) else (some false)
def fD.f (k : Nat) (a0 : ByteArray) : Option (Bool) := fD.l0 k a0 0
theorem fD.calls (k : Nat) (a0 : ByteArray) (r : Bool) (w : World) (h : fD.f k a0 = some r) :
  Calls Tryz.prog 68 #[.string a0] w fun e w' => e = .returned (.bool r) ∧ aC w w' := by
 have H : (fD.l0 k a0 0) = some r := h
 clear h
 have H' := ah.mk H
 clear H
 go_enter Tryz.func68, Tryz.ntmps68
 go_wp2
 go_loopg [3] k (fun kq v3 w' => ∃ (x3_1 : Int), v3 = .int .i64 x3_1 ∧ ah (fD.l0 kq a0 x3_1 = some r) ∧ ah (kq ≤ k) ∧ aC w w')
 case atStart => exact ⟨(0), EQ, H', ⟨Nat.le_refl _⟩, by repeat (first | exact aC.refl _ | apply aC.step)⟩
 case round =>
  clear H'
  obtain ⟨x3_1, rfl, HA, HK1, ⟨m1, rfl⟩⟩ := hrel
  cases gk with
  | zero => exact absurd HA.out (by simp [fD.l0])
  | succ k1 =>
   have H := HA.out
   clear HA
   simp only [fD.l0] at H
   replace H := ifD H; rcases H with ⟨c2b0, H⟩ | ⟨c2b0, H⟩
   ·replace H := ifN H; obtain ⟨c3b0, H⟩ := H
    have p4 : (0 ≤ (x3_1 : Int)) = True := OT
    have q4 : (x3_1 < (a0.size : Int)) = True := OT
    have hx4 := gI a0 x3_1
    replace H := ifE H; rcases H with ⟨c5b0, c5b1, H⟩ | ⟨c5, c5b0, c5b1, H⟩
    ·obtain rfl := Option.some.inj H
     go_wp2
     go_ret
     exact ⟨by first | rfl | (simp; done) | (simp [*]; done), by repeat (first | exact aC.refl _ | apply aC.step)⟩
    ·have H' := ah.mk H
     clear H
     go_wp2
     go_roundg k1
     case measure => have := HK1.out; omega
     case rel => exact ⟨(wrap64 (x3_1 + 1)), EQ, H', ⟨by have := HK1.out; omega⟩, by repeat (first | exact aC.refl _ | apply aC.step)⟩
   ·obtain rfl := Option.some.inj H
    go_wp2
    go_ret
    exact ⟨by first | rfl | (simp; done) | (simp [*]; done), by repeat (first | exact aC.refl _ | apply aC.step)⟩
end Go.Proofs.YtnfiedfaaaphoaaGreat.PFnExactPuzzleCode
