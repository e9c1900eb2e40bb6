/- Walks of functions: what each computes. -/
import Derived.Test.YtnfiedfaaaphoaaGreatZPuzzleCodeG0
import Derived.Test.YtnfiedfaaaphoaaGreatZPuzzleCodeG1
import Derived.Test.YtnfiedfaaaphoaaGreatZPuzzleCodeG2
import Derived.Test.YtnfiedfaaaphoaaGreatZPuzzleCodeG3
import Derived.Test.YtnfiedfaaaphoaaGreatZPuzzleCodeW
import Derived.Test.YtnfiedfaaaphoaaGreatZPuzzleCodeShelf
import Derived.Test.YtnfiedfaaaphoaaGreatZPuzzleCodeHandSort
import Derived.Test.YtnfiedfaaaphoaaGreatZPuzzleCodeHandForm
import Derived.Test.YtnfiedfaaaphoaaGreatZPuzzleCodeHandAlone
import Derived.Test.YtnfiedfaaaphoaaGreatZPuzzleCodeHandReach
import Derived.Test.YtnfiedfaaaphoaaGreatZPuzzleCodeHandPut
namespace Go.Proofs.YtnfiedfaaaphoaaGreat.PFnExactPuzzleCode
open Go.RowKit Go.Proofs.YtnfiedfaaaphoaaGreatW.PrintWords Go.Proofs.YtnfiedfaaaphoaaGreatW.PrintLast Go.Proofs.YtnfiedfaaaphoaaGreatW.PrintMore Go.Proofs.YtnfiedfaaaphoaaGreat.Sq
attribute [local go_sem] iH iJ jD jC gV gU iK iG
set_option maxHeartbeats 8000000
set_option maxRecDepth 100000
set_option linter.unusedVariables false
set_option linter.unusedSimpArgs false
def gK.l0 : Nat → List Int → Int → Int → Option (Bool)
 | 0, _, _, _ => none
 | k + 1, a, b, c => if c < (a.length : Int) then (if 0 ≤ c then (if (rd a c) = b then (some true) else (gK.l0 k a b (wrap64 (c + 1)))) else (none)) else (some false)
def gK.f (k : Nat) (l0 : List Int) (a1 : Int) : Option (Bool) := gK.l0 k l0 a1 0
theorem gK.calls (k : Nat) (A0 : Option Addr) (c0 : Nat) (l0 : List Int) (a1 : Int) (r : Bool) (w : World) (hr0 : Kd.C (Kd.int .i64) w A0 l0.length l0) (hc0 : l0.length ≤ c0) (h : gK.f k l0 a1 = some r) :
  Calls Tryz.prog 191 #[.slice A0 l0.length c0, .int .i64 a1] w fun e w' => e = .returned (.bool r) ∧ aC w w' := by
 have HR0 := ah.mk hr0
 have HC0 := ah.mk hc0
 clear hr0 hc0
 have H : (gK.l0 k l0 a1 0) = some r := h
 clear h
 have H' := ah.mk H
 clear H
 go_enter Tryz.func191, Tryz.ntmps191
 go_wp2
 go_loopg [5] k (fun kq v5 w' => ∃ (x5_1 : Int), v5 = .int .i64 x5_1 ∧ ah (gK.l0 kq l0 a1 x5_1 = some r) ∧ ah (kq ≤ k) ∧ aC w w')
 case atStart => exact ⟨(0), EQ, H', ⟨Nat.le_refl _⟩, by repeat (first | exact aC.refl _ | apply aC.step)⟩
 case round =>
  clear H'
  obtain ⟨x5_1, rfl, HA, HK1, ⟨m1, rfl⟩⟩ := hrel
  cases gk with
  | zero => exact absurd HA.out (by simp [gK.l0])
  | succ k1 =>
   have H := HA.out
   clear HA
   simp only [gK.l0] at H
   replace H := ifD H; rcases H with ⟨c3b0, H⟩ | ⟨c3b0, H⟩
   ·replace H := ifN H; obtain ⟨c4b0, H⟩ := H
    have p246 : 0 ≤ (x5_1 : Int) := OD
    have q246 : x5_1 < (l0.length : Int) := OD
    obtain ⟨ad246, e246, hx246_0⟩ := Kd.pG HR0.out x5_1 p246 q246
    cases e246
    replace p246 := eq_true p246
    replace q246 := eq_true q246
    replace H := ifE H; rcases H with ⟨c5b0, c5b1, H⟩ | ⟨c5, c5b0, c5b1, H⟩
    ·obtain rfl := Option.some.inj H
     go_wp2
     go_ret
     exact ⟨by first | rfl | (simp; done) | (simp [*]; done), by repeat (first | exact aC.refl _ | apply aC.step)⟩
    ·have H' := ah.mk H
     clear H
     go_wp2
     go_roundg k1
     case measure => have := HK1.out; omega
     case rel => exact ⟨(wrap64 (x5_1 + 1)), EQ, H', ⟨by have := HK1.out; omega⟩, by repeat (first | exact aC.refl _ | apply aC.step)⟩
   ·obtain rfl := Option.some.inj H
    go_wp2
    go_ret
    exact ⟨by first | rfl | (simp; done) | (simp [*]; done), by repeat (first | exact aC.refl _ | apply aC.step)⟩
def bU.l0 : Nat → Int → List Int → List (dI) → Int → Int → Int → ByteArray → Option (List Int)
 | 0, _, _, _, _, _, _, _ => none
 | k + 1, a, b, c, d, e, f, g => if d < (c.length : Int) then (if 0 ≤ d then ((bL.f k e f g ((aM c d).f0) ((aM c d).f1) ((aM c d).f2) ((aM c d).f3)).bind fun h => ((gK.f k h a).bind fun i => (if i = true then (if b.length < 17592186044416 then (bU.l0 k a (b ++ [d]) c (wrap64 (d + 1)) e f g) else (none)) else (bU.l0 k a b c (wrap64 (d + 1)) e f g)))) else (none)) else (some b)
def bU.f (k : Nat) (EU EW : Int) (EX : ByteArray) (a1 : Int) : Option (List Int) := (aR.f k EU EW EX).bind fun t251 => (bU.l0 k a1 (([] : List Int)) t251 0 EU EW EX)
def bU.T6 : Bool × List (List Nat × List Nat) := (true, [([], []), ([], []), ([], []), ([1, 2], [1, 2]), ([3], [3]), ([0, 4], [0, 4]), ([], []), ([5, 6, 5], [5, 6])])
def bU.B6 : List Nat := [0, 0, 0, 6, 14, 31, 0, 127]
theorem bU.zN : kD .any (opsOf Tryz.f157 6) = bU.T6 := by kernel_rfl
theorem bU.wD : iZ bU.T6.2 bU.B6 = true := by kernel_rfl
theorem bU.calls (k : Nat) (EU EW : Int) (EX : ByteArray) (a1 : Int) (r : List Int) (w : World) (h : bU.f k EU EW EX a1 = some r) :
  Calls Tryz.prog 157 #[.agg #[.int .i64 EU, .int .i64 EW, .string EX], .int .i64 a1] w fun e w' => ∃ v0_ : Value, e = .returned (v0_) ∧ Kd.R (Kd.int .i64) 3 w' w.heap.size (fun _ => True) v0_ r ∧ Below w.heap.size w w' := by
 have hu32 := Tryz.underlying32
 have hu115 := Tryz.underlying115
 have HB := ah.mk (Below.refl w.heap.size w)
 unfold bU.f at h
 have H := h
 clear h
 obtain ⟨y248, hy248⟩ : ∃ y_ : List Int, y_ = (([] : List Int)) := ⟨_, rfl⟩
 replace H : ((aR.f k EU EW EX).bind fun t251 => (bU.l0 k a1 y248 t251 0 EU EW EX)) = some r := by first | (rw [hy248]; with_reducible exact H) | (have H2_ := (Option.bind_some _ _).symm.trans H; rw [hy248]; with_reducible exact H2_) | (have H2_ := (Option.bind_some _ _).symm.trans H; with_reducible exact H2_) | with_reducible exact H | (rw [hy248]; exact H) | exact H
 have Ny248 := ah.mk hy248
 clear hy248
 replace H := be H; obtain ⟨t251, A3, H⟩ := H
 have H' := ah.mk H
 clear H
 go_enter Tryz.func157, Tryz.ntmps157
 go_wp2_with (first | ((with_reducible refine aN (N := 2) rfl ?_); refine bC (N := 2) (cs := #[.int .i64 EU, .int .i64 EW, .string EX]) (t := 32) ?_; intro gb247 hg w4 hbox hb; have BK247 := ah.mk hbox; have GW247 := SZ (w := w) hg; have GE247 := GW247; replace HB := BS (w := w) hb; clear hb hbox hg) | ((with_reducible refine aN (N := 8) rfl ?_); refine Kd.oq (Kd.int .i64) _ 3 ?hg (N := 8) ?hd (xs := ([] : List Int)) (inner := []) (ok := fun _ => True) (okp := fun _ => True) ?hr ?hp (fun _ hk => hk) trivial (Below.refl _ _) (Nat.le_refl _) (by simp) ?_; (case hd => rfl); (case hg => rfl); (case hr => first | (go_simp; done) | (go_simp; rfl)); (case hp => exact (gD.none _ _)); intro v249 w5 ho6 hb hg_ hnew_; clear hg_ hnew_; (first | rw [← Ny248.out] at ho6 | (simp only [Int.reduceToNat] at ho6; rw [← Ny248.out] at ho6)); have n0_ := ah.mk (Kd.cO ho6 (aQ BL)); replace BK247 := KB BK247 hb; replace HB := BS (w := w) hb; have HO250 := n0_; clear n0_; clear hb ho6; obtain ⟨hcz7_0, hcz7_1, hcz7_2, hfz7_0, hfz7_1, hfz7_2⟩ := cz3 BK247.out) | ((with_reducible refine ay (f := 49) rfl ?_); refine bq (some 10) Tryz.func49 #[.agg #[.int .i64 EU, .int .i64 EW, .string EX]] ?_; (with_reducible refine (aR.calls k EU EW EX t251 _ A3.out).mono ?_); rintro e w8 ⟨v252, rfl, ho0, hb⟩; refine ⟨_, rfl, ?_⟩; have n1_ := ah.mk (Kd.cO ho0 (aQ BL)); replace HO250 := RB HO250 hb; replace BK247 := KB BK247 hb; replace HB := BS (w := w) hb; have HO253 := n1_; clear n1_; (try clear hb); (try clear ho0)))
 go_loopg [5, 7] k (fun kq v5 v7 w' => ∃ (x5_1 : List Int) (x7_1 : Int), v7 = .int .i64 x7_1 ∧ ah (bU.l0 kq a1 x5_1 t251 x7_1 EU EW EX = some r) ∧ ah (kq ≤ k) ∧ ah (Kd.R (Kd.int .i64) 3 w' w.heap.size (fun _ => True) v5 x5_1) ∧ ah (Kd.R kX 115 w' w.heap.size (fun _ => True) v252 t251) ∧ ah (w'.heap[gb247]? = some (.cells #[.int .i64 EU, .int .i64 EW, .string EX] 32 (0, 0))) ∧ ah (Below w.heap.size w w'))
 case atStart => exact ⟨(y248), (0), EQ, H', ⟨Nat.le_refl _⟩, ⟨(RR HO250)⟩, ⟨(RR HO253)⟩, ⟨BK⟩, ⟨BL⟩⟩
 case round =>
  clear H'
  try clear hcz7_0
  try clear hcz7_1
  try clear hcz7_2
  try clear hfz7_0
  try clear hfz7_1
  try clear hfz7_2
  obtain ⟨x5_1, x7_1, rfl, HA, HK1, HO_5, HO_6, BK247, HB⟩ := hrel
  cases gk with
  | zero => exact absurd HA.out (by simp [bU.l0])
  | succ k1 =>
   have H := HA.out
   clear HA
   simp only [bU.l0] at H
   obtain ⟨Ao7000, co7000, eo7000⟩ := Kd.dH HO_6.out
   subst eo7000
   replace H := ifD H; rcases H with ⟨c9b0, H⟩ | ⟨c9b0, H⟩
   ·replace H := ifN H; obtain ⟨c10b0, H⟩ := H
    replace H := be H; obtain ⟨t255, A11, H⟩ := H
    replace H := be H; obtain ⟨t258, A12, H⟩ := H
    replace H := ah.mk H
    try go_wp2
    replace HO_5 := ah.mk (Kd.fM HO_5.out)
    replace HO_6 := ah.mk (Kd.fM HO_6.out)
    replace BK247 := ah.mk (aI BK247.out)
    replace HB := ah.mk (dL HB.out)
    have p254 : 0 ≤ (x7_1 : Int) := OD
    have q254 : x7_1 < (t251.length : Int) := OD
    obtain ⟨ad254, e254, hx254_0, hx254_1, hx254_2, hx254_3⟩ := mX (Kd.bN HO_6.out).2.2 x7_1 p254 q254
    cases e254
    replace p254 := eq_true p254
    replace q254 := eq_true q254
    refine ji (n := 8) (S := fun w' => w'.cell? ⟨gb247, 0, none⟩ = some (.int .i64 EU) ∧ w'.cell? ⟨gb247, 1, none⟩ = some (.int .i64 EW) ∧ w'.cell? ⟨gb247, 2, none⟩ = some (.string EX) ∧ w'.cell? (ad254.add ((x7_1).toNat * 4)) = some (.int .i64 ((aM t251 x7_1).f0)) ∧ w'.cell? ⟨(ad254.add ((x7_1).toNat * 4)).block, (ad254.add ((x7_1).toNat * 4)).off + 1, none⟩ = some (.bool ((aM t251 x7_1).f1)) ∧ w'.cell? ⟨(ad254.add ((x7_1).toNat * 4)).block, (ad254.add ((x7_1).toNat * 4)).off + 2, none⟩ = some (.int .i64 ((aM t251 x7_1).f2)) ∧ w'.cell? ⟨(ad254.add ((x7_1).toNat * 4)).block, (ad254.add ((x7_1).toNat * 4)).off + 3, none⟩ = some (.int .i64 ((aM t251 x7_1).f3))) (ds := []) #[F,F,F,F,F,F,F,F] (by kernel_rfl) rfl rfl ⟨(av BK247.out 0).trans rfl, (av BK247.out 1).trans rfl, (av BK247.out 2).trans rfl, hx254_0, hx254_1, hx254_2, hx254_3⟩ (fun hHeld => ?_); refine gT bU.zN bU.wD (fun HT_ HW_ => ?_)
    generalize wr.drew = w7001 at HO_5 HO_6 BK247 HB hx254_0 hx254_1 hx254_2 hx254_3 hHeld ⊢
    refine puS (i := 1) (N := some 18) #[F,T,F,F,F,F,F,F] (aJ HT_.out (by kernel_rfl)) ?_
    refine puS (i := 2) (N := some 19) #[F,T,T,F,F,F,F,F] (aJ HT_.out (by kernel_rfl)) ?_
    refine puS (i := 3) (N := some 20) #[F,T,T,T,F,F,F,F] (aJ HT_.out (by kernel_rfl)) ?_
    refine puS (i := 6) (N := some 23) #[F,T,T,T,F,F,T,F] (aJ HT_.out (by kernel_rfl)) ?_
    refine taS (i := 0) (N := some 17) #[T,T,T,T,F,F,T,F] (dJ HT_.out HW_.out (by kernel_rfl)) hHeld ?_
    refine taS (i := 4) (N := some 21) #[T,T,T,T,T,F,T,F] (dJ HT_.out HW_.out (by kernel_rfl)) hHeld ?_
    refine kH (i := 5) (N := some 22) #[T,T,T,T,T,T,T,F] rfl rfl (iO HT_.out (by kernel_rfl)) (by decide) (fun K hK => ?_)
    refine iU Tryz.func125 #[.agg #[.int .i64 EU, .int .i64 EW, .string EX], .agg #[.int .i64 ((aM t251 x7_1).f0), .bool ((aM t251 x7_1).f1), .int .i64 ((aM t251 x7_1).f2), .int .i64 ((aM t251 x7_1).f3)]] ?_
    with_reducible refine (bL.calls k1 EU EW EX ((aM t251 x7_1).f0) ((aM t251 x7_1).f1) ((aM t251 x7_1).f2) ((aM t251 x7_1).f3) t255 _ A11.out).mono ?_
    rintro e w7002 ⟨v256, rfl, ho0, hb⟩
    have HS3_ := (hb.cell (World.block_lt_of_cell? _ _ (hHeld.2.2.2.1))).trans (hHeld.2.2.2.1)
    have HS4_ := (hb.cell (World.block_lt_of_cell? _ _ (hHeld.2.2.2.2.1))).trans (hHeld.2.2.2.2.1)
    have HS5_ := (hb.cell (World.block_lt_of_cell? _ _ (hHeld.2.2.2.2.2.1))).trans (hHeld.2.2.2.2.2.1)
    have HS6_ := (hb.cell (World.block_lt_of_cell? _ _ (hHeld.2.2.2.2.2.2))).trans (hHeld.2.2.2.2.2.2)
    refine ⟨_, rfl, ?_⟩
    have n0_ := ah.mk (Kd.jB (RR HO_5) (Kd.kK ho0) hb)
    have n1_ := RB HO_6 hb
    have n2_ := ah.mk (Kd.cO (Kd.lG ho0 (Kd.oI (RR HO_5))) (aQ BL))
    have n3_ := KB BK247 hb
    have n4_ := BS (w := w) hb
    clear HO_5
    clear HO_6
    clear BK247
    clear HB
    have HO_5 := n0_
    have HO_6 := n1_
    have HO257 := n2_
    have BK247 := n3_
    have HB := n4_
    clear n0_ n1_ n2_ n3_ n4_
    (try clear hb)
    (try clear ho0)
    obtain ⟨Ao7003, co7003, eo7003⟩ := Kd.dH HO257.out
    (first | subst eo7003 | (injection eo7003 with f1_ f2_ f3_; have f4_ := f1_.symm; have f5_ := f3_.symm; clear f1_ f2_ f3_; subst f4_; subst f5_))
    refine hK.out _ _ ⟨(av BK247.out 0).trans rfl, (av BK247.out 1).trans rfl, (av BK247.out 2).trans rfl, HS3_, HS4_, HS5_, HS6_⟩ (fun hHeld => ?_)
    clear hK K
    refine nrm (some 22) ?_
    refine kH (i := 7) (N := some 24) #[T,T,T,T,T,T,T,T] rfl rfl (iO HT_.out (by kernel_rfl)) (by decide) (fun K hK => ?_)
    refine iU Tryz.func191 #[.slice Ao7003 t255.length co7003, .int .i64 a1] ?_
    with_reducible refine (gK.calls k1 _ _ t255 a1 _ _ ?side1 ?side2 A12.out).mono ?_
    (case side1 => exact CR2 HO257)
    (case side2 => exact (Kd.bN HO257.out).2.1)
    rintro e w' ⟨rfl, ⟨nd, rfl⟩⟩
    refine ⟨_, rfl, ?_⟩
    refine hK.out _ _ ⟨(av BK247.out 0).trans rfl, (av BK247.out 1).trans rfl, (av BK247.out 2).trans rfl, hHeld.2.2.2.1, hHeld.2.2.2.2.1, hHeld.2.2.2.2.2.1, hHeld.2.2.2.2.2.2⟩ (fun hHeld => ?_)
    clear hK K
    refine nrm (some 24) ?_
    replace H := H.out
    replace H := ifB H; rcases H with ⟨rfl, H⟩ | ⟨rfl, H⟩
    ·replace H := ifP H; obtain ⟨c14, H⟩ := H
     have LMc14 := ah.mk c14
     clear c14
     obtain ⟨y259, hy259⟩ : ∃ y_ : List Int, y_ = (x5_1 ++ [x7_1]) := ⟨_, rfl⟩
     replace H : (bU.l0 k1 a1 y259 t251 (wrap64 (x7_1 + 1)) EU EW EX) = some r := by first | (rw [hy259]; with_reducible exact H) | (have H2_ := (Option.bind_some _ _).symm.trans H; rw [hy259]; with_reducible exact H2_) | (have H2_ := (Option.bind_some _ _).symm.trans H; with_reducible exact H2_) | with_reducible exact H | (rw [hy259]; exact H) | exact H
     have Ny259 := ah.mk hy259
     clear hy259
     have H' := ah.mk H
     clear H
     refine gX (fH HT_.out (by kernel_rfl)) ?_
     try go_wp2_with (first | ((with_reducible refine dn (b := .append) (xs := #[.tmp 25, .tmp 27]) rfl ?_); at_builtin; refine Kd.fT (Kd.int .i64) (w0 := w) w.heap.size rfl (.tmp 25) (.tmp 27) 43 3 (.int .i64 0) 8 rfl Tryz.underlying43 info3 rfl (by decide) (by omega) u5 x5_1 x7_1 [.int .i64 x7_1] (fun k_ => some k_ ≠ (.slice Ao7003 t255.length co7003 : Value).ownBlock) (fun _ => False) rfl rfl ?aP (fun _ hk => hk.elim) ?aF ?aO ?aB ?aS ?aL ?_; (case aP => exact rfl); (case aB => exact BL); (case aF => exact (fun k_ hk => Kd.fresh' (Kd.oI (RR HO257)) k_ hk)); (case aO => exact (by (with_reducible repeat (first | apply Kd.gy | apply Kd.gu | apply Kd.fM)); exact Kd.eF HO_5.out (fun _ hk => hk.2))); (case aS => exact (aQ BL)); (case aL => have := LMc14.out; omega); intro v260 w7004 ho hb hg hat; rw [← Ny259.out] at ho; have n0_ := ah.mk (Kd.lU (RR HO_6) (Kd.lX (RR HO_5)) (by decide) hg); have n1_ := ah.mk (dK (g := gb247) (o := .cells #[.int .i64 EU, .int .i64 EW, .string EX] 32 (0, 0)) BK hg (Kd.lq HO_5.out BK247.out (by decide))); have n2_ := ah.mk (Kd.qF (ok := (fun _ => True)) (RR HO257) hg hat); have n3_ := ah.mk (hb); have n4_ := ah.mk (ho); clear HO_6 BK247 HO257 HB HO_5; have HO_6 := n0_; have BK247 := n1_; have HO257 := n2_; have HB := n3_; have HO261 := n4_; clear n0_ n1_ n2_ n3_ n4_; clear ho hb hg hat))
     go_roundg k1
     case measure => have := HK1.out; omega
     case rel => exact ⟨(y259), (wrap64 (x7_1 + 1)), EQ, H', ⟨by have := HK1.out; omega⟩, ⟨by (with_reducible repeat (first | apply Kd.gy | apply Kd.gu | apply Kd.fM)); exact Kd.eF HO261.out (fun _ hk => trivial)⟩, ⟨(RR HO_6)⟩, ⟨BK⟩, ⟨BL⟩⟩
    ·have H' := ah.mk H
     clear H
     refine gX (fH HT_.out (by kernel_rfl)) ?_
     try go_wp2
     go_roundg k1
     case measure => have := HK1.out; omega
     case rel => exact ⟨(x5_1), (wrap64 (x7_1 + 1)), EQ, H', ⟨by have := HK1.out; omega⟩, ⟨by (with_reducible repeat (first | apply Kd.gy | apply Kd.gu | apply Kd.fM)); exact Kd.eF HO_5.out (fun _ hk => trivial)⟩, ⟨(RR HO_6)⟩, ⟨BK⟩, ⟨BL⟩⟩
   ·obtain rfl := Option.some.inj H
    go_wp2
    go_ret
    exact ⟨_, EWW, (RR HO_5), BL⟩
def jq.f (k : Nat) (EU EW : Int) (EX : ByteArray) (a1 : Int) : Option (Bool) := (bU.f k EU EW EX a1).bind fun t263 => (some ((t263.length : Int) == 2))
theorem jq.calls (k : Nat) (EU EW : Int) (EX : ByteArray) (a1 : Int) (r : Bool) (w : World) (h : jq.f k EU EW EX a1 = some r) :
  Calls Tryz.prog 190 #[.agg #[.int .i64 EU, .int .i64 EW, .string EX], .int .i64 a1] w fun e w' => e = .returned (.bool r) ∧ Below w.heap.size w w' := by
 have hu32 := Tryz.underlying32
 have HB := ah.mk (Below.refl w.heap.size w)
 unfold jq.f at h
 have H := h
 clear h
 replace H := be H; obtain ⟨t263, A3, H⟩ := H
 obtain rfl := Option.some.inj H
 go_enter Tryz.func190, Tryz.ntmps190
 go_wp2_with (first | ((with_reducible refine aN (N := 2) rfl ?_); refine bC (N := 2) (cs := #[.int .i64 EU, .int .i64 EW, .string EX]) (t := 32) ?_; intro gb262 hg w4 hbox hb; have BK262 := ah.mk hbox; have GW262 := SZ (w := w) hg; have GE262 := GW262; replace HB := BS (w := w) hb; clear hb hbox hg; obtain ⟨hcz5_0, hcz5_1, hcz5_2, hfz5_0, hfz5_1, hfz5_2⟩ := cz3 BK262.out) | ((with_reducible refine ay (f := 157) rfl ?_); refine bq (some 7) Tryz.func157 #[.agg #[.int .i64 EU, .int .i64 EW, .string EX], .int .i64 a1] ?_; (with_reducible refine (bU.calls k EU EW EX a1 t263 _ A3.out).mono ?_); rintro e w6 ⟨v264, rfl, ho0, hb⟩; refine ⟨_, rfl, ?_⟩; have n0_ := ah.mk (Kd.cO ho0 (aQ BL)); replace BK262 := KB BK262 hb; replace HB := BS (w := w) hb; have HO265 := n0_; clear n0_; (try clear hb); (try clear ho0); obtain ⟨Ao7, co7, eo7⟩ := Kd.dH HO265.out; subst eo7))
 go_ret
 exact ⟨EWW, BL⟩
def dx.l0 : Nat → List Int → Int → Int → Int → Int → ByteArray → Option (Int)
 | 0, _, _, _, _, _, _ => none
 | k + 1, a, b, c, d, e, f => if c < (a.length : Int) then (if 0 ≤ c then ((jq.f k d e f (rd a c)).bind fun g => (if g = true then (dx.l0 k a b (wrap64 (c + 1)) d e f) else (dx.l0 k a (wrap64 (b + 1)) (wrap64 (c + 1)) d e f))) else (none)) else (some b)
def dx.f (k : Nat) (EU EW : Int) (EX : ByteArray) (a1 : Int) : Option (Int) := (aR.f k EU EW EX).bind fun t267 => ((bD.f a1 0 (wrap64 ((t267.length : Int) - 1))).bind fun t270 => (if t270 = true then (if 0 ≤ a1 then (if a1 < (t267.length : Int) then ((bL.f k EU EW EX ((aM t267 a1).f0) ((aM t267 a1).f1) ((aM t267 a1).f2) ((aM t267 a1).f3)).bind fun t272 => (dx.l0 k t272 0 0 EU EW EX)) else (none)) else (none)) else (some (-1))))
theorem dx.calls (k : Nat) (EU EW : Int) (EX : ByteArray) (a1 r : Int) (w : World) (h : dx.f k EU EW EX a1 = some r) :
  Calls Tryz.prog 155 #[.agg #[.int .i64 EU, .int .i64 EW, .string EX], .int .i64 a1] w fun e w' => e = .returned (.int .i64 r) ∧ Below w.heap.size w w' := by
 have hu32 := Tryz.underlying32
 have hu115 := Tryz.underlying115
 have HB := ah.mk (Below.refl w.heap.size w)
 unfold dx.f at h
 have H := h
 clear h
 replace H := be H; obtain ⟨t267, A3, H⟩ := H
 replace H := be H; obtain ⟨t270, A4, H⟩ := H
 replace H := ah.mk H
 go_enter Tryz.func155, Tryz.ntmps155
 go_wp2_with (first | ((with_reducible refine aN (N := 2) rfl ?_); refine bC (N := 2) (cs := #[.int .i64 EU, .int .i64 EW, .string EX]) (t := 32) ?_; intro gb266 hg w9000 hbox hb; have BK266 := ah.mk hbox; have GW266 := SZ (w := w) hg; have GE266 := GW266; replace HB := BS (w := w) hb; clear hb hbox hg; obtain ⟨hcz9001_0, hcz9001_1, hcz9001_2, hfz9001_0, hfz9001_1, hfz9001_2⟩ := cz3 BK266.out) | ((with_reducible refine ay (f := 49) rfl ?_); refine bq (some 10) Tryz.func49 #[.agg #[.int .i64 EU, .int .i64 EW, .string EX]] ?_; (with_reducible refine (aR.calls k EU EW EX t267 _ A3.out).mono ?_); rintro e w9002 ⟨v268, rfl, ho0, hb⟩; refine ⟨_, rfl, ?_⟩; have n0_ := ah.mk (Kd.cO ho0 (aQ BL)); replace BK266 := KB BK266 hb; replace HB := BS (w := w) hb; have HO269 := n0_; clear n0_; (try clear hb); (try clear ho0); obtain ⟨Ao9003, co9003, eo9003⟩ := Kd.dH HO269.out; subst eo9003) | ((with_reducible refine ay (f := 86) rfl ?_); refine bq (some 15) Tryz.func86 #[.int .i64 a1, .int .i64 0, .int .i64 (wrap64 ((t267.length : Int) - 1))] ?_; (with_reducible refine (bD.calls a1 0 (wrap64 ((t267.length : Int) - 1)) _ _ A4.out).mono ?_); rintro e w' ⟨rfl, ⟨nd, rfl⟩⟩; refine ⟨_, rfl, ?_⟩; refine bP ?_))
 refine Hide.mk ?_
 replace H := H.out
 replace H := ifB H; rcases H with ⟨rfl, H⟩ | ⟨rfl, H⟩
 ·replace H := ifN H; obtain ⟨c6b0, H⟩ := H
  replace H := ifN H; obtain ⟨c7b0, H⟩ := H
  replace H := be H; obtain ⟨t272, A8, H⟩ := H
  have H' := ah.mk H
  clear H
  try go_wp2
  (try (rw [vV w9002]; generalize hq_ : World.drewN w9002 _ = w9002; have n0_ : ah (Kd.R kX 115 w9002 w.heap.size (fun _ => True) (.slice Ao9003 t267.length co9003) t267) := ⟨by rw [← hq_]; exact (RR HO269)⟩; have n1_ : ah (w9002.heap[gb266]? = some (.cells #[.int .i64 EU, .int .i64 EW, .string EX] 32 (0, 0))) := ⟨by rw [← hq_]; exact BK⟩; have n2_ : ah (Below w.heap.size w w9002) := ⟨by rw [← hq_]; exact BL⟩; clear HO269 BK266 HB hq_; have HO269 := n0_; have BK266 := n1_; have HB := n2_; clear n0_ n1_ n2_))
  replace HO269 := ah.mk (Kd.fM HO269.out)
  replace BK266 := ah.mk (aI BK266.out)
  replace HB := ah.mk (dL HB.out)
  have p271 : 0 ≤ (a1 : Int) := OD
  have q271 : a1 < (t267.length : Int) := OD
  obtain ⟨ad271, e271, hx271_0, hx271_1, hx271_2, hx271_3⟩ := mX (Kd.bN HO269.out).2.2 a1 p271 q271
  cases e271
  replace p271 := eq_true p271
  replace q271 := eq_true q271
  refine ji (n := 7) (S := fun w' => w'.cell? ⟨gb266, 0, none⟩ = some (.int .i64 EU) ∧ w'.cell? ⟨gb266, 1, none⟩ = some (.int .i64 EW) ∧ w'.cell? ⟨gb266, 2, none⟩ = some (.string EX) ∧ w'.cell? (ad271.add ((a1).toNat * 4)) = some (.int .i64 ((aM t267 a1).f0)) ∧ w'.cell? ⟨(ad271.add ((a1).toNat * 4)).block, (ad271.add ((a1).toNat * 4)).off + 1, none⟩ = some (.bool ((aM t267 a1).f1)) ∧ w'.cell? ⟨(ad271.add ((a1).toNat * 4)).block, (ad271.add ((a1).toNat * 4)).off + 2, none⟩ = some (.int .i64 ((aM t267 a1).f2)) ∧ w'.cell? ⟨(ad271.add ((a1).toNat * 4)).block, (ad271.add ((a1).toNat * 4)).off + 3, none⟩ = some (.int .i64 ((aM t267 a1).f3))) (ds := []) #[F,F,F,F,F,F,F] (by kernel_rfl) rfl rfl ⟨(av BK266.out 0).trans rfl, (av BK266.out 1).trans rfl, (av BK266.out 2).trans rfl, hx271_0, hx271_1, hx271_2, hx271_3⟩ (fun hHeld => ?_)
  generalize w9002.drew = w9004 at HO269 BK266 HB hx271_0 hx271_1 hx271_2 hx271_3 hHeld ⊢
  refine puS (i := 1) (N := some 18) #[F,T,F,F,F,F,F] (by kernel_rfl) ?_
  refine puS (i := 2) (N := some 19) #[F,T,T,F,F,F,F] (by kernel_rfl) ?_
  refine puS (i := 3) (N := some 20) #[F,T,T,T,F,F,F] (by kernel_rfl) ?_
  refine taS (i := 0) (N := some 17) #[T,T,T,T,F,F,F] (by kernel_rfl) hHeld ?_
  refine taS (i := 4) (N := some 21) #[T,T,T,T,T,F,F] (by kernel_rfl) hHeld ?_
  refine kH (i := 5) (N := some 22) #[T,T,T,T,T,T,F] rfl rfl (by kernel_rfl) (by decide) (fun K hK => ?_)
  refine iU Tryz.func125 #[.agg #[.int .i64 EU, .int .i64 EW, .string EX], .agg #[.int .i64 ((aM t267 a1).f0), .bool ((aM t267 a1).f1), .int .i64 ((aM t267 a1).f2), .int .i64 ((aM t267 a1).f3)]] ?_
  with_reducible refine (bL.calls k EU EW EX ((aM t267 a1).f0) ((aM t267 a1).f1) ((aM t267 a1).f2) ((aM t267 a1).f3) t272 _ A8.out).mono ?_
  rintro e w9005 ⟨v273, rfl, ho0, hb⟩
  have HS3_ := (hb.cell (World.block_lt_of_cell? _ _ (hHeld.2.2.2.1))).trans (hHeld.2.2.2.1)
  have HS4_ := (hb.cell (World.block_lt_of_cell? _ _ (hHeld.2.2.2.2.1))).trans (hHeld.2.2.2.2.1)
  have HS5_ := (hb.cell (World.block_lt_of_cell? _ _ (hHeld.2.2.2.2.2.1))).trans (hHeld.2.2.2.2.2.1)
  have HS6_ := (hb.cell (World.block_lt_of_cell? _ _ (hHeld.2.2.2.2.2.2))).trans (hHeld.2.2.2.2.2.2)
  refine ⟨_, rfl, ?_⟩
  have n0_ := RB HO269 hb
  have n1_ := ah.mk (Kd.cO ho0 (aQ BL))
  have n2_ := KB BK266 hb
  have n3_ := BS (w := w) hb
  clear HO269
  clear BK266
  clear HB
  have HO269 := n0_
  have HO274 := n1_
  have BK266 := n2_
  have HB := n3_
  clear n0_ n1_ n2_ n3_
  (try clear hb)
  (try clear ho0)
  refine hK.out _ _ ⟨(av BK266.out 0).trans rfl, (av BK266.out 1).trans rfl, (av BK266.out 2).trans rfl, HS3_, HS4_, HS5_, HS6_⟩ (fun hHeld => ?_)
  clear hK K
  refine nrm (some 22) ?_
  refine puS (i := 6) (N := some 6) #[T,T,T,T,T,T,T] (by kernel_rfl) ?_
  refine gX (by kernel_rfl) ?_
  try go_wp2
  go_loopg [7, 8] k (fun kq v7 v8 w' => ∃ (x7_1 : Int) (x8_1 : Int), v7 = .int .i64 x7_1 ∧ v8 = .int .i64 x8_1 ∧ ah (dx.l0 kq t272 x7_1 x8_1 EU EW EX = some r) ∧ ah (kq ≤ k) ∧ ah (Kd.R (Kd.int .i64) 3 w' w.heap.size (fun _ => True) v273 t272) ∧ ah (w'.heap[gb266]? = some (.cells #[.int .i64 EU, .int .i64 EW, .string EX] 32 (0, 0))) ∧ ah (Below w.heap.size w w'))
  case atStart => exact ⟨(0), (0), EQ, EQ, H', ⟨Nat.le_refl _⟩, ⟨(RR HO274)⟩, ⟨BK⟩, ⟨BL⟩⟩
  case round =>
   clear H'
   try clear c5
   try clear c6
   try clear c6b0
   try clear c7
   try clear c7b0
   try clear hcz9001_0
   try clear hcz9001_1
   try clear hcz9001_2
   try clear hfz9001_0
   try clear hfz9001_1
   try clear hfz9001_2
   try clear hx271_0
   try clear hx271_1
   try clear hx271_2
   try clear hx271_3
   try clear p271
   try clear q271
   obtain ⟨x7_1, x8_1, rfl, rfl, HA, HK1, HO_6, BK266, HB⟩ := hrel
   cases gk with
   | zero => exact absurd HA.out (by simp [dx.l0])
   | succ k1 =>
    have H := HA.out
    clear HA
    simp only [dx.l0] at H
    obtain ⟨Ao9006, co9006, eo9006⟩ := Kd.dH HO_6.out
    subst eo9006
    replace H := ifD H; rcases H with ⟨c15b0, H⟩ | ⟨c15b0, H⟩
    ·replace H := ifN H; obtain ⟨c16b0, H⟩ := H
     replace H := be H; obtain ⟨t276, A17, H⟩ := H
     replace H := ah.mk H
     try go_wp2
     replace HO_6 := ah.mk (Kd.fM HO_6.out)
     replace BK266 := ah.mk (aI BK266.out)
     replace HB := ah.mk (dL HB.out)
     have p275 : 0 ≤ (x8_1 : Int) := OD
     have q275 : x8_1 < (t272.length : Int) := OD
     obtain ⟨ad275, e275, hx275_0⟩ := Kd.pG (Kd.bN HO_6.out).2.2 x8_1 p275 q275
     cases e275
     replace p275 := eq_true p275
     replace q275 := eq_true q275
     refine ji (n := 7) (S := fun w' => w'.cell? ⟨gb266, 0, none⟩ = some (.int .i64 EU) ∧ w'.cell? ⟨gb266, 1, none⟩ = some (.int .i64 EW) ∧ w'.cell? ⟨gb266, 2, none⟩ = some (.string EX) ∧ w'.cell? (ad275.add (x8_1).toNat) = some (.int .i64 (rd t272 x8_1))) (ds := []) #[F,F,F,F,F,F,F] (by kernel_rfl) rfl rfl ⟨(av BK266.out 0).trans rfl, (av BK266.out 1).trans rfl, (av BK266.out 2).trans rfl, hx275_0⟩ (fun hHeld => ?_)
     generalize wr.drew = w9007 at HO_6 BK266 HB hx275_0 hHeld ⊢
     refine puS (i := 1) (N := some 30) #[F,T,F,F,F,F,F] (by kernel_rfl) ?_
     refine puS (i := 2) (N := some 31) #[F,T,T,F,F,F,F] (by kernel_rfl) ?_
     refine puS (i := 3) (N := some 32) #[F,T,T,T,F,F,F] (by kernel_rfl) ?_
     refine taS (i := 0) (N := some 29) #[T,T,T,T,F,F,F] (by kernel_rfl) hHeld ?_
     refine taS (i := 4) (N := some 33) #[T,T,T,T,T,F,F] (by kernel_rfl) hHeld ?_
     refine kH (i := 5) (N := some 34) #[T,T,T,T,T,T,F] rfl rfl (by kernel_rfl) (by decide) (fun K hK => ?_)
     refine iU Tryz.func190 #[.agg #[.int .i64 EU, .int .i64 EW, .string EX], .int .i64 (rd t272 x8_1)] ?_
     with_reducible refine (jq.calls k1 EU EW EX (rd t272 x8_1) _ _ A17.out).mono ?_
     rintro e w9008 ⟨rfl, hb⟩
     have HS3_ := (hb.cell (World.block_lt_of_cell? _ _ (hHeld.2.2.2))).trans (hHeld.2.2.2)
     refine ⟨_, rfl, ?_⟩
     replace HO_6 := RB HO_6 hb
     replace BK266 := KB BK266 hb
     replace HB := BS (w := w) hb
     (try clear hb)
     refine hK.out _ _ ⟨(av BK266.out 0).trans rfl, (av BK266.out 1).trans rfl, (av BK266.out 2).trans rfl, HS3_⟩ (fun hHeld => ?_)
     clear hK K
     refine nrm (some 34) ?_
     replace H := H.out
     replace H := ifB H; rcases H with ⟨rfl, H⟩ | ⟨rfl, H⟩
     ·have H' := ah.mk H
      clear H
      refine puS (i := 6) (N := some 35) #[T,T,T,T,T,T,T] (by kernel_rfl) ?_
      refine gX (by kernel_rfl) ?_
      try go_wp2
      go_roundg k1
      case measure => have := HK1.out; omega
      case rel => exact ⟨(x7_1), (wrap64 (x8_1 + 1)), EQ, EQ, H', ⟨by have := HK1.out; omega⟩, ⟨(RR HO_6)⟩, ⟨BK⟩, ⟨BL⟩⟩
     ·have H' := ah.mk H
      clear H
      refine puS (i := 6) (N := some 35) #[T,T,T,T,T,T,T] (by kernel_rfl) ?_
      refine gX (by kernel_rfl) ?_
      try go_wp2
      go_roundg k1
      case measure => have := HK1.out; omega
      case rel => exact ⟨(wrap64 (x7_1 + 1)), (wrap64 (x8_1 + 1)), EQ, EQ, H', ⟨by have := HK1.out; omega⟩, ⟨(RR HO_6)⟩, ⟨BK⟩, ⟨BL⟩⟩
    ·obtain rfl := Option.some.inj H
     go_wp2
     go_ret
     exact ⟨EWW, BL⟩
 ·obtain rfl := Option.some.inj H
  try go_wp2
  go_ret
  exact ⟨EWW, BL⟩
def kr.f (k : Nat) (EU EW : Int) (EX : ByteArray) (a1 : Int) : Option (Bool) := (bI.f k EU EW EX).bind fun t278 => (if t278 = true then ((bD.f a1 0 (wrap64 ((EX.size : Int) - 1))).bind fun t279 => (if t279 = true then (if 0 ≤ a1 then (if a1 < (EX.size : Int) then (some ((bt EX a1) == 46)) else (none)) else (none)) else (some false))) else (some false))
theorem kr.calls (k : Nat) (EU EW : Int) (EX : ByteArray) (a1 : Int) (r : Bool) (w : World) (h : kr.f k EU EW EX a1 = some r) :
  Calls Tryz.prog 156 #[.agg #[.int .i64 EU, .int .i64 EW, .string EX], .int .i64 a1] w fun e w' => e = .returned (.bool r) ∧ Below w.heap.size w w' := by
 have hu32 := Tryz.underlying32
 have HB := ah.mk (Below.refl w.heap.size w)
 unfold kr.f at h
 have H := h
 clear h
 replace H := be H; obtain ⟨t278, A3, H⟩ := H
 replace H := ah.mk H
 go_enter Tryz.func156, Tryz.ntmps156
 go_wp2_with (first | ((with_reducible refine aN (N := 2) rfl ?_); (try (refine jX (by rfl) ?_; dsimp only)); refine bC (N := 2) (cs := #[.int .i64 EU, .int .i64 EW, .string EX]) (t := 32) ?_; intro gb277 hg w9000 hbox hb; have BK277 := ah.mk hbox; have GW277 := SZ (w := w) hg; have GE277 := GW277; replace HB := BS (w := w) hb; clear hb hbox hg; obtain ⟨hcz9001_0, hcz9001_1, hcz9001_2, hfz9001_0, hfz9001_1, hfz9001_2⟩ := cz3 BK277.out) | ((with_reducible refine ay (f := 96) rfl ?_); refine bq (some 6) Tryz.func96 #[.agg #[.int .i64 EU, .int .i64 EW, .string EX]] ?_; (with_reducible refine (bI.calls k EU EW EX _ _ A3.out).mono ?_); rintro e w9002 ⟨rfl, hb⟩; refine ⟨_, rfl, ?_⟩; replace BK277 := KB BK277 hb; replace HB := BS (w := w) hb; (try clear hb); obtain ⟨hcz9003_0, hcz9003_1, hcz9003_2, hfz9003_0, hfz9003_1, hfz9003_2⟩ := cz3 BK277.out; refine bP ?_))
 refine Hide.mk ?_
 replace H := H.out
 replace H := ifB H; rcases H with ⟨rfl, H⟩ | ⟨rfl, H⟩
 ·replace H := be H; obtain ⟨t279, A5, H⟩ := H
  replace H := ah.mk H
  go_wp2_with (first | (go_at_call 86; (with_reducible refine (bD.calls a1 0 (wrap64 ((EX.size : Int) - 1)) _ _ A5.out).mono ?_); rintro e w' ⟨rfl, ⟨nd, rfl⟩⟩; refine bP ?_))
  refine Hide.mk ?_
  replace H := H.out
  replace H := ifB H; rcases H with ⟨rfl, H⟩ | ⟨rfl, H⟩
  ·replace H := ifN H; obtain ⟨c7b0, H⟩ := H
   replace H := ifN H; obtain ⟨c8b0, H⟩ := H
   obtain rfl := Option.some.inj H
   have p9 : (0 ≤ (a1 : Int)) = True := OT
   have q9 : (a1 < (EX.size : Int)) = True := OT
   have hx9 := gI EX a1
   go_wp2
   go_ret
   exact ⟨EWW, BL⟩
  ·obtain rfl := Option.some.inj H
   try go_wp2
   go_ret
   exact ⟨EWW, BL⟩
 ·obtain rfl := Option.some.inj H
  try go_wp2
  go_ret
  exact ⟨EWW, BL⟩
mutual
def bB.l0 : Nat → List (dI) → Int → Int → Int → ByteArray → Option (Bool)
 | 0, _, _, _, _, _ => none
 | k + 1, a, b, c, d, e => if b < (a.length : Int) then ((dx.f k c d e b).bind fun f => (if 0 ≤ b then (if (wrap64 (2 * f)) > ((aM a b).f3) then (some true) else (bB.l0 k a (wrap64 (b + 1)) c d e)) else (none))) else (bB.l1 k 0 c d e)
def bB.l1 : Nat → Int → Int → Int → ByteArray → Option (Bool)
 | 0, _, _, _, _ => none
 | k + 1, a, b, c, d => if a < (d.size : Int) then ((kr.f k b c d a).bind fun e => (if e = true then ((bU.f k b c d a).bind fun f => (if (f.length : Int) = 0 then (some true) else (bB.l1 k (wrap64 (a + 1)) b c d))) else (bB.l1 k (wrap64 (a + 1)) b c d))) else (some false)
end
def bB.f (k : Nat) (EU EW : Int) (EX : ByteArray) : Option (Bool) := (aR.f k EU EW EX).bind fun t281 => (bB.l0 k t281 0 EU EW EX)
def bB.T5 : Bool × List (List Nat × List Nat) := (true, [([], []), ([], []), ([0, 1], [0, 1]), ([2], [2]), ([], []), ([], []), ([4, 5], [4, 5]), ([6], [6]), ([7], [7]), ([3, 8], [3, 8])])
def bB.B5 : List Nat := [0, 0, 3, 7, 0, 0, 48, 112, 240, 511]
theorem bB.Cq : kD .any (opsOf Tryz.f100 5) = bB.T5 := by kernel_rfl
theorem bB.yY : iZ bB.T5.2 bB.B5 = true := by kernel_rfl
theorem bB.calls (k : Nat) (EU EW : Int) (EX : ByteArray) (r : Bool) (w : World) (h : bB.f k EU EW EX = some r) :
  Calls Tryz.prog 100 #[.agg #[.int .i64 EU, .int .i64 EW, .string EX]] w fun e w' => e = .returned (.bool r) ∧ Below w.heap.size w w' := by
 have hu32 := Tryz.underlying32
 have HB := ah.mk (Below.refl w.heap.size w)
 unfold bB.f at h
 have H := h
 clear h
 replace H := be H; obtain ⟨t281, A2, H⟩ := H
 have H' := ah.mk H
 clear H
 go_enter Tryz.func100, Tryz.ntmps100
 go_wp2_with (first | ((with_reducible refine aN (N := 1) rfl ?_); (try (refine jX (by rfl) ?_; dsimp only)); refine bC (N := 1) (cs := #[.int .i64 EU, .int .i64 EW, .string EX]) (t := 32) ?_; intro gb280 hg w3 hbox hb; have BK280 := ah.mk hbox; have GW280 := SZ (w := w) hg; have GE280 := GW280; replace HB := BS (w := w) hb; clear hb hbox hg; obtain ⟨hcz4_0, hcz4_1, hcz4_2, hfz4_0, hfz4_1, hfz4_2⟩ := cz3 BK280.out) | ((with_reducible refine ay (f := 49) rfl ?_); refine bq (some 7) Tryz.func49 #[.agg #[.int .i64 EU, .int .i64 EW, .string EX]] ?_; (with_reducible refine (aR.calls k EU EW EX t281 _ A2.out).mono ?_); rintro e w5 ⟨v282, rfl, ho0, hb⟩; refine ⟨_, rfl, ?_⟩; have n0_ := ah.mk (Kd.cO ho0 (aQ BL)); replace BK280 := KB BK280 hb; replace HB := BS (w := w) hb; have HO283 := n0_; clear n0_; (try clear hb); (try clear ho0)))
 go_loopg [4] k (fun kq v4 w' => ∃ (x4_1 : Int), v4 = .int .i64 x4_1 ∧ ah (bB.l0 kq t281 x4_1 EU EW EX = some r) ∧ ah (kq ≤ k) ∧ ah (Kd.R kX 115 w' w.heap.size (fun _ => True) v282 t281) ∧ ah (w'.heap[gb280]? = some (.cells #[.int .i64 EU, .int .i64 EW, .string EX] 32 (0, 0))) ∧ ah (Below w.heap.size w w'))
 case atStart => exact ⟨(0), EQ, H', ⟨Nat.le_refl _⟩, ⟨(RR HO283)⟩, ⟨BK⟩, ⟨BL⟩⟩
 case round =>
  clear H'
  try clear hcz4_0
  try clear hcz4_1
  try clear hcz4_2
  try clear hfz4_0
  try clear hfz4_1
  try clear hfz4_2
  obtain ⟨x4_1, rfl, HA, HK1, HO_3, BK280, HB⟩ := hrel
  cases gk with
  | zero => exact absurd HA.out (by simp [bB.l0])
  | succ k1 =>
   have H := HA.out
   clear HA
   simp only [bB.l0] at H
   obtain ⟨Ao7000, co7000, eo7000⟩ := Kd.dH HO_3.out
   subst eo7000
   replace H := ifD H; rcases H with ⟨c6b0, H⟩ | ⟨c6b0, H⟩
   ·replace H := be H; obtain ⟨t284, A7, H⟩ := H
    replace H := ifN H; obtain ⟨c8b0, H⟩ := H
    replace H := ah.mk H
    try go_wp2
    replace HO_3 := ah.mk (Kd.fM HO_3.out)
    replace BK280 := ah.mk (aI BK280.out)
    replace HB := ah.mk (dL HB.out)
    have p285 : 0 ≤ (x4_1 : Int) := OD
    have q285 : x4_1 < (t281.length : Int) := OD
    obtain ⟨ad285, e285, hx285_0, hx285_1, hx285_2, hx285_3⟩ := mX (Kd.bN HO_3.out).2.2 x4_1 p285 q285
    cases e285
    replace p285 := eq_true p285
    replace q285 := eq_true q285
    refine ji (n := 10) (S := fun w' => w'.cell? ⟨gb280, 0, none⟩ = some (.int .i64 EU) ∧ w'.cell? ⟨gb280, 1, none⟩ = some (.int .i64 EW) ∧ w'.cell? ⟨gb280, 2, none⟩ = some (.string EX) ∧ w'.cell? (ad285.add ((x4_1).toNat * 4)) = some (.int .i64 ((aM t281 x4_1).f0)) ∧ w'.cell? ⟨(ad285.add ((x4_1).toNat * 4)).block, (ad285.add ((x4_1).toNat * 4)).off + 1, none⟩ = some (.bool ((aM t281 x4_1).f1)) ∧ w'.cell? ⟨(ad285.add ((x4_1).toNat * 4)).block, (ad285.add ((x4_1).toNat * 4)).off + 2, none⟩ = some (.int .i64 ((aM t281 x4_1).f2)) ∧ w'.cell? ⟨(ad285.add ((x4_1).toNat * 4)).block, (ad285.add ((x4_1).toNat * 4)).off + 3, none⟩ = some (.int .i64 ((aM t281 x4_1).f3))) (ds := []) #[F,F,F,F,F,F,F,F,F,F] (by kernel_rfl) rfl rfl ⟨(av BK280.out 0).trans rfl, (av BK280.out 1).trans rfl, (av BK280.out 2).trans rfl, hx285_0, hx285_1, hx285_2, hx285_3⟩ (fun hHeld => ?_); refine gT bB.Cq bB.yY (fun HT_ HW_ => ?_)
    generalize wr.drew = w7001 at HO_3 BK280 HB hx285_0 hx285_1 hx285_2 hx285_3 hHeld ⊢
    refine puS (i := 1) (N := some 15) #[F,T,F,F,F,F,F,F,F,F] (aJ HT_.out (by kernel_rfl)) ?_
    refine puS (i := 4) (N := some 18) #[F,T,F,F,T,F,F,F,F,F] (aJ HT_.out (by kernel_rfl)) ?_
    refine puS (i := 5) (N := some 19) #[F,T,F,F,T,T,F,F,F,F] (aJ HT_.out (by kernel_rfl)) ?_
    refine puS (i := 6) (N := some 20) #[F,T,F,F,T,T,T,F,F,F] (aJ HT_.out (by kernel_rfl)) ?_
    refine puS (i := 7) (N := some 21) #[F,T,F,F,T,T,T,T,F,F] (aJ HT_.out (by kernel_rfl)) ?_
    refine taS (i := 0) (N := some 14) #[T,T,F,F,T,T,T,T,F,F] (dJ HT_.out HW_.out (by kernel_rfl)) hHeld ?_
    refine taS (i := 8) (N := some 22) #[T,T,F,F,T,T,T,T,T,F] (dJ HT_.out HW_.out (by kernel_rfl)) hHeld ?_
    refine kH (i := 2) (N := some 16) #[T,T,T,F,T,T,T,T,T,F] rfl rfl (iO HT_.out (by kernel_rfl)) (by decide) (fun K hK => ?_)
    refine iU Tryz.func155 #[.agg #[.int .i64 EU, .int .i64 EW, .string EX], .int .i64 x4_1] ?_
    with_reducible refine (dx.calls k1 EU EW EX x4_1 t284 _ A7.out).mono ?_
    rintro e w7002 ⟨rfl, hb⟩
    have HS3_ := (hb.cell (World.block_lt_of_cell? _ _ (hHeld.2.2.2.1))).trans (hHeld.2.2.2.1)
    have HS4_ := (hb.cell (World.block_lt_of_cell? _ _ (hHeld.2.2.2.2.1))).trans (hHeld.2.2.2.2.1)
    have HS5_ := (hb.cell (World.block_lt_of_cell? _ _ (hHeld.2.2.2.2.2.1))).trans (hHeld.2.2.2.2.2.1)
    have HS6_ := (hb.cell (World.block_lt_of_cell? _ _ (hHeld.2.2.2.2.2.2))).trans (hHeld.2.2.2.2.2.2)
    refine ⟨_, rfl, ?_⟩
    replace HO_3 := RB HO_3 hb
    replace BK280 := KB BK280 hb
    replace HB := BS (w := w) hb
    (try clear hb)
    refine hK.out _ _ ⟨(av BK280.out 0).trans rfl, (av BK280.out 1).trans rfl, (av BK280.out 2).trans rfl, HS3_, HS4_, HS5_, HS6_⟩ (fun hHeld => ?_)
    clear hK K
    refine nrm (some 16) ?_
    replace H := H.out
    by_cases c9 : (wrap64 (2 * t284)) > ((aM t281 x4_1).f3)
    ·rw [if_pos c9] at H
     have c9b0 : decide (((aM t281 x4_1).f3) < (wrap64 (2 * t284))) = true := decide_eq_true c9
     clear c9
     obtain rfl := Option.some.inj H
     refine puS (i := 3) (N := some 17) #[T,T,T,T,T,T,T,T,T,F] (aJ HT_.out (by kernel_rfl)) ?_
     refine puS (i := 9) (N := some 23) #[T,T,T,T,T,T,T,T,T,T] (aJ HT_.out (by kernel_rfl)) ?_
     refine gX (fH HT_.out (by kernel_rfl)) ?_
     try go_wp2
     go_ret
     exact ⟨EWW, BL⟩
    ·rw [if_neg c9] at H
     have c9b0 : decide (((aM t281 x4_1).f3) < (wrap64 (2 * t284))) = false := decide_eq_false c9
     clear c9
     have H' := ah.mk H
     clear H
     refine puS (i := 3) (N := some 17) #[T,T,T,T,T,T,T,T,T,F] (aJ HT_.out (by kernel_rfl)) ?_
     refine puS (i := 9) (N := some 23) #[T,T,T,T,T,T,T,T,T,T] (aJ HT_.out (by kernel_rfl)) ?_
     refine gX (fH HT_.out (by kernel_rfl)) ?_
     try go_wp2
     go_roundg k1
     case measure => have := HK1.out; omega
     case rel => exact ⟨(wrap64 (x4_1 + 1)), EQ, H', ⟨by have := HK1.out; omega⟩, ⟨(RR HO_3)⟩, ⟨BK⟩, ⟨BL⟩⟩
   ·have H' := ah.mk H
    clear H
    go_wp2
    go_loopg [5] k1 (fun kq v5 w' => ∃ (x5_2 : Int), v5 = .int .i64 x5_2 ∧ ah (bB.l1 kq x5_2 EU EW EX = some r) ∧ ah (kq ≤ k1) ∧ ah (w'.heap[gb280]? = some (.cells #[.int .i64 EU, .int .i64 EW, .string EX] 32 (0, 0))) ∧ ah (Below w.heap.size w w'))
    case atStart => exact ⟨(0), EQ, H', ⟨Nat.le_refl _⟩, ⟨BK⟩, ⟨BL⟩⟩
    case round =>
     clear H'
     try clear c6
     try clear c6b0
     try clear hcz4_0
     try clear hcz4_1
     try clear hcz4_2
     try clear hfz4_0
     try clear hfz4_1
     try clear hfz4_2
     obtain ⟨x5_2, rfl, HA, HK2, BK280, HB⟩ := hrel
     cases gk with
     | zero => exact absurd HA.out (by simp [bB.l1])
     | succ k2 =>
      have H := HA.out
      clear HA
      simp only [bB.l1] at H
      obtain ⟨hcz7001_0, hcz7001_1, hcz7001_2, hfz7001_0, hfz7001_1, hfz7001_2⟩ := cz3 BK280.out
      replace H := ifD H; rcases H with ⟨c17b0, H⟩ | ⟨c17b0, H⟩
      ·replace H := be H; obtain ⟨t286, A18, H⟩ := H
       replace H := ah.mk H
       go_wp2_with (first | ((with_reducible refine ay (f := 156) rfl ?_); refine bq (some 33) Tryz.func156 #[.agg #[.int .i64 EU, .int .i64 EW, .string EX], .int .i64 x5_2] ?_; (with_reducible refine (kr.calls k2 EU EW EX x5_2 _ _ A18.out).mono ?_); rintro e w7002 ⟨rfl, hb⟩; refine ⟨_, rfl, ?_⟩; replace BK280 := KB BK280 hb; replace HB := BS (w := w) hb; (try clear hb); obtain ⟨hcz7003_0, hcz7003_1, hcz7003_2, hfz7003_0, hfz7003_1, hfz7003_2⟩ := cz3 BK280.out; refine bP ?_))
       refine Hide.mk ?_
       replace H := H.out
       replace H := ifB H; rcases H with ⟨rfl, H⟩ | ⟨rfl, H⟩
       ·replace H := be H; obtain ⟨t287, A20, H⟩ := H
        replace H := ah.mk H
        go_wp2_with (first | (go_at_call 157; (with_reducible refine (bU.calls k2 EU EW EX x5_2 t287 _ A20.out).mono ?_); rintro e w7004 ⟨v288, rfl, ho0, hb⟩; have n0_ := ah.mk (Kd.cO ho0 (aQ BL)); replace BK280 := KB BK280 hb; replace HB := BS (w := w) hb; have HO289 := n0_; clear n0_; (try clear hb); (try clear ho0); obtain ⟨Ao7005, co7005, eo7005⟩ := Kd.dH HO289.out; subst eo7005; refine bP ?_))
        refine Hide.mk ?_
        replace H := H.out
        replace H := ifE H; rcases H with ⟨c21b0, c21b1, H⟩ | ⟨c21, c21b0, c21b1, H⟩
        ·obtain rfl := Option.some.inj H
         try go_wp2
         go_ret
         exact ⟨EWW, BL⟩
        ·have c21b2 : ¬ (t287 = []) := fun h_ => c21 (by rw [h_]; rfl)
         have H' := ah.mk H
         clear H
         try go_wp2
         go_roundg k2
         case measure => have := HK1.out; have := HK2.out; omega
         case rel => exact ⟨(wrap64 (x5_2 + 1)), EQ, H', ⟨by have := HK1.out; have := HK2.out; omega⟩, ⟨BK⟩, ⟨BL⟩⟩
       ·have H' := ah.mk H
        clear H
        try go_wp2
        go_roundg k2
        case measure => have := HK1.out; have := HK2.out; omega
        case rel => exact ⟨(wrap64 (x5_2 + 1)), EQ, H', ⟨by have := HK1.out; have := HK2.out; omega⟩, ⟨BK⟩, ⟨BL⟩⟩
      ·obtain rfl := Option.some.inj H
       go_wp2
       go_ret
       exact ⟨EWW, BL⟩
def kL.f (k : Nat) (EU EW : Int) (EX : ByteArray) : Option (Int) := (bI.f k EU EW EX).bind fun t291 => (if t291 = true then ((dN.f k EU EW EX).bind fun t292 => (if t292 = true then ((iM.f k EU EW EX).bind fun t293 => (if t293 = true then ((fu.f k EU EW EX).bind fun t294 => (if t294 = true then (some 4) else ((bB.f k EU EW EX).bind fun t295 => (if t295 = true then (some 5) else (some 0))))) else (some 3))) else (some 2))) else (some 1))
theorem kL.calls (k : Nat) (EU EW : Int) (EX : ByteArray) (r : Int) (w : World) (h : kL.f k EU EW EX = some r) :
  Calls Tryz.prog 47 #[.agg #[.int .i64 EU, .int .i64 EW, .string EX]] w fun e w' => e = .returned (.int .i64 r) ∧ Below w.heap.size w w' := by
 have hu32 := Tryz.underlying32
 have HB := ah.mk (Below.refl w.heap.size w)
 unfold kL.f at h
 have H := h
 clear h
 replace H := be H; obtain ⟨t291, A2, H⟩ := H
 replace H := ah.mk H
 go_enter Tryz.func47, Tryz.ntmps47
 go_wp2_with (first | ((with_reducible refine aN (N := 1) rfl ?_); refine bC (N := 1) (cs := #[.int .i64 EU, .int .i64 EW, .string EX]) (t := 32) ?_; intro gb290 hg w9000 hbox hb; have BK290 := ah.mk hbox; have GW290 := SZ (w := w) hg; have GE290 := GW290; replace HB := BS (w := w) hb; clear hb hbox hg; obtain ⟨hcz9001_0, hcz9001_1, hcz9001_2, hfz9001_0, hfz9001_1, hfz9001_2⟩ := cz3 BK290.out) | ((with_reducible refine ay (f := 96) rfl ?_); refine bq (some 5) Tryz.func96 #[.agg #[.int .i64 EU, .int .i64 EW, .string EX]] ?_; (with_reducible refine (bI.calls k EU EW EX _ _ A2.out).mono ?_); rintro e w9002 ⟨rfl, hb⟩; refine ⟨_, rfl, ?_⟩; replace BK290 := KB BK290 hb; replace HB := BS (w := w) hb; (try clear hb); obtain ⟨hcz9003_0, hcz9003_1, hcz9003_2, hfz9003_0, hfz9003_1, hfz9003_2⟩ := cz3 BK290.out; refine bP ?_))
 refine Hide.mk ?_
 replace H := H.out
 replace H := ifB H; rcases H with ⟨rfl, H⟩ | ⟨rfl, H⟩
 ·replace H := be H; obtain ⟨t292, A4, H⟩ := H
  replace H := ah.mk H
  go_wp2_with (first | ((with_reducible refine ay (f := 97) rfl ?_); refine bq (some 9) Tryz.func97 #[.agg #[.int .i64 EU, .int .i64 EW, .string EX]] ?_; (with_reducible refine (dN.calls k EU EW EX _ _ A4.out).mono ?_); rintro e w9004 ⟨rfl, hb⟩; refine ⟨_, rfl, ?_⟩; replace BK290 := KB BK290 hb; replace HB := BS (w := w) hb; (try clear hb); obtain ⟨hcz9005_0, hcz9005_1, hcz9005_2, hfz9005_0, hfz9005_1, hfz9005_2⟩ := cz3 BK290.out; refine bP ?_))
  refine Hide.mk ?_
  replace H := H.out
  replace H := ifB H; rcases H with ⟨rfl, H⟩ | ⟨rfl, H⟩
  ·replace H := be H; obtain ⟨t293, A6, H⟩ := H
   replace H := ah.mk H
   go_wp2_with (first | ((with_reducible refine ay (f := 98) rfl ?_); refine bq (some 13) Tryz.func98 #[.agg #[.int .i64 EU, .int .i64 EW, .string EX]] ?_; (with_reducible refine (iM.calls k EU EW EX _ _ A6.out).mono ?_); rintro e w9006 ⟨rfl, hb⟩; refine ⟨_, rfl, ?_⟩; replace BK290 := KB BK290 hb; replace HB := BS (w := w) hb; (try clear hb); obtain ⟨hcz9007_0, hcz9007_1, hcz9007_2, hfz9007_0, hfz9007_1, hfz9007_2⟩ := cz3 BK290.out; refine bP ?_))
   refine Hide.mk ?_
   replace H := H.out
   replace H := ifB H; rcases H with ⟨rfl, H⟩ | ⟨rfl, H⟩
   ·replace H := be H; obtain ⟨t294, A8, H⟩ := H
    replace H := ah.mk H
    go_wp2_with (first | ((with_reducible refine ay (f := 99) rfl ?_); refine bq (some 17) Tryz.func99 #[.agg #[.int .i64 EU, .int .i64 EW, .string EX]] ?_; (with_reducible refine (fu.calls k EU EW EX _ _ A8.out).mono ?_); rintro e w9008 ⟨rfl, hb⟩; refine ⟨_, rfl, ?_⟩; replace BK290 := KB BK290 hb; replace HB := BS (w := w) hb; (try clear hb); obtain ⟨hcz9009_0, hcz9009_1, hcz9009_2, hfz9009_0, hfz9009_1, hfz9009_2⟩ := cz3 BK290.out; refine bP ?_))
    refine Hide.mk ?_
    replace H := H.out
    replace H := ifB H; rcases H with ⟨rfl, H⟩ | ⟨rfl, H⟩
    ·obtain rfl := Option.some.inj H
     try go_wp2
     go_ret
     exact ⟨EWW, BL⟩
    ·replace H := be H; obtain ⟨t295, A19, H⟩ := H
     replace H := ah.mk H
     go_wp2_with (first | ((with_reducible refine ay (f := 100) rfl ?_); refine bq (some 20) Tryz.func100 #[.agg #[.int .i64 EU, .int .i64 EW, .string EX]] ?_; (with_reducible refine (bB.calls k EU EW EX _ _ A19.out).mono ?_); rintro e w9010 ⟨rfl, hb⟩; refine ⟨_, rfl, ?_⟩; replace BK290 := KB BK290 hb; replace HB := BS (w := w) hb; (try clear hb); refine bP ?_))
     refine Hide.mk ?_
     replace H := H.out
     replace H := ifB H; rcases H with ⟨rfl, H⟩ | ⟨rfl, H⟩
     ·obtain rfl := Option.some.inj H
      try go_wp2
      go_ret
      exact ⟨EWW, BL⟩
     ·obtain rfl := Option.some.inj H
      try go_wp2
      go_ret
      exact ⟨EWW, BL⟩
   ·obtain rfl := Option.some.inj H
    try go_wp2
    go_ret
    exact ⟨EWW, BL⟩
  ·obtain rfl := Option.some.inj H
   try go_wp2
   go_ret
   exact ⟨EWW, BL⟩
 ·obtain rfl := Option.some.inj H
  try go_wp2
  go_ret
  exact ⟨EWW, BL⟩
def kN.f (k : Nat) (EU EW : Int) (EX a1 : ByteArray) : Option (Bool) := (bK.f k EU EW EX a1).bind fun t297 => (if t297 = true then ((fD.f k a1).bind fun t298 => (some (!t298))) else (some false))
theorem kN.calls (k : Nat) (EU EW : Int) (EX a1 : ByteArray) (r : Bool) (w : World) (h : kN.f k EU EW EX a1 = some r) :
  Calls Tryz.prog 48 #[.agg #[.int .i64 EU, .int .i64 EW, .string EX], .string a1] w fun e w' => e = .returned (.bool r) ∧ Below w.heap.size w w' := by
 have hu32 := Tryz.underlying32
 have HB := ah.mk (Below.refl w.heap.size w)
 unfold kN.f at h
 have H := h
 clear h
 replace H := be H; obtain ⟨t297, A3, H⟩ := H
 replace H := ah.mk H
 go_enter Tryz.func48, Tryz.ntmps48
 go_wp2_with (first | ((with_reducible refine aN (N := 2) rfl ?_); refine bC (N := 2) (cs := #[.int .i64 EU, .int .i64 EW, .string EX]) (t := 32) ?_; intro gb296 hg w9000 hbox hb; have BK296 := ah.mk hbox; have GW296 := SZ (w := w) hg; have GE296 := GW296; replace HB := BS (w := w) hb; clear hb hbox hg; obtain ⟨hcz9001_0, hcz9001_1, hcz9001_2, hfz9001_0, hfz9001_1, hfz9001_2⟩ := cz3 BK296.out) | ((with_reducible refine ay (f := 65) rfl ?_); refine bq (some 7) Tryz.func65 #[.agg #[.int .i64 EU, .int .i64 EW, .string EX], .string a1] ?_; (with_reducible refine (bK.calls k EU EW EX a1 _ _ A3.out).mono ?_); rintro e w9002 ⟨rfl, hb⟩; refine ⟨_, rfl, ?_⟩; replace BK296 := KB BK296 hb; replace HB := BS (w := w) hb; (try clear hb); refine bP ?_))
 refine Hide.mk ?_
 replace H := H.out
 replace H := ifB H; rcases H with ⟨rfl, H⟩ | ⟨rfl, H⟩
 ·replace H := be H; obtain ⟨t298, A5, H⟩ := H
  obtain rfl := Option.some.inj H
  try go_wp2_with (first | (go_at_call 68; (with_reducible refine (fD.calls k a1 t298 _ A5.out).mono ?_); rintro e w' ⟨rfl, ⟨nd, rfl⟩⟩))
  go_ret
  exact ⟨EWW, BL⟩
 ·obtain rfl := Option.some.inj H
  try go_wp2
  go_ret
  exact ⟨EWW, BL⟩
def cu.l0 : Nat → List ByteArray → ByteArray → Int → Option (Bool)
 | 0, _, _, _ => none
 | k + 1, a, b, c => if c < (a.length : Int) then (if 0 ≤ c then (if (dD ByteArray.empty a c).toList = b.toList then (some true) else (cu.l0 k a b (wrap64 (c + 1)))) else (none)) else (some false)
def cu.f (k : Nat) (l0 : List ByteArray) (a1 : ByteArray) : Option (Bool) := cu.l0 k l0 a1 0
theorem cu.calls (k : Nat) (A0 : Option Addr) (c0 : Nat) (l0 : List ByteArray) (a1 : ByteArray) (r : Bool) (w : World) (hr0 : Kd.C Kd.string w A0 l0.length l0) (hc0 : l0.length ≤ c0) (h : cu.f k l0 a1 = some r) :
  Calls Tryz.prog 51 #[.slice A0 l0.length c0, .string a1] w fun e w' => e = .returned (.bool r) ∧ aC w w' := by
 have HR0 := ah.mk hr0
 have HC0 := ah.mk hc0
 clear hr0 hc0
 have H : (cu.l0 k l0 a1 0) = some r := h
 clear h
 have H' := ah.mk H
 clear H
 go_enter Tryz.func51, Tryz.ntmps51
 go_wp2
 go_loopg [5] k (fun kq v5 w' => ∃ (x5_1 : Int), v5 = .int .i64 x5_1 ∧ ah (cu.l0 kq l0 a1 x5_1 = some r) ∧ ah (kq ≤ k) ∧ aC w w')
 case atStart => exact ⟨(0), EQ, H', ⟨Nat.le_refl _⟩, by repeat (first | exact aC.refl _ | apply aC.step)⟩
 case round =>
  clear H'
  obtain ⟨x5_1, rfl, HA, HK1, ⟨m1, rfl⟩⟩ := hrel
  cases gk with
  | zero => exact absurd HA.out (by simp [cu.l0])
  | succ k1 =>
   have H := HA.out
   clear HA
   simp only [cu.l0] at H
   replace H := ifD H; rcases H with ⟨c3b0, H⟩ | ⟨c3b0, H⟩
   ·replace H := ifN H; obtain ⟨c4b0, H⟩ := H
    have p299 : 0 ≤ (x5_1 : Int) := OD
    have q299 : x5_1 < (l0.length : Int) := OD
    obtain ⟨ad299, e299, hx299_0⟩ := Kd.gG HR0.out x5_1 p299 q299
    cases e299
    replace p299 := eq_true p299
    replace q299 := eq_true q299
    replace H := ifE H; rcases H with ⟨c5b0, c5b1, H⟩ | ⟨c5, c5b0, c5b1, H⟩
    ·obtain rfl := Option.some.inj H
     go_wp2
     go_ret
     exact ⟨by first | rfl | (simp; done) | (simp [*]; done), by repeat (first | exact aC.refl _ | apply aC.step)⟩
    ·have H' := ah.mk H
     clear H
     go_wp2
     go_roundg k1
     case measure => have := HK1.out; omega
     case rel => exact ⟨(wrap64 (x5_1 + 1)), EQ, H', ⟨by have := HK1.out; omega⟩, by repeat (first | exact aC.refl _ | apply aC.step)⟩
   ·obtain rfl := Option.some.inj H
    go_wp2
    go_ret
    exact ⟨by first | rfl | (simp; done) | (simp [*]; done), by repeat (first | exact aC.refl _ | apply aC.step)⟩
def dS.l0 : Nat → List ByteArray → Int → Int → Option (Int)
 | 0, _, _, _ => none
 | k + 1, a, b, c => if c < (a.length : Int) then (if 0 ≤ c then (if c ≤ (a.length : Int) then ((cu.f k (a.take (c : Int).toNat) (dD ByteArray.empty a c)).bind fun d => (if d = true then (dS.l0 k a (wrap64 (b + 1)) (wrap64 (c + 1))) else (dS.l0 k a b (wrap64 (c + 1))))) else (none)) else (none)) else (some b)
def dS.f (k : Nat) (l0 : List ByteArray) : Option (Int) := dS.l0 k l0 0 0
theorem dS.calls (k : Nat) (A0 : Option Addr) (c0 : Nat) (l0 : List ByteArray) (r : Int) (w : World) (hr0 : Kd.C Kd.string w A0 l0.length l0) (hc0 : l0.length ≤ c0) (h : dS.f k l0 = some r) :
  Calls Tryz.prog 50 #[.slice A0 l0.length c0] w fun e w' => e = .returned (.int .i64 r) ∧ aC w w' := by
 have HR0 := ah.mk hr0
 have HC0 := ah.mk hc0
 clear hr0 hc0
 have H : (dS.l0 k l0 0 0) = some r := h
 clear h
 have H' := ah.mk H
 clear H
 go_enter Tryz.func50, Tryz.ntmps50
 go_wp2
 repeat (go_quiet (fail); try go_wp2)
 go_loopg [3, 4] k (fun kq v3 v4 w' => ∃ (x3_1 : Int) (x4_1 : Int), v3 = .int .i64 x3_1 ∧ v4 = .int .i64 x4_1 ∧ ah (dS.l0 kq l0 x3_1 x4_1 = some r) ∧ ah (kq ≤ k) ∧ aC w w')
 case atStart => exact ⟨(0), (0), EQ, EQ, H', ⟨Nat.le_refl _⟩, by repeat (first | exact aC.refl _ | apply aC.step)⟩
 case round =>
  clear H'
  obtain ⟨x3_1, x4_1, rfl, rfl, HA, HK1, ⟨m1, rfl⟩⟩ := hrel
  cases gk with
  | zero => exact absurd HA.out (by simp [dS.l0])
  | succ k1 =>
   have H := HA.out
   clear HA
   simp only [dS.l0] at H
   replace H := ifD H; rcases H with ⟨c2b0, H⟩ | ⟨c2b0, H⟩
   ·replace H := ifP H; obtain ⟨c3, H⟩ := H
    have c3b0 := eq_true c3
    have c3b1 : decide (0 ≤ x4_1) = true := decide_eq_true c3
    clear c3
    replace H := ifP H; obtain ⟨c4, H⟩ := H
    have c4b0 := eq_true c4
    have c4b1 : decide (x4_1 ≤ (l0.length : Int)) = true := decide_eq_true c4
    clear c4
    replace H := be H; obtain ⟨t302, A5, H⟩ := H
    replace H := ifB H; rcases H with ⟨rfl, H⟩ | ⟨rfl, H⟩
    ·have H' := ah.mk H
     clear H
     obtain ⟨i07, hi07, _, hsz7, _⟩ := info_parts qX
     obtain ⟨hcut7, hA7, hC7⟩ := qZ (P := Tryz.prog) Value.string (⟨#[]⟩ : ByteArray) 26 9 .i64 Tryz.underlying26 hi07 hsz7 A0 c0 l0 x4_1 (OD) (OD) HC0.out
     have HR300 := ah.mk (Kd.vS (h1 := fun _ => rfl) (hA7 _ (Kd.nC HR0.out)))
     have HC300 := ah.mk hC7
     have hl_ := ah.mk (show (l0.take (x4_1 : Int).toNat).length = (x4_1 : Int).toNat by rw [List.length_take]; have := of_decide_eq_true c4b1; have := of_decide_eq_true c3b1; omega)
     clear hA7 hC7 hi07 hsz7
     have p301 : 0 ≤ (x4_1 : Int) := OD
     have q301 : x4_1 < (l0.length : Int) := OD
     obtain ⟨ad301, e301, hx301_0⟩ := Kd.gG HR0.out x4_1 p301 q301
     cases e301
     replace p301 := eq_true p301
     replace q301 := eq_true q301
     go_wp2_with (first | (go_at_call 51; (try rw [← hl_.out]); (with_reducible refine (cu.calls k1 _ _ (l0.take (x4_1 : Int).toNat) (dD ByteArray.empty l0 x4_1) _ _ ?side1 ?side2 A5.out).mono ?_); (case side1 => repeat (first | exact HR300.out | (with_reducible refine Kd.eG ?_ _) | (with_reducible refine Kd.eH ?_ _) | (with_reducible refine Kd.fP ?_))); (case side2 => exact HC300.out); rintro e w' ⟨rfl, ⟨nd, rfl⟩⟩; (try first | exact ⟨rfl, _, World.drewN_drewN _ _ _⟩ | exact ⟨rfl, _, Eq.trans (World.drewN_drewN _ _ _) (congrArg (World.drewN _) (Nat.add_assoc _ _ _))⟩)))
     repeat (go_quiet (first | (go_at_call 51; (try rw [← hl_.out]); (with_reducible refine (cu.calls k1 _ _ (l0.take (x4_1 : Int).toNat) (dD ByteArray.empty l0 x4_1) _ _ ?side1 ?side2 A5.out).mono ?_); (case side1 => repeat (first | exact HR300.out | (with_reducible refine Kd.eG ?_ _) | (with_reducible refine Kd.eH ?_ _) | (with_reducible refine Kd.fP ?_))); (case side2 => exact HC300.out); rintro e w' ⟨rfl, ⟨nd, rfl⟩⟩; (try first | exact ⟨rfl, _, World.drewN_drewN _ _ _⟩ | exact ⟨rfl, _, Eq.trans (World.drewN_drewN _ _ _) (congrArg (World.drewN _) (Nat.add_assoc _ _ _))⟩))); try go_wp2_with (first | (go_at_call 51; (try rw [← hl_.out]); (with_reducible refine (cu.calls k1 _ _ (l0.take (x4_1 : Int).toNat) (dD ByteArray.empty l0 x4_1) _ _ ?side1 ?side2 A5.out).mono ?_); (case side1 => repeat (first | exact HR300.out | (with_reducible refine Kd.eG ?_ _) | (with_reducible refine Kd.eH ?_ _) | (with_reducible refine Kd.fP ?_))); (case side2 => exact HC300.out); rintro e w' ⟨rfl, ⟨nd, rfl⟩⟩; (try first | exact ⟨rfl, _, World.drewN_drewN _ _ _⟩ | exact ⟨rfl, _, Eq.trans (World.drewN_drewN _ _ _) (congrArg (World.drewN _) (Nat.add_assoc _ _ _))⟩))))
     go_roundg k1
     case measure => have := HK1.out; omega
     case rel => exact ⟨(wrap64 (x3_1 + 1)), (wrap64 (x4_1 + 1)), EQ, EQ, H', ⟨by have := HK1.out; omega⟩, by repeat (first | exact aC.refl _ | apply aC.step)⟩
    ·have H' := ah.mk H
     clear H
     obtain ⟨i08, hi08, _, hsz8, _⟩ := info_parts qX
     obtain ⟨hcut8, hA8, hC8⟩ := qZ (P := Tryz.prog) Value.string (⟨#[]⟩ : ByteArray) 26 9 .i64 Tryz.underlying26 hi08 hsz8 A0 c0 l0 x4_1 (OD) (OD) HC0.out
     have HR300 := ah.mk (Kd.vS (h1 := fun _ => rfl) (hA8 _ (Kd.nC HR0.out)))
     have HC300 := ah.mk hC8
     have hl_ := ah.mk (show (l0.take (x4_1 : Int).toNat).length = (x4_1 : Int).toNat by rw [List.length_take]; have := of_decide_eq_true c4b1; have := of_decide_eq_true c3b1; omega)
     clear hA8 hC8 hi08 hsz8
     have p301 : 0 ≤ (x4_1 : Int) := OD
     have q301 : x4_1 < (l0.length : Int) := OD
     obtain ⟨ad301, e301, hx301_0⟩ := Kd.gG HR0.out x4_1 p301 q301
     cases e301
     replace p301 := eq_true p301
     replace q301 := eq_true q301
     go_wp2_with (first | (go_at_call 51; (try rw [← hl_.out]); (with_reducible refine (cu.calls k1 _ _ (l0.take (x4_1 : Int).toNat) (dD ByteArray.empty l0 x4_1) _ _ ?side1 ?side2 A5.out).mono ?_); (case side1 => repeat (first | exact HR300.out | (with_reducible refine Kd.eG ?_ _) | (with_reducible refine Kd.eH ?_ _) | (with_reducible refine Kd.fP ?_))); (case side2 => exact HC300.out); rintro e w' ⟨rfl, ⟨nd, rfl⟩⟩; (try first | exact ⟨rfl, _, World.drewN_drewN _ _ _⟩ | exact ⟨rfl, _, Eq.trans (World.drewN_drewN _ _ _) (congrArg (World.drewN _) (Nat.add_assoc _ _ _))⟩)))
     repeat (go_quiet (first | (go_at_call 51; (try rw [← hl_.out]); (with_reducible refine (cu.calls k1 _ _ (l0.take (x4_1 : Int).toNat) (dD ByteArray.empty l0 x4_1) _ _ ?side1 ?side2 A5.out).mono ?_); (case side1 => repeat (first | exact HR300.out | (with_reducible refine Kd.eG ?_ _) | (with_reducible refine Kd.eH ?_ _) | (with_reducible refine Kd.fP ?_))); (case side2 => exact HC300.out); rintro e w' ⟨rfl, ⟨nd, rfl⟩⟩; (try first | exact ⟨rfl, _, World.drewN_drewN _ _ _⟩ | exact ⟨rfl, _, Eq.trans (World.drewN_drewN _ _ _) (congrArg (World.drewN _) (Nat.add_assoc _ _ _))⟩))); try go_wp2_with (first | (go_at_call 51; (try rw [← hl_.out]); (with_reducible refine (cu.calls k1 _ _ (l0.take (x4_1 : Int).toNat) (dD ByteArray.empty l0 x4_1) _ _ ?side1 ?side2 A5.out).mono ?_); (case side1 => repeat (first | exact HR300.out | (with_reducible refine Kd.eG ?_ _) | (with_reducible refine Kd.eH ?_ _) | (with_reducible refine Kd.fP ?_))); (case side2 => exact HC300.out); rintro e w' ⟨rfl, ⟨nd, rfl⟩⟩; (try first | exact ⟨rfl, _, World.drewN_drewN _ _ _⟩ | exact ⟨rfl, _, Eq.trans (World.drewN_drewN _ _ _) (congrArg (World.drewN _) (Nat.add_assoc _ _ _))⟩))))
     go_roundg k1
     case measure => have := HK1.out; omega
     case rel => exact ⟨(x3_1), (wrap64 (x4_1 + 1)), EQ, EQ, H', ⟨by have := HK1.out; omega⟩, by repeat (first | exact aC.refl _ | apply aC.step)⟩
   ·obtain rfl := Option.some.inj H
    go_wp2
    repeat (go_quiet (fail); try go_wp2)
    go_ret
    exact ⟨by first | rfl | (simp; done) | (simp [*]; done), by repeat (first | exact aC.refl _ | apply aC.step)⟩
end Go.Proofs.YtnfiedfaaaphoaaGreat.PFnExactPuzzleCode
