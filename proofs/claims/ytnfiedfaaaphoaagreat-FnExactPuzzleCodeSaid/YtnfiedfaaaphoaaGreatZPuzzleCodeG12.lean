/- Walks of functions: what each computes. -/
import Derived.Test.YtnfiedfaaaphoaaGreatZPuzzleCodeG0
import Derived.Test.YtnfiedfaaaphoaaGreatZPuzzleCodeG10
import Derived.Test.YtnfiedfaaaphoaaGreatZPuzzleCodeG11
import Derived.Test.YtnfiedfaaaphoaaGreatZPuzzleCodeW
import Derived.Test.YtnfiedfaaaphoaaGreatZPuzzleCodeShelf
import Derived.Test.YtnfiedfaaaphoaaGreatZPuzzleCodeHandSort
import Derived.Test.YtnfiedfaaaphoaaGreatZPuzzleCodeHandForm
import Derived.Test.YtnfiedfaaaphoaaGreatZPuzzleCodeHandAlone
import Derived.Test.YtnfiedfaaaphoaaGreatZPuzzleCodeHandReach
import Derived.Test.YtnfiedfaaaphoaaGreatZPuzzleCodeHandPut
namespace Go.Proofs.YtnfiedfaaaphoaaGreat.PFnExactPuzzleCode
open Go.RowKit Go.Proofs.YtnfiedfaaaphoaaGreatW.PrintWords Go.Proofs.YtnfiedfaaaphoaaGreatW.PrintLast Go.Proofs.YtnfiedfaaaphoaaGreatW.PrintMore Go.Proofs.YtnfiedfaaaphoaaGreat.Sq
attribute [local go_sem] iH iJ jD jC gV gU iK iG
set_option maxHeartbeats 8000000
set_option maxRecDepth 100000
set_option linter.unusedVariables false
set_option linter.unusedSimpArgs false
attribute [local go_sem high] Dm
def fA.l0 : Nat → ByteArray → List ByteArray → List (List Int) → Int → Int → Option (List ByteArray)
 | 0, _, _, _, _, _ => none
 | k + 1, a, b, c, d, e => if e < d then (if 0 ≤ e then (if e < (c.length : Int) then ((dZ.f k a (jg c e)).bind fun f => (if b.length < 8796093022208 then (fA.l0 k a (b ++ [f]) c d (wrap64 (e + 1))) else (none))) else (none)) else (none)) else (some b)
def fA.f (k : Nat) (EU EW : Int) (EX a1 : ByteArray) : Option (List ByteArray) := (bY.f k EU EW EX a1).bind fun t491 => (if t491 = true then ((eD.f k EU EW EX).bind fun t492 => (fA.l0 k a1 ([] : List ByteArray) t492 (t492.length : Int) 0)) else (some ([] : List ByteArray)))
theorem fA.calls (k : Nat) (EU EW : Int) (EX a1 : ByteArray) (r : List ByteArray) (w : World) (h : fA.f k EU EW EX a1 = some r) :
  Calls Tryz.prog 72 #[.agg #[.int .i64 EU, .int .i64 EW, .string EX], .string a1] w fun e w' => ∃ v0_ : Value, e = .returned (v0_) ∧ Kd.R Kd.string 9 w' w.heap.size (fun _ => True) v0_ r ∧ Below w.heap.size w w' := by
 have hu32 := Tryz.underlying32
 have HB := ah.mk (Below.refl w.heap.size w)
 unfold fA.f at h
 have H := h
 clear h
 replace H := be H; obtain ⟨t491, A3, H⟩ := H
 replace H := ah.mk H
 go_enter Tryz.func72, Tryz.ntmps72
 go_wp2_with (first | ((with_reducible refine aN (N := 2) rfl ?_); refine bC (N := 2) (cs := #[.int .i64 EU, .int .i64 EW, .string EX]) (t := 32) ?_; intro gb490 hg w9000 hbox hb; have BK490 := ah.mk hbox; have GW490 := SZ (w := w) hg; have GE490 := GW490; replace HB := BS (w := w) hb; clear hb hbox hg; obtain ⟨hcz9001_0, hcz9001_1, hcz9001_2, hfz9001_0, hfz9001_1, hfz9001_2⟩ := cz3 BK490.out) | ((with_reducible refine ay (f := 81) rfl ?_); refine bq (some 10) Tryz.func81 #[.agg #[.int .i64 EU, .int .i64 EW, .string EX], .string a1] ?_; (with_reducible refine (bY.calls k EU EW EX a1 _ _ A3.out).mono ?_); rintro e w9002 ⟨rfl, hb⟩; refine ⟨_, rfl, ?_⟩; replace BK490 := KB BK490 hb; replace HB := BS (w := w) hb; (try clear hb); obtain ⟨hcz9003_0, hcz9003_1, hcz9003_2, hfz9003_0, hfz9003_1, hfz9003_2⟩ := cz3 BK490.out; refine bP ?_))
 refine Hide.mk ?_
 replace H := H.out
 replace H := ifB H; rcases H with ⟨rfl, H⟩ | ⟨rfl, H⟩
 ·replace H := be H; obtain ⟨t492, A5, H⟩ := H
  have H' := ah.mk H
  clear H
  try go_wp2_with (first | ((with_reducible refine ay (f := 82) rfl ?_); refine bq (some 13) Tryz.func82 #[.agg #[.int .i64 EU, .int .i64 EW, .string EX]] ?_; (with_reducible refine (eD.calls k EU EW EX t492 _ A5.out).mono ?_); rintro e w9004 ⟨v493, rfl, ho0, hb⟩; refine ⟨_, rfl, ?_⟩; have n0_ := ah.mk (Kd.oG ho0 (aQ BL)); replace BK490 := KB BK490 hb; replace HB := BS (w := w) hb; have HO494 := n0_; clear n0_; (try clear hb); (try clear ho0); obtain ⟨Ao9005, co9005, eo9005⟩ := Kd.qA HO494.out; subst eo9005))
  go_loopg [5, 15] k (fun kq v5 v15 w' => ∃ (x5_1 : List ByteArray) (x15_1 : Int), v15 = .int .i64 x15_1 ∧ ah (fA.l0 kq a1 x5_1 t492 (t492.length : Int) x15_1 = some r) ∧ ah (kq ≤ k) ∧ ah (Kd.R Kd.string 9 w' w.heap.size (fun _ => True) v5 x5_1) ∧ ah (Kd.S (Kd.slice 3 (Kd.int .i64)) 43 w' w.heap.size (fun _ => True) (.slice Ao9005 t492.length co9005) t492) ∧ ah (w'.heap[gb490]? = some (.cells #[.int .i64 EU, .int .i64 EW, .string EX] 32 (0, 0))) ∧ ah (Below w.heap.size w w'))
  case atStart => exact ⟨(([] : List ByteArray)), (0), EQ, H', ⟨Nat.le_refl _⟩, ⟨by first | exact Kd.ni _ _ _ _ _ | exact Kd.pK _ _ _ _ _ | exact Kd.pY _ _ _ _ _ | exact Kd.pV _ _ _ _ _ | exact Kd.pI _ _ _ _ _⟩, ⟨(SR HO494)⟩, ⟨BK⟩, ⟨BL⟩⟩
  case round =>
   clear H'
   try clear c4
   try clear hcz9001_0
   try clear hcz9001_1
   try clear hcz9001_2
   try clear hcz9003_0
   try clear hcz9003_1
   try clear hcz9003_2
   try clear hfz9001_0
   try clear hfz9001_1
   try clear hfz9001_2
   try clear hfz9003_0
   try clear hfz9003_1
   try clear hfz9003_2
   obtain ⟨x5_1, x15_1, rfl, HA, HK1, HO_5, HO_13, BK490, HB⟩ := hrel
   cases gk with
   | zero => exact absurd HA.out (by simp [fA.l0])
   | succ k1 =>
    have H := HA.out
    clear HA
    simp only [fA.l0] at H
    replace H := ifD H; rcases H with ⟨c12b0, H⟩ | ⟨c12b0, H⟩
    ·replace H := ifN H; obtain ⟨c13b0, H⟩ := H
     replace H := ifN H; obtain ⟨c14b0, H⟩ := H
     replace H := be H; obtain ⟨t496, A15, H⟩ := H
     replace H := ifP H; obtain ⟨c16, H⟩ := H
     have LMc16 := ah.mk c16
     clear c16
     obtain ⟨y497, hy497⟩ : ∃ y_ : List ByteArray, y_ = (x5_1 ++ [t496]) := ⟨_, rfl⟩
     replace H : (fA.l0 k1 a1 y497 t492 (t492.length : Int) (wrap64 (x15_1 + 1))) = some r := by first | (rw [hy497]; with_reducible exact H) | (have H2_ := (Option.bind_some _ _).symm.trans H; rw [hy497]; with_reducible exact H2_) | (have H2_ := (Option.bind_some _ _).symm.trans H; with_reducible exact H2_) | with_reducible exact H | (rw [hy497]; exact H) | exact H
     have Ny497 := ah.mk hy497
     clear hy497
     have H' := ah.mk H
     clear H
     have p495 : 0 ≤ (x15_1 : Int) := OD
     have q495 : x15_1 < (t492.length : Int) := OD
     obtain ⟨ad495, A495_0, c495_0, e495, hx495_0, hl495_0, hi495_0⟩ := zI (Kd.iX HO_13.out).2.2 x15_1 p495 q495
     cases e495
     obtain ⟨ce495, hce495, hMe495, hcc495⟩ := Kd.zX HO_13.out [] x15_1 p495 (by first | exact q495 | exact OD | (have e_ := (Kd.iX HO_13.out).1; omega))
     obtain ⟨ve495_0, rfl, ge495_0⟩ := hMe495
     have hv495_0 := hcc495 0 _ rfl
     rw [Nat.add_zero, show ((Kd.slice 3 (Kd.int .i64))).sz = 1 from rfl, Nat.mul_one] at hv495_0
     replace hv495_0 := Option.some.inj (hv495_0.symm.trans hx495_0)
     rw [hv495_0] at ge495_0
     have HL495_0 := ah.mk (show Kd.R (Kd.int .i64) 3 _ _ _ _ (jg t492 x15_1) from ge495_0)
     clear hv495_0 ge495_0
     clear hcc495 hce495
     have HR495_0 := ah.mk hi495_0
     have HC495_0 := ah.mk hl495_0
     clear hi495_0 hl495_0
     replace p495 := eq_true p495
     replace q495 := eq_true q495
     go_wp2_with (first | ((with_reducible refine ay (f := 129) rfl ?_); refine bq (some 22) Tryz.func129 #[.string a1, .slice A495_0 (jg t492 x15_1).length c495_0] ?_; (with_reducible refine (dZ.calls k1 a1 _ _ (jg t492 x15_1) t496 _ ?side1 ?side2 A15.out).mono ?_); (case side1 => repeat (first | exact (by repeat (first | (with_reducible exact HR495_0.out) | (with_reducible refine Kd.eG ?_ _) | (with_reducible refine Kd.eH ?_ _) | (with_reducible refine Kd.fP ?_) | exact HR495_0.out)) | (with_reducible refine Kd.eG ?_ _) | (with_reducible refine Kd.eH ?_ _) | (with_reducible refine Kd.fP ?_))); (case side2 => exact HC495_0.out); rintro e w9006 ⟨rfl, hb⟩; refine ⟨_, rfl, ?_⟩; have n0_ := RB HO_5 hb; have n1_ := ah.mk (Kd.gH (SR HO_13) hb); have n2_ := ah.mk (Kd.lW (by (with_reducible repeat (first | apply Kd.gy | apply Kd.gu | apply Kd.fM)); exact HL495_0.out) hb); have n3_ := KB BK490 hb; have n4_ := ah.mk (Kd.gP (by repeat (first | (with_reducible exact HR495_0.out) | (with_reducible refine Kd.eG ?_ _) | (with_reducible refine Kd.eH ?_ _) | (with_reducible refine Kd.fP ?_) | exact HR495_0.out)) hb); have n5_ := BS (w := w) hb; clear HO_5 HO_13 HL495_0 BK490 HR495_0 HB; have HO_5 := n0_; have HO_13 := n1_; have HL495_0 := n2_; have BK490 := n3_; have HR495_0 := n4_; have HB := n5_; clear n0_ n1_ n2_ n3_ n4_ n5_; (try clear hb)) | ((with_reducible refine dn (b := .append) (xs := #[.tmp 19, .tmp 23]) rfl ?_); at_builtin; refine Kd.fT Kd.string (w0 := w) w.heap.size rfl (.tmp 19) (.tmp 23) 26 9 (.string ⟨#[]⟩) 16 rfl Tryz.underlying26 qX rfl (by decide) (by omega) u5 x5_1 t496 [.string t496] (fun _ => True) (fun _ => False) rfl rfl ?aP (fun _ hk => hk.elim) ?aF ?aO ?aB ?aS ?aL ?_; (case aP => exact rfl); (case aB => exact BL); (case aF => exact (fun _ _ => trivial)); (case aO => exact (RR HO_5)); (case aS => exact (aQ BL)); (case aL => have := LMc16.out; omega); intro v498 w9007 ho hb hg hat; rw [← Ny497.out] at ho; have n0_ := ah.mk (Kd.Dc (SR HO_13) (Kd.lX (RR HO_5)) (by decide) hg); have n1_ := ah.mk (dK (g := gb490) (o := .cells #[.int .i64 EU, .int .i64 EW, .string EX] 32 (0, 0)) BK hg (Kd.lq HO_5.out BK490.out (by decide))); have n2_ := ah.mk (Kd.lU (by (with_reducible repeat (first | apply Kd.gy | apply Kd.gu | apply Kd.fM)); exact HL495_0.out) (Kd.lX (RR HO_5)) (by decide) hg); have n3_ := ah.mk (hb); have n4_ := ah.mk (ho); clear HO_13 BK490 HL495_0 HB HO_5; have HO_13 := n0_; have BK490 := n1_; have HL495_0 := n2_; have HB := n3_; have HO499 := n4_; clear n0_ n1_ n2_ n3_ n4_; clear ho hb hg hat))
     go_roundg k1
     case measure => have := HK1.out; omega
     case rel => exact ⟨(y497), (wrap64 (x15_1 + 1)), EQ, H', ⟨by have := HK1.out; omega⟩, ⟨(RR HO499)⟩, ⟨(SR HO_13)⟩, ⟨BK⟩, ⟨BL⟩⟩
    ·obtain rfl := Option.some.inj H
     go_wp2
     go_ret
     exact ⟨_, EWW, (RR HO_5), BL⟩
 ·obtain rfl := Option.some.inj H
  try go_wp2
  go_ret
  exact ⟨_, EWW, by first | exact Kd.ni _ _ _ _ _ | exact Kd.pK _ _ _ _ _ | exact Kd.pY _ _ _ _ _ | exact Kd.pV _ _ _ _ _ | exact Kd.pI _ _ _ _ _, BL⟩
def fE.l0 : Nat → ByteArray → Int → Int → Int → Option (Int)
 | 0, _, _, _, _ => none
 | k + 1, a, b, c, d => if d < c then (if 0 ≤ d then (if d < (a.size : Int) then (if (bt a d) = 63 then (fE.l0 k a (wrap64 (b + 1)) c (wrap64 (d + 1))) else (fE.l0 k a b c (wrap64 (d + 1)))) else (none)) else (none)) else (some b)
def fE.f (k : Nat) (a0 : ByteArray) : Option (Int) := fE.l0 k a0 0 (a0.size : Int) 0
theorem fE.calls (k : Nat) (a0 : ByteArray) (r : Int) (w : World) (h : fE.f k a0 = some r) :
  Calls Tryz.prog 73 #[.string a0] w fun e w' => e = .returned (.int .i64 r) ∧ aC w w' := by
 unfold fE.f at h
 have H := h
 clear h
 have H' := ah.mk H
 clear H
 go_enter Tryz.func73, Tryz.ntmps73
 go_wp2
 go_loopg [3, 7] k (fun kq v3 v7 w' => ∃ (x3_1 : Int) (x7_1 : Int), v3 = .int .i64 x3_1 ∧ v7 = .int .i64 x7_1 ∧ ah (fE.l0 kq a0 x3_1 (a0.size : Int) x7_1 = some r) ∧ ah (kq ≤ k) ∧ aC w w')
 case atStart => exact ⟨(0), (0), EQ, EQ, H', ⟨Nat.le_refl _⟩, by repeat (first | exact aC.refl _ | apply aC.step)⟩
 case round =>
  clear H'
  obtain ⟨x3_1, x7_1, rfl, rfl, HA, HK1, ⟨m1, rfl⟩⟩ := hrel
  cases gk with
  | zero => exact absurd HA.out (by simp [fE.l0])
  | succ k1 =>
   have H := HA.out
   clear HA
   simp only [fE.l0] at H
   replace H := ifD H; rcases H with ⟨c2b0, H⟩ | ⟨c2b0, H⟩
   ·replace H := ifN H; obtain ⟨c3b0, H⟩ := H
    replace H := ifN H; obtain ⟨c4b0, H⟩ := H
    have p5 : (0 ≤ (x7_1 : Int)) = True := OT
    have q5 : (x7_1 < (a0.size : Int)) = True := OT
    have hx5 := gI a0 x7_1
    replace H := ifE H; rcases H with ⟨c6b0, c6b1, H⟩ | ⟨c6, c6b0, c6b1, H⟩
    ·have H' := ah.mk H
     clear H
     go_wp2
     go_roundg k1
     case measure => have := HK1.out; omega
     case rel => exact ⟨(wrap64 (x3_1 + 1)), (wrap64 (x7_1 + 1)), EQ, EQ, H', ⟨by have := HK1.out; omega⟩, by repeat (first | exact aC.refl _ | apply aC.step)⟩
    ·have H' := ah.mk H
     clear H
     go_wp2
     go_roundg k1
     case measure => have := HK1.out; omega
     case rel => exact ⟨(x3_1), (wrap64 (x7_1 + 1)), EQ, EQ, H', ⟨by have := HK1.out; omega⟩, by repeat (first | exact aC.refl _ | apply aC.step)⟩
   ·obtain rfl := Option.some.inj H
    go_wp2
    go_ret
    exact ⟨by first | rfl | (simp; done) | (simp [*]; done), by repeat (first | exact aC.refl _ | apply aC.step)⟩
def fU.l0 : Nat → (Nat → ByteArray → Option Bool) → List ByteArray → List ByteArray → Int → Int → Option (List ByteArray)
 | 0, _, _, _, _, _ => none
 | k + 1, a, b, c, d, e => if e < d then (if 0 ≤ e then (if e < (c.length : Int) then ((a k (dD ByteArray.empty c e)).bind fun f => (if f = true then (if b.length < 8796093022208 then (fU.l0 k a (b ++ [dD ByteArray.empty c e]) c d (wrap64 (e + 1))) else (none)) else (fU.l0 k a b c d (wrap64 (e + 1))))) else (none)) else (none)) else (some b)
def fU.f (k : Nat) (l0 : List ByteArray) (a1 : (Nat → ByteArray → Option Bool)) : Option (List ByteArray) := fU.l0 k a1 ([] : List ByteArray) l0 (l0.length : Int) 0
theorem fU.calls (k : Nat) (A0 : Option Addr) (c0 : Nat) (l0 : List ByteArray) (a1 : (Nat → ByteArray → Option Bool)) (r : List ByteArray) (w : World) (hr0 : Kd.C Kd.string w A0 l0.length l0) (hc0 : l0.length ≤ c0) (h : fU.f k l0 a1 = some r) (g : FuncId) (lb : Array Value) (eg : ∀ args w, (callFunc g args).run Tryz.prog w = .ok (.enter g args) w) (hp : ∀ (j : Nat) (s : ByteArray) (b : Bool) (W : World), Below w.heap.size w W → a1 j s = some b → Calls Tryz.prog g (#[.string s] ++ lb) W fun e w' => e = .returned (.bool b) ∧ Below W.heap.size W w') :
  Calls Tryz.prog 108 #[.slice A0 l0.length c0, .func (.func g) #[] lb] w fun e w' => ∃ v0_ : Value, e = .returned (v0_) ∧ Kd.R Kd.string 9 w' w.heap.size (fun _ => True) v0_ r ∧ Below w.heap.size w w' := by
 have HR0 := ah.mk hr0
 have HC0 := ah.mk hc0
 clear hr0 hc0
 have HB := ah.mk (Below.refl w.heap.size w)
 have HPP := ah.mk hp
 clear hp
 unfold fU.f at h
 have H := h
 clear h
 have H' := ah.mk H
 clear H
 go_enter Tryz.func108, Tryz.ntmps108
 go_wp2
 go_loopg [5, 10] k (fun kq v5 v10 w' => ∃ (x5_1 : List ByteArray) (x10_1 : Int), v10 = .int .i64 x10_1 ∧ ah (fU.l0 kq a1 x5_1 l0 (l0.length : Int) x10_1 = some r) ∧ ah (kq ≤ k) ∧ ah (Kd.R Kd.string 9 w' w.heap.size (fun _ => True) v5 x5_1) ∧ ah (Below w.heap.size w w'))
 case atStart => exact ⟨(([] : List ByteArray)), (0), EQ, H', ⟨Nat.le_refl _⟩, ⟨by first | exact Kd.ni _ _ _ _ _ | exact Kd.pK _ _ _ _ _ | exact Kd.pY _ _ _ _ _ | exact Kd.pV _ _ _ _ _ | exact Kd.pI _ _ _ _ _⟩, ⟨BL⟩⟩
 case round =>
  clear H'
  obtain ⟨x5_1, x10_1, rfl, HA, HK1, HO_5, HB⟩ := hrel
  cases gk with
  | zero => exact absurd HA.out (by simp [fU.l0])
  | succ k1 =>
   have H := HA.out
   clear HA
   simp only [fU.l0] at H
   replace H := ifD H; rcases H with ⟨c3b0, H⟩ | ⟨c3b0, H⟩
   ·replace H := ifN H; obtain ⟨c4b0, H⟩ := H
    replace H := ifN H; obtain ⟨c5b0, H⟩ := H
    replace H := be H; obtain ⟨t501, A6, H⟩ := H
    have p500 : 0 ≤ (x10_1 : Int) := OD
    have q500 : x10_1 < (l0.length : Int) := OD
    obtain ⟨ad500, e500, hx500_0⟩ := Kd.gG HR0.out x10_1 p500 q500
    cases e500
    try replace hx500_0 := (HB.out.cell (World.block_lt_of_cell? w _ hx500_0)).trans hx500_0
    replace p500 := eq_true p500
    replace q500 := eq_true q500
    replace H := ifB H; rcases H with ⟨rfl, H⟩ | ⟨rfl, H⟩
    ·replace H := ifP H; obtain ⟨c8, H⟩ := H
     have LMc8 := ah.mk c8
     clear c8
     obtain ⟨y502, hy502⟩ : ∃ y_ : List ByteArray, y_ = (x5_1 ++ [dD ByteArray.empty l0 x10_1]) := ⟨_, rfl⟩
     replace H : (fU.l0 k1 a1 y502 l0 (l0.length : Int) (wrap64 (x10_1 + 1))) = some r := by first | (rw [hy502]; with_reducible exact H) | (have H2_ := (Option.bind_some _ _).symm.trans H; rw [hy502]; with_reducible exact H2_) | (have H2_ := (Option.bind_some _ _).symm.trans H; with_reducible exact H2_) | with_reducible exact H | (rw [hy502]; exact H) | exact H
     have Ny502 := ah.mk hy502
     clear hy502
     have H' := ah.mk H
     clear H
     go_wp2_with (first | (refine (HPP.out k1 (dD ByteArray.empty l0 x10_1) true _ BL A6.out).mono ?_; rintro e w7000 ⟨rfl, hb⟩; replace HO_5 := RB HO_5 hb; replace HB := BS (w := w) hb; (try clear hb)) | ((with_reducible refine dn (b := .append) (xs := #[.tmp 17, .tmp 19]) rfl ?_); at_builtin; refine Kd.fT Kd.string (w0 := w) w.heap.size rfl (.tmp 17) (.tmp 19) 26 9 (.string ⟨#[]⟩) 16 rfl Tryz.underlying26 qX rfl (by decide) (by omega) u5 x5_1 (dD ByteArray.empty l0 x10_1) [.string (dD ByteArray.empty l0 x10_1)] (fun _ => True) (fun _ => False) rfl rfl ?aP (fun _ hk => hk.elim) ?aF ?aO ?aB ?aS ?aL ?_; (case aP => exact rfl); (case aB => exact BL); (case aF => exact (fun _ _ => trivial)); (case aO => exact (RR HO_5)); (case aS => exact (aQ BL)); (case aL => have := LMc8.out; omega); intro v503 w7001 ho hb hg hat; rw [← Ny502.out] at ho; have n0_ := ah.mk (hb); have n1_ := ah.mk (ho); clear HB HO_5; have HB := n0_; have HO504 := n1_; clear n0_ n1_; clear ho hb hg hat))
     go_roundg k1
     case measure => have := HK1.out; omega
     case rel => exact ⟨(y502), (wrap64 (x10_1 + 1)), EQ, H', ⟨by have := HK1.out; omega⟩, ⟨(RR HO504)⟩, ⟨BL⟩⟩
    ·have H' := ah.mk H
     clear H
     go_wp2_with (first | (refine (HPP.out k1 (dD ByteArray.empty l0 x10_1) false _ BL A6.out).mono ?_; rintro e w7000 ⟨rfl, hb⟩; replace HO_5 := RB HO_5 hb; replace HB := BS (w := w) hb; (try clear hb); (try clear hb2); (try clear hk); (try clear hi)))
     go_roundg k1
     case measure => have := HK1.out; omega
     case rel => exact ⟨(x5_1), (wrap64 (x10_1 + 1)), EQ, H', ⟨by have := HK1.out; omega⟩, ⟨(RR HO_5)⟩, ⟨BL⟩⟩
   ·obtain rfl := Option.some.inj H
    go_wp2
    go_ret
    exact ⟨_, EWW, (RR HO_5), BL⟩
def iT.f (k : Nat) (a0 : ByteArray) : Option (Bool) := (fE.f k a0).bind fun t505 => (some (t505 == 0))
theorem iT.calls (k : Nat) (a0 : ByteArray) (r : Bool) (w : World) (h : iT.f k a0 = some r) :
  Calls Tryz.prog 109 #[.string a0] w fun e w' => e = .returned (.bool r) ∧ aC w w' := by
 unfold iT.f at h
 have H := h
 clear h
 replace H := be H; obtain ⟨t505, A2, H⟩ := H
 obtain rfl := Option.some.inj H
 go_enter Tryz.func109, Tryz.ntmps109
 go_wp2_with (first | ((with_reducible refine ay (f := 73) rfl ?_); refine bq (some 4) Tryz.func73 #[.string a0] ?_; (with_reducible refine (fE.calls k a0 t505 _ A2.out).mono ?_); rintro e w' ⟨rfl, ⟨nd, rfl⟩⟩; refine ⟨_, rfl, ?_⟩))
 go_ret
 exact ⟨by first | rfl | (simp; done) | (simp [*]; done), by repeat (first | exact aC.refl _ | apply aC.step)⟩
def kS.f (k : Nat) (EU EW : Int) (EX a1 : ByteArray) : Option (List ByteArray) := (fA.f k EU EW EX a1).bind fun t => fU.f k t (fun j s => iT.f j s)
theorem kS.calls (k : Nat) (EU EW : Int) (EX a1 : ByteArray) (r : List ByteArray) (w : World) (h : kS.f k EU EW EX a1 = some r) :
  Calls Tryz.prog 55 #[.agg #[.int .i64 EU, .int .i64 EW, .string EX], .string a1] w fun e w' => ∃ v0_ : Value, e = .returned (v0_) ∧ Kd.R Kd.string 9 w' w.heap.size (fun _ => True) v0_ r ∧ Below w.heap.size w w' := by
 obtain ⟨t, h1, h2⟩ := Option.bind_eq_some_iff.mp h
 have H1 := ah.mk h1
 have H2 := ah.mk h2
 have HB := ah.mk (Below.refl w.heap.size w)
 clear h h1 h2
 have huG := Tryz.underlying32
 go_enter Tryz.func55, Tryz.ntmps55
 go_wp2_with (first | ((with_reducible refine aN (N := 2) rfl ?_); refine bC (N := 2) (cs := #[.int .i64 EU, .int .i64 EW, .string EX]) (t := 32) ?_; intro gb2 hg w2 hbox hb; have n1_ := ah.mk (hbox); replace HB := BS (w := w) hb; have BK2 := n1_; clear n1_; clear hb hbox hg; obtain ⟨hcz2_0, hfz2_0⟩ := cz1 BK2.out; have hcz2_1 : w2.cell? ⟨gb2, 1, none⟩ = some (.int .i64 EW) := (av BK2.out 1).trans rfl; have hfz2_1 := eX BK2.out 1; have hcz2_2 : w2.cell? ⟨gb2, 2, none⟩ = some (.string EX) := (av BK2.out 2).trans rfl; have hfz2_2 := eX BK2.out 2) | ((with_reducible refine ay (f := 72) rfl ?_); refine oJ _ rfl rfl Tryz.func72 (by kernel_rfl) rfl #[.agg #[.int .i64 EU, .int .i64 EW, .string EX], .string a1] rfl (by (try simp only [List.map_toArray, List.map_cons, List.map_nil]); first | done | rfl | (simp only [List.length_drop, List.length_take]; rfl)) ?_; refine (fA.calls k EU EW EX a1 t _ H1.out).mono ?_; rintro e w_ ⟨v_, rfl, ho0, hb⟩; refine ⟨_, rfl, ?_⟩; have n0_ := ah.mk (Kd.cO ho0 (aQ BL)); replace HB := BS (w := w) hb; have HO1 := n0_; clear n0_ hb ho0; obtain ⟨Ao, co, eo⟩ := Kd.dH HO1.out; subst eo) | ((with_reducible refine ay (f := 108) rfl ?_); refine oJ _ rfl rfl Tryz.func108 (by kernel_rfl) rfl #[.slice Ao t.length co, .func (.func 109) #[] #[]] rfl (by (try simp only [List.map_toArray, List.map_cons, List.map_nil]); first | done | rfl | (simp only [List.length_drop, List.length_take]; rfl)) ?_; refine (fU.calls k _ _ t (fun j s => iT.f j s) r _ ((Kd.bN (RR HO1)).2.2) ((Kd.bN HO1.out).2.1) H2.out 109 #[] (fun args w => qy Tryz.func109 (by kernel_rfl) rfl args w) (fun j s b W hb_ h_ => by first | exact iT.calls j s b W h_ | exact (iT.calls j s b W h_).mono (fun e w' hq => ⟨hq.1, hq.2.below⟩))).mono ?_; rintro e w_ ⟨v_, rfl, ho0, hb⟩; refine ⟨_, rfl, ?_⟩; have n0_ := ah.mk (Kd.cO ho0 (aQ BL)); replace HB := BS (w := w) hb; have HO2 := n0_; clear n0_ hb ho0))
 go_ret
 exact ⟨_, rfl, (RR HO2), BL⟩
def gJ.f (a0 : ByteArray) : Option (ByteArray) := if a0.size ≤ 100 then (some (strOfNums (bytesOf a0).reverse)) else (none)
theorem gJ.calls (a0 r : ByteArray) (w : World) (h : gJ.f a0 = some r) :
  Calls Tryz.prog 200 #[.string a0] w fun e w' => e = .returned (.string r) ∧ Below w.heap.size w w' := by
 by_cases h1 : a0.size ≤ 100
 ·have hr : r = strOfNums (bytesOf a0).reverse := by
   unfold gJ.f at h
   rw [if_pos h1] at h
   exact (Option.some.inj h).symm
  subst hr
  exact Go.Proofs.YtnfiedfaaaphoaaGreat.HandSort.yJ a0 w h1
 ·simp [gJ.f, h1] at h
def jM.f (k : Nat) (EU EW : Int) (EX : ByteArray) : Option (Int × Int × ByteArray) := (bn.f k EU EW EX).bind fun t508 => (if t508 = true then ((gJ.f EX).bind fun t509 => (some (EU, EW, t509))) else (some (0, 0, (⟨#[]⟩ : ByteArray))))
theorem jM.calls (k : Nat) (EU EW : Int) (EX : ByteArray) (r1 r2 : Int) (r3 : ByteArray) (w : World) (h : jM.f k EU EW EX = some (r1, r2, r3)) :
  Calls Tryz.prog 162 #[.agg #[.int .i64 EU, .int .i64 EW, .string EX]] w fun e w' => e = .returned (.agg #[.int .i64 r1, .int .i64 r2, .string r3]) ∧ Below w.heap.size w w' := by
 have hu32 := Tryz.underlying32
 have HB := ah.mk (Below.refl w.heap.size w)
 unfold jM.f at h
 have H := h
 clear h
 replace H := be H; obtain ⟨t508, A2, H⟩ := H
 replace H := ah.mk H
 go_enter Tryz.func162, Tryz.ntmps162
 go_wp2_with (first | ((with_reducible refine aN (N := 1) rfl ?_); refine bC (N := 1) (cs := #[.int .i64 EU, .int .i64 EW, .string EX]) (t := 32) ?_; intro gb506 hg w9000 hbox hb; have BK506 := ah.mk hbox; have GW506 := SZ (w := w) hg; have GE506 := GW506; replace HB := BS (w := w) hb; clear hb hbox hg) | ((with_reducible refine aN (N := 2) rfl ?_); refine bC (N := 2) (cs := #[.int .i64 0, .int .i64 0, .string (⟨#[]⟩ : ByteArray)]) (t := 32) ?_; intro gb507 hg w9001 hbox hb; have n0_ := KB BK506 hb; have n1_ := BS (w := w) hb; have n2_ := ah.mk (hbox); have n3_ := SZ (w := w) hg; have n4_ := SZ (w := w) hg; have n5_ := NL BK506 hg; have n6_ := NG BK506 hg; clear BK506 HB; have BK506 := n0_; have HB := n1_; have BK507 := n2_; have GW507 := n3_; have GE507 := n4_; have NB506_507 := n5_; have NB507_506 := n6_; clear n0_ n1_ n2_ n3_ n4_ n5_ n6_; clear hb hbox hg; have hnb9002 := NB506_507.out; have hnc9002 := NB507_506.out; obtain ⟨hcz9003_0, hcz9003_1, hcz9003_2, hfz9003_0, hfz9003_1, hfz9003_2⟩ := cz3 BK506.out; refine bP ?_))
 refine Hide.mk ?_
 replace H := H.out
 replace H := ifB H; rcases H with ⟨rfl, H⟩ | ⟨rfl, H⟩
 ·replace H := be H; obtain ⟨t509, A4, H⟩ := H
  simp only [Option.some.injEq, Prod.mk.injEq] at H
  obtain ⟨rfl, rfl, rfl⟩ := H
  try go_wp2_with (first | ((with_reducible refine ay (f := 110) rfl ?_); refine bq (some 4) Tryz.func110 #[.agg #[.int .i64 EU, .int .i64 EW, .string EX]] ?_; (with_reducible refine (bn.calls k EU EW EX _ _ A2.out).mono ?_); rintro e w9004 ⟨rfl, hb⟩; refine ⟨_, rfl, ?_⟩; replace BK506 := KB BK506 hb; replace BK507 := KB BK507 hb; replace HB := BS (w := w) hb; (try clear hb); obtain ⟨hcz9005_0, hcz9005_1, hcz9005_2, hfz9005_0, hfz9005_1, hfz9005_2⟩ := cz3 BK506.out) | ((with_reducible refine ay (f := 200) rfl ?_); refine bq (some 9) Tryz.func200 #[.string EX] ?_; (with_reducible refine (gJ.calls EX t509 _ A4.out).mono ?_); rintro e w9006 ⟨rfl, hb⟩; refine ⟨_, rfl, ?_⟩; replace BK506 := KB BK506 hb; replace BK507 := KB BK507 hb; replace HB := BS (w := w) hb; (try clear hb); obtain ⟨hcz9007_0, hcz9007_1, hcz9007_2, hfz9007_0, hfz9007_1, hfz9007_2⟩ := cz3 BK506.out; obtain ⟨hcz9008_0, hcz9008_1, hcz9008_2, hfz9008_0, hfz9008_1, hfz9008_2⟩ := cz3 BK507.out))
  refine bodyPost_ret (results_cell_row rfl _ _ gb507 32 #[.int .i64 EU, .int .i64 EW, .string t509] (0, 0) _ rfl (by (with_reducible repeat (first | refine aG ?_ _ | refine aI ?_ | refine aD ?_ _)); refine aX (cs := #[.int .i64 EU, .int .i64 EW, .string (⟨#[]⟩ : ByteArray)]) ?_ 2 _ rfl; (with_reducible repeat (first | refine aG ?_ _ | refine aI ?_ | refine aD ?_ _)); refine aX (cs := #[.int .i64 EU, .int .i64 0, .string (⟨#[]⟩ : ByteArray)]) ?_ 1 _ rfl; (with_reducible repeat (first | refine aG ?_ _ | refine aI ?_ | refine aD ?_ _)); refine aX (cs := #[.int .i64 0, .int .i64 0, .string (⟨#[]⟩ : ByteArray)]) ?_ 0 _ rfl; (with_reducible repeat (first | refine aG ?_ _ | refine aI ?_ | refine aD ?_ _)); refine fI ?_ NB507_506.out _; (with_reducible repeat (first | refine aG ?_ _ | refine aI ?_ | refine aD ?_ _)); exact BK507.out) Tryz.underlying32 rfl (by kernel_rfl)) rfl ?_
  exact ⟨EWW, BL⟩
 ·simp only [Option.some.injEq, Prod.mk.injEq] at H
  obtain ⟨rfl, rfl, rfl⟩ := H
  try go_wp2_with (first | ((with_reducible refine ay (f := 110) rfl ?_); refine bq (some 4) Tryz.func110 #[.agg #[.int .i64 EU, .int .i64 EW, .string EX]] ?_; (with_reducible refine (bn.calls k EU EW EX _ _ A2.out).mono ?_); rintro e w9004 ⟨rfl, hb⟩; refine ⟨_, rfl, ?_⟩; replace BK506 := KB BK506 hb; replace BK507 := KB BK507 hb; replace HB := BS (w := w) hb; (try clear hb); obtain ⟨hcz9005_0, hcz9005_1, hcz9005_2, hfz9005_0, hfz9005_1, hfz9005_2⟩ := cz3 BK507.out))
  refine bodyPost_ret (results_cell_row rfl _ _ gb507 32 #[.int .i64 0, .int .i64 0, .string (⟨#[]⟩ : ByteArray)] (0, 0) _ rfl (by (with_reducible repeat (first | refine aG ?_ _ | refine aI ?_ | refine aD ?_ _)); refine aX (cs := #[.int .i64 0, .int .i64 0, .string (⟨#[]⟩ : ByteArray)]) ?_ 2 _ rfl; (with_reducible repeat (first | refine aG ?_ _ | refine aI ?_ | refine aD ?_ _)); refine aX (cs := #[.int .i64 0, .int .i64 0, .string (⟨#[]⟩ : ByteArray)]) ?_ 1 _ rfl; (with_reducible repeat (first | refine aG ?_ _ | refine aI ?_ | refine aD ?_ _)); refine aX (cs := #[.int .i64 0, .int .i64 0, .string (⟨#[]⟩ : ByteArray)]) ?_ 0 _ rfl; (with_reducible repeat (first | refine aG ?_ _ | refine aI ?_ | refine aD ?_ _)); exact BK507.out) Tryz.underlying32 rfl (by kernel_rfl)) rfl ?_
  exact ⟨EWW, BL⟩
def dP.f (k : Nat) (EU EW : Int) (EX : ByteArray) : Option (Bool) := (bn.f k EU EW EX).bind fun t511 => (if t511 = true then ((jM.f k EU EW EX).bind fun bt512 => (some (EU == bt512.1 && (EW == bt512.2.1 && (EX.toList == bt512.2.2.toList))))) else (some false))
def dP.T1 : Bool × List (List Nat × List Nat) := (true, [([], []), ([0], [0]), ([1, 1], [1]), ([2], [2]), ([2], [2]), ([4, 2, 2], [2, 4]), ([3, 5, 2], [2, 3, 5]), ([2, 6], [2, 6]), ([7, 5, 0, 1, 2, 3, 4, 5, 6, 7], [7])])
def dP.B1 : List Nat := [0, 1, 3, 7, 7, 23, 63, 127, 255]
theorem dP.D7 : kD .any (opsOf Tryz.f111 1) = dP.T1 := by kernel_rfl
theorem dP.BM : iZ dP.T1.2 dP.B1 = true := by kernel_rfl
theorem dP.calls (k : Nat) (EU EW : Int) (EX : ByteArray) (r : Bool) (w : World) (h : dP.f k EU EW EX = some r) :
  Calls Tryz.prog 111 #[.agg #[.int .i64 EU, .int .i64 EW, .string EX]] w fun e w' => e = .returned (.bool r) ∧ Below w.heap.size w w' := by
 have hu32 := Tryz.underlying32
 have HB := ah.mk (Below.refl w.heap.size w)
 unfold dP.f at h
 have H := h
 clear h
 replace H := be H; obtain ⟨t511, A2, H⟩ := H
 replace H := ah.mk H
 go_enter Tryz.func111, Tryz.ntmps111
 try go_wp2_with (first | ((with_reducible refine aN (N := 1) rfl ?_); refine bC (N := 1) (cs := #[.int .i64 EU, .int .i64 EW, .string EX]) (t := 32) ?_; intro gb510 hg w9000 hbox hb; have BK510 := ah.mk hbox; have GW510 := SZ (w := w) hg; have GE510 := GW510; replace HB := BS (w := w) hb; clear hb hbox hg))
 replace BK510 := ah.mk (aI BK510.out)
 replace HB := ah.mk (dL HB.out)
 refine ji (n := 9) (S := fun w' => w'.cell? ⟨gb510, 0, none⟩ = some (.int .i64 EU) ∧ w'.cell? ⟨gb510, 1, none⟩ = some (.int .i64 EW) ∧ w'.cell? ⟨gb510, 2, none⟩ = some (.string EX)) (ds := []) #[F,F,F,F,F,F,F,F,F] (by kernel_rfl) rfl rfl ⟨(av BK510.out 0).trans rfl, (av BK510.out 1).trans rfl, (av BK510.out 2).trans rfl⟩ (fun hHeld => ?_); refine gT dP.D7 dP.BM (fun HT_ HW_ => ?_)
 generalize w9000.drew = w9001 at BK510 HB hHeld ⊢
 refine taS (i := 0) (N := some 3) #[T,F,F,F,F,F,F,F,F] (dJ HT_.out HW_.out (by kernel_rfl)) hHeld ?_
 refine kH (i := 1) (N := some 4) #[T,T,F,F,F,F,F,F,F] rfl rfl (iO HT_.out (by kernel_rfl)) (by decide) (fun K hK => ?_)
 refine iU Tryz.func110 #[.agg #[.int .i64 EU, .int .i64 EW, .string EX]] ?_
 with_reducible refine (bn.calls k EU EW EX _ _ A2.out).mono ?_
 rintro e w9002 ⟨rfl, hb⟩
 refine ⟨_, rfl, ?_⟩
 replace BK510 := KB BK510 hb
 replace HB := BS (w := w) hb
 (try clear hb)
 refine hK.out _ _ ⟨(av BK510.out 0).trans rfl, (av BK510.out 1).trans rfl, (av BK510.out 2).trans rfl⟩ (fun hHeld => ?_)
 clear hK K
 refine nrm (some 4) ?_
 replace H := H.out
 replace H := ifB H; rcases H with ⟨rfl, H⟩ | ⟨rfl, H⟩
 ·replace H := be H; obtain ⟨⟨t512, t513, t514⟩, A4, H⟩ := H
  dsimp only at H
  obtain rfl := Option.some.inj H
  refine puS (i := 2) (N := some 5) #[T,T,T,F,F,F,F,F,F] (aJ HT_.out (by kernel_rfl)) ?_
  refine taS (i := 3) (N := some 6) #[T,T,T,T,F,F,F,F,F] (dJ HT_.out HW_.out (by kernel_rfl)) hHeld ?_
  refine taS (i := 4) (N := some 7) #[T,T,T,T,T,F,F,F,F] (dJ HT_.out HW_.out (by kernel_rfl)) hHeld ?_
  refine kH (i := 5) (N := some 8) #[T,T,T,T,T,T,F,F,F] rfl rfl (iO HT_.out (by kernel_rfl)) (by decide) (fun K hK => ?_)
  refine iU Tryz.func162 #[.agg #[.int .i64 EU, .int .i64 EW, .string EX]] ?_
  with_reducible refine (jM.calls k EU EW EX t512 t513 t514 _ A4.out).mono ?_
  rintro e w9003 ⟨rfl, hb⟩
  refine ⟨_, rfl, ?_⟩
  replace BK510 := KB BK510 hb
  replace HB := BS (w := w) hb
  (try clear hb)
  refine hK.out _ _ ⟨(av BK510.out 0).trans rfl, (av BK510.out 1).trans rfl, (av BK510.out 2).trans rfl⟩ (fun hHeld => ?_)
  clear hK K
  refine nrm (some 8) ?_
  refine puS (i := 6) (N := some 9) #[T,T,T,T,T,T,T,F,F] (aJ HT_.out (by kernel_rfl)) ?_
  refine puS (i := 7) (N := some 10) #[T,T,T,T,T,T,T,T,F] (aJ HT_.out (by kernel_rfl)) ?_
  refine puS (i := 8) (N := some 2) #[T,T,T,T,T,T,T,T,T] (aJ HT_.out (by kernel_rfl)) ?_
  refine gX (fH HT_.out (by kernel_rfl)) ?_
  try go_wp2
  go_ret
  exact ⟨EWW, BL⟩
 ·obtain rfl := Option.some.inj H
  refine puS (i := 2) (N := some 5) #[T,T,T,F,F,F,F,F,F] (aJ HT_.out (by kernel_rfl)) ?_
  refine puU (i := 3) (N := some 6) #[T,T,T,T,F,F,F,F,F] (aJ HT_.out (by kernel_rfl)) ?_
  refine puU (i := 4) (N := some 7) #[T,T,T,T,T,F,F,F,F] (aJ HT_.out (by kernel_rfl)) ?_
  refine puU (i := 5) (N := some 8) #[T,T,T,T,T,T,F,F,F] (aJ HT_.out (by kernel_rfl)) ?_
  refine puU (i := 6) (N := some 9) #[T,T,T,T,T,T,T,F,F] (aJ HT_.out (by kernel_rfl)) ?_
  refine puS (i := 7) (N := some 10) #[T,T,T,T,T,T,T,T,F] (aJ HT_.out (by kernel_rfl)) ?_
  refine puS (i := 8) (N := some 2) #[T,T,T,T,T,T,T,T,T] (aJ HT_.out (by kernel_rfl)) ?_
  refine gX (fH HT_.out (by kernel_rfl)) ?_
  try go_wp2
  go_ret
  exact ⟨EWW, BL⟩
def lT.f (a0 a1 : Int) : Option (Bool) := if a0 ≥ 0 then (some (decide (a0 < a1))) else (some false)
theorem lT.calls (a0 a1 : Int) (r : Bool) (w : World) (h : lT.f a0 a1 = some r) :
  Calls Tryz.prog 165 #[.int .i64 a0, .int .i64 a1] w fun e w' => e = .returned (.bool r) ∧ aC w w' := by
 unfold lT.f at h
 have H := h
 clear h
 replace H := ah.mk H
 go_enter Tryz.func165, Tryz.ntmps165
 replace H := H.out
 by_cases c3 : a0 ≥ 0
 ·rw [if_pos c3] at H
  have c3b0 : decide (0 ≤ a0) = true := decide_eq_true c3
  clear c3
  obtain rfl := Option.some.inj H
  try go_wp2
  go_ret
  exact ⟨by first | rfl | (simp; done) | (simp [*]; done), by repeat (first | exact aC.refl _ | apply aC.step)⟩
 ·rw [if_neg c3] at H
  have c3b0 : decide (0 ≤ a0) = false := decide_eq_false c3
  clear c3
  obtain rfl := Option.some.inj H
  try go_wp2
  go_ret
  exact ⟨by first | rfl | (simp; done) | (simp [*]; done), by repeat (first | exact aC.refl _ | apply aC.step)⟩
def jF.f (k : Nat) (EU EW : Int) (EX : ByteArray) : Option Int := (bn.f k EU EW EX).bind fun t => if t = true then HandForm.parts EU EW EX k (Array.replicate EX.size false) 0 0 else some 0
theorem jF.grid (k : Nat) (R C : Int) (s : ByteArray) (h : bn.f k R C s = some true) : (2 ≤ R ∧ R ≤ 6) ∧ (2 ≤ C ∧ C ≤ 6) ∧ (s.size : Int) = R * C := by
 unfold bn.f at h
 obtain ⟨t1, h1, h⟩ := Option.bind_eq_some_iff.mp h
 have j : ∀ x, bn.j0 k x R C s = some true → x = false := by
  intro x hx
  cases k with
  | zero => simp [bn.j0] at hx
  | succ k => cases x with
   | false => rfl
   | true => simp [bn.j0] at hx
 cases t1 with
 | false =>
  rw [if_neg (by decide)] at h
  cases (j _ h)
 | true =>
  rw [if_pos rfl] at h
  obtain ⟨t2, h2, h⟩ := Option.bind_eq_some_iff.mp h
  cases t2 with
  | false =>
   rw [if_neg (by decide)] at h
   cases (j _ h)
  | true =>
   rw [if_pos rfl] at h
   have h3 := j _ h
   have ir : ∀ a, fq.f a 2 6 = some true → 2 ≤ a ∧ a ≤ 6 := by
    intro a ha
    unfold fq.f at ha
    split at ha
    ·rename_i x
     exact ⟨x, of_decide_eq_true (Option.some.inj ha)⟩
    ·cases ha
   obtain ⟨r0, r1⟩ := ir _ h1
   obtain ⟨c0, c1⟩ := ir _ h2
   have m1 : R * C ≤ 6 * 6 := Int.mul_le_mul (by omega) (by omega) (by omega) (by omega)
   have m2 : 0 ≤ R * C := Int.mul_nonneg (by omega) (by omega)
   have hw : wrap64 (R * C) = R * C := by unfold wrap64; omega
   rw [hw] at h3
   exact ⟨⟨r0, r1⟩, ⟨c0, c1⟩, by simpa using h3⟩
theorem jF.calls (k : Nat) (EU EW : Int) (EX : ByteArray) (r : Int) (w : World) (h : jF.f k EU EW EX = some r) :
  Calls Tryz.prog 163 #[.agg #[.int .i64 EU, .int .i64 EW, .string EX]] w fun e w' => e = .returned (.int .i64 r) ∧ Below w.heap.size w w' := by
 obtain ⟨t, h1, h2⟩ := Option.bind_eq_some_iff.mp h
 exact HandForm.AA k EU EW EX t r w (fun V => bn.calls k EU EW EX t V h1) (fun e => jF.grid k _ _ _ (e ▸ h1)) h2
def iN.f (k : Nat) (EU EW : Int) (EX : ByteArray) : Option (Bool) := (jF.f k EU EW EX).bind fun t516 => (some (t516 == 1))
theorem iN.calls (k : Nat) (EU EW : Int) (EX : ByteArray) (r : Bool) (w : World) (h : iN.f k EU EW EX = some r) :
  Calls Tryz.prog 112 #[.agg #[.int .i64 EU, .int .i64 EW, .string EX]] w fun e w' => e = .returned (.bool r) ∧ Below w.heap.size w w' := by
 have hu32 := Tryz.underlying32
 have HB := ah.mk (Below.refl w.heap.size w)
 unfold iN.f at h
 have H := h
 clear h
 replace H := be H; obtain ⟨t516, A2, H⟩ := H
 obtain rfl := Option.some.inj H
 go_enter Tryz.func112, Tryz.ntmps112
 go_wp2_with (first | ((with_reducible refine aN (N := 1) rfl ?_); refine bC (N := 1) (cs := #[.int .i64 EU, .int .i64 EW, .string EX]) (t := 32) ?_; intro gb515 hg w3 hbox hb; have BK515 := ah.mk hbox; have GW515 := SZ (w := w) hg; have GE515 := GW515; replace HB := BS (w := w) hb; clear hb hbox hg; obtain ⟨hcz4_0, hcz4_1, hcz4_2, hfz4_0, hfz4_1, hfz4_2⟩ := cz3 BK515.out) | ((with_reducible refine ay (f := 163) rfl ?_); refine bq (some 4) Tryz.func163 #[.agg #[.int .i64 EU, .int .i64 EW, .string EX]] ?_; (with_reducible refine (jF.calls k EU EW EX t516 _ A2.out).mono ?_); rintro e w5 ⟨rfl, hb⟩; refine ⟨_, rfl, ?_⟩; replace BK515 := KB BK515 hb; replace HB := BS (w := w) hb; (try clear hb)))
 go_ret
 exact ⟨EWW, BL⟩
def bV.l0 : Nat → List Int → Int → Int → Int → Option (Int)
 | 0, _, _, _, _ => none
 | k + 1, a, b, c, d => if d < c then (if 0 ≤ d then (if d < (a.length : Int) then (if b = (rd a d) then (some d) else (bV.l0 k a b c (wrap64 (d + 1)))) else (none)) else (none)) else (some (-1))
def bV.f (k : Nat) (l0 : List Int) (a1 : Int) : Option (Int) := bV.l0 k l0 a1 (l0.length : Int) 0
theorem bV.calls (k : Nat) (A0 : Option Addr) (c0 : Nat) (l0 : List Int) (a1 r : Int) (w : World) (hr0 : Kd.C (Kd.int .i64) w A0 l0.length l0) (hc0 : l0.length ≤ c0) (h : bV.f k l0 a1 = some r) :
  Calls Tryz.prog 181 #[.slice A0 l0.length c0, .int .i64 a1] w fun e w' => e = .returned (.int .i64 r) ∧ aC w w' := by
 have HR0 := ah.mk hr0
 have HC0 := ah.mk hc0
 clear hr0 hc0
 unfold bV.f at h
 have H := h
 clear h
 have H' := ah.mk H
 clear H
 go_enter Tryz.func181, Tryz.ntmps181
 go_wp2
 go_loopg [8] k (fun kq v8 w' => ∃ (x8_1 : Int), v8 = .int .i64 x8_1 ∧ ah (bV.l0 kq l0 a1 (l0.length : Int) x8_1 = some r) ∧ ah (kq ≤ k) ∧ aC w w')
 case atStart => exact ⟨(0), EQ, H', ⟨Nat.le_refl _⟩, by repeat (first | exact aC.refl _ | apply aC.step)⟩
 case round =>
  clear H'
  obtain ⟨x8_1, rfl, HA, HK1, ⟨m1, rfl⟩⟩ := hrel
  cases gk with
  | zero => exact absurd HA.out (by simp [bV.l0])
  | succ k1 =>
   have H := HA.out
   clear HA
   simp only [bV.l0] at H
   replace H := ifD H; rcases H with ⟨c3b0, H⟩ | ⟨c3b0, H⟩
   ·replace H := ifN H; obtain ⟨c4b0, H⟩ := H
    replace H := ifN H; obtain ⟨c5b0, H⟩ := H
    have p517 : 0 ≤ (x8_1 : Int) := OD
    have q517 : x8_1 < (l0.length : Int) := OD
    obtain ⟨ad517, e517, hx517_0⟩ := Kd.pG HR0.out x8_1 p517 q517
    cases e517
    replace p517 := eq_true p517
    replace q517 := eq_true q517
    replace H := ifE H; rcases H with ⟨c6b0, c6b1, H⟩ | ⟨c6, c6b0, c6b1, H⟩
    ·obtain rfl := Option.some.inj H
     go_wp2
     go_ret
     exact ⟨by first | rfl | (simp; done) | (simp [*]; done), by repeat (first | exact aC.refl _ | apply aC.step)⟩
    ·have H' := ah.mk H
     clear H
     go_wp2
     go_roundg k1
     case measure => have := HK1.out; omega
     case rel => exact ⟨(wrap64 (x8_1 + 1)), EQ, H', ⟨by have := HK1.out; omega⟩, by repeat (first | exact aC.refl _ | apply aC.step)⟩
   ·obtain rfl := Option.some.inj H
    go_wp2
    go_ret
    exact ⟨by first | rfl | (simp; done) | (simp [*]; done), by repeat (first | exact aC.refl _ | apply aC.step)⟩
def fO.f (k : Nat) (l0 : List Int) (a1 : Int) : Option (Bool) := (bV.f k l0 a1).bind fun t518 => (some (decide (t518 ≥ 0)))
theorem fO.calls (k : Nat) (A0 : Option Addr) (c0 : Nat) (l0 : List Int) (a1 : Int) (r : Bool) (w : World) (hr0 : Kd.C (Kd.int .i64) w A0 l0.length l0) (hc0 : l0.length ≤ c0) (h : fO.f k l0 a1 = some r) :
  Calls Tryz.prog 216 #[.slice A0 l0.length c0, .int .i64 a1] w fun e w' => e = .returned (.bool r) ∧ aC w w' := by
 have HR0 := ah.mk hr0
 have HC0 := ah.mk hc0
 clear hr0 hc0
 unfold fO.f at h
 have H := h
 clear h
 replace H := be H; obtain ⟨t518, A3, H⟩ := H
 obtain rfl := Option.some.inj H
 go_enter Tryz.func216, Tryz.ntmps216
 go_wp2_with (first | ((with_reducible refine ay (f := 181) rfl ?_); refine bq (some 7) Tryz.func181 #[.slice A0 l0.length c0, .int .i64 a1] ?_; (with_reducible refine (bV.calls k _ _ l0 a1 t518 _ ?side1 ?side2 A3.out).mono ?_); (case side1 => repeat (first | exact HR0.out | (with_reducible refine Kd.eG ?_ _) | (with_reducible refine Kd.eH ?_ _) | (with_reducible refine Kd.fP ?_))); (case side2 => exact HC0.out); rintro e w' ⟨rfl, ⟨nd, rfl⟩⟩; refine ⟨_, rfl, ?_⟩))
 go_ret
 exact ⟨by first | rfl | (simp; done) | (simp [*]; done), by repeat (first | exact aC.refl _ | apply aC.step)⟩
def fC.l0 : Nat → Int → List Int → List (List Int) → Int → Int → Option (List Int)
 | 0, _, _, _, _, _ => none
 | k + 1, a, b, c, d, e => if e < d then (if 0 ≤ e then (if e < (c.length : Int) then ((fO.f k (jg c e) a).bind fun f => (if f = true then (if b.length < 17592186044416 then (fC.l0 k a (b ++ [e]) c d (wrap64 (e + 1))) else (none)) else (fC.l0 k a b c d (wrap64 (e + 1))))) else (none)) else (none)) else (some b)
def fC.f (k : Nat) (EU EW : Int) (EX : ByteArray) (a1 : Int) : Option (List Int) := (eD.f k EU EW EX).bind fun t520 => (fC.l0 k a1 ([] : List Int) t520 (t520.length : Int) 0)
theorem fC.calls (k : Nat) (EU EW : Int) (EX : ByteArray) (a1 : Int) (r : List Int) (w : World) (h : fC.f k EU EW EX a1 = some r) :
  Calls Tryz.prog 202 #[.agg #[.int .i64 EU, .int .i64 EW, .string EX], .int .i64 a1] w fun e w' => ∃ v0_ : Value, e = .returned (v0_) ∧ Kd.R (Kd.int .i64) 3 w' w.heap.size (fun _ => True) v0_ r ∧ Below w.heap.size w w' := by
 have hu32 := Tryz.underlying32
 have HB := ah.mk (Below.refl w.heap.size w)
 unfold fC.f at h
 have H := h
 clear h
 replace H := be H; obtain ⟨t520, A3, H⟩ := H
 have H' := ah.mk H
 clear H
 go_enter Tryz.func202, Tryz.ntmps202
 go_wp2_with (first | ((with_reducible refine aN (N := 2) rfl ?_); refine bC (N := 2) (cs := #[.int .i64 EU, .int .i64 EW, .string EX]) (t := 32) ?_; intro gb519 hg w4 hbox hb; have BK519 := ah.mk hbox; have GW519 := SZ (w := w) hg; have GE519 := GW519; replace HB := BS (w := w) hb; clear hb hbox hg; obtain ⟨hcz5_0, hcz5_1, hcz5_2, hfz5_0, hfz5_1, hfz5_2⟩ := cz3 BK519.out) | ((with_reducible refine ay (f := 82) rfl ?_); refine bq (some 9) Tryz.func82 #[.agg #[.int .i64 EU, .int .i64 EW, .string EX]] ?_; (with_reducible refine (eD.calls k EU EW EX t520 _ A3.out).mono ?_); rintro e w6 ⟨v521, rfl, ho0, hb⟩; refine ⟨_, rfl, ?_⟩; have n0_ := ah.mk (Kd.oG ho0 (aQ BL)); replace BK519 := KB BK519 hb; replace HB := BS (w := w) hb; have HO522 := n0_; clear n0_; (try clear hb); (try clear ho0); obtain ⟨Ao7, co7, eo7⟩ := Kd.qA HO522.out; subst eo7))
 go_loopg [5, 11] k (fun kq v5 v11 w' => ∃ (x5_1 : List Int) (x11_1 : Int), v11 = .int .i64 x11_1 ∧ ah (fC.l0 kq a1 x5_1 t520 (t520.length : Int) x11_1 = some r) ∧ ah (kq ≤ k) ∧ ah (Kd.R (Kd.int .i64) 3 w' w.heap.size (fun _ => True) v5 x5_1) ∧ ah (Kd.S (Kd.slice 3 (Kd.int .i64)) 43 w' w.heap.size (fun k_ => some k_ ≠ (v5 : Value).ownBlock) (.slice Ao7 t520.length co7) t520) ∧ ah (w'.heap[gb519]? = some (.cells #[.int .i64 EU, .int .i64 EW, .string EX] 32 (0, 0))) ∧ ah (Below w.heap.size w w'))
 case atStart => exact ⟨(([] : List Int)), (0), EQ, H', ⟨Nat.le_refl _⟩, ⟨by first | exact Kd.ni _ _ _ _ _ | exact Kd.pK _ _ _ _ _ | exact Kd.pY _ _ _ _ _ | exact Kd.pV _ _ _ _ _ | exact Kd.pI _ _ _ _ _⟩, ⟨by (with_reducible repeat (first | apply Kd.oC | apply Kd.oK | apply Kd.rF)); exact Kd.oL HO522.out (fun _ hk => (by simp [Value.ownBlock]))⟩, ⟨BK⟩, ⟨BL⟩⟩
 case round =>
  clear H'
  try clear hcz5_0
  try clear hcz5_1
  try clear hcz5_2
  try clear hfz5_0
  try clear hfz5_1
  try clear hfz5_2
  obtain ⟨x5_1, x11_1, rfl, HA, HK1, HO_5, HO_9, BK519, HB⟩ := hrel
  cases gk with
  | zero => exact absurd HA.out (by simp [fC.l0])
  | succ k1 =>
   have H := HA.out
   clear HA
   simp only [fC.l0] at H
   replace H := ifD H; rcases H with ⟨c8b0, H⟩ | ⟨c8b0, H⟩
   ·replace H := ifN H; obtain ⟨c9b0, H⟩ := H
    replace H := ifN H; obtain ⟨c10b0, H⟩ := H
    replace H := be H; obtain ⟨t524, A11, H⟩ := H
    have p523 : 0 ≤ (x11_1 : Int) := OD
    have q523 : x11_1 < (t520.length : Int) := OD
    obtain ⟨ad523, A523_0, c523_0, e523, hx523_0, hl523_0, hi523_0⟩ := zI (Kd.iX HO_9.out).2.2 x11_1 p523 q523
    cases e523
    obtain ⟨ce523, hce523, hMe523, hcc523⟩ := Kd.zX HO_9.out [] x11_1 p523 (by first | exact q523 | exact OD | (have e_ := (Kd.iX HO_9.out).1; omega))
    obtain ⟨ve523_0, rfl, ge523_0⟩ := hMe523
    have hv523_0 := hcc523 0 _ rfl
    rw [Nat.add_zero, show ((Kd.slice 3 (Kd.int .i64))).sz = 1 from rfl, Nat.mul_one] at hv523_0
    replace hv523_0 := Option.some.inj (hv523_0.symm.trans hx523_0)
    rw [hv523_0] at ge523_0
    have HL523_0 := ah.mk (show Kd.R (Kd.int .i64) 3 _ _ _ _ (jg t520 x11_1) from ge523_0)
    clear hv523_0 ge523_0
    clear hcc523 hce523
    have HR523_0 := ah.mk hi523_0
    have HC523_0 := ah.mk hl523_0
    clear hi523_0 hl523_0
    replace p523 := eq_true p523
    replace q523 := eq_true q523
    replace H := ah.mk H
    go_wp2_with (first | ((with_reducible refine ay (f := 216) rfl ?_); refine bq (some 18) Tryz.func216 #[.slice A523_0 (jg t520 x11_1).length c523_0, .int .i64 a1] ?_; (with_reducible refine (fO.calls k1 _ _ (jg t520 x11_1) a1 _ _ ?side1 ?side2 A11.out).mono ?_); (case side1 => repeat (first | exact (by repeat (first | (with_reducible exact HR523_0.out) | (with_reducible refine Kd.eG ?_ _) | (with_reducible refine Kd.eH ?_ _) | (with_reducible refine Kd.fP ?_) | exact HR523_0.out)) | (with_reducible refine Kd.eG ?_ _) | (with_reducible refine Kd.eH ?_ _) | (with_reducible refine Kd.fP ?_))); (case side2 => exact HC523_0.out); rintro e w' ⟨rfl, ⟨nd, rfl⟩⟩; refine ⟨_, rfl, ?_⟩; refine bP ?_))
    refine Hide.mk ?_
    replace H := H.out
    replace H := ifB H; rcases H with ⟨rfl, H⟩ | ⟨rfl, H⟩
    ·replace H := ifP H; obtain ⟨c13, H⟩ := H
     have LMc13 := ah.mk c13
     clear c13
     obtain ⟨y525, hy525⟩ : ∃ y_ : List Int, y_ = (x5_1 ++ [x11_1]) := ⟨_, rfl⟩
     replace H : (fC.l0 k1 a1 y525 t520 (t520.length : Int) (wrap64 (x11_1 + 1))) = some r := by first | (rw [hy525]; with_reducible exact H) | (have H2_ := (Option.bind_some _ _).symm.trans H; rw [hy525]; with_reducible exact H2_) | (have H2_ := (Option.bind_some _ _).symm.trans H; with_reducible exact H2_) | with_reducible exact H | (rw [hy525]; exact H) | exact H
     have Ny525 := ah.mk hy525
     clear hy525
     have H' := ah.mk H
     clear H
     try go_wp2_with (first | ((with_reducible refine dn (b := .append) (xs := #[.tmp 19, .tmp 21]) rfl ?_); at_builtin; refine Kd.fT (Kd.int .i64) (w0 := w) w.heap.size rfl (.tmp 19) (.tmp 21) 43 3 (.int .i64 0) 8 rfl Tryz.underlying43 info3 rfl (by decide) (by omega) u5 x5_1 x11_1 [.int .i64 x11_1] (fun _ => True) (fun _ => False) rfl rfl ?aP (fun _ hk => hk.elim) ?aF ?aO ?aB ?aS ?aL ?_; (case aP => exact rfl); (case aB => exact BL); (case aF => exact (fun _ _ => trivial)); (case aO => exact (RR HO_5)); (case aS => exact (aQ BL)); (case aL => have := LMc13.out; omega); intro v526 w7000 ho hb hg hat; rw [← Ny525.out] at ho; have n0_ := ah.mk (Kd.Da (ok := (fun _ => True)) (by (with_reducible repeat (first | apply Kd.oC | apply Kd.oK | apply Kd.rF)); exact Kd.oL HO_9.out (fun _ hk => ⟨trivial, hk⟩)) hg hat); have n1_ := ah.mk (dK (g := gb519) (o := .cells #[.int .i64 EU, .int .i64 EW, .string EX] 32 (0, 0)) BK hg (Kd.lq HO_5.out BK519.out (by decide))); have n2_ := ah.mk (Kd.qF (ok := (fun k_ => some k_ ≠ (.slice (some ad523) t520.length co7 : Value).ownBlock)) (by (with_reducible repeat (first | apply Kd.gy | apply Kd.gu | apply Kd.fM)); exact Kd.eF HL523_0.out (fun _ hk => ⟨hk.2, hk.1⟩)) hg hat); have n3_ := ah.mk (hb); have n4_ := ah.mk (ho); clear HO_9 BK519 HL523_0 HB HO_5; have HO_9 := n0_; have BK519 := n1_; have HL523_0 := n2_; have HB := n3_; have HO527 := n4_; clear n0_ n1_ n2_ n3_ n4_; clear ho hb hg hat))
     go_roundg k1
     case measure => have := HK1.out; omega
     case rel => exact ⟨(y525), (wrap64 (x11_1 + 1)), EQ, H', ⟨by have := HK1.out; omega⟩, ⟨(RR HO527)⟩, ⟨by (with_reducible repeat (first | apply Kd.oC | apply Kd.oK | apply Kd.rF)); exact Kd.oL HO_9.out (fun _ hk => hk.2)⟩, ⟨BK⟩, ⟨BL⟩⟩
    ·have H' := ah.mk H
     clear H
     try go_wp2
     go_roundg k1
     case measure => have := HK1.out; omega
     case rel => exact ⟨(x5_1), (wrap64 (x11_1 + 1)), EQ, H', ⟨by have := HK1.out; omega⟩, ⟨(RR HO_5)⟩, ⟨(SR HO_9)⟩, ⟨BK⟩, ⟨BL⟩⟩
   ·obtain rfl := Option.some.inj H
    go_wp2
    go_ret
    exact ⟨_, EWW, (RR HO_5), BL⟩
def jw.f (k : Nat) (EU EW : Int) (EX : ByteArray) (a1 : Int) : Option (Bool) := (fC.f k EU EW EX a1).bind fun t529 => (some ((t529.length : Int) == 2))
theorem jw.calls (k : Nat) (EU EW : Int) (EX : ByteArray) (a1 : Int) (r : Bool) (w : World) (h : jw.f k EU EW EX a1 = some r) :
  Calls Tryz.prog 166 #[.agg #[.int .i64 EU, .int .i64 EW, .string EX], .int .i64 a1] w fun e w' => e = .returned (.bool r) ∧ Below w.heap.size w w' := by
 have hu32 := Tryz.underlying32
 have HB := ah.mk (Below.refl w.heap.size w)
 unfold jw.f at h
 have H := h
 clear h
 replace H := be H; obtain ⟨t529, A3, H⟩ := H
 obtain rfl := Option.some.inj H
 go_enter Tryz.func166, Tryz.ntmps166
 go_wp2_with (first | ((with_reducible refine aN (N := 2) rfl ?_); refine bC (N := 2) (cs := #[.int .i64 EU, .int .i64 EW, .string EX]) (t := 32) ?_; intro gb528 hg w4 hbox hb; have BK528 := ah.mk hbox; have GW528 := SZ (w := w) hg; have GE528 := GW528; replace HB := BS (w := w) hb; clear hb hbox hg; obtain ⟨hcz5_0, hcz5_1, hcz5_2, hfz5_0, hfz5_1, hfz5_2⟩ := cz3 BK528.out) | ((with_reducible refine ay (f := 202) rfl ?_); refine bq (some 7) Tryz.func202 #[.agg #[.int .i64 EU, .int .i64 EW, .string EX], .int .i64 a1] ?_; (with_reducible refine (fC.calls k EU EW EX a1 t529 _ A3.out).mono ?_); rintro e w6 ⟨v530, rfl, ho0, hb⟩; refine ⟨_, rfl, ?_⟩; have n0_ := ah.mk (Kd.cO ho0 (aQ BL)); replace BK528 := KB BK528 hb; replace HB := BS (w := w) hb; have HO531 := n0_; clear n0_; (try clear hb); (try clear ho0); obtain ⟨Ao7, co7, eo7⟩ := Kd.dH HO531.out; subst eo7))
 go_ret
 exact ⟨EWW, BL⟩
def dz.l0 : Nat → Int → List Int → Int → Int → Int → Int → ByteArray → Option (Int)
 | 0, _, _, _, _, _, _, _ => none
 | k + 1, a, b, c, d, e, f, g => if d < c then (if 0 ≤ d then (if d < (b.length : Int) then ((jw.f k e f g (rd b d)).bind fun h => (if h = true then (dz.l0 k a b c (wrap64 (d + 1)) e f g) else (dz.l0 k (wrap64 (a + 1)) b c (wrap64 (d + 1)) e f g))) else (none)) else (none)) else (some a)
def dz.f (k : Nat) (EU EW : Int) (EX : ByteArray) (a1 : Int) : Option (Int) := (eD.f k EU EW EX).bind fun t533 => ((lT.f a1 (t533.length : Int)).bind fun t536 => (if t536 = true then (if 0 ≤ a1 then (if a1 < (t533.length : Int) then (dz.l0 k 0 (jg t533 a1) ((jg t533 a1).length : Int) 0 EU EW EX) else (none)) else (none)) else (some (-1))))
theorem dz.calls (k : Nat) (EU EW : Int) (EX : ByteArray) (a1 r : Int) (w : World) (h : dz.f k EU EW EX a1 = some r) :
  Calls Tryz.prog 114 #[.agg #[.int .i64 EU, .int .i64 EW, .string EX], .int .i64 a1] w fun e w' => e = .returned (.int .i64 r) ∧ Below w.heap.size w w' := by
 have hu32 := Tryz.underlying32
 have HB := ah.mk (Below.refl w.heap.size w)
 unfold dz.f at h
 have H := h
 clear h
 replace H := be H; obtain ⟨t533, A3, H⟩ := H
 replace H := be H; obtain ⟨t536, A4, H⟩ := H
 replace H := ah.mk H
 go_enter Tryz.func114, Tryz.ntmps114
 go_wp2_with (first | ((with_reducible refine aN (N := 2) rfl ?_); refine bC (N := 2) (cs := #[.int .i64 EU, .int .i64 EW, .string EX]) (t := 32) ?_; intro gb532 hg w9000 hbox hb; have BK532 := ah.mk hbox; have GW532 := SZ (w := w) hg; have GE532 := GW532; replace HB := BS (w := w) hb; clear hb hbox hg; obtain ⟨hcz9001_0, hcz9001_1, hcz9001_2, hfz9001_0, hfz9001_1, hfz9001_2⟩ := cz3 BK532.out) | ((with_reducible refine ay (f := 82) rfl ?_); refine bq (some 10) Tryz.func82 #[.agg #[.int .i64 EU, .int .i64 EW, .string EX]] ?_; (with_reducible refine (eD.calls k EU EW EX t533 _ A3.out).mono ?_); rintro e w9002 ⟨v534, rfl, ho0, hb⟩; refine ⟨_, rfl, ?_⟩; have n0_ := ah.mk (Kd.oG ho0 (aQ BL)); replace BK532 := KB BK532 hb; replace HB := BS (w := w) hb; have HO535 := n0_; clear n0_; (try clear hb); (try clear ho0); obtain ⟨Ao9003, co9003, eo9003⟩ := Kd.qA HO535.out; subst eo9003) | ((with_reducible refine ay (f := 165) rfl ?_); refine bq (some 14) Tryz.func165 #[.int .i64 a1, .int .i64 (t533.length : Int)] ?_; (with_reducible refine (lT.calls a1 (t533.length : Int) _ _ A4.out).mono ?_); rintro e w' ⟨rfl, ⟨nd, rfl⟩⟩; refine ⟨_, rfl, ?_⟩; refine bP ?_))
 refine Hide.mk ?_
 replace H := H.out
 replace H := ifB H; rcases H with ⟨rfl, H⟩ | ⟨rfl, H⟩
 ·replace H := ifN H; obtain ⟨c6b0, H⟩ := H
  replace H := ifN H; obtain ⟨c7b0, H⟩ := H
  have H' := ah.mk H
  clear H
  have p537 : 0 ≤ (a1 : Int) := OD
  have q537 : a1 < (t533.length : Int) := OD
  obtain ⟨ad537, A537_0, c537_0, e537, hx537_0, hl537_0, hi537_0⟩ := zI (Kd.iX HO535.out).2.2 a1 p537 q537
  cases e537
  obtain ⟨ce537, hce537, hMe537, hcc537⟩ := Kd.zX HO535.out [] a1 p537 (by first | exact q537 | exact OD | (have e_ := (Kd.iX HO535.out).1; omega))
  obtain ⟨ve537_0, rfl, ge537_0⟩ := hMe537
  have hv537_0 := hcc537 0 _ rfl
  rw [Nat.add_zero, show ((Kd.slice 3 (Kd.int .i64))).sz = 1 from rfl, Nat.mul_one] at hv537_0
  replace hv537_0 := Option.some.inj (hv537_0.symm.trans hx537_0)
  rw [hv537_0] at ge537_0
  have HL537_0 := ah.mk (show Kd.R (Kd.int .i64) 3 _ _ _ _ (jg t533 a1) from ge537_0)
  clear hv537_0 ge537_0
  clear hcc537 hce537
  have HR537_0 := ah.mk hi537_0
  have HC537_0 := ah.mk hl537_0
  clear hi537_0 hl537_0
  replace p537 := eq_true p537
  replace q537 := eq_true q537
  go_wp2
  go_loopg [6, 21] k (fun kq v6 v21 w' => ∃ (x6_1 : Int) (x21_1 : Int), v6 = .int .i64 x6_1 ∧ v21 = .int .i64 x21_1 ∧ ah (dz.l0 kq x6_1 (jg t533 a1) ((jg t533 a1).length : Int) x21_1 EU EW EX = some r) ∧ ah (kq ≤ k) ∧ ah (w'.heap[gb532]? = some (.cells #[.int .i64 EU, .int .i64 EW, .string EX] 32 (0, 0))) ∧ ah (Kd.C (Kd.int .i64) w' A537_0 (jg t533 a1).length (jg t533 a1)) ∧ ah (Below w.heap.size w w'))
  case atStart => exact ⟨(0), (0), EQ, EQ, H', ⟨Nat.le_refl _⟩, ⟨BK⟩, ⟨by repeat (first | (with_reducible exact HR537_0.out) | (with_reducible refine Kd.eG ?_ _) | (with_reducible refine Kd.eH ?_ _) | (with_reducible refine Kd.fP ?_) | exact HR537_0.out)⟩, ⟨BL⟩⟩
  case round =>
   clear H'
   try clear c5
   try clear c6
   try clear c6b0
   try clear c7
   try clear c7b0
   try clear hcz9001_0
   try clear hcz9001_1
   try clear hcz9001_2
   try clear hfz9001_0
   try clear hfz9001_1
   try clear hfz9001_2
   try clear hx537_0
   try clear p537
   try clear q537
   obtain ⟨x6_1, x21_1, rfl, rfl, HA, HK1, BK532, HR537_0, HB⟩ := hrel
   cases gk with
   | zero => exact absurd HA.out (by simp [dz.l0])
   | succ k1 =>
    have H := HA.out
    clear HA
    simp only [dz.l0] at H
    replace H := ifD H; rcases H with ⟨c12b0, H⟩ | ⟨c12b0, H⟩
    ·replace H := ifN H; obtain ⟨c13b0, H⟩ := H
     replace H := ifN H; obtain ⟨c14b0, H⟩ := H
     replace H := be H; obtain ⟨t539, A15, H⟩ := H
     have p538 : 0 ≤ (x21_1 : Int) := OD
     have q538 : x21_1 < ((jg t533 a1).length : Int) := OD
     obtain ⟨ad538, e538, hx538_0⟩ := Kd.pG HR537_0.out x21_1 p538 q538
     cases e538
     try replace hx538_0 := (HB.out.cell (World.block_lt_of_cell? w _ hx538_0)).trans hx538_0
     replace p538 := eq_true p538
     replace q538 := eq_true q538
     obtain ⟨hcz9004_0, hcz9004_1, hcz9004_2, hfz9004_0, hfz9004_1, hfz9004_2⟩ := cz3 BK532.out
     replace H := ah.mk H
     go_wp2_with (first | ((with_reducible refine ay (f := 166) rfl ?_); refine bq (some 27) Tryz.func166 #[.agg #[.int .i64 EU, .int .i64 EW, .string EX], .int .i64 (rd (jg t533 a1) x21_1)] ?_; (with_reducible refine (jw.calls k1 EU EW EX (rd (jg t533 a1) x21_1) _ _ A15.out).mono ?_); rintro e w9005 ⟨rfl, hb⟩; refine ⟨_, rfl, ?_⟩; have n0_ := KB BK532 hb; have n1_ := ah.mk (Kd.gP (by repeat (first | (with_reducible exact HR537_0.out) | (with_reducible refine Kd.eG ?_ _) | (with_reducible refine Kd.eH ?_ _) | (with_reducible refine Kd.fP ?_) | exact HR537_0.out)) hb); have n2_ := BS (w := w) hb; clear BK532 HR537_0 HB; have BK532 := n0_; have HR537_0 := n1_; have HB := n2_; clear n0_ n1_ n2_; (try clear hb); refine bP ?_))
     refine Hide.mk ?_
     replace H := H.out
     replace H := ifB H; rcases H with ⟨rfl, H⟩ | ⟨rfl, H⟩
     ·have H' := ah.mk H
      clear H
      try go_wp2
      go_roundg k1
      case measure => have := HK1.out; omega
      case rel => exact ⟨(x6_1), (wrap64 (x21_1 + 1)), EQ, EQ, H', ⟨by have := HK1.out; omega⟩, ⟨BK⟩, ⟨by repeat (first | (with_reducible exact HR537_0.out) | (with_reducible refine Kd.eG ?_ _) | (with_reducible refine Kd.eH ?_ _) | (with_reducible refine Kd.fP ?_) | exact HR537_0.out)⟩, ⟨BL⟩⟩
     ·have H' := ah.mk H
      clear H
      try go_wp2
      go_roundg k1
      case measure => have := HK1.out; omega
      case rel => exact ⟨(wrap64 (x6_1 + 1)), (wrap64 (x21_1 + 1)), EQ, EQ, H', ⟨by have := HK1.out; omega⟩, ⟨BK⟩, ⟨by repeat (first | (with_reducible exact HR537_0.out) | (with_reducible refine Kd.eG ?_ _) | (with_reducible refine Kd.eH ?_ _) | (with_reducible refine Kd.fP ?_) | exact HR537_0.out)⟩, ⟨BL⟩⟩
    ·obtain rfl := Option.some.inj H
     go_wp2
     go_ret
     exact ⟨EWW, BL⟩
 ·obtain rfl := Option.some.inj H
  try go_wp2
  go_ret
  exact ⟨EWW, BL⟩
def mg.f (k : Nat) (EU EW : Int) (EX a1 : ByteArray) : Option Bool := (eD.f k EU EW EX).bind fun rows => HandAlone.yt eP.f k rows EX a1
theorem mg.calls (k : Nat) (EU EW : Int) (EX a1 : ByteArray) (r : Bool) (w : World) (h : mg.f k EU EW EX a1 = some r) :
  Calls Tryz.prog 115 #[.agg #[.int .i64 EU, .int .i64 EW, .string EX], .string a1] w fun e w' => e = .returned (.bool r) ∧ Below w.heap.size w w' := by
 obtain ⟨rows, h1, h2⟩ := Option.bind_eq_some_iff.mp h
 exact HandAlone.CP k EU EW EX a1 eP.f rows r w (fun x b hx V => eP.calls x b V hx) (fun V => eD.calls k EU EW EX rows V h1) h2
end Go.Proofs.YtnfiedfaaaphoaaGreat.PFnExactPuzzleCode
