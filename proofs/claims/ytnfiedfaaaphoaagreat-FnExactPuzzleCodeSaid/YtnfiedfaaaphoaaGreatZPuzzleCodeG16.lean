/- Walks of functions: what each computes. -/
import Derived.Test.YtnfiedfaaaphoaaGreatZPuzzleCodeG0
import Derived.Test.YtnfiedfaaaphoaaGreatZPuzzleCodeG12
import Derived.Test.YtnfiedfaaaphoaaGreatZPuzzleCodeG13
import Derived.Test.YtnfiedfaaaphoaaGreatZPuzzleCodeG14
import Derived.Test.YtnfiedfaaaphoaaGreatZPuzzleCodeG15
import Derived.Test.YtnfiedfaaaphoaaGreatZPuzzleCodeW
import Derived.Test.YtnfiedfaaaphoaaGreatZPuzzleCodeShelf
import Derived.Test.YtnfiedfaaaphoaaGreatZPuzzleCodeHandSort
import Derived.Test.YtnfiedfaaaphoaaGreatZPuzzleCodeHandForm
import Derived.Test.YtnfiedfaaaphoaaGreatZPuzzleCodeHandAlone
import Derived.Test.YtnfiedfaaaphoaaGreatZPuzzleCodeHandReach
import Derived.Test.YtnfiedfaaaphoaaGreatZPuzzleCodeHandPut
namespace Go.Proofs.YtnfiedfaaaphoaaGreat.PFnExactPuzzleCode
open Go.RowKit Go.Proofs.YtnfiedfaaaphoaaGreatW.PrintWords Go.Proofs.YtnfiedfaaaphoaaGreatW.PrintLast Go.Proofs.YtnfiedfaaaphoaaGreatW.PrintMore Go.Proofs.YtnfiedfaaaphoaaGreat.Sq
attribute [local go_sem] iH iJ jD jC gV gU iK iG
set_option maxHeartbeats 8000000
set_option maxRecDepth 100000
set_option linter.unusedVariables false
set_option linter.unusedSimpArgs false
def kg.f (k : Nat) (l0 : List (bZ)) (a1 : ByteArray) : Option (Bool) := (bQ.f k l0).bind fun t612 => (if t612 = true then ((bR.f k a1).bind fun t613 => (if t613 = true then ((aW.f k l0 (wrap64 ((l0.length : Int) - 1)) a1).bind fun t614 => (some t614)) else (some false))) else (some false))
theorem kg.calls (k : Nat) (A0 : Option Addr) (c0 : Nat) (l0 : List (bZ)) (a1 : ByteArray) (r : Bool) (w : World) (hr0 : Kd.C je w A0 l0.length l0) (hc0 : l0.length ≤ c0) (h : kg.f k l0 a1 = some r) :
  Calls Tryz.prog 120 #[.slice A0 l0.length c0, .string a1] w fun e w' => e = .returned (.bool r) ∧ Below w.heap.size w w' := by
 have HR0 := ah.mk hr0
 have HC0 := ah.mk hc0
 clear hr0 hc0
 have HB := ah.mk (Below.refl w.heap.size w)
 unfold kg.f at h
 have H := h
 clear h
 replace H := be H; obtain ⟨t612, A3, H⟩ := H
 replace H := ah.mk H
 go_enter Tryz.func120, Tryz.ntmps120
 go_wp2_with (first | ((with_reducible refine ay (f := 168) rfl ?_); refine bq (some 6) Tryz.func168 #[.slice A0 l0.length c0] ?_; (with_reducible refine (bQ.calls k _ _ l0 _ _ ?side1 ?side2 A3.out).mono ?_); (case side1 => repeat (first | exact HR0.out | (with_reducible refine Kd.eG ?_ _) | (with_reducible refine Kd.eH ?_ _) | (with_reducible refine Kd.fP ?_))); (case side2 => exact HC0.out); rintro e w9000 ⟨rfl, hb⟩; refine ⟨_, rfl, ?_⟩; replace HB := BS (w := w) hb; (try clear hb); refine bP ?_))
 refine Hide.mk ?_
 replace H := H.out
 replace H := ifB H; rcases H with ⟨rfl, H⟩ | ⟨rfl, H⟩
 ·replace H := be H; obtain ⟨t613, A5, H⟩ := H
  replace H := ah.mk H
  go_wp2_with (first | (go_at_call 145; (with_reducible refine (bR.calls k a1 _ _ A5.out).mono ?_); rintro e w' ⟨rfl, ⟨nd, rfl⟩⟩; refine bP ?_))
  refine Hide.mk ?_
  replace H := H.out
  replace H := ifB H; rcases H with ⟨rfl, H⟩ | ⟨rfl, H⟩
  ·replace H := be H; obtain ⟨t614, A7, H⟩ := H
   obtain rfl := Option.some.inj H
   try go_wp2_with (first | (go_at_call 170; (with_reducible refine (aW.calls k _ _ l0 (wrap64 ((l0.length : Int) - 1)) a1 t614 _ ?side1 ?side2 A7.out).mono ?_); (case side1 => repeat (first | exact (Kd.gP HR0.out BL) | (with_reducible refine Kd.eG ?_ _) | (with_reducible refine Kd.eH ?_ _) | (with_reducible refine Kd.fP ?_))); (case side2 => exact HC0.out); rintro e w9001 ⟨rfl, hb⟩; replace HB := BS (w := w) hb; (try clear hb)))
   go_ret
   exact ⟨EWW, BL⟩
  ·obtain rfl := Option.some.inj H
   try go_wp2
   go_ret
   exact ⟨EWW, BL⟩
 ·obtain rfl := Option.some.inj H
  try go_wp2
  go_ret
  exact ⟨EWW, BL⟩
def d9.l0 : Nat → List ByteArray → List (bZ) → Int → Int → Option (List ByteArray)
 | 0, _, _, _, _ => none
 | k + 1, a, b, c, d => if d < c then (if 0 ≤ d then (if d < (b.length : Int) then (if ((aj b d).f0) = 1 then (if a.length < 8796093022208 then (d9.l0 k (a ++ [(aj b d).f1]) b c (wrap64 (d + 1))) else (none)) else (d9.l0 k a b c (wrap64 (d + 1)))) else (none)) else (none)) else (some a)
def d9.f (k : Nat) (l0 : List (bZ)) : Option (List ByteArray) := d9.l0 k ([] : List ByteArray) l0 (l0.length : Int) 0
theorem d9.calls (k : Nat) (A0 : Option Addr) (c0 : Nat) (l0 : List (bZ)) (r : List ByteArray) (w : World) (hr0 : Kd.C je w A0 l0.length l0) (hc0 : l0.length ≤ c0) (h : d9.f k l0 = some r) :
  Calls Tryz.prog 121 #[.slice A0 l0.length c0] w fun e w' => ∃ v0_ : Value, e = .returned (v0_) ∧ Kd.R Kd.string 9 w' w.heap.size (fun _ => True) v0_ r ∧ Below w.heap.size w w' := by
 have hu141 := Tryz.underlying141
 have HR0 := ah.mk hr0
 have HC0 := ah.mk hc0
 clear hr0 hc0
 have HB := ah.mk (Below.refl w.heap.size w)
 unfold d9.f at h
 have H := h
 clear h
 have H' := ah.mk H
 clear H
 go_enter Tryz.func121, Tryz.ntmps121
 go_wp2
 go_loopg [3, 8] k (fun kq v3 v8 w' => ∃ (x3_1 : List ByteArray) (x8_1 : Int), v8 = .int .i64 x8_1 ∧ ah (d9.l0 kq x3_1 l0 (l0.length : Int) x8_1 = some r) ∧ ah (kq ≤ k) ∧ ah (Kd.R Kd.string 9 w' w.heap.size (fun _ => True) v3 x3_1) ∧ ah (Below w.heap.size w w'))
 case atStart => exact ⟨(([] : List ByteArray)), (0), EQ, H', ⟨Nat.le_refl _⟩, ⟨by first | exact Kd.ni _ _ _ _ _ | exact Kd.pK _ _ _ _ _ | exact Kd.pY _ _ _ _ _ | exact Kd.pV _ _ _ _ _ | exact Kd.pI _ _ _ _ _⟩, ⟨BL⟩⟩
 case round =>
  clear H'
  obtain ⟨x3_1, x8_1, rfl, HA, HK1, HO_3, HB⟩ := hrel
  cases gk with
  | zero => exact absurd HA.out (by simp [d9.l0])
  | succ k1 =>
   have H := HA.out
   clear HA
   simp only [d9.l0] at H
   replace H := ifD H; rcases H with ⟨c2b0, H⟩ | ⟨c2b0, H⟩
   ·replace H := ifN H; obtain ⟨c3b0, H⟩ := H
    replace H := ifN H; obtain ⟨c4b0, H⟩ := H
    have p615 : 0 ≤ (x8_1 : Int) := OD
    have q615 : x8_1 < (l0.length : Int) := OD
    obtain ⟨ad615, e615, hx615_0, hx615_1, hx615_2, hx615_3⟩ := jh HR0.out x8_1 p615 q615
    cases e615
    try replace hx615_0 := (HB.out.cell (World.block_lt_of_cell? w _ hx615_0)).trans hx615_0
    try replace hx615_1 := (HB.out.cell (World.block_lt_of_cell? w _ hx615_1)).trans hx615_1
    try replace hx615_2 := (HB.out.cell (World.block_lt_of_cell? w _ hx615_2)).trans hx615_2
    try replace hx615_3 := (HB.out.cell (World.block_lt_of_cell? w _ hx615_3)).trans hx615_3
    replace p615 := eq_true p615
    replace q615 := eq_true q615
    replace H := ah.mk H
    go_wp2_with (first | ((with_reducible refine aN (N := 5) rfl ?_); refine bC (N := 5) (cs := #[.int .i64 0, .string (⟨#[]⟩ : ByteArray), .int .i64 0, .int .i64 0]) (t := 141) ?_; intro gb616 hg w7000 hbox hb; have n0_ := RB HO_3 hb; have n1_ := BS (w := w) hb; have n2_ := ah.mk (hbox); have n3_ := SZ (w := w) hg; have n4_ := SZ (w := w) hg; clear HO_3 HB; have HO_3 := n0_; have HB := n1_; have BK616 := n2_; have GW616 := n3_; have GE616 := n4_; clear n0_ n1_ n2_ n3_ n4_; clear hb hbox hg; obtain ⟨hcz7001_0, hcz7001_1, hcz7001_2, hcz7001_3, hfz7001_0, hfz7001_1, hfz7001_2, hfz7001_3⟩ := cz4 BK616.out; refine bP ?_))
    refine Hide.mk ?_
    replace H := H.out
    replace H := ifE H; rcases H with ⟨c5b0, c5b1, H⟩ | ⟨c5, c5b0, c5b1, H⟩
    ·replace H := ifP H; obtain ⟨c6, H⟩ := H
     have LMc6 := ah.mk c6
     clear c6
     obtain ⟨y617, hy617⟩ : ∃ y_ : List ByteArray, y_ = (x3_1 ++ [(aj l0 x8_1).f1]) := ⟨_, rfl⟩
     replace H : (d9.l0 k1 y617 l0 (l0.length : Int) (wrap64 (x8_1 + 1))) = some r := by first | (rw [hy617]; with_reducible exact H) | (have H2_ := (Option.bind_some _ _).symm.trans H; rw [hy617]; with_reducible exact H2_) | (have H2_ := (Option.bind_some _ _).symm.trans H; with_reducible exact H2_) | with_reducible exact H | (rw [hy617]; exact H) | exact H
     have Ny617 := ah.mk hy617
     clear hy617
     have H' := ah.mk H
     clear H
     try go_wp2_with (first | ((with_reducible refine dn (b := .append) (xs := #[.tmp 15, .tmp 18]) rfl ?_); at_builtin; refine Kd.fT Kd.string (w0 := w) w.heap.size rfl (.tmp 15) (.tmp 18) 26 9 (.string ⟨#[]⟩) 16 rfl Tryz.underlying26 qX rfl (by decide) (by omega) u3 x3_1 ((aj l0 x8_1).f1) [.string ((aj l0 x8_1).f1)] (fun _ => True) (fun _ => False) rfl (by first | (go_simp; done) | (go_simp; rfl)) ?aP (fun _ hk => hk.elim) ?aF ?aO ?aB ?aS ?aL ?_; (case aP => exact rfl); (case aB => exact BL); (case aF => exact (fun _ _ => trivial)); (case aO => exact (by (with_reducible repeat (first | apply Kd.gy | apply Kd.gu | apply Kd.fM)); exact Kd.eF (Kd.jH (p := ⟨gb616, 3, none⟩) (Kd.jH (p := ⟨gb616, 2, none⟩) (Kd.jH (p := ⟨gb616, 1, none⟩) (Kd.jH (p := ⟨gb616, 0, none⟩) (Kd.qp HO_3.out BK616.out (by decide)) (fun _ hk => hk.2) (.int .i64 ((aj l0 x8_1).f0))) (fun _ hk => hk.2) (.string ((aj l0 x8_1).f1))) (fun _ hk => hk.2) (.int .i64 ((aj l0 x8_1).f2))) (fun _ hk => hk.2) (.int .i64 ((aj l0 x8_1).f3))) (fun _ hk => trivial))); (case aS => exact (aQ BL)); (case aL => have := LMc6.out; omega); intro v618 w7002 ho hb hg hat; rw [← Ny617.out] at ho; have n0_ := ah.mk (dK (g := gb616) (o := .cells #[.int .i64 ((aj l0 x8_1).f0), .string ((aj l0 x8_1).f1), .int .i64 ((aj l0 x8_1).f2), .int .i64 ((aj l0 x8_1).f3)] 141 (0, 0)) (by (with_reducible repeat (first | refine aG ?_ _ | refine aI ?_ | refine aD ?_ _)); refine aX (cs := #[.int .i64 ((aj l0 x8_1).f0), .string ((aj l0 x8_1).f1), .int .i64 ((aj l0 x8_1).f2), .int .i64 0]) ?_ 3 _ rfl; (with_reducible repeat (first | refine aG ?_ _ | refine aI ?_ | refine aD ?_ _)); refine aX (cs := #[.int .i64 ((aj l0 x8_1).f0), .string ((aj l0 x8_1).f1), .int .i64 0, .int .i64 0]) ?_ 2 _ rfl; (with_reducible repeat (first | refine aG ?_ _ | refine aI ?_ | refine aD ?_ _)); refine aX (cs := #[.int .i64 ((aj l0 x8_1).f0), .string (⟨#[]⟩ : ByteArray), .int .i64 0, .int .i64 0]) ?_ 1 _ rfl; (with_reducible repeat (first | refine aG ?_ _ | refine aI ?_ | refine aD ?_ _)); refine aX (cs := #[.int .i64 0, .string (⟨#[]⟩ : ByteArray), .int .i64 0, .int .i64 0]) ?_ 0 _ rfl; (with_reducible repeat (first | refine aG ?_ _ | refine aI ?_ | refine aD ?_ _)); exact BK616.out) hg (Kd.lq HO_3.out BK616.out (by decide))); have n1_ := ah.mk (hb); have n2_ := ah.mk (ho); clear BK616 HB HO_3; have BK616 := n0_; have HB := n1_; have HO619 := n2_; clear n0_ n1_ n2_; clear ho hb hg hat))
     go_roundg k1
     case measure => have := HK1.out; omega
     case rel => exact ⟨(y617), (wrap64 (x8_1 + 1)), EQ, H', ⟨by have := HK1.out; omega⟩, ⟨(RR HO619)⟩, ⟨BL⟩⟩
    ·have H' := ah.mk H
     clear H
     try go_wp2
     go_roundg k1
     case measure => have := HK1.out; omega
     case rel => exact ⟨(x3_1), (wrap64 (x8_1 + 1)), EQ, H', ⟨by have := HK1.out; omega⟩, ⟨by (with_reducible repeat (first | apply Kd.gy | apply Kd.gu | apply Kd.fM)); exact Kd.eF (Kd.jH (p := ⟨gb616, 3, none⟩) (Kd.jH (p := ⟨gb616, 2, none⟩) (Kd.jH (p := ⟨gb616, 1, none⟩) (Kd.jH (p := ⟨gb616, 0, none⟩) (Kd.qp HO_3.out BK616.out (by decide)) (fun _ hk => hk.2) (.int .i64 ((aj l0 x8_1).f0))) (fun _ hk => hk.2) (.string ((aj l0 x8_1).f1))) (fun _ hk => hk.2) (.int .i64 ((aj l0 x8_1).f2))) (fun _ hk => hk.2) (.int .i64 ((aj l0 x8_1).f3))) (fun _ hk => trivial)⟩, ⟨BL⟩⟩
   ·obtain rfl := Option.some.inj H
    go_wp2
    go_ret
    exact ⟨_, EWW, (RR HO_3), BL⟩
def bA.l0 : Nat → List ByteArray → List ByteArray → Int → Int → Option (Bool)
 | 0, _, _, _, _ => none
 | k + 1, a, b, c, d => if d < c then (if 0 ≤ d then (if d < (a.length : Int) then (if d < (b.length : Int) then (if (dD ByteArray.empty a d).toList = (dD ByteArray.empty b d).toList then (bA.l0 k a b c (wrap64 (d + 1))) else (some false)) else (none)) else (none)) else (none)) else (some true)
def bA.f (k : Nat) (l0 l1 : List ByteArray) : Option (Bool) := if (l0.length : Int) = (l1.length : Int) then (bA.l0 k l0 l1 (l0.length : Int) 0) else (some false)
theorem bA.calls (k : Nat) (A0 : Option Addr) (c0 : Nat) (l0 : List ByteArray) (A1 : Option Addr) (c1 : Nat) (l1 : List ByteArray) (r : Bool) (w : World) (hr0 : Kd.C Kd.string w A0 l0.length l0) (hc0 : l0.length ≤ c0) (hr1 : Kd.C Kd.string w A1 l1.length l1) (hc1 : l1.length ≤ c1) (h : bA.f k l0 l1 = some r) :
  Calls Tryz.prog 122 #[.slice A0 l0.length c0, .slice A1 l1.length c1] w fun e w' => e = .returned (.bool r) ∧ aC w w' := by
 have HR0 := ah.mk hr0
 have HC0 := ah.mk hc0
 clear hr0 hc0
 have HR1 := ah.mk hr1
 have HC1 := ah.mk hc1
 clear hr1 hc1
 unfold bA.f at h
 have H := h
 clear h
 replace H := ah.mk H
 go_enter Tryz.func122, Tryz.ntmps122
 replace H := H.out
 by_cases c3 : (l0.length : Int) = (l1.length : Int)
 ·rw [if_pos c3] at H
  have c3b0 : ((l0.length : Int) == (l1.length : Int)) = true := beq_iff_eq.mpr c3
  have c3b1 : ((l0.length : Int) != (l1.length : Int)) = false := bne_eq_false_iff_eq.mpr c3
  have c3b2 : (l0.length == l1.length) = true := by first | simpa using c3 | (simp at c3 ⊢; omega)
  clear c3
  have H' := ah.mk H
  clear H
  go_wp2
  repeat (go_quiet (fail); try go_wp2)
  go_loopg [13] k (fun kq v13 w' => ∃ (x13_1 : Int), v13 = .int .i64 x13_1 ∧ ah (bA.l0 kq l0 l1 (l0.length : Int) x13_1 = some r) ∧ ah (kq ≤ k) ∧ aC w w')
  case atStart => exact ⟨(0), EQ, H', ⟨Nat.le_refl _⟩, by repeat (first | exact aC.refl _ | apply aC.step)⟩
  case round =>
   clear H'
   try clear c1
   try clear c3
   try clear c3b0
   try clear c3b1
   try clear c3b2
   obtain ⟨x13_1, rfl, HA, HK1, ⟨m1, rfl⟩⟩ := hrel
   cases gk with
   | zero => exact absurd HA.out (by simp [bA.l0])
   | succ k1 =>
    have H := HA.out
    clear HA
    simp only [bA.l0] at H
    replace H := ifD H; rcases H with ⟨c4b0, H⟩ | ⟨c4b0, H⟩
    ·replace H := ifN H; obtain ⟨c5b0, H⟩ := H
     replace H := ifN H; obtain ⟨c6b0, H⟩ := H
     replace H := ifN H; obtain ⟨c7b0, H⟩ := H
     have p620 : 0 ≤ (x13_1 : Int) := OD
     have q620 : x13_1 < (l0.length : Int) := OD
     obtain ⟨ad620, e620, hx620_0⟩ := Kd.gG HR0.out x13_1 p620 q620
     cases e620
     replace p620 := eq_true p620
     replace q620 := eq_true q620
     have p621 : 0 ≤ (x13_1 : Int) := OD
     have q621 : x13_1 < (l1.length : Int) := OD
     obtain ⟨ad621, e621, hx621_0⟩ := Kd.gG HR1.out x13_1 p621 q621
     cases e621
     replace p621 := eq_true p621
     replace q621 := eq_true q621
     replace H := ifE H; rcases H with ⟨c8b0, c8b1, H⟩ | ⟨c8, c8b0, c8b1, H⟩
     ·have H' := ah.mk H
      clear H
      go_wp2
      repeat (go_quiet (fail); try go_wp2)
      go_roundg k1
      case measure => have := HK1.out; omega
      case rel => exact ⟨(wrap64 (x13_1 + 1)), EQ, H', ⟨by have := HK1.out; omega⟩, by repeat (first | exact aC.refl _ | apply aC.step)⟩
     ·obtain rfl := Option.some.inj H
      go_wp2
      repeat (go_quiet (fail); try go_wp2)
      go_ret
      exact ⟨by first | rfl | (simp; done) | (simp [*]; done), by repeat (first | exact aC.refl _ | apply aC.step)⟩
    ·obtain rfl := Option.some.inj H
     go_wp2
     repeat (go_quiet (fail); try go_wp2)
     go_ret
     exact ⟨by first | rfl | (simp; done) | (simp [*]; done), by repeat (first | exact aC.refl _ | apply aC.step)⟩
 ·rw [if_neg c3] at H
  have c3b0 : ((l0.length : Int) == (l1.length : Int)) = false := beq_eq_false_iff_ne.mpr c3
  have c3b1 : ((l0.length : Int) != (l1.length : Int)) = true := bne_iff_ne.mpr c3
  have c3b2 : (l0.length == l1.length) = false := by first | simpa using c3 | (simp at c3 ⊢; omega)
  obtain rfl := Option.some.inj H
  go_wp2
  repeat (go_quiet (fail); try go_wp2)
  go_ret
  exact ⟨by first | rfl | (simp; done) | (simp [*]; done), by repeat (first | exact aC.refl _ | apply aC.step)⟩
def iQ.f (k : Nat) (EU : Int) (E8 : List (bZ)) (l1 : List (S84)) (a2 : ByteArray) : Option (Bool) := (jI.f k EU E8).bind fun t623 => (if t623 = true then ((iP.f k l1 a2 EU).bind fun t624 => (if t624 = true then ((kg.f k E8 a2).bind fun t625 => (some t625)) else (some false))) else (some false))
theorem iQ.calls (k : Nat) (EU : Int) (A0_1 : Option Addr) (c0_1 : Nat) (E8 : List (bZ)) (A1 : Option Addr) (c1 : Nat) (l1 : List (S84)) (a2 : ByteArray) (r : Bool) (w : World) (hr0_1 : Kd.C je w A0_1 E8.length E8) (hc0_1 : E8.length ≤ c0_1) (hr1 : Kd.C k84 w A1 l1.length l1) (hc1 : l1.length ≤ c1) (h : iQ.f k EU E8 l1 a2 = some r) :
  Calls Tryz.prog 172 #[.agg #[.int .i64 EU, .slice A0_1 E8.length c0_1], .slice A1 l1.length c1, .string a2] w fun e w' => e = .returned (.bool r) ∧ Below w.heap.size w w' := by
 have hu82 := Tryz.underlying82
 have HR0_1 := ah.mk hr0_1
 have HC0_1 := ah.mk hc0_1
 clear hr0_1 hc0_1
 have HR1 := ah.mk hr1
 have HC1 := ah.mk hc1
 clear hr1 hc1
 have HB := ah.mk (Below.refl w.heap.size w)
 unfold iQ.f at h
 have H := h
 clear h
 replace H := be H; obtain ⟨t623, A4, H⟩ := H
 replace H := ah.mk H
 go_enter Tryz.func172, Tryz.ntmps172
 go_wp2_with (first | ((with_reducible refine aN (N := 3) rfl ?_); refine bC (N := 3) (cs := #[.int .i64 EU, .slice A0_1 E8.length c0_1]) (t := 82) ?_; intro gb622 hg w9000 hbox hb; have BK622 := ah.mk hbox; have GW622 := SZ (w := w) hg; have GE622 := GW622; replace HB := BS (w := w) hb; clear hb hbox hg; obtain ⟨hcz9001_0, hcz9001_1, hfz9001_0, hfz9001_1⟩ := cz2 BK622.out) | ((with_reducible refine ay (f := 118) rfl ?_); refine bq (some 8) Tryz.func118 #[.agg #[.int .i64 EU, .slice A0_1 E8.length c0_1]] ?_; (with_reducible refine (jI.calls k EU _ _ E8 _ _ ?side1 ?side2 A4.out).mono ?_); (case side1 => exact CB HR0_1); (case side2 => exact HC0_1.out); rintro e w9002 ⟨rfl, hb⟩; refine ⟨_, rfl, ?_⟩; replace BK622 := KB BK622 hb; replace HB := BS (w := w) hb; (try clear hb); obtain ⟨hcz9003_0, hcz9003_1, hfz9003_0, hfz9003_1⟩ := cz2 BK622.out; refine bP ?_))
 refine Hide.mk ?_
 replace H := H.out
 replace H := ifB H; rcases H with ⟨rfl, H⟩ | ⟨rfl, H⟩
 ·replace H := be H; obtain ⟨t624, A6, H⟩ := H
  replace H := ah.mk H
  go_wp2_with (first | (go_at_call 119; (with_reducible refine (iP.calls k _ _ l1 a2 EU _ _ ?side1 ?side2 A6.out).mono ?_); (case side1 => exact CB HR1); (case side2 => exact HC1.out); rintro e w9004 ⟨rfl, hb⟩; replace BK622 := KB BK622 hb; replace HB := BS (w := w) hb; (try clear hb); obtain ⟨hcz9005_0, hcz9005_1, hfz9005_0, hfz9005_1⟩ := cz2 BK622.out; refine bP ?_))
  refine Hide.mk ?_
  replace H := H.out
  replace H := ifB H; rcases H with ⟨rfl, H⟩ | ⟨rfl, H⟩
  ·replace H := be H; obtain ⟨t625, A8, H⟩ := H
   obtain rfl := Option.some.inj H
   try go_wp2_with (first | (go_at_call 120; (with_reducible refine (kg.calls k _ _ E8 a2 t625 _ ?side1 ?side2 A8.out).mono ?_); (case side1 => exact CB HR0_1); (case side2 => exact HC0_1.out); rintro e w9006 ⟨rfl, hb⟩; replace BK622 := KB BK622 hb; replace HB := BS (w := w) hb; (try clear hb)))
   go_ret
   exact ⟨EWW, BL⟩
  ·obtain rfl := Option.some.inj H
   try go_wp2
   go_ret
   exact ⟨EWW, BL⟩
 ·obtain rfl := Option.some.inj H
  try go_wp2
  go_ret
  exact ⟨EWW, BL⟩
def iC.f (k : Nat) (EU : Int) (E8 : List (bZ)) (l1 : List (S84)) (l2 : List ByteArray) : Option (List ByteArray) := (fU.f k l2 (fun j s => iQ.f j EU E8 l1 s)).bind fun t => gF.f k t
theorem xU (P : Program) (fn : Fn) (first cap : Array Value) (w : World) : (Instr.makeFunc fn first cap).run P w = .ok (.func fn first cap) w := rfl
attribute [local go_sem] xU
theorem iC.closure (j : Nat) (EU : Int) (A0_1 : Option Addr) (c0_1 : Nat) (E8 : List (bZ)) (A1 : Option Addr) (c1 : Nat) (l1 : List (S84)) (s : ByteArray) (b : Bool) (W : World) (g0 g1 : Nat) (h0 : W.heap[g0]? = some (.cells #[.int .i64 EU, .slice A0_1 E8.length c0_1] 82 (0, 0))) (h1 : W.heap[g1]? = some (.cells #[.slice A1 l1.length c1] 36 (0, 0))) (hr0_1 : Kd.C je W A0_1 E8.length E8) (hc0_1 : E8.length ≤ c0_1) (hr1 : Kd.C k84 W A1 l1.length l1) (hc1 : l1.length ≤ c1) (h : iQ.f j EU E8 l1 s = some b) :
  Calls Tryz.prog 171 #[.string s, .pointer (some ⟨g0, 0, none⟩), .pointer (some ⟨g1, 0, none⟩)] W fun e w' => e = .returned (.bool b) ∧ Below W.heap.size W w' := by
 have hcz0_0 : W.cell? ⟨g0, 0, none⟩ = some (.int .i64 EU) := (av h0 0).trans rfl
 have hfz0_0 := eX h0 0
 have hcz0_1 : W.cell? ⟨g0, 1, none⟩ = some (.slice A0_1 E8.length c0_1) := (av h0 1).trans rfl
 have hfz0_1 := eX h0 1
 have hcz1_0 : W.cell? ⟨g1, 0, none⟩ = some (.slice A1 l1.length c1) := (av h1 0).trans rfl
 have hfz1_0 := eX h1 0
 go_enter Tryz.func171, Tryz.ntmps171
 go_wp2_with (first | ((with_reducible refine ay (f := 172) rfl ?_); refine oJ _ rfl rfl Tryz.func172 (by kernel_rfl) rfl #[.agg #[.int .i64 EU, .slice A0_1 E8.length c0_1], .slice A1 l1.length c1, .string s] rfl (by (try simp only [List.map_toArray, List.map_cons, List.map_nil]); first | done | rfl | (simp only [List.length_drop, List.length_take]; rfl)) ?_; refine (iQ.calls j EU _ _ E8 _ _ l1 s b _ hr0_1 hc0_1 hr1 hc1 h).mono ?_; rintro e w_ ⟨rfl, hb⟩; refine ⟨_, rfl, ?_⟩; skip))
 go_ret
 exact ⟨rfl, hb⟩
theorem iC.calls (k : Nat) (EU : Int) (A0_1 : Option Addr) (c0_1 : Nat) (E8 : List (bZ)) (A1 : Option Addr) (c1 : Nat) (l1 : List (S84)) (A2 : Option Addr) (c2 : Nat) (l2 r : List ByteArray) (w : World) (hr0_1 : Kd.C je w A0_1 E8.length E8) (hc0_1 : E8.length ≤ c0_1) (hr1 : Kd.C k84 w A1 l1.length l1) (hc1 : l1.length ≤ c1) (hr2 : Kd.C Kd.string w A2 l2.length l2) (hc2 : l2.length ≤ c2) (h : iC.f k EU E8 l1 l2 = some r) :
  Calls Tryz.prog 123 #[.agg #[.int .i64 EU, .slice A0_1 E8.length c0_1], .slice A1 l1.length c1, .slice A2 l2.length c2] w fun e w' => ∃ v0_ : Value, e = .returned (v0_) ∧ Kd.R Kd.string 9 w' w.heap.size (fun _ => True) v0_ r ∧ Below w.heap.size w w' := by
 have HR0 := ah.mk hr0_1
 have HC0 := ah.mk hc0_1
 have HR1 := ah.mk hr1
 have HC1 := ah.mk hc1
 have HR2 := ah.mk hr2
 have HC2 := ah.mk hc2
 have HB := ah.mk (Below.refl w.heap.size w)
 clear hr0_1 hc0_1 hr1 hc1 hr2 hc2
 unfold iC.f at h
 obtain ⟨t, h1, h2⟩ := Option.bind_eq_some_iff.mp h
 have H1 := ah.mk h1
 have H2 := ah.mk h2
 clear h h1 h2
 go_enter Tryz.func123, Tryz.ntmps123
 go_wp2_with (first | ((with_reducible refine aN (N := 3) rfl ?_); refine bC (N := 3) (cs := #[.int .i64 EU, .slice A0_1 E8.length c0_1]) (t := 82) ?_; intro gb3 hg w3 hbox hb; have n1_ := ah.mk (hbox); replace HB := BS (w := w) hb; have BK3 := n1_; clear n1_; clear hb hbox hg) | ((with_reducible refine aN (N := 4) rfl ?_); refine bC (N := 4) (cs := #[.slice A1 l1.length c1]) (t := 36) ?_; intro gb4 hg w4 hbox hb; have n0_ := BS (w := w) hb; have n1_ := ah.mk (hbox); have n2_ := KB BK3 hb; clear HB; have HB := n0_; have BK4 := n1_; clear n0_ n1_; clear BK3; have BK3 := n2_; clear n2_; clear hb hbox hg) | ((with_reducible refine ay (f := 108) rfl ?_); refine oJ _ rfl rfl Tryz.func108 (by kernel_rfl) rfl #[.slice A2 l2.length c2, .func (.func 171) #[] #[.pointer (some ⟨gb3, 0, none⟩), .pointer (some ⟨gb4, 0, none⟩)]] rfl (by (try simp only [List.map_toArray, List.map_cons, List.map_nil]); first | done | rfl | (simp only [List.length_drop, List.length_take]; rfl)) ?_; refine (fU.calls k _ _ l2 (fun j s => iQ.f j EU E8 l1 s) t _ (Kd.gP HR2.out BL) HC2.out H1.out 171 #[.pointer (some ⟨gb3, 0, none⟩), .pointer (some ⟨gb4, 0, none⟩)] (fun args w => qy Tryz.func171 (by kernel_rfl) rfl args w) (fun j s b W hb_ h_ => iC.closure j EU A0_1 c0_1 E8 A1 c1 l1 s b W gb3 gb4 (gW (g := gb3) (o := .cells #[.int .i64 EU, .slice A0_1 E8.length c0_1] 82 (0, 0)) BK hb_) (gW (g := gb4) (o := .cells #[.slice A1 l1.length c1] 36 (0, 0)) BK hb_) (Kd.gP HR0.out (jc BL hb_)) HC0.out (Kd.gP HR1.out (jc BL hb_)) HC1.out h_)).mono ?_; rintro e w_ ⟨v_, rfl, ho0, hb⟩; refine ⟨_, rfl, ?_⟩; have n0_ := ah.mk (Kd.cO ho0 (aQ BL)); replace HB := BS (w := w) hb; have HO1 := n0_; clear n0_ hb ho0; obtain ⟨Ao, co, eo⟩ := Kd.dH HO1.out; subst eo) | ((with_reducible refine ay (f := 116) rfl ?_); refine oJ _ rfl rfl Tryz.func116 (by kernel_rfl) rfl #[.slice Ao t.length co] rfl (by (try simp only [List.map_toArray, List.map_cons, List.map_nil]); first | done | rfl | (simp only [List.length_drop, List.length_take]; rfl)) ?_; refine (gF.calls k _ _ t r _ ((Kd.bN (RR HO1)).2.2) ((Kd.bN HO1.out).2.1) H2.out).mono ?_; rintro e w_ ⟨v_, rfl, ho0, hb⟩; refine ⟨_, rfl, ?_⟩; have n0_ := ah.mk (Kd.cO ho0 (aQ BL)); replace HB := BS (w := w) hb; clear HO1; have HO2 := n0_; clear n0_ hb ho0))
 go_ret
 exact ⟨_, rfl, (RR HO2), BL⟩
def jO.f (k : Nat) (EU : Int) (E8 : List (bZ)) (l1 : List (S84)) (l2 : List ByteArray) (a3 : ByteArray) : Option (Int) := (jI.f k EU E8).bind fun t627 => (if t627 = true then ((iP.f k l1 a3 EU).bind fun t628 => (if t628 = true then ((kg.f k E8 a3).bind fun t629 => (if t629 = true then ((d9.f k E8).bind fun t630 => ((bS.f k t630 a3).bind fun t633 => (if t633 = true then (some 4) else ((iC.f k EU E8 l1 l2).bind fun t634 => ((bA.f k t634 (([a3] : List ByteArray))).bind fun t640 => (if t640 = true then (some 0) else (some 5))))))) else (some 3))) else (some 2))) else (some 1))
theorem jO.calls (k : Nat) (EU : Int) (A0_1 : Option Addr) (c0_1 : Nat) (E8 : List (bZ)) (A1 : Option Addr) (c1 : Nat) (l1 : List (S84)) (A2 : Option Addr) (c2 : Nat) (l2 : List ByteArray) (a3 : ByteArray) (r : Int) (w : World) (hr0_1 : Kd.C je w A0_1 E8.length E8) (hc0_1 : E8.length ≤ c0_1) (hr1 : Kd.C k84 w A1 l1.length l1) (hc1 : l1.length ≤ c1) (hr2 : Kd.C Kd.string w A2 l2.length l2) (hc2 : l2.length ≤ c2) (h : jO.f k EU E8 l1 l2 a3 = some r) :
  Calls Tryz.prog 60 #[.agg #[.int .i64 EU, .slice A0_1 E8.length c0_1], .slice A1 l1.length c1, .slice A2 l2.length c2, .string a3] w fun e w' => e = .returned (.int .i64 r) ∧ Below w.heap.size w w' := by
 have hu82 := Tryz.underlying82
 have HR0_1 := ah.mk hr0_1
 have HC0_1 := ah.mk hc0_1
 clear hr0_1 hc0_1
 have HR1 := ah.mk hr1
 have HC1 := ah.mk hc1
 clear hr1 hc1
 have HR2 := ah.mk hr2
 have HC2 := ah.mk hc2
 clear hr2 hc2
 have HB := ah.mk (Below.refl w.heap.size w)
 unfold jO.f at h
 have H := h
 clear h
 replace H := be H; obtain ⟨t627, A5, H⟩ := H
 replace H := ah.mk H
 go_enter Tryz.func60, Tryz.ntmps60
 go_wp2_with (first | ((with_reducible refine aN (N := 4) rfl ?_); refine bC (N := 4) (cs := #[.int .i64 EU, .slice A0_1 E8.length c0_1]) (t := 82) ?_; intro gb626 hg w9000 hbox hb; have BK626 := ah.mk hbox; have GW626 := SZ (w := w) hg; have GE626 := GW626; replace HB := BS (w := w) hb; clear hb hbox hg; obtain ⟨hcz9001_0, hcz9001_1, hfz9001_0, hfz9001_1⟩ := cz2 BK626.out) | ((with_reducible refine ay (f := 118) rfl ?_); refine bq (some 11) Tryz.func118 #[.agg #[.int .i64 EU, .slice A0_1 E8.length c0_1]] ?_; (with_reducible refine (jI.calls k EU _ _ E8 _ _ ?side1 ?side2 A5.out).mono ?_); (case side1 => exact CB HR0_1); (case side2 => exact HC0_1.out); rintro e w9002 ⟨rfl, hb⟩; refine ⟨_, rfl, ?_⟩; replace BK626 := KB BK626 hb; replace HB := BS (w := w) hb; (try clear hb); obtain ⟨hcz9003_0, hcz9003_1, hfz9003_0, hfz9003_1⟩ := cz2 BK626.out; refine bP ?_))
 refine Hide.mk ?_
 replace H := H.out
 replace H := ifB H; rcases H with ⟨rfl, H⟩ | ⟨rfl, H⟩
 ·replace H := be H; obtain ⟨t628, A7, H⟩ := H
  replace H := ah.mk H
  go_wp2_with (first | ((with_reducible refine ay (f := 119) rfl ?_); refine bq (some 18) Tryz.func119 #[.slice A1 l1.length c1, .string a3, .int .i64 EU] ?_; (with_reducible refine (iP.calls k _ _ l1 a3 EU _ _ ?side1 ?side2 A7.out).mono ?_); (case side1 => exact CB HR1); (case side2 => exact HC1.out); rintro e w9004 ⟨rfl, hb⟩; refine ⟨_, rfl, ?_⟩; replace BK626 := KB BK626 hb; replace HB := BS (w := w) hb; (try clear hb); obtain ⟨hcz9005_0, hcz9005_1, hfz9005_0, hfz9005_1⟩ := cz2 BK626.out; refine bP ?_))
  refine Hide.mk ?_
  replace H := H.out
  replace H := ifB H; rcases H with ⟨rfl, H⟩ | ⟨rfl, H⟩
  ·replace H := be H; obtain ⟨t629, A9, H⟩ := H
   replace H := ah.mk H
   go_wp2_with (first | ((with_reducible refine ay (f := 120) rfl ?_); refine bq (some 24) Tryz.func120 #[.slice A0_1 E8.length c0_1, .string a3] ?_; (with_reducible refine (kg.calls k _ _ E8 a3 _ _ ?side1 ?side2 A9.out).mono ?_); (case side1 => exact CB HR0_1); (case side2 => exact HC0_1.out); rintro e w9006 ⟨rfl, hb⟩; refine ⟨_, rfl, ?_⟩; replace BK626 := KB BK626 hb; replace HB := BS (w := w) hb; (try clear hb); obtain ⟨hcz9007_0, hcz9007_1, hfz9007_0, hfz9007_1⟩ := cz2 BK626.out; refine bP ?_))
   refine Hide.mk ?_
   replace H := H.out
   replace H := ifB H; rcases H with ⟨rfl, H⟩ | ⟨rfl, H⟩
   ·replace H := be H; obtain ⟨t630, A11, H⟩ := H
    replace H := be H; obtain ⟨t633, A12, H⟩ := H
    replace H := ah.mk H
    go_wp2_with (first | ((with_reducible refine ay (f := 121) rfl ?_); refine bq (some 29) Tryz.func121 #[.slice A0_1 E8.length c0_1] ?_; (with_reducible refine (d9.calls k _ _ E8 t630 _ ?side1 ?side2 A11.out).mono ?_); (case side1 => exact CB HR0_1); (case side2 => exact HC0_1.out); rintro e w9008 ⟨v631, rfl, ho0, hb⟩; refine ⟨_, rfl, ?_⟩; have n0_ := ah.mk (Kd.cO ho0 (aQ BL)); replace BK626 := KB BK626 hb; replace HB := BS (w := w) hb; have HO632 := n0_; clear n0_; (try clear hb); (try clear ho0); obtain ⟨Ao9009, co9009, eo9009⟩ := Kd.dH HO632.out; subst eo9009) | ((with_reducible refine ay (f := 117) rfl ?_); refine bq (some 31) Tryz.func117 #[.slice Ao9009 t630.length co9009, .string a3] ?_; (with_reducible refine (bS.calls k _ _ t630 a3 _ _ ?side1 ?side2 A12.out).mono ?_); (case side1 => exact CR2 HO632); (case side2 => exact (Kd.bN HO632.out).2.1); rintro e w' ⟨rfl, ⟨nd, rfl⟩⟩; refine ⟨_, rfl, ?_⟩; obtain ⟨hcz9010_0, hcz9010_1, hfz9010_0, hfz9010_1⟩ := cz2 BK626.out; refine bP ?_))
    refine Hide.mk ?_
    replace H := H.out
    replace H := ifB H; rcases H with ⟨rfl, H⟩ | ⟨rfl, H⟩
    ·obtain rfl := Option.some.inj H
     try go_wp2
     go_ret
     exact ⟨EWW, BL⟩
    ·replace H := be H; obtain ⟨t634, A24, H⟩ := H
     obtain ⟨y637, hy637⟩ : ∃ y_ : List ByteArray, y_ = (([a3] : List ByteArray)) := ⟨_, rfl⟩
     replace H : ((bA.f k t634 y637).bind fun t640 => (if t640 = true then (some 0) else (some 5))) = some r := by first | (rw [hy637]; with_reducible exact H) | (have H2_ := (Option.bind_some _ _).symm.trans H; rw [hy637]; with_reducible exact H2_) | (have H2_ := (Option.bind_some _ _).symm.trans H; with_reducible exact H2_) | with_reducible exact H | (rw [hy637]; exact H) | exact H
     have Ny637 := ah.mk hy637
     clear hy637
     replace H := be H; obtain ⟨t640, A25, H⟩ := H
     replace H := ah.mk H
     go_wp2_with (first | ((with_reducible refine ay (f := 123) rfl ?_); refine bq (some 36) Tryz.func123 #[.agg #[.int .i64 EU, .slice A0_1 E8.length c0_1], .slice A1 l1.length c1, .slice A2 l2.length c2] ?_; (with_reducible refine (iC.calls k EU _ _ E8 _ _ l1 _ _ l2 t634 _ ?side1 ?side2 ?side3 ?side4 ?side5 ?side6 A24.out).mono ?_); (case side1 => repeat (first | exact (Kd.gP HR0_1.out BL) | (with_reducible refine Kd.eG ?_ _) | (with_reducible refine Kd.eH ?_ _) | (with_reducible refine Kd.fP ?_))); (case side2 => exact HC0_1.out); (case side3 => repeat (first | exact (Kd.gP HR1.out BL) | (with_reducible refine Kd.eG ?_ _) | (with_reducible refine Kd.eH ?_ _) | (with_reducible refine Kd.fP ?_))); (case side4 => exact HC1.out); (case side5 => repeat (first | exact (Kd.gP HR2.out BL) | (with_reducible refine Kd.eG ?_ _) | (with_reducible refine Kd.eH ?_ _) | (with_reducible refine Kd.fP ?_))); (case side6 => exact HC2.out); rintro e w9011 ⟨v635, rfl, ho0, hb⟩; refine ⟨_, rfl, ?_⟩; have n0_ := ah.mk (Kd.jB (RR HO632) (Kd.kK ho0) hb); have n1_ := ah.mk (Kd.cO (Kd.lG ho0 (Kd.oI (RR HO632))) (aQ BL)); replace BK626 := KB BK626 hb; replace HB := BS (w := w) hb; clear HO632; have HO632 := n0_; have HO636 := n1_; clear n0_ n1_; (try clear hb); (try clear ho0); refine bP ?_))
     refine Hide.mk ?_
     replace H := H.out
     replace H := ifB H; rcases H with ⟨rfl, H⟩ | ⟨rfl, H⟩
     ·obtain rfl := Option.some.inj H
      try go_wp2_with (first | ((with_reducible refine aN (N := 38) rfl ?_); refine Kd.oq Kd.string _ 9 ?hg (N := 38) ?hd (xs := ([a3] : List ByteArray)) (inner := [.string a3]) (ok := fun _ => True) (okp := fun _ => True) ?hr ?hp (fun _ hk => hk) trivial (Below.refl _ _) (Nat.le_refl _) (by simp) ?_; (case hd => rfl); (case hg => rfl); (case hr => first | (go_simp; done) | (go_simp; rfl)); (case hp => exact (gD.one (show Kd.M Kd.string _ _ _ a3 [.string a3] from rfl) (gD.none _ _))); intro v638 w9012 ho40 hb hg_ hnew_; clear hg_ hnew_; (first | rw [← Ny637.out] at ho40 | (simp only [Int.reduceToNat] at ho40; rw [← Ny637.out] at ho40)); have n0_ := ah.mk (Kd.jB (RR HO632) (Kd.kK ho40) hb); have n1_ := ah.mk (Kd.jB (RR HO636) (Kd.kK ho40) hb); have n2_ := ah.mk (Kd.cO (Kd.lG (Kd.lG ho40 (Kd.oI (RR HO632))) (Kd.oI (RR HO636))) (aQ BL)); replace BK626 := KB BK626 hb; replace HB := BS (w := w) hb; clear HO632 HO636; have HO632 := n0_; have HO636 := n1_; have HO639 := n2_; clear n0_ n1_ n2_; clear hb ho40; obtain ⟨Ao9013, co9013, eo9013⟩ := Kd.dH HO636.out; subst eo9013; obtain ⟨Ao9014, co9014, eo9014⟩ := Kd.dH HO639.out; subst eo9014) | ((with_reducible refine ay (f := 122) rfl ?_); refine bq (some 39) Tryz.func122 #[.slice Ao9013 t634.length co9013, .slice Ao9014 y637.length co9014] ?_; (with_reducible refine (bA.calls k _ _ t634 _ _ y637 _ _ ?side1 ?side2 ?side3 ?side4 A25.out).mono ?_); (case side1 => exact CR2 HO636); (case side2 => exact (Kd.bN HO636.out).2.1); (case side3 => exact CR2 HO639); (case side4 => exact (Kd.bN HO639.out).2.1); rintro e w' ⟨rfl, ⟨nd, rfl⟩⟩; refine ⟨_, rfl, ?_⟩))
      go_ret
      exact ⟨EWW, BL⟩
     ·obtain rfl := Option.some.inj H
      try go_wp2_with (first | ((with_reducible refine aN (N := 38) rfl ?_); refine Kd.oq Kd.string _ 9 ?hg (N := 38) ?hd (xs := ([a3] : List ByteArray)) (inner := [.string a3]) (ok := fun _ => True) (okp := fun _ => True) ?hr ?hp (fun _ hk => hk) trivial (Below.refl _ _) (Nat.le_refl _) (by simp) ?_; (case hd => rfl); (case hg => rfl); (case hr => first | (go_simp; done) | (go_simp; rfl)); (case hp => exact (gD.one (show Kd.M Kd.string _ _ _ a3 [.string a3] from rfl) (gD.none _ _))); intro v638 w9012 ho56 hb hg_ hnew_; clear hg_ hnew_; (first | rw [← Ny637.out] at ho56 | (simp only [Int.reduceToNat] at ho56; rw [← Ny637.out] at ho56)); have n0_ := ah.mk (Kd.jB (RR HO632) (Kd.kK ho56) hb); have n1_ := ah.mk (Kd.jB (RR HO636) (Kd.kK ho56) hb); have n2_ := ah.mk (Kd.cO (Kd.lG (Kd.lG ho56 (Kd.oI (RR HO632))) (Kd.oI (RR HO636))) (aQ BL)); replace BK626 := KB BK626 hb; replace HB := BS (w := w) hb; clear HO632 HO636; have HO632 := n0_; have HO636 := n1_; have HO639 := n2_; clear n0_ n1_ n2_; clear hb ho56; obtain ⟨Ao9013, co9013, eo9013⟩ := Kd.dH HO636.out; subst eo9013; obtain ⟨Ao9014, co9014, eo9014⟩ := Kd.dH HO639.out; subst eo9014) | ((with_reducible refine ay (f := 122) rfl ?_); refine bq (some 39) Tryz.func122 #[.slice Ao9013 t634.length co9013, .slice Ao9014 y637.length co9014] ?_; (with_reducible refine (bA.calls k _ _ t634 _ _ y637 _ _ ?side1 ?side2 ?side3 ?side4 A25.out).mono ?_); (case side1 => exact CR2 HO636); (case side2 => exact (Kd.bN HO636.out).2.1); (case side3 => exact CR2 HO639); (case side4 => exact (Kd.bN HO639.out).2.1); rintro e w' ⟨rfl, ⟨nd, rfl⟩⟩; refine ⟨_, rfl, ?_⟩))
      go_ret
      exact ⟨EWW, BL⟩
   ·obtain rfl := Option.some.inj H
    try go_wp2
    go_ret
    exact ⟨EWW, BL⟩
  ·obtain rfl := Option.some.inj H
   try go_wp2
   go_ret
   exact ⟨EWW, BL⟩
 ·obtain rfl := Option.some.inj H
  try go_wp2
  go_ret
  exact ⟨EWW, BL⟩
mutual
def bf.l0 : Nat → List (S82) → List (S84) → List ByteArray → List ByteArray → List ByteArray → Int → Int → Option (Int)
 | 0, _, _, _, _, _, _, _ => none
 | k + 1, a, b, c, d, e, f, g => if g < f then (if 0 ≤ g then (if g < (e.length : Int) then ((jZ.f k c (dD ByteArray.empty e g)).bind fun h => (if h = true then (bf.l0 k a b c d e f (wrap64 (g + 1))) else (some 5))) else (none)) else (none)) else (bf.l1 k b c d a (a.length : Int) 0)
def bf.l1 : Nat → List (S84) → List ByteArray → List ByteArray → List (S82) → Int → Int → Option (Int)
 | 0, _, _, _, _, _, _ => none
 | k + 1, a, b, c, d, e, f => if f < e then (if 0 ≤ f then (if f < (d.length : Int) then (if f < (c.length : Int) then ((jO.f k ((dW d f).f0) ((dW d f).f1) a b (dD ByteArray.empty c f)).bind fun g => (if g = 0 then (bf.l1 k a b c d e (wrap64 (f + 1))) else (some 6))) else (none)) else (none)) else (none)) else (some 0)
end
def bf.f (k : Nat) (EU EW : Int) (EX a1 : ByteArray) (l2 : List (S82)) (l3 : List (S84)) (l4 : List ByteArray) : Option (Int) := (kS.f k EU EW EX a1).bind fun t642 => ((dw.f k EU EW EX).bind fun t645 => (if t645 = 0 then ((kQ.f k EU EW EX a1).bind fun t646 => (if t646 = true then (if (l2.length : Int) = (t642.length : Int) then ((jy.f k t642).bind fun t647 => (if t647 = 0 then (bf.l0 k l2 l3 l4 t642 t642 (t642.length : Int) 0) else (some 4))) else (some 3)) else (some 2))) else (some 1)))
def bf.T19 : Bool × List (List Nat × List Nat) := (true, [([], []), ([], []), ([], []), ([], []), ([], []), ([3, 4], [3, 4]), ([5], [5]), ([0, 1, 2, 6], [0, 1, 2, 6]), ([7], [7])])
def bf.B19 : List Nat := [0, 0, 0, 0, 0, 24, 56, 127, 255]
theorem bf.EH : kD .any (opsOf Tryz.f18 19) = bf.T19 := by kernel_rfl
theorem bf.D8 : iZ bf.T19.2 bf.B19 = true := by kernel_rfl
theorem bf.calls (k : Nat) (EU EW : Int) (EX a1 : ByteArray) (A2 : Option Addr) (c2 : Nat) (l2 : List (S82)) (A3 : Option Addr) (c3 : Nat) (l3 : List (S84)) (A4 : Option Addr) (c4 : Nat) (l4 : List ByteArray) (r : Int) (w : World) (hr2 : Kd.C k82 w A2 l2.length l2) (hc2 : l2.length ≤ c2) (hr3 : Kd.C k84 w A3 l3.length l3) (hc3 : l3.length ≤ c3) (hr4 : Kd.C Kd.string w A4 l4.length l4) (hc4 : l4.length ≤ c4) (h : bf.f k EU EW EX a1 l2 l3 l4 = some r) :
  Calls Tryz.prog 18 #[.agg #[.int .i64 EU, .int .i64 EW, .string EX], .string a1, .slice A2 l2.length c2, .slice A3 l3.length c3, .slice A4 l4.length c4] w fun e w' => e = .returned (.int .i64 r) ∧ Below w.heap.size w w' := by
 have hu32 := Tryz.underlying32
 have hu82 := Tryz.underlying82
 have HR2 := ah.mk hr2
 have HC2 := ah.mk hc2
 clear hr2 hc2
 have HR3 := ah.mk hr3
 have HC3 := ah.mk hc3
 clear hr3 hc3
 have HR4 := ah.mk hr4
 have HC4 := ah.mk hc4
 clear hr4 hc4
 have HB := ah.mk (Below.refl w.heap.size w)
 unfold bf.f at h
 have H := h
 clear h
 replace H := be H; obtain ⟨t642, A6, H⟩ := H
 replace H := be H; obtain ⟨t645, A7, H⟩ := H
 replace H := ah.mk H
 go_enter Tryz.func18, Tryz.ntmps18
 go_wp2_with (first | ((with_reducible refine aN (N := 5) rfl ?_); refine bC (N := 5) (cs := #[.int .i64 EU, .int .i64 EW, .string EX]) (t := 32) ?_; intro gb641 hg w9000 hbox hb; have BK641 := ah.mk hbox; have GW641 := SZ (w := w) hg; have GE641 := GW641; replace HB := BS (w := w) hb; clear hb hbox hg; obtain ⟨hcz9001_0, hcz9001_1, hcz9001_2, hfz9001_0, hfz9001_1, hfz9001_2⟩ := cz3 BK641.out) | ((with_reducible refine ay (f := 55) rfl ?_); refine bq (some 18) Tryz.func55 #[.agg #[.int .i64 EU, .int .i64 EW, .string EX], .string a1] ?_; (with_reducible refine (kS.calls k EU EW EX a1 t642 _ A6.out).mono ?_); rintro e w9002 ⟨v643, rfl, ho0, hb⟩; refine ⟨_, rfl, ?_⟩; have n0_ := ah.mk (Kd.cO ho0 (aQ BL)); replace BK641 := KB BK641 hb; replace HB := BS (w := w) hb; have HO644 := n0_; clear n0_; (try clear hb); (try clear ho0); obtain ⟨hcz9003_0, hcz9003_1, hcz9003_2, hfz9003_0, hfz9003_1, hfz9003_2⟩ := cz3 BK641.out) | ((with_reducible refine ay (f := 56) rfl ?_); refine bq (some 21) Tryz.func56 #[.agg #[.int .i64 EU, .int .i64 EW, .string EX]] ?_; (with_reducible refine (dw.calls k EU EW EX t645 _ A7.out).mono ?_); rintro e w9004 ⟨rfl, hb⟩; refine ⟨_, rfl, ?_⟩; replace HO644 := RB HO644 hb; replace BK641 := KB BK641 hb; replace HB := BS (w := w) hb; (try clear hb); obtain ⟨hcz9005_0, hcz9005_1, hcz9005_2, hfz9005_0, hfz9005_1, hfz9005_2⟩ := cz3 BK641.out; refine bP ?_))
 refine Hide.mk ?_
 replace H := H.out
 replace H := ifE H; rcases H with ⟨c8b0, c8b1, H⟩ | ⟨c8, c8b0, c8b1, H⟩
 ·replace H := be H; obtain ⟨t646, A9, H⟩ := H
  replace H := ah.mk H
  go_wp2_with (first | ((with_reducible refine ay (f := 57) rfl ?_); refine bq (some 26) Tryz.func57 #[.agg #[.int .i64 EU, .int .i64 EW, .string EX], .string a1] ?_; (with_reducible refine (kQ.calls k EU EW EX a1 _ _ A9.out).mono ?_); rintro e w9006 ⟨rfl, hb⟩; refine ⟨_, rfl, ?_⟩; replace HO644 := RB HO644 hb; replace BK641 := KB BK641 hb; replace HB := BS (w := w) hb; (try clear hb); refine bP ?_))
  refine Hide.mk ?_
  replace H := H.out
  replace H := ifB H; rcases H with ⟨rfl, H⟩ | ⟨rfl, H⟩
  ·replace H := ah.mk H
   obtain ⟨Ao9007, co9007, eo9007⟩ := Kd.dH HO644.out
   subst eo9007
   replace H := H.out
   by_cases c11 : (l2.length : Int) = (t642.length : Int)
   ·rw [if_pos c11] at H
    have c11b0 : ((l2.length : Int) == (t642.length : Int)) = true := beq_iff_eq.mpr c11
    have c11b1 : ((l2.length : Int) != (t642.length : Int)) = false := bne_eq_false_iff_eq.mpr c11
    have c11b2 : (l2.length == t642.length) = true := by first | simpa using c11 | (simp at c11 ⊢; omega)
    clear c11
    replace H := be H; obtain ⟨t647, A12, H⟩ := H
    replace H := ah.mk H
    go_wp2_with (first | ((with_reducible refine ay (f := 58) rfl ?_); refine bq (some 36) Tryz.func58 #[.slice Ao9007 t642.length co9007] ?_; (with_reducible refine (jy.calls k _ _ t642 t647 _ ?side1 ?side2 A12.out).mono ?_); (case side1 => exact CR2 HO644); (case side2 => exact (Kd.bN HO644.out).2.1); rintro e w9008 ⟨rfl, hb⟩; refine ⟨_, rfl, ?_⟩; replace HO644 := RB HO644 hb; replace BK641 := KB BK641 hb; replace HB := BS (w := w) hb; (try clear hb); refine bP ?_))
    refine Hide.mk ?_
    replace H := H.out
    replace H := ifE H; rcases H with ⟨c13b0, c13b1, H⟩ | ⟨c13, c13b0, c13b1, H⟩
    ·have H' := ah.mk H
     clear H
     try go_wp2
     go_loopg [40] k (fun kq v40 w' => ∃ (x40_1 : Int), v40 = .int .i64 x40_1 ∧ ah (bf.l0 kq l2 l3 l4 t642 t642 (t642.length : Int) x40_1 = some r) ∧ ah (kq ≤ k) ∧ ah (Kd.R Kd.string 9 w' w.heap.size (fun _ => True) (.slice Ao9007 t642.length co9007) t642) ∧ ah (Kd.R Kd.string 9 w' w.heap.size (fun _ => True) (.slice Ao9007 t642.length co9007) t642) ∧ ah (w'.heap[gb641]? = some (.cells #[.int .i64 EU, .int .i64 EW, .string EX] 32 (0, 0))) ∧ ah (Below w.heap.size w w'))
     case atStart => exact ⟨(0), EQ, H', ⟨Nat.le_refl _⟩, ⟨(RR HO644)⟩, ⟨(RR HO644)⟩, ⟨BK⟩, ⟨BL⟩⟩
     case round =>
      clear H'
      try clear c2
      try clear c3
      try clear c4
      try clear c8
      try clear c8b0
      try clear c8b1
      try clear c10
      try clear c11
      try clear c11b0
      try clear c11b1
      try clear c11b2
      try clear c13
      try clear c13b0
      try clear c13b1
      try clear hcz9001_0
      try clear hcz9001_1
      try clear hcz9001_2
      try clear hcz9003_0
      try clear hcz9003_1
      try clear hcz9003_2
      try clear hcz9005_0
      try clear hcz9005_1
      try clear hcz9005_2
      try clear hfz9001_0
      try clear hfz9001_1
      try clear hfz9001_2
      try clear hfz9003_0
      try clear hfz9003_1
      try clear hfz9003_2
      try clear hfz9005_0
      try clear hfz9005_1
      try clear hfz9005_2
      obtain ⟨x40_1, rfl, HA, HK1, HO_11, HO_38, BK641, HB⟩ := hrel
      cases gk with
      | zero => exact absurd HA.out (by simp [bf.l0])
      | succ k1 =>
       have H := HA.out
       clear HA
       simp only [bf.l0] at H
       replace H := ifD H; rcases H with ⟨c23b0, H⟩ | ⟨c23b0, H⟩
       ·replace H := ifN H; obtain ⟨c24b0, H⟩ := H
        replace H := ifN H; obtain ⟨c25b0, H⟩ := H
        replace H := be H; obtain ⟨t649, A26, H⟩ := H
        have p648 : 0 ≤ (x40_1 : Int) := OD
        have q648 : x40_1 < (t642.length : Int) := OD
        obtain ⟨ad648, e648, hx648_0⟩ := Kd.gG (Kd.bN HO_38.out).2.2 x40_1 p648 q648
        cases e648
        replace p648 := eq_true p648
        replace q648 := eq_true q648
        replace H := ah.mk H
        go_wp2_with (first | ((with_reducible refine ay (f := 59) rfl ?_); refine bq (some 46) Tryz.func59 #[.slice A4 l4.length c4, .string (dD ByteArray.empty t642 x40_1)] ?_; (with_reducible refine (jZ.calls k1 _ _ l4 (dD ByteArray.empty t642 x40_1) _ _ ?side1 ?side2 A26.out).mono ?_); (case side1 => exact CB HR4); (case side2 => exact HC4.out); rintro e w' ⟨rfl, ⟨nd, rfl⟩⟩; refine ⟨_, rfl, ?_⟩; refine bP ?_))
        refine Hide.mk ?_
        replace H := H.out
        replace H := ifB H; rcases H with ⟨rfl, H⟩ | ⟨rfl, H⟩
        ·have H' := ah.mk H
         clear H
         try go_wp2
         go_roundg k1
         case measure => have := HK1.out; omega
         case rel => exact ⟨(wrap64 (x40_1 + 1)), EQ, H', ⟨by have := HK1.out; omega⟩, ⟨(RR HO_11)⟩, ⟨(RR HO_38)⟩, ⟨BK⟩, ⟨BL⟩⟩
        ·obtain rfl := Option.some.inj H
         try go_wp2
         go_ret
         exact ⟨EWW, BL⟩
       ·have H' := ah.mk H
        clear H
        go_wp2
        go_loopg [51] k1 (fun kq v51 w' => ∃ (x51_2 : Int), v51 = .int .i64 x51_2 ∧ ah (bf.l1 kq l3 l4 t642 l2 (l2.length : Int) x51_2 = some r) ∧ ah (kq ≤ k1) ∧ ah (Kd.R Kd.string 9 w' w.heap.size (fun _ => True) (.slice Ao9007 t642.length co9007) t642) ∧ ah (w'.heap[gb641]? = some (.cells #[.int .i64 EU, .int .i64 EW, .string EX] 32 (0, 0))) ∧ ah (Below w.heap.size w w'))
        case atStart => exact ⟨(0), EQ, H', ⟨Nat.le_refl _⟩, ⟨(RR HO_11)⟩, ⟨BK⟩, ⟨BL⟩⟩
        case round =>
         clear H'
         try clear c2
         try clear c3
         try clear c4
         try clear c8
         try clear c8b0
         try clear c8b1
         try clear c10
         try clear c11
         try clear c11b0
         try clear c11b1
         try clear c11b2
         try clear c13
         try clear c13b0
         try clear c13b1
         try clear c23
         try clear c23b0
         try clear hcz9001_0
         try clear hcz9001_1
         try clear hcz9001_2
         try clear hcz9003_0
         try clear hcz9003_1
         try clear hcz9003_2
         try clear hcz9005_0
         try clear hcz9005_1
         try clear hcz9005_2
         try clear hfz9001_0
         try clear hfz9001_1
         try clear hfz9001_2
         try clear hfz9003_0
         try clear hfz9003_1
         try clear hfz9003_2
         try clear hfz9005_0
         try clear hfz9005_1
         try clear hfz9005_2
         obtain ⟨x51_2, rfl, HA, HK2, HO_11, BK641, HB⟩ := hrel
         cases gk with
         | zero => exact absurd HA.out (by simp [bf.l1])
         | succ k2 =>
          have H := HA.out
          clear HA
          simp only [bf.l1] at H
          replace H := ifD H; rcases H with ⟨c28b0, H⟩ | ⟨c28b0, H⟩
          ·replace H := ifN H; obtain ⟨c29b0, H⟩ := H
           replace H := ifN H; obtain ⟨c30b0, H⟩ := H
           replace H := ifN H; obtain ⟨c31b0, H⟩ := H
           replace H := be H; obtain ⟨t653, A32, H⟩ := H
           have p650 : 0 ≤ (x51_2 : Int) := OD
           have q650 : x51_2 < (l2.length : Int) := OD
           obtain ⟨ad650, A650_1, c650_1, e650, hx650_0, hx650_1, hl650_1, hi650_1⟩ := xR HR2.out x51_2 p650 q650
           cases e650
           try replace hx650_0 := (HB.out.cell (World.block_lt_of_cell? w _ hx650_0)).trans hx650_0
           try replace hx650_1 := (HB.out.cell (World.block_lt_of_cell? w _ hx650_1)).trans hx650_1
           have HR650_1 := ah.mk hi650_1
           have HC650_1 := ah.mk hl650_1
           clear hi650_1 hl650_1
           replace p650 := eq_true p650
           replace q650 := eq_true q650
           replace H := ah.mk H
           try go_wp2_with (first | ((with_reducible refine aN (N := 15) rfl ?_); refine bC (N := 15) (cs := #[.int .i64 0, .slice none 0 0]) (t := 82) ?_; intro gb651 hg w9009 hbox hb; have n0_ := RB HO_11 hb; have n1_ := KB BK641 hb; have n2_ := BS (w := w) hb; have n3_ := ah.mk (hbox); have n4_ := SZ (w := w) hg; have n5_ := SZ (w := w) hg; have n6_ := NL BK641 hg; have n7_ := NG BK641 hg; clear HO_11 BK641 HB; have HO_11 := n0_; have BK641 := n1_; have HB := n2_; have BK651 := n3_; have GW651 := n4_; have GE651 := n5_; have NB641_651 := n6_; have NB651_641 := n7_; clear n0_ n1_ n2_ n3_ n4_ n5_ n6_ n7_; clear hb hbox hg; have hnb9010 := NB651_641.out; have hnc9010 := NB641_651.out; obtain ⟨hcz9011_0, hcz9011_1, hfz9011_0, hfz9011_1⟩ := cz2 BK651.out))
           have n0_ : ah (Kd.R Kd.string 9 ((w9009.setCell ⟨gb651, 0, none⟩ (.int .i64 ((dW l2 x51_2).f0))).setCell ⟨gb651, 1, none⟩ (.slice A650_1 ((dW l2 x51_2).f1).length c650_1)) w.heap.size (fun _ => True) (.slice Ao9007 t642.length co9007) t642) := ⟨by (with_reducible repeat (first | apply Kd.gy | apply Kd.gu | apply Kd.fM)); exact Kd.eF (Kd.jH (p := ⟨gb651, 1, none⟩) (Kd.jH (p := ⟨gb651, 0, none⟩) (Kd.qp HO_11.out BK651.out (by decide)) (fun _ hk => hk.2) (.int .i64 ((dW l2 x51_2).f0))) (fun _ hk => hk.2) (.slice A650_1 ((dW l2 x51_2).f1).length c650_1)) (fun _ hk => trivial)⟩
           have n1_ : ah (((w9009.setCell ⟨gb651, 0, none⟩ (.int .i64 ((dW l2 x51_2).f0))).setCell ⟨gb651, 1, none⟩ (.slice A650_1 ((dW l2 x51_2).f1).length c650_1)).heap[gb641]? = some (.cells #[.int .i64 EU, .int .i64 EW, .string EX] 32 (0, 0))) := ⟨by (with_reducible repeat (first | refine aG ?_ _ | refine aI ?_ | refine aD ?_ _)); refine fI ?_ NB641_651.out _; (with_reducible repeat (first | refine aG ?_ _ | refine aI ?_ | refine aD ?_ _)); refine fI ?_ NB641_651.out _; (with_reducible repeat (first | refine aG ?_ _ | refine aI ?_ | refine aD ?_ _)); exact BK641.out⟩
           have n2_ : ah (((w9009.setCell ⟨gb651, 0, none⟩ (.int .i64 ((dW l2 x51_2).f0))).setCell ⟨gb651, 1, none⟩ (.slice A650_1 ((dW l2 x51_2).f1).length c650_1)).heap[gb651]? = some (.cells #[.int .i64 ((dW l2 x51_2).f0), .slice A650_1 ((dW l2 x51_2).f1).length c650_1] 82 (0, 0))) := ⟨by (with_reducible repeat (first | refine aG ?_ _ | refine aI ?_ | refine aD ?_ _)); refine aX (cs := #[.int .i64 ((dW l2 x51_2).f0), .slice none 0 0]) ?_ 1 _ rfl; (with_reducible repeat (first | refine aG ?_ _ | refine aI ?_ | refine aD ?_ _)); refine aX (cs := #[.int .i64 0, .slice none 0 0]) ?_ 0 _ rfl; (with_reducible repeat (first | refine aG ?_ _ | refine aI ?_ | refine aD ?_ _)); exact BK651.out⟩
           have n3_ : ah (Below w.heap.size w ((w9009.setCell ⟨gb651, 0, none⟩ (.int .i64 ((dW l2 x51_2).f0))).setCell ⟨gb651, 1, none⟩ (.slice A650_1 ((dW l2 x51_2).f1).length c650_1))) := ⟨BL⟩
           (try clear HO_11)
           (try clear BK641)
           (try clear BK651)
           (try clear HB)
           generalize ((w9009.setCell ⟨gb651, 0, none⟩ (.int .i64 ((dW l2 x51_2).f0))).setCell ⟨gb651, 1, none⟩ (.slice A650_1 ((dW l2 x51_2).f1).length c650_1)) = w9012 at n0_ n1_ n2_ n3_ ⊢
           have HO_11 := n0_
           have BK641 := n1_
           have BK651 := n2_
           have HB := n3_
           clear n0_ n1_ n2_ n3_
           replace HO_11 := ah.mk (Kd.fM HO_11.out)
           replace BK641 := ah.mk (aI BK641.out)
           replace BK651 := ah.mk (aI BK651.out)
           replace HB := ah.mk (dL HB.out)
           have p652 : 0 ≤ (x51_2 : Int) := OD
           have q652 : x51_2 < (t642.length : Int) := OD
           obtain ⟨ad652, e652, hx652_0⟩ := Kd.gG (Kd.bN HO_11.out).2.2 x51_2 p652 q652
           cases e652
           replace p652 := eq_true p652
           replace q652 := eq_true q652
           refine ji (n := 9) (S := fun w' => w'.cell? ⟨gb651, 0, none⟩ = some (.int .i64 ((dW l2 x51_2).f0)) ∧ w'.cell? ⟨gb651, 1, none⟩ = some (.slice A650_1 ((dW l2 x51_2).f1).length c650_1) ∧ w'.cell? (ad652.add (x51_2).toNat) = some (.string (dD ByteArray.empty t642 x51_2))) (ds := []) #[F,F,F,F,F,F,F,F,F] (by kernel_rfl) rfl rfl ⟨(av BK651.out 0).trans rfl, (av BK651.out 1).trans rfl, hx652_0⟩ (fun hHeld => ?_); refine gT bf.EH bf.D8 (fun HT_ HW_ => ?_)
           generalize w9012.drew = w9013 at HO_11 BK641 BK651 HB hx652_0 hHeld ⊢
           refine puS (i := 1) (N := some 57) #[F,T,F,F,F,F,F,F,F] (aJ HT_.out (by kernel_rfl)) ?_
           refine puS (i := 2) (N := some 58) #[F,T,T,F,F,F,F,F,F] (aJ HT_.out (by kernel_rfl)) ?_
           refine puS (i := 3) (N := some 59) #[F,T,T,T,F,F,F,F,F] (aJ HT_.out (by kernel_rfl)) ?_
           refine puS (i := 4) (N := some 60) #[F,T,T,T,T,F,F,F,F] (aJ HT_.out (by kernel_rfl)) ?_
           refine puS (i := 5) (N := some 61) #[F,T,T,T,T,T,F,F,F] (aJ HT_.out (by kernel_rfl)) ?_
           refine taS (i := 0) (N := some 56) #[T,T,T,T,T,T,F,F,F] (dJ HT_.out HW_.out (by kernel_rfl)) hHeld ?_
           refine taS (i := 6) (N := some 62) #[T,T,T,T,T,T,T,F,F] (dJ HT_.out HW_.out (by kernel_rfl)) hHeld ?_
           refine kH (i := 7) (N := some 63) #[T,T,T,T,T,T,T,T,F] rfl rfl (iO HT_.out (by kernel_rfl)) (by decide) (fun K hK => ?_)
           refine iU Tryz.func60 #[.agg #[.int .i64 ((dW l2 x51_2).f0), .slice A650_1 ((dW l2 x51_2).f1).length c650_1], .slice A3 l3.length c3, .slice A4 l4.length c4, .string (dD ByteArray.empty t642 x51_2)] ?_
           with_reducible refine (jO.calls k2 ((dW l2 x51_2).f0) _ _ ((dW l2 x51_2).f1) _ _ l3 _ _ l4 (dD ByteArray.empty t642 x51_2) t653 _ ?side1 ?side2 ?side3 ?side4 ?side5 ?side6 A32.out).mono ?_
           (case side1 => exact CB HR650_1)
           (case side2 => exact HC650_1.out)
           (case side3 => exact CB HR3)
           (case side4 => exact HC3.out)
           (case side5 => exact CB HR4)
           (case side6 => exact HC4.out)
           rintro e w9014 ⟨rfl, hb⟩
           have HS2_ := (hb.cell (World.block_lt_of_cell? _ _ (hHeld.2.2))).trans (hHeld.2.2)
           refine ⟨_, rfl, ?_⟩
           replace HO_11 := RB HO_11 hb
           replace BK641 := KB BK641 hb
           replace BK651 := KB BK651 hb
           replace HB := BS (w := w) hb
           (try clear hb)
           refine hK.out _ _ ⟨(av BK651.out 0).trans rfl, (av BK651.out 1).trans rfl, HS2_⟩ (fun hHeld => ?_)
           clear hK K
           refine nrm (some 63) ?_
           replace H := H.out
           replace H := ifE H; rcases H with ⟨c33b0, c33b1, H⟩ | ⟨c33, c33b0, c33b1, H⟩
           ·have H' := ah.mk H
            clear H
            refine puS (i := 8) (N := some 64) #[T,T,T,T,T,T,T,T,T] (aJ HT_.out (by kernel_rfl)) ?_
            refine gX (fH HT_.out (by kernel_rfl)) ?_
            try go_wp2
            go_roundg k2
            case measure => have := HK1.out; have := HK2.out; omega
            case rel => exact ⟨(wrap64 (x51_2 + 1)), EQ, H', ⟨by have := HK1.out; have := HK2.out; omega⟩, ⟨(RR HO_11)⟩, ⟨BK⟩, ⟨BL⟩⟩
           ·obtain rfl := Option.some.inj H
            refine puS (i := 8) (N := some 64) #[T,T,T,T,T,T,T,T,T] (aJ HT_.out (by kernel_rfl)) ?_
            refine gX (fH HT_.out (by kernel_rfl)) ?_
            try go_wp2
            go_ret
            exact ⟨EWW, BL⟩
          ·obtain rfl := Option.some.inj H
           go_wp2
           go_ret
           exact ⟨EWW, BL⟩
    ·obtain rfl := Option.some.inj H
     try go_wp2
     go_ret
     exact ⟨EWW, BL⟩
   ·rw [if_neg c11] at H
    have c11b0 : ((l2.length : Int) == (t642.length : Int)) = false := beq_eq_false_iff_ne.mpr c11
    have c11b1 : ((l2.length : Int) != (t642.length : Int)) = true := bne_iff_ne.mpr c11
    have c11b2 : (l2.length == t642.length) = false := by first | simpa using c11 | (simp at c11 ⊢; omega)
    obtain rfl := Option.some.inj H
    try go_wp2
    go_ret
    exact ⟨EWW, BL⟩
  ·obtain rfl := Option.some.inj H
   try go_wp2
   go_ret
   exact ⟨EWW, BL⟩
 ·obtain rfl := Option.some.inj H
  try go_wp2
  go_ret
  exact ⟨EWW, BL⟩
def lQ.f (EU : Int) (EW : ByteArray) (EX a0_3 EY : Int) (EZ : ByteArray) (E5 a1_3 : Int) : Option (Bool) := if EU = EY then (if EW.toList = EZ.toList then (if EX = E5 then (if a0_3 = a1_3 then (some true) else (some false)) else (some false)) else (some false)) else (some false)
theorem lQ.calls (EU : Int) (EW : ByteArray) (EX a0_3 EY : Int) (EZ : ByteArray) (E5 a1_3 : Int) (r : Bool) (w : World) (h : lQ.f EU EW EX a0_3 EY EZ E5 a1_3 = some r) :
  Calls Tryz.prog 173 #[.agg #[.int .i64 EU, .string EW, .int .i64 EX, .int .i64 a0_3], .agg #[.int .i64 EY, .string EZ, .int .i64 E5, .int .i64 a1_3]] w fun e w' => e = .returned (.bool r) ∧ Below w.heap.size w w' := by
 have hu141 := Tryz.underlying141
 have HB := ah.mk (Below.refl w.heap.size w)
 unfold lQ.f at h
 have H := h
 clear h
 replace H := ah.mk H
 go_enter Tryz.func173, Tryz.ntmps173
 go_wp2_with (first | ((with_reducible refine aN (N := 2) rfl ?_); refine bC (N := 2) (cs := #[.int .i64 EU, .string EW, .int .i64 EX, .int .i64 a0_3]) (t := 141) ?_; intro gb654 hg w9000 hbox hb; have BK654 := ah.mk hbox; have GW654 := SZ (w := w) hg; have GE654 := GW654; replace HB := BS (w := w) hb; clear hb hbox hg) | ((with_reducible refine aN (N := 3) rfl ?_); refine bC (N := 3) (cs := #[.int .i64 EY, .string EZ, .int .i64 E5, .int .i64 a1_3]) (t := 141) ?_; intro gb655 hg w9001 hbox hb; have n0_ := KB BK654 hb; have n1_ := BS (w := w) hb; have n2_ := ah.mk (hbox); have n3_ := SZ (w := w) hg; have n4_ := SZ (w := w) hg; have n5_ := NL BK654 hg; have n6_ := NG BK654 hg; clear BK654 HB; have BK654 := n0_; have HB := n1_; have BK655 := n2_; have GW655 := n3_; have GE655 := n4_; have NB654_655 := n5_; have NB655_654 := n6_; clear n0_ n1_ n2_ n3_ n4_ n5_ n6_; clear hb hbox hg; have hnb9002 := NB654_655.out; have hnc9002 := NB655_654.out; obtain ⟨hcz9003_0, hcz9003_1, hcz9003_2, hcz9003_3, hfz9003_0, hfz9003_1, hfz9003_2, hfz9003_3⟩ := cz4 BK654.out; obtain ⟨hcz9004_0, hcz9004_1, hcz9004_2, hcz9004_3, hfz9004_0, hfz9004_1, hfz9004_2, hfz9004_3⟩ := cz4 BK655.out; refine bP ?_))
 refine Hide.mk ?_
 replace H := H.out
 replace H := ifE H; rcases H with ⟨c3b0, c3b1, H⟩ | ⟨c3, c3b0, c3b1, H⟩
 ·replace H := ifE H; rcases H with ⟨c4b0, c4b1, H⟩ | ⟨c4, c4b0, c4b1, H⟩
  ·replace H := ifE H; rcases H with ⟨c5b0, c5b1, H⟩ | ⟨c5, c5b0, c5b1, H⟩
   ·replace H := ifE H; rcases H with ⟨c6b0, c6b1, H⟩ | ⟨c6, c6b0, c6b1, H⟩
    ·obtain rfl := Option.some.inj H
     try go_wp2
     go_ret
     exact ⟨EWW, BL⟩
    ·obtain rfl := Option.some.inj H
     try go_wp2
     go_ret
     exact ⟨EWW, BL⟩
   ·obtain rfl := Option.some.inj H
    try go_wp2
    go_ret
    exact ⟨EWW, BL⟩
  ·obtain rfl := Option.some.inj H
   try go_wp2
   go_ret
   exact ⟨EWW, BL⟩
 ·obtain rfl := Option.some.inj H
  try go_wp2
  go_ret
  exact ⟨EWW, BL⟩
end Go.Proofs.YtnfiedfaaaphoaaGreat.PFnExactPuzzleCode
