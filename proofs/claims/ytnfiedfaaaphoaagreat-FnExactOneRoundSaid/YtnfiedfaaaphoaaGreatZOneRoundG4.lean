/- Walks of functions: what each computes. -/
import Derived.Test.YtnfiedfaaaphoaaGreatZOneRoundG0
import Derived.Test.YtnfiedfaaaphoaaGreatZOneRoundG2
import Derived.Test.YtnfiedfaaaphoaaGreatZOneRoundG3
import Derived.Test.YtnfiedfaaaphoaaGreatZOneRoundW
import Derived.Test.YtnfiedfaaaphoaaGreatZOneRoundShelf
import Derived.Test.YtnfiedfaaaphoaaGreatZOneRoundHandSort
import Derived.Test.YtnfiedfaaaphoaaGreatZOneRoundHandForm
import Derived.Test.YtnfiedfaaaphoaaGreatZOneRoundHandAlone
import Derived.Test.YtnfiedfaaaphoaaGreatZOneRoundHandReach
import Derived.Test.YtnfiedfaaaphoaaGreatZOneRoundHandPut
namespace Go.Proofs.YtnfiedfaaaphoaaGreat.PFnExactOneRound
open Go.RowKit Go.Proofs.YtnfiedfaaaphoaaGreatW.PrintWords Go.Proofs.YtnfiedfaaaphoaaGreatW.PrintLast Go.Proofs.YtnfiedfaaaphoaaGreatW.PrintMore Go.Proofs.YtnfiedfaaaphoaaGreat.Sq
attribute [local go_sem] lK lG ng mY kD kE lJ lF
set_option maxHeartbeats 8000000
set_option maxRecDepth 100000
set_option linter.unusedVariables false
set_option linter.unusedSimpArgs false
mutual
def bG.l0 : Nat → ByteArray → List (S84) → List ByteArray → Int → ByteArray → Int → Int → Int → ByteArray → List (S82) → List Int → Int → Option (ByteArray)
 | 0, _, _, _, _, _, _, _, _, _, _, _, _ => none
 | k + 1, a, b, c, d, e, f, g, h, i, j, l, m => if f < (j.length : Int) then ((eH.f k g h i j l m).bind fun n => (if n = true then ((bR.f k g h i a).bind fun o => (bG.j1 k a b c d e f o g h i j l m)) else (bG.j1 k a b c d e f false g h i j l m))) else (bG.j1 k a b c d e f false g h i j l m)
def bG.j1 : Nat → ByteArray → List (S84) → List ByteArray → Int → ByteArray → Int → Bool → Int → Int → ByteArray → List (S82) → List Int → Int → Option (ByteArray)
 | 0, _, _, _, _, _, _, _, _, _, _, _, _, _ => none
 | k + 1, a, b, c, d, e, f, g, h, i, j, l, m, n => if g = true then ((bq.f k h i j a f).bind fun o => (if 0 ≤ f then (if f < (l.length : Int) then ((aV.f k ((fG l f).f0) ((fG l f).f1) b c o d).bind fun p => ((gu.f k o).bind fun q => (if q = true then (if (p.length : Int) = 1 then (if 0 < (p.length : Int) then ((bO.f k h i j e f (fA ByteArray.empty p 0)).bind fun r => (bG.l0 k a b c d r.1 (wrap64 (f + 1)) h i j l m n)) else (none)) else (bG.l0 k a b c d e (wrap64 (f + 1)) h i j l m n)) else (bG.l0 k a b c d e (wrap64 (f + 1)) h i j l m n)))) else (none)) else (none))) else (some e)
end
def bG.f (k : Nat) (FV FW : Int) (FX : ByteArray) (F4 : List (S82)) (F5 : List Int) (F6 : Int) (a1 : ByteArray) (l2 : List (S84)) (l3 : List ByteArray) (a4 : Int) : Option (ByteArray) := bG.l0 k a1 l2 l3 a4 a1 0 FV FW FX F4 F5 F6
def bG.T8 : Bool × List (List Nat × List Nat) := (true, [([], []), ([0], [0]), ([], []), ([], []), ([], []), ([4], [4]), ([5], [5]), ([1, 2, 3, 6], [1, 2, 3, 6]), ([7], [7]), ([8], [8]), ([8], [8]), ([9, 7, 0, 1, 2, 3, 4, 5, 6, 7, 8, 9], [2, 9])])
def bG.B8 : List Nat := [0, 1, 0, 0, 0, 16, 48, 127, 255, 511, 511, 1023]
theorem bG.Ep : kG .any (opsOf Tryz.f23 8) = bG.T8 := by kernel_rfl
theorem bG.Cr : iW bG.T8.2 bG.B8 = true := by kernel_rfl
theorem bG.calls (k : Nat) (FV FW : Int) (FX : ByteArray) (A0_3 : Option Addr) (c0_3 : Nat) (F4 : List (S82)) (A0_4 : Option Addr) (c0_4 : Nat) (F5 : List Int) (F6 : Int) (a1 : ByteArray) (A2 : Option Addr) (c2 : Nat) (l2 : List (S84)) (A3 : Option Addr) (c3 : Nat) (l3 : List ByteArray) (a4 : Int) (r : ByteArray) (w : World) (hr0_3 : Kd.C k82 w A0_3 F4.length F4) (hc0_3 : F4.length ≤ c0_3) (hr0_4 : Kd.C (Kd.int .i64) w A0_4 F5.length F5) (hc0_4 : F5.length ≤ c0_4) (hr2 : Kd.C k84 w A2 l2.length l2) (hc2 : l2.length ≤ c2) (hr3 : Kd.C Kd.string w A3 l3.length l3) (hc3 : l3.length ≤ c3) (h : bG.f k FV FW FX F4 F5 F6 a1 l2 l3 a4 = some r) :
  Calls Tryz.prog 23 #[.agg #[.int .i64 FV, .int .i64 FW, .string FX, .slice A0_3 F4.length c0_3, .slice A0_4 F5.length c0_4, .int .i64 F6], .string a1, .slice A2 l2.length c2, .slice A3 l3.length c3, .int .i64 a4] w fun e w' => e = .returned (.string r) ∧ Below w.heap.size w w' := by
 have hu49 := Tryz.underlying49
 have hu32 := Tryz.underlying32
 have hu82 := Tryz.underlying82
 have HR0_3 := ah.mk hr0_3
 have HC0_3 := ah.mk hc0_3
 clear hr0_3 hc0_3
 have HR0_4 := ah.mk hr0_4
 have HC0_4 := ah.mk hc0_4
 clear hr0_4 hc0_4
 have HR2 := ah.mk hr2
 have HC2 := ah.mk hc2
 clear hr2 hc2
 have HR3 := ah.mk hr3
 have HC3 := ah.mk hc3
 clear hr3 hc3
 have HB := ah.mk (Below.refl w.heap.size w)
 unfold bG.f at h
 have H := h
 clear h
 have H' := ah.mk H
 clear H
 go_enter Tryz.func23, Tryz.ntmps23
 go_wp2_with (first | ((with_reducible refine aJ (N := 5) rfl ?_); (try (refine jd (by rfl) ?_; dsimp only)); refine bg (N := 5) (cs := #[.int .i64 FV, .int .i64 FW, .string FX, .slice A0_3 F4.length c0_3, .slice A0_4 F5.length c0_4, .int .i64 F6]) (t := 49) ?_; intro gb396 hg w6 hbox hb; have BK396 := ah.mk hbox; have GW396 := SZ (w := w) hg; have GE396 := GW396; replace HB := BS (w := w) hb; clear hb hbox hg))
 go_loopg [11, 12] k (fun kq v11 v12 w' => ∃ (x11_1 : ByteArray) (x12_1 : Int), v11 = .string x11_1 ∧ v12 = .int .i64 x12_1 ∧ ah (bG.l0 kq a1 l2 l3 a4 x11_1 x12_1 FV FW FX F4 F5 F6 = some r) ∧ ah (kq ≤ k) ∧ ah (w'.heap[gb396]? = some (.cells #[.int .i64 FV, .int .i64 FW, .string FX, (.slice A0_3 F4.length c0_3), (.slice A0_4 F5.length c0_4), .int .i64 F6] 49 (0, 0))) ∧ ah (Below w.heap.size w w'))
 case atStart => exact ⟨(a1), (0), EQ, EQ, H', ⟨Nat.le_refl _⟩, ⟨BK⟩, ⟨BL⟩⟩
 case round =>
  clear H'
  try clear c2
  try clear c3
  obtain ⟨x11_1, x12_1, rfl, rfl, HA, HK1, BK396, HB⟩ := hrel
  cases gk with
  | zero => exact absurd HA.out (by simp [bG.l0])
  | succ k1 =>
   have H := HA.out
   clear HA
   simp only [bG.l0] at H
   have HC7 := ah.mk H
   clear H
   go_upto_region 3 with (fail)
   go_cut [30] (fun v30 wc => ∃ (kq : Nat) (x30_6 : Bool), v30 = .bool x30_6 ∧ ah (bG.j1 kq a1 l2 l3 a4 x11_1 x12_1 x30_6 FV FW FX F4 F5 F6 = some r) ∧ ah (kq ≤ k1) ∧ ah (wc.heap[gb396]? = some (.cells #[.int .i64 FV, .int .i64 FW, .string FX, (.slice A0_3 F4.length c0_3), (.slice A0_4 F5.length c0_4), .int .i64 F6] 49 (0, 0))) ∧ ah (Below w.heap.size w wc))
   case first =>
    have H := HC7.out
    clear HC7
    obtain ⟨hcz6000_0, hcz6000_1, hcz6000_2, hcz6000_3, hcz6000_4, hcz6000_5, hfz6000_0, hfz6000_1, hfz6000_2, hfz6000_3, hfz6000_4, hfz6000_5⟩ := cz6 BK396.out
    replace H := ifD H; rcases H with ⟨c8b0, H⟩ | ⟨c8b0, H⟩
    ·(first | rw [c8b0] | (simp only [iC, jg]; rw [c8b0]) | skip)
     replace H := be H; obtain ⟨t397, A9, H⟩ := H
     replace H := ah.mk H
     go_wp2_with (first | (go_at_call 64; (with_reducible refine (eH.calls k1 FV FW FX _ _ F4 _ _ F5 F6 _ _ ?side1 ?side2 ?side3 ?side4 A9.out).mono ?_); (case side1 => exact CB HR0_3); (case side2 => exact HC0_3.out); (case side3 => exact CB HR0_4); (case side4 => exact HC0_4.out); rintro e w6001 ⟨rfl, hb⟩; replace BK396 := KB BK396 hb; replace HB := BS (w := w) hb; (try clear hb); (try clear hb2); (try clear hk); (try clear hi); obtain ⟨hcz6002_0, hcz6002_1, hcz6002_2, hcz6002_3, hcz6002_4, hcz6002_5, hfz6002_0, hfz6002_1, hfz6002_2, hfz6002_3, hfz6002_4, hfz6002_5⟩ := cz6 BK396.out; refine bU ?_))
     refine Hide.mk ?_
     replace H := H.out
     replace H := ifB H; rcases H with ⟨rfl, H⟩ | ⟨rfl, H⟩
     ·replace H := be H; obtain ⟨t398, A11, H⟩ := H
      have H' := ah.mk H
      clear H
      try go_wp2_with (first | (go_at_call 65; (with_reducible refine (bR.calls k1 FV FW FX a1 t398 _ A11.out).mono ?_); rintro e w6003 ⟨rfl, hb⟩; replace BK396 := KB BK396 hb; replace HB := BS (w := w) hb; (try clear hb); (try clear hb2); (try clear hk); (try clear hi)))
      go_meet
      case rel => exact ⟨_, (t398), EQ, H', ⟨by have := HK1.out; first | omega | exact Nat.le_refl _⟩, ⟨BK⟩, ⟨BL⟩⟩
     ·have H' := ah.mk H
      clear H
      try go_wp2
      go_meet
      case rel => exact ⟨_, (false), EQ, H', ⟨by have := HK1.out; first | omega | exact Nat.le_refl _⟩, ⟨BK⟩, ⟨BL⟩⟩
    ·(first | rw [c8b0] | (simp only [iC, jg]; rw [c8b0]) | skip)
     have H' := ah.mk H
     clear H
     go_wp2
     go_meet
     case rel => exact ⟨_, (false), EQ, H', ⟨by have := HK1.out; first | omega | exact Nat.le_refl _⟩, ⟨BK⟩, ⟨BL⟩⟩
   case rest =>
    clear HC7
    try clear c2
    try clear c3
    obtain ⟨kq, x30_6, rfl, HA, HJ6, BK396, HB⟩ := hcut
    cases kq with
    | zero => exact absurd HA.out (by simp [bG.j1])
    | succ kj6 =>
     have H := HA.out
     clear HA
     simp only [bG.j1] at H
     replace H := ifB H; rcases H with ⟨rfl, H⟩ | ⟨rfl, H⟩
     ·replace H := be H; obtain ⟨t399, A20, H⟩ := H
      replace H := ifN H; obtain ⟨c21b0, H⟩ := H
      replace H := ifN H; obtain ⟨c22b0, H⟩ := H
      replace H := be H; obtain ⟨t401, A23, H⟩ := H
      replace H := be H; obtain ⟨t404, A24, H⟩ := H
      obtain ⟨hcz5000_0, hcz5000_1, hcz5000_2, hcz5000_3, hcz5000_4, hcz5000_5, hfz5000_0, hfz5000_1, hfz5000_2, hfz5000_3, hfz5000_4, hfz5000_5⟩ := cz6 BK396.out
      replace H := ah.mk H
      go_wp2_with (first | ((with_reducible refine ay (f := 66) rfl ?_); refine bE (some 37) Tryz.func66 #[.agg #[.int .i64 FV, .int .i64 FW, .string FX], .string a1, .int .i64 x12_1] ?_; (with_reducible refine (bq.calls kj6 FV FW FX a1 x12_1 t399 _ A20.out).mono ?_); rintro e w5001 ⟨rfl, hb⟩; refine ⟨_, rfl, ?_⟩; replace BK396 := KB BK396 hb; replace HB := BS (w := w) hb; (try clear hb); obtain ⟨hcz5002_0, hcz5002_1, hcz5002_2, hcz5002_3, hcz5002_4, hcz5002_5, hfz5002_0, hfz5002_1, hfz5002_2, hfz5002_3, hfz5002_4, hfz5002_5⟩ := cz6 BK396.out; have p400 : 0 ≤ (x12_1 : Int) := OD; have q400 : x12_1 < (F4.length : Int) := OD; obtain ⟨ad400, A400_1, c400_1, e400, hx400_0, hx400_1, hl400_1, hi400_1⟩ := ug HR0_3.out x12_1 p400 q400; cases e400; replace hx400_0 := (HB.out.cell (World.block_lt_of_cell? w _ hx400_0)).trans hx400_0; replace hx400_1 := (HB.out.cell (World.block_lt_of_cell? w _ hx400_1)).trans hx400_1; have HR400_1 := ah.mk hi400_1; have HC400_1 := ah.mk hl400_1; clear hi400_1 hl400_1; replace p400 := eq_true p400; replace q400 := eq_true q400) | ((with_reducible refine ay (f := 67) rfl ?_); refine bE (some 47) Tryz.func67 #[.agg #[.int .i64 ((fG F4 x12_1).f0), .slice A400_1 ((fG F4 x12_1).f1).length c400_1], .slice A2 l2.length c2, .slice A3 l3.length c3, .string t399, .int .i64 a4] ?_; (with_reducible refine (aV.calls kj6 ((fG F4 x12_1).f0) _ _ ((fG F4 x12_1).f1) _ _ l2 _ _ l3 t399 a4 t401 _ ?side1 ?side2 ?side3 ?side4 ?side5 ?side6 A23.out).mono ?_); (case side1 => exact CB HR400_1); (case side2 => exact HC400_1.out); (case side3 => exact CB HR2); (case side4 => exact HC2.out); (case side5 => exact CB HR3); (case side6 => exact HC3.out); rintro e w5003 ⟨v402, rfl, ho0, hb⟩; refine ⟨_, rfl, ?_⟩; have n0_ := ah.mk (Kd.cO ho0 (aQ BL)); replace BK396 := KB BK396 hb; replace HB := BS (w := w) hb; have HO403 := n0_; clear n0_; (try clear hb); (try clear ho0)) | ((with_reducible refine ay (f := 68) rfl ?_); refine bE (some 49) Tryz.func68 #[.string t399] ?_; (with_reducible refine (gu.calls kj6 t399 _ _ A24.out).mono ?_); rintro e w' ⟨rfl, ⟨nd, rfl⟩⟩; refine ⟨_, rfl, ?_⟩; refine bU ?_))
      refine Hide.mk ?_
      replace H := H.out
      replace H := ifB H; rcases H with ⟨rfl, H⟩ | ⟨rfl, H⟩
      ·replace H := ah.mk H
       obtain ⟨Ao5004, co5004, eo5004⟩ := Kd.dL HO403.out
       subst eo5004
       replace H := H.out
       replace H := ifE H; rcases H with ⟨c26b0, c26b1, H⟩ | ⟨c26, c26b0, c26b1, H⟩
       ·replace H := ifP H; obtain ⟨c27, H⟩ := H
        have c27b0 : decide (0 < (t401.length : Int)) = true := decide_eq_true c27
        have c27b1 : decide (0 < t401.length) = true := decide_eq_true (by omega)
        clear c27
        replace H := be H; obtain ⟨⟨t406, t407⟩, A28, H⟩ := H
        dsimp only at H
        have H' := ah.mk H
        clear H
        try go_wp2
        (try (rw [oo w5003]; generalize hq_ : World.drewN w5003 _ = w5003; have n0_ : ah (Kd.R Kd.string 9 w5003 w.heap.size (fun _ => True) (.slice Ao5004 t401.length co5004) t401) := ⟨by rw [← hq_]; exact (RR HO403)⟩; have n1_ : ah (w5003.heap[gb396]? = some (.cells #[.int .i64 FV, .int .i64 FW, .string FX, .slice (some ad400) F4.length c0_3, .slice A0_4 F5.length c0_4, .int .i64 F6] 49 (0, 0))) := ⟨by rw [← hq_]; exact BK⟩; have n2_ : ah (Below w.heap.size w w5003) := ⟨by rw [← hq_]; exact BL⟩; clear HO403 BK396 HB hq_; have HO403 := n0_; have BK396 := n1_; have HB := n2_; clear n0_ n1_ n2_))
        replace HO403 := ah.mk (Kd.eu HO403.out)
        replace BK396 := ah.mk (aH BK396.out)
        replace HB := ah.mk (dH HB.out)
        have p405 : 0 ≤ (0 : Int) := (by omega)
        have q405 : 0 < (t401.length : Int) := OD
        obtain ⟨ad405, e405, hx405_0⟩ := Kd.jo (Kd.bP HO403.out).2.2 0 p405 q405
        cases e405
        have qi405 : (0 < t401.length) = True := eq_true (by omega)
        (try rw [show ((0 : Int)).toNat = 0 from rfl] at hx405_0)
        (try rw [Addr.add_zero'] at hx405_0)
        replace p405 := eq_true p405
        replace q405 := eq_true q405
        refine ji (n := 12) (S := fun w' => w'.cell? ⟨gb396, 0, none⟩ = some (.int .i64 FV) ∧ w'.cell? ⟨gb396, 1, none⟩ = some (.int .i64 FW) ∧ w'.cell? ⟨gb396, 2, none⟩ = some (.string FX) ∧ w'.cell? ⟨gb396, 3, none⟩ = some (.slice (some ad400) F4.length c0_3) ∧ w'.cell? ⟨gb396, 4, none⟩ = some (.slice A0_4 F5.length c0_4) ∧ w'.cell? ⟨gb396, 5, none⟩ = some (.int .i64 F6) ∧ w'.cell? ad405 = some (.string (fA ByteArray.empty t401 0))) (ds := []) #[F,F,F,F,F,F,F,F,F,F,F,F] (by kernel_rfl) rfl rfl ⟨(ak BK396.out 0).trans rfl, (ak BK396.out 1).trans rfl, (ak BK396.out 2).trans rfl, (ak BK396.out 3).trans rfl, (ak BK396.out 4).trans rfl, (ak BK396.out 5).trans rfl, hx405_0⟩ (fun hHeld => ?_); refine iI bG.Ep bG.Cr (fun HT_ HW_ => ?_)
        generalize w5003.drew = w5005 at HO403 BK396 HB hx405_0 hHeld ⊢
        refine puS (i := 0) (N := some 56) #[T,F,F,F,F,F,F,F,F,F,F,F] (aK HT_.out (by kernel_rfl)) ?_
        refine puS (i := 2) (N := some 58) #[T,F,T,F,F,F,F,F,F,F,F,F] (aK HT_.out (by kernel_rfl)) ?_
        refine puS (i := 3) (N := some 59) #[T,F,T,T,F,F,F,F,F,F,F,F] (aK HT_.out (by kernel_rfl)) ?_
        refine puS (i := 4) (N := some 60) #[T,F,T,T,T,F,F,F,F,F,F,F] (aK HT_.out (by kernel_rfl)) ?_
        refine puS (i := 5) (N := some 61) #[T,F,T,T,T,T,F,F,F,F,F,F] (aK HT_.out (by kernel_rfl)) ?_
        refine taS (i := 1) (N := some 57) #[T,T,T,T,T,T,F,F,F,F,F,F] (eF HT_.out HW_.out (by kernel_rfl)) hHeld ?_
        refine taS (i := 6) (N := some 62) #[T,T,T,T,T,T,T,F,F,F,F,F] (eF HT_.out HW_.out (by kernel_rfl)) hHeld ?_
        refine kW (i := 7) (N := some 63) #[T,T,T,T,T,T,T,T,F,F,F,F] rfl rfl (jf HT_.out (by kernel_rfl)) (by decide) (fun K hK => ?_)
        refine iZ Tryz.func69 #[.agg #[.int .i64 FV, .int .i64 FW, .string FX], .string x11_1, .int .i64 x12_1, .string (fA ByteArray.empty t401 0)] ?_
        with_reducible refine (bO.calls kj6 FV FW FX x11_1 x12_1 (fA ByteArray.empty t401 0) t406 t407 _ A28.out).mono ?_
        rintro e w5006 ⟨rfl, hb⟩
        have HS6_ := (hb.cell (World.block_lt_of_cell? _ _ (hHeld.2.2.2.2.2.2))).trans (hHeld.2.2.2.2.2.2)
        refine ⟨_, rfl, ?_⟩
        replace HO403 := RB HO403 hb
        replace BK396 := KB BK396 hb
        replace HB := BS (w := w) hb
        (try clear hb)
        refine hK.out _ _ ⟨(ak BK396.out 0).trans rfl, (ak BK396.out 1).trans rfl, (ak BK396.out 2).trans rfl, (ak BK396.out 3).trans rfl, (ak BK396.out 4).trans rfl, (ak BK396.out 5).trans rfl, HS6_⟩ (fun hHeld => ?_)
        clear hK K
        refine nrm (some 63) ?_
        refine puS (i := 8) (N := some 55) #[T,T,T,T,T,T,T,T,T,F,F,F] (aK HT_.out (by kernel_rfl)) ?_
        refine puS (i := 9) (N := some 64) #[T,T,T,T,T,T,T,T,T,T,F,F] (aK HT_.out (by kernel_rfl)) ?_
        refine puS (i := 10) (N := some 65) #[T,T,T,T,T,T,T,T,T,T,T,F] (aK HT_.out (by kernel_rfl)) ?_
        refine puS (i := 11) (N := some 11) #[T,T,T,T,T,T,T,T,T,T,T,T] (aK HT_.out (by kernel_rfl)) ?_
        refine iD (gG HT_.out (by kernel_rfl)) ?_
        try go_wp2
        go_roundg kj6
        case measure => have := HK1.out; have := HJ6.out; omega
        case rel => exact ⟨(t406), (wrap64 (x12_1 + 1)), EQ, EQ, H', ⟨by have := HK1.out; have := HJ6.out; omega⟩, ⟨BK⟩, ⟨BL⟩⟩
       ·have H' := ah.mk H
        clear H
        try go_wp2
        go_roundg kj6
        case measure => have := HK1.out; have := HJ6.out; omega
        case rel => exact ⟨(x11_1), (wrap64 (x12_1 + 1)), EQ, EQ, H', ⟨by have := HK1.out; have := HJ6.out; omega⟩, ⟨BK⟩, ⟨BL⟩⟩
      ·have H' := ah.mk H
       clear H
       try go_wp2
       go_roundg kj6
       case measure => have := HK1.out; have := HJ6.out; omega
       case rel => exact ⟨(x11_1), (wrap64 (x12_1 + 1)), EQ, EQ, H', ⟨by have := HK1.out; have := HJ6.out; omega⟩, ⟨BK⟩, ⟨BL⟩⟩
     ·obtain rfl := Option.some.inj H
      go_wp2
      go_ret
      exact ⟨EWW, BL⟩
def l5.f (FV FW : Int) (FX : ByteArray) : Option (Int × Int × ByteArray) := some (FV, FW, FX)
theorem l5.calls (FV FW : Int) (FX : ByteArray) (r1 r2 : Int) (r3 : ByteArray) (w : World) (h : l5.f FV FW FX = some (r1, r2, r3)) :
  Calls Tryz.prog 14 #[.agg #[.int .i64 FV, .int .i64 FW, .string FX]] w fun e w' => e = .returned (.agg #[.int .i64 r1, .int .i64 r2, .string r3]) ∧ Below w.heap.size w w' := by
 have hu23 := Tryz.underlying23
 have hu32 := Tryz.underlying32
 have HB := ah.mk (Below.refl w.heap.size w)
 unfold l5.f at h
 have H := h
 clear h
 simp only [Option.some.injEq, Prod.mk.injEq] at H
 obtain ⟨rfl, rfl, rfl⟩ := H
 go_enter Tryz.func14, Tryz.ntmps14
 go_wp2_with (first | ((with_reducible refine aJ (N := 1) rfl ?_); refine bg (N := 1) (cs := #[.int .i64 FV, .int .i64 FW, .string FX]) (t := 23) ?_; intro gb408 hg w2 hbox hb; have BK408 := ah.mk hbox; have GW408 := SZ (w := w) hg; have GE408 := GW408; replace HB := BS (w := w) hb; clear hb hbox hg) | ((with_reducible refine aJ (N := 2) rfl ?_); refine bg (N := 2) (cs := #[.int .i64 0, .int .i64 0, .string (⟨#[]⟩ : ByteArray)]) (t := 32) ?_; intro gb409 hg w3 hbox hb; have n0_ := KB BK408 hb; have n1_ := BS (w := w) hb; have n2_ := ah.mk (hbox); have n3_ := SZ (w := w) hg; have n4_ := SZ (w := w) hg; have n5_ := NL BK408 hg; have n6_ := NG BK408 hg; clear BK408 HB; have BK408 := n0_; have HB := n1_; have BK409 := n2_; have GW409 := n3_; have GE409 := n4_; have NB408_409 := n5_; have NB409_408 := n6_; clear n0_ n1_ n2_ n3_ n4_ n5_ n6_; clear hb hbox hg) | ((with_reducible refine aJ (N := 3) rfl ?_); refine bg (N := 3) (cs := #[.int .i64 0, .int .i64 0, .string (⟨#[]⟩ : ByteArray)]) (t := 32) ?_; intro gb410 hg w4 hbox hb; have n0_ := KB BK408 hb; have n1_ := KB BK409 hb; have n2_ := BS (w := w) hb; have n3_ := ah.mk (hbox); have n4_ := SZ (w := w) hg; have n5_ := SZ (w := w) hg; have n6_ := NL BK408 hg; have n7_ := NG BK408 hg; have n8_ := NL BK409 hg; have n9_ := NG BK409 hg; clear BK408 BK409 HB; have BK408 := n0_; have BK409 := n1_; have HB := n2_; have BK410 := n3_; have GW410 := n4_; have GE410 := n5_; have NB408_410 := n6_; have NB410_408 := n7_; have NB409_410 := n8_; have NB410_409 := n9_; clear n0_ n1_ n2_ n3_ n4_ n5_ n6_ n7_ n8_ n9_; clear hb hbox hg; have hnb5 := NB408_409.out; have hnc5 := NB409_408.out; have hnb6 := NB408_410.out; have hnc6 := NB410_408.out; obtain ⟨hcz7_0, hcz7_1, hcz7_2, hfz7_0, hfz7_1, hfz7_2⟩ := cz3 BK408.out; have hnb8 := NB410_409.out; have hnc8 := NB409_410.out; obtain ⟨hcz9_0, hcz9_1, hcz9_2, hfz9_0, hfz9_1, hfz9_2⟩ := cz3 BK410.out; obtain ⟨hcz10_0, hcz10_1, hcz10_2, hfz10_0, hfz10_1, hfz10_2⟩ := cz3 BK409.out))
 refine bodyPost_ret (results_cell_row rfl _ _ gb409 32 #[.int .i64 FV, .int .i64 FW, .string FX] (0, 0) _ rfl (by (with_reducible repeat (first | refine aG ?_ _ | refine aH ?_ | refine aD ?_ _)); refine aY (cs := #[.int .i64 FV, .int .i64 FW, .string (⟨#[]⟩ : ByteArray)]) ?_ 2 _ rfl; (with_reducible repeat (first | refine aG ?_ _ | refine aH ?_ | refine aD ?_ _)); refine aY (cs := #[.int .i64 FV, .int .i64 0, .string (⟨#[]⟩ : ByteArray)]) ?_ 1 _ rfl; (with_reducible repeat (first | refine aG ?_ _ | refine aH ?_ | refine aD ?_ _)); refine aY (cs := #[.int .i64 0, .int .i64 0, .string (⟨#[]⟩ : ByteArray)]) ?_ 0 _ rfl; (with_reducible repeat (first | refine aG ?_ _ | refine aH ?_ | refine aD ?_ _)); refine dN ?_ NB409_410.out _; (with_reducible repeat (first | refine aG ?_ _ | refine aH ?_ | refine aD ?_ _)); refine dN ?_ NB409_410.out _; (with_reducible repeat (first | refine aG ?_ _ | refine aH ?_ | refine aD ?_ _)); refine dN ?_ NB409_410.out _; (with_reducible repeat (first | refine aG ?_ _ | refine aH ?_ | refine aD ?_ _)); exact BK409.out) Tryz.underlying32 rfl (by kernel_rfl)) rfl ?_
 exact ⟨EWW, BL⟩
def lX.f (FV : Int) (FW : ByteArray) (FX a0_3 : Int) : Option (Int × ByteArray × Int × Int) := some (FV, FW, FX, a0_3)
theorem lX.calls (FV : Int) (FW : ByteArray) (FX a0_3 r1 : Int) (r2 : ByteArray) (r3 r4 : Int) (w : World) (h : lX.f FV FW FX a0_3 = some (r1, r2, r3, r4)) :
  Calls Tryz.prog 161 #[.agg #[.int .i64 FV, .string FW, .int .i64 FX, .int .i64 a0_3]] w fun e w' => e = .returned (.agg #[.int .i64 r1, .string r2, .int .i64 r3, .int .i64 r4]) ∧ Below w.heap.size w w' := by
 have hu143 := Tryz.underlying143
 have hu141 := Tryz.underlying141
 have HB := ah.mk (Below.refl w.heap.size w)
 unfold lX.f at h
 have H := h
 clear h
 simp only [Option.some.injEq, Prod.mk.injEq] at H
 obtain ⟨rfl, rfl, rfl, rfl⟩ := H
 go_enter Tryz.func161, Tryz.ntmps161
 go_wp2_with (first | ((with_reducible refine aJ (N := 1) rfl ?_); refine bg (N := 1) (cs := #[.int .i64 FV, .string FW, .int .i64 FX, .int .i64 a0_3]) (t := 143) ?_; intro gb411 hg w2 hbox hb; have BK411 := ah.mk hbox; have GW411 := SZ (w := w) hg; have GE411 := GW411; replace HB := BS (w := w) hb; clear hb hbox hg) | ((with_reducible refine aJ (N := 2) rfl ?_); refine bg (N := 2) (cs := #[.int .i64 0, .string (⟨#[]⟩ : ByteArray), .int .i64 0, .int .i64 0]) (t := 141) ?_; intro gb412 hg w3 hbox hb; have n0_ := KB BK411 hb; have n1_ := BS (w := w) hb; have n2_ := ah.mk (hbox); have n3_ := SZ (w := w) hg; have n4_ := SZ (w := w) hg; have n5_ := NL BK411 hg; have n6_ := NG BK411 hg; clear BK411 HB; have BK411 := n0_; have HB := n1_; have BK412 := n2_; have GW412 := n3_; have GE412 := n4_; have NB411_412 := n5_; have NB412_411 := n6_; clear n0_ n1_ n2_ n3_ n4_ n5_ n6_; clear hb hbox hg) | ((with_reducible refine aJ (N := 3) rfl ?_); refine bg (N := 3) (cs := #[.int .i64 0, .string (⟨#[]⟩ : ByteArray), .int .i64 0, .int .i64 0]) (t := 141) ?_; intro gb413 hg w4 hbox hb; have n0_ := KB BK411 hb; have n1_ := KB BK412 hb; have n2_ := BS (w := w) hb; have n3_ := ah.mk (hbox); have n4_ := SZ (w := w) hg; have n5_ := SZ (w := w) hg; have n6_ := NL BK411 hg; have n7_ := NG BK411 hg; have n8_ := NL BK412 hg; have n9_ := NG BK412 hg; clear BK411 BK412 HB; have BK411 := n0_; have BK412 := n1_; have HB := n2_; have BK413 := n3_; have GW413 := n4_; have GE413 := n5_; have NB411_413 := n6_; have NB413_411 := n7_; have NB412_413 := n8_; have NB413_412 := n9_; clear n0_ n1_ n2_ n3_ n4_ n5_ n6_ n7_ n8_ n9_; clear hb hbox hg; have hnb5 := NB411_412.out; have hnc5 := NB412_411.out; have hnb6 := NB411_413.out; have hnc6 := NB413_411.out; obtain ⟨hcz7_0, hcz7_1, hcz7_2, hcz7_3, hfz7_0, hfz7_1, hfz7_2, hfz7_3⟩ := cz4 BK411.out; have hnb8 := NB413_412.out; have hnc8 := NB412_413.out; obtain ⟨hcz9_0, hcz9_1, hcz9_2, hcz9_3, hfz9_0, hfz9_1, hfz9_2, hfz9_3⟩ := cz4 BK413.out; obtain ⟨hcz10_0, hcz10_1, hcz10_2, hcz10_3, hfz10_0, hfz10_1, hfz10_2, hfz10_3⟩ := cz4 BK412.out))
 refine bodyPost_ret (results_cell_row rfl _ _ gb412 141 #[.int .i64 FV, .string FW, .int .i64 FX, .int .i64 a0_3] (0, 0) _ rfl (by (with_reducible repeat (first | refine aG ?_ _ | refine aH ?_ | refine aD ?_ _)); refine aY (cs := #[.int .i64 FV, .string FW, .int .i64 FX, .int .i64 0]) ?_ 3 _ rfl; (with_reducible repeat (first | refine aG ?_ _ | refine aH ?_ | refine aD ?_ _)); refine aY (cs := #[.int .i64 FV, .string FW, .int .i64 0, .int .i64 0]) ?_ 2 _ rfl; (with_reducible repeat (first | refine aG ?_ _ | refine aH ?_ | refine aD ?_ _)); refine aY (cs := #[.int .i64 FV, .string (⟨#[]⟩ : ByteArray), .int .i64 0, .int .i64 0]) ?_ 1 _ rfl; (with_reducible repeat (first | refine aG ?_ _ | refine aH ?_ | refine aD ?_ _)); refine aY (cs := #[.int .i64 0, .string (⟨#[]⟩ : ByteArray), .int .i64 0, .int .i64 0]) ?_ 0 _ rfl; (with_reducible repeat (first | refine aG ?_ _ | refine aH ?_ | refine aD ?_ _)); refine dN ?_ NB412_413.out _; (with_reducible repeat (first | refine aG ?_ _ | refine aH ?_ | refine aD ?_ _)); refine dN ?_ NB412_413.out _; (with_reducible repeat (first | refine aG ?_ _ | refine aH ?_ | refine aD ?_ _)); refine dN ?_ NB412_413.out _; (with_reducible repeat (first | refine aG ?_ _ | refine aH ?_ | refine aD ?_ _)); refine dN ?_ NB412_413.out _; (with_reducible repeat (first | refine aG ?_ _ | refine aH ?_ | refine aD ?_ _)); exact BK412.out) Tryz.underlying141 rfl (by kernel_rfl)) rfl ?_
 exact ⟨EWW, BL⟩
def fF.l0 : Nat → List (mP) → List (dB) → Int → Option ((List (dB)))
 | 0, _, _, _ => none
 | k + 1, a, b, c => if c < (a.length : Int) then (if 0 ≤ c then ((lX.f ((gK a c).f0) ((gK a c).f1) ((gK a c).f2) ((gK a c).f3)).bind fun d => (if c < (b.length : Int) then (fF.l0 k a (b.set (c : Int).toNat (⟨d.1, d.2.1, d.2.2.1, d.2.2.2⟩ : dB)) (wrap64 (c + 1))) else (none))) else (none)) else (some b)
def fF.f (k : Nat) (l0 : List (mP)) : Option ((List (dB))) := if 0 ≤ (l0.length : Int) then (if ((l0.length : Int) : Int).toNat ≤ 7036874417766 then (fF.l0 k l0 (List.replicate ((l0.length : Int) : Int).toNat z141) 0) else (none)) else (none)
theorem fF.calls (k : Nat) (A0 : Option Addr) (c0 : Nat) (l0 : List (mP)) (r : List (dB)) (w : World) (hr0 : Kd.C xD w A0 l0.length l0) (hc0 : l0.length ≤ c0) (h : fF.f k l0 = some r) :
  Calls Tryz.prog 107 #[.slice A0 l0.length c0] w fun e w' => ∃ v0_ : Value, e = .returned (v0_) ∧ Kd.R jw 141 w' w.heap.size (fun _ => True) v0_ r ∧ Below w.heap.size w w' := by
 have hu143 := Tryz.underlying143
 have hu141 := Tryz.underlying141
 have HR0 := ah.mk hr0
 have HC0 := ah.mk hc0
 clear hr0 hc0
 have HB := ah.mk (Below.refl w.heap.size w)
 unfold fF.f at h
 have H := h
 clear h
 replace H := ifP H; obtain ⟨c2, H⟩ := H
 have c2b0 := eq_true c2
 have c2b1 : decide (0 ≤ (l0.length : Int)) = true := decide_eq_true c2
 clear c2
 replace H := ifP H; obtain ⟨c3, H⟩ := H
 have c3b0 := eq_true c3
 have c3b1 : decide (((l0.length : Int) : Int).toNat ≤ 7036874417766) = true := decide_eq_true c3
 clear c3
 obtain ⟨y414, hy414⟩ : ∃ y_ : List (dB), y_ = (List.replicate ((l0.length : Int) : Int).toNat z141) := ⟨_, rfl⟩
 replace H : (fF.l0 k l0 y414 0) = some r := by first | (rw [hy414]; with_reducible exact H) | (have H2_ := (Option.bind_some _ _).symm.trans H; rw [hy414]; with_reducible exact H2_) | (have H2_ := (Option.bind_some _ _).symm.trans H; with_reducible exact H2_) | with_reducible exact H | (rw [hy414]; exact H) | exact H
 have Ny414 := ah.mk hy414
 clear hy414
 have H' := ah.mk H
 clear H
 go_enter Tryz.func107, Tryz.ntmps107
 go_wp2_with (first | ((with_reducible refine aJ (N := 7) rfl ?_); refine Kd.tC jw _ 141 rfl (N := 7) rfl 80 _ _ rfl (l0.length : Int) rfl rfl Tryz.underlying80 (.agg #[(.int .i64 0), (.string ⟨#[]⟩), (.int .i64 0), (.int .i64 0)]) 40 Ec rfl (by decide) (by omega) z141 (ok := fun _ => True) (okp := fun _ => True) (zk _ _ _ z141 ) (fun _ hk => hk) trivial (OD) (Nat.le_trans (Nat.mul_le_mul_right _ (OD : (l0.length : Int).toNat ≤ 7036874417766)) (by omega)) (Below.refl _ _) (Nat.le_refl _) ?_; intro v415 w9000 ho5 hb hg_ hnew_; clear hg_ hnew_; (first | rw [← Ny414.out] at ho5 | (simp only [Int.reduceToNat] at ho5; rw [← Ny414.out] at ho5)); have n0_ := ah.mk (Kd.cO ho5 (aQ BL)); replace HB := BS (w := w) hb; have HO416 := n0_; clear n0_; clear hb ho5))
 go_loopg [4] k (fun kq v4 w' => ∃ (x3_1 : List (dB)) (x4_1 : Int), v4 = .int .i64 x4_1 ∧ ah (fF.l0 kq l0 x3_1 x4_1 = some r) ∧ ah (kq ≤ k) ∧ ah (Kd.R jw 141 w' w.heap.size (fun _ => True) v415 x3_1) ∧ ah (Below w.heap.size w w'))
 case atStart => exact ⟨(y414), (0), EQ, H', ⟨Nat.le_refl _⟩, ⟨(RR HO416)⟩, ⟨BL⟩⟩
 case round =>
  clear H'
  try clear c2
  try clear c2b0
  try clear c2b1
  try clear c3
  try clear c3b0
  try clear c3b1
  obtain ⟨x3_1, x4_1, rfl, HA, HK1, HO_3, HB⟩ := hrel
  cases gk with
  | zero => exact absurd HA.out (by simp [fF.l0])
  | succ k1 =>
   have H := HA.out
   clear HA
   simp only [fF.l0] at H
   replace H := ifD H; rcases H with ⟨c6b0, H⟩ | ⟨c6b0, H⟩
   ·replace H := ifN H; obtain ⟨c7b0, H⟩ := H
    replace H := be H; obtain ⟨⟨t418, t419, t420, t421⟩, A8, H⟩ := H
    dsimp only at H
    replace H := ifN H; obtain ⟨c9b0, H⟩ := H
    obtain ⟨y422, hy422⟩ : ∃ y_ : List (dB), y_ = (x3_1.set (x4_1 : Int).toNat (⟨t418, t419, t420, t421⟩ : dB)) := ⟨_, rfl⟩
    replace H : (fF.l0 k1 l0 y422 (wrap64 (x4_1 + 1))) = some r := by first | (rw [hy422]; with_reducible exact H) | (have H2_ := (Option.bind_some _ _).symm.trans H; rw [hy422]; with_reducible exact H2_) | (have H2_ := (Option.bind_some _ _).symm.trans H; with_reducible exact H2_) | with_reducible exact H | (rw [hy422]; exact H) | exact H
    have Ny422 := ah.mk hy422
    clear hy422
    have H' := ah.mk H
    clear H
    have p417 : 0 ≤ (x4_1 : Int) := OD
    have q417 : x4_1 < (l0.length : Int) := OD
    obtain ⟨ad417, e417, hx417_0, hx417_1, hx417_2, hx417_3⟩ := AQ HR0.out x4_1 p417 q417
    cases e417
    try replace hx417_0 := (HB.out.cell (World.block_lt_of_cell? w _ hx417_0)).trans hx417_0
    try replace hx417_1 := (HB.out.cell (World.block_lt_of_cell? w _ hx417_1)).trans hx417_1
    try replace hx417_2 := (HB.out.cell (World.block_lt_of_cell? w _ hx417_2)).trans hx417_2
    try replace hx417_3 := (HB.out.cell (World.block_lt_of_cell? w _ hx417_3)).trans hx417_3
    replace p417 := eq_true p417
    replace q417 := eq_true q417
    go_wp2_with (first | ((with_reducible refine ay (f := 161) rfl ?_); refine bE (some 20) Tryz.func161 #[.agg #[.int .i64 ((gK l0 x4_1).f0), .string ((gK l0 x4_1).f1), .int .i64 ((gK l0 x4_1).f2), .int .i64 ((gK l0 x4_1).f3)]] ?_; (with_reducible refine (lX.calls ((gK l0 x4_1).f0) ((gK l0 x4_1).f1) ((gK l0 x4_1).f2) ((gK l0 x4_1).f3) t418 t419 t420 t421 _ A8.out).mono ?_); rintro e w9001 ⟨rfl, hb⟩; refine ⟨_, rfl, ?_⟩; replace HO_3 := RB HO_3 hb; replace HB := BS (w := w) hb; (try clear hb); (try clear hk); have p10 : 0 ≤ (x4_1 : Int) := OD; have q10 : (x4_1 : Int) < ((x3_1.length : Int) : Int) := OD; obtain ⟨go10, co9002, eo9002, gb10, gl10, cl10, HG10⟩ := Kd.qm HO_3.out (by omega); (first | cases eo9002 | (injection eo9002 with ea_ en_ ec_; (first | subst ea_ | (injection ea_ with ea_; subst ea_)); subst ec_; clear en_)); have GB10 := ah.mk gb10; have GG10 := ah.mk HG10; clear gb10 gl10 HG10; obtain ⟨ce10, hcl10, hM10, hcc10, hfr10⟩ := Kd.tu HO_3.out z141 (x4_1 : Int) p10 q10; obtain rfl := vI hM10; have hx10_0 : w9001.cell? ⟨go10, (x4_1 : Int).toNat * 4, none⟩ = some (.int .i64 ((aj x3_1 x4_1).f0)) := hcc10 0 _ rfl; have hx10_1 : w9001.cell? ⟨go10, (x4_1 : Int).toNat * 4 + 1, none⟩ = some (.string ((aj x3_1 x4_1).f1)) := hcc10 1 _ rfl; have hx10_2 : w9001.cell? ⟨go10, (x4_1 : Int).toNat * 4 + 2, none⟩ = some (.int .i64 ((aj x3_1 x4_1).f2)) := hcc10 2 _ rfl; have hx10_3 : w9001.cell? ⟨go10, (x4_1 : Int).toNat * 4 + 3, none⟩ = some (.int .i64 ((aj x3_1 x4_1).f3)) := hcc10 3 _ rfl; have hf10_0 : w9001.frozen? ⟨go10, (x4_1 : Int).toNat * 4, none⟩ = false := hfr10 0; have hf10_1 : w9001.frozen? ⟨go10, (x4_1 : Int).toNat * 4 + 1, none⟩ = false := hfr10 1; have hf10_2 : w9001.frozen? ⟨go10, (x4_1 : Int).toNat * 4 + 2, none⟩ = false := hfr10 2; have hf10_3 : w9001.frozen? ⟨go10, (x4_1 : Int).toNat * 4 + 3, none⟩ = false := hfr10 3; clear hcl10 hcc10 hfr10 hM10; replace p10 := eq_true p10; replace q10 := eq_true q10; have HX12 := ah.mk (show Kd.R jw 141 w9001 w.heap.size (fun _ => True) (.slice (some ⟨go10, 0, none⟩) x3_1.length co9002) x3_1 from (RR HO_3)); obtain ⟨ce12, hcl12, hM12, hcc12, hfr12⟩ := Kd.tu HX12.out z141 (x4_1 : Int) (OD) (by have h_ : (x4_1 : Int) < ((x3_1.length : Int) : Int) := OD; first | exact h_ | (have e_ := (Kd.bP HO_3.out).1; omega) | simpa using h_); obtain rfl := vI hM12; have HP12 := Kd.CY HX12.out (x4_1 : Int) (OD) (by have h_ : (x4_1 : Int) < ((x3_1.length : Int) : Int) := OD; first | exact h_ | (have e_ := (Kd.bP HO_3.out).1; omega) | simpa using h_) (seg := [.int .i64 t418, .string t419, .int .i64 t420, .int .i64 t421]) (j := 0) hcl12 hcc12 (show 4 ≤ 4 from by decide) (x' := (⟨t418, t419, t420, t421⟩ : dB)) (zk _ _ _ (⟨t418, t419, t420, t421⟩ : dB) ) (fun _ hk => hk); have hx12_0 := hcc12 0 _ rfl; (try simp only [show (jw).sz = 4 from rfl, Nat.mul_one, Nat.add_zero] at hx12_0); have hf12_0 := hfr12 0; (try simp only [show (jw).sz = 4 from rfl, Nat.mul_one, Nat.add_zero] at hf12_0); have hx12_1 := hcc12 1 _ rfl; (try simp only [show (jw).sz = 4 from rfl, Nat.mul_one, Nat.add_zero] at hx12_1); have hf12_1 := hfr12 1; (try simp only [show (jw).sz = 4 from rfl, Nat.mul_one, Nat.add_zero] at hf12_1); have hx12_2 := hcc12 2 _ rfl; (try simp only [show (jw).sz = 4 from rfl, Nat.mul_one, Nat.add_zero] at hx12_2); have hf12_2 := hfr12 2; (try simp only [show (jw).sz = 4 from rfl, Nat.mul_one, Nat.add_zero] at hf12_2); have hx12_3 := hcc12 3 _ rfl; (try simp only [show (jw).sz = 4 from rfl, Nat.mul_one, Nat.add_zero] at hx12_3); have hf12_3 := hfr12 3; (try simp only [show (jw).sz = 4 from rfl, Nat.mul_one, Nat.add_zero] at hf12_3); clear hcl12 hcc12 hfr12 hM12) | ((with_reducible refine jZ (t := 141) (p := 21) rfl ?_); refine jC (t := 141) (p := 21) (v := ?vo_w13) (w1 := ((((w9001.setCell ⟨go10, (x4_1 : Int).toNat * 4, none⟩ (.int .i64 t418)).setCell ⟨go10, (x4_1 : Int).toNat * 4 + 1, none⟩ (.string t419)).setCell ⟨go10, (x4_1 : Int).toNat * 4 + 2, none⟩ (.int .i64 t420)).setCell ⟨go10, (x4_1 : Int).toNat * 4 + 3, none⟩ (.int .i64 t421))) ?hg ?ho ?hn ?hr ?_; (case ho => rfl); (case hg => rfl); (case hn => rfl); (case hr => first | (go_simp; done) | (go_simp; rfl)); intro w9003 hw; have hg : w9001.grownBy w9003 (some go10) := (by rw [hw]; exact HP12.2); have hp_ : Kd.R jw 141 w9003 w.heap.size (fun _ => True) (.slice (some ⟨go10, 0, none⟩) x3_1.length co9002) y422 := (by rw [hw, Ny422.out]; exact HP12.1); clear HP12; have n0_ := ah.mk (hp_); have n1_ := ah.mk ((by rw [hw]; exact gZ (gZ (gZ (gZ (HB.out) GB10.out) GB10.out) GB10.out) GB10.out : Below w.heap.size w w9003)); clear HO_3 HB; have HO_3 := n0_; have HB := n1_; clear n0_ n1_; clear hg hw hp_))
    go_roundg k1
    case measure => have := HK1.out; omega
    case rel => exact ⟨(y422), (wrap64 (x4_1 + 1)), EQ, H', ⟨by have := HK1.out; omega⟩, ⟨(RR HO_3)⟩, ⟨BL⟩⟩
   ·obtain rfl := Option.some.inj H
    go_wp2
    go_ret
    exact ⟨_, EWW, (RR HO_3), BL⟩
def kM.f (k : Nat) (FV : Int) (F7 : List (mP)) : Option (Int × (List (dB))) := (fF.f k F7).bind fun t426 => (some (FV, t426))
theorem kM.calls (k : Nat) (FV : Int) (A0_1 : Option Addr) (c0_1 : Nat) (F7 : List (mP)) (r1 : Int) (r2 : List (dB)) (w : World) (hr0_1 : Kd.C xD w A0_1 F7.length F7) (hc0_1 : F7.length ≤ c0_1) (h : kM.f k FV F7 = some (r1, r2)) :
  Calls Tryz.prog 53 #[.agg #[.int .i64 FV, .slice A0_1 F7.length c0_1]] w fun e w' => ∃ v1_ : Value, e = .returned (.agg #[.int .i64 r1, v1_]) ∧ Kd.R jw 141 w' w.heap.size (fun _ => True) v1_ r2 ∧ Below w.heap.size w w' := by
 have hu68 := Tryz.underlying68
 have hu82 := Tryz.underlying82
 have HR0_1 := ah.mk hr0_1
 have HC0_1 := ah.mk hc0_1
 clear hr0_1 hc0_1
 have HB := ah.mk (Below.refl w.heap.size w)
 unfold kM.f at h
 have H := h
 clear h
 replace H := be H; obtain ⟨t426, A2, H⟩ := H
 simp only [Option.some.injEq, Prod.mk.injEq] at H
 obtain ⟨rfl, rfl⟩ := H
 go_enter Tryz.func53, Tryz.ntmps53
 go_wp2_with (first | ((with_reducible refine aJ (N := 1) rfl ?_); refine bg (N := 1) (cs := #[.int .i64 FV, .slice A0_1 F7.length c0_1]) (t := 68) ?_; intro gb423 hg w3 hbox hb; have BK423 := ah.mk hbox; have GW423 := SZ (w := w) hg; have GE423 := GW423; replace HB := BS (w := w) hb; clear hb hbox hg) | ((with_reducible refine aJ (N := 2) rfl ?_); refine bg (N := 2) (cs := #[.int .i64 0, .slice none 0 0]) (t := 82) ?_; intro gb424 hg w4 hbox hb; have n0_ := KB BK423 hb; have n1_ := BS (w := w) hb; have n2_ := ah.mk (hbox); have n3_ := SZ (w := w) hg; have n4_ := SZ (w := w) hg; have n5_ := NL BK423 hg; have n6_ := NG BK423 hg; clear BK423 HB; have BK423 := n0_; have HB := n1_; have BK424 := n2_; have GW424 := n3_; have GE424 := n4_; have NB423_424 := n5_; have NB424_423 := n6_; clear n0_ n1_ n2_ n3_ n4_ n5_ n6_; clear hb hbox hg) | ((with_reducible refine aJ (N := 3) rfl ?_); refine bg (N := 3) (cs := #[.int .i64 0, .slice none 0 0]) (t := 82) ?_; intro gb425 hg w5 hbox hb; have n0_ := KB BK423 hb; have n1_ := KB BK424 hb; have n2_ := BS (w := w) hb; have n3_ := ah.mk (hbox); have n4_ := SZ (w := w) hg; have n5_ := SZ (w := w) hg; have n6_ := NL BK423 hg; have n7_ := NG BK423 hg; have n8_ := NL BK424 hg; have n9_ := NG BK424 hg; clear BK423 BK424 HB; have BK423 := n0_; have BK424 := n1_; have HB := n2_; have BK425 := n3_; have GW425 := n4_; have GE425 := n5_; have NB423_425 := n6_; have NB425_423 := n7_; have NB424_425 := n8_; have NB425_424 := n9_; clear n0_ n1_ n2_ n3_ n4_ n5_ n6_ n7_ n8_ n9_; clear hb hbox hg; have hnb6 := NB423_424.out; have hnc6 := NB424_423.out; have hnb7 := NB423_425.out; have hnc7 := NB425_423.out; obtain ⟨hcz8_0, hcz8_1, hfz8_0, hfz8_1⟩ := cz2 BK423.out; have hnb9 := NB425_424.out; have hnc9 := NB424_425.out; obtain ⟨hcz10_0, hcz10_1, hfz10_0, hfz10_1⟩ := cz2 BK425.out) | ((with_reducible refine ay (f := 107) rfl ?_); refine bE (some 9) Tryz.func107 #[.slice A0_1 F7.length c0_1] ?_; (with_reducible refine (fF.calls k _ _ F7 t426 _ ?side1 ?side2 A2.out).mono ?_); (case side1 => exact Kd.eO HR0_1.out BL); (case side2 => exact HC0_1.out); rintro e w11 ⟨v427, rfl, ho0, hb⟩; refine ⟨_, rfl, ?_⟩; have n0_ := ah.mk (Kd.cO ho0 (aQ BL)); have n1_ := ah.mk (aR (g := gb423) (o := .cells #[.int .i64 FV, .slice A0_1 F7.length c0_1] 68 (0, 0)) (by (with_reducible repeat (first | refine aG ?_ _ | refine aH ?_ | refine aD ?_ _)); refine dN ?_ NB423_425.out _; (with_reducible repeat (first | refine aG ?_ _ | refine aH ?_ | refine aD ?_ _)); exact BK423.out) hb); have n2_ := ah.mk (aR (g := gb424) (o := .cells #[.int .i64 0, .slice none 0 0] 82 (0, 0)) (by (with_reducible repeat (first | refine aG ?_ _ | refine aH ?_ | refine aD ?_ _)); refine dN ?_ NB424_425.out _; (with_reducible repeat (first | refine aG ?_ _ | refine aH ?_ | refine aD ?_ _)); exact BK424.out) hb); have n3_ := ah.mk (aR (g := gb425) (o := .cells #[.int .i64 FV, .slice none 0 0] 82 (0, 0)) (by (with_reducible repeat (first | refine aG ?_ _ | refine aH ?_ | refine aD ?_ _)); refine aY (cs := #[.int .i64 0, .slice none 0 0]) ?_ 0 _ rfl; (with_reducible repeat (first | refine aG ?_ _ | refine aH ?_ | refine aD ?_ _)); exact BK425.out) hb); replace HB := BS (w := w) hb; clear BK423 BK424 BK425; have HO428 := n0_; have BK423 := n1_; have BK424 := n2_; have BK425 := n3_; clear n0_ n1_ n2_ n3_; (try clear hb); (try clear ho0); obtain ⟨Ao12, co12, eo12⟩ := Kd.dL HO428.out; subst eo12; obtain ⟨hcz13_0, hcz13_1, hfz13_0, hfz13_1⟩ := cz2 BK425.out; obtain ⟨hcz14_0, hcz14_1, hfz14_0, hfz14_1⟩ := cz2 BK424.out))
 refine bodyPost_ret (results_cell_row rfl _ _ gb424 82 #[.int .i64 FV, .slice Ao12 t426.length co12] (0, 0) _ rfl (by (with_reducible repeat (first | refine aG ?_ _ | refine aH ?_ | refine aD ?_ _)); refine aY (cs := #[.int .i64 FV, .slice none 0 0]) ?_ 1 _ rfl; (with_reducible repeat (first | refine aG ?_ _ | refine aH ?_ | refine aD ?_ _)); refine aY (cs := #[.int .i64 0, .slice none 0 0]) ?_ 0 _ rfl; (with_reducible repeat (first | refine aG ?_ _ | refine aH ?_ | refine aD ?_ _)); refine dN ?_ NB424_425.out _; (with_reducible repeat (first | refine aG ?_ _ | refine aH ?_ | refine aD ?_ _)); exact BK424.out) Tryz.underlying82 rfl (by kernel_rfl)) rfl ?_
 exact ⟨_, EWW, by (with_reducible repeat (first | apply Kd.fI | apply Kd.fJ | apply Kd.eu)); exact Kd.dY (Kd.fP (p := ⟨gb424, 1, none⟩) (Kd.fP (p := ⟨gb424, 0, none⟩) (Kd.fP (p := ⟨gb425, 1, none⟩) (Kd.ni (Kd.ni HO428.out BK425.out (by decide)) BK424.out (by decide)) (fun _ hk => hk.1.2) (.slice Ao12 t426.length co12)) (fun _ hk => hk.2) (.int .i64 FV)) (fun _ hk => hk.2) (.slice Ao12 t426.length co12)) (fun _ hk => trivial), BL⟩
def fE.l0 : Nat → List (S68) → List (S82) → Int → Option ((List (S82)))
 | 0, _, _, _ => none
 | k + 1, a, b, c => if c < (a.length : Int) then (if 0 ≤ c then ((kM.f k ((j6 a c).f0) ((j6 a c).f1)).bind fun d => (if c < (b.length : Int) then (fE.l0 k a (b.set (c : Int).toNat (⟨d.1, d.2⟩ : S82)) (wrap64 (c + 1))) else (none))) else (none)) else (some b)
def fE.f (k : Nat) (l0 : List (S68)) : Option ((List (S82))) := if 0 ≤ (l0.length : Int) then (if ((l0.length : Int) : Int).toNat ≤ 8796093022208 then (fE.l0 k l0 (List.replicate ((l0.length : Int) : Int).toNat z82) 0) else (none)) else (none)
theorem fE.calls (k : Nat) (A0 : Option Addr) (c0 : Nat) (l0 : List (S68)) (r : List (S82)) (w : World) (hr0 : Kd.C k68 w A0 l0.length l0) (hc0 : l0.length ≤ c0) (h : fE.f k l0 = some r) :
  Calls Tryz.prog 15 #[.slice A0 l0.length c0] w fun e w' => ∃ v0_ : Value, e = .returned (v0_) ∧ Kd.S k82 82 w' w.heap.size (fun _ => True) v0_ r ∧ Below w.heap.size w w' := by
 have hu68 := Tryz.underlying68
 have hu82 := Tryz.underlying82
 have HR0 := ah.mk hr0
 have HC0 := ah.mk hc0
 clear hr0 hc0
 have HB := ah.mk (Below.refl w.heap.size w)
 unfold fE.f at h
 have H := h
 clear h
 replace H := ifP H; obtain ⟨c2, H⟩ := H
 have c2b0 := eq_true c2
 have c2b1 : decide (0 ≤ (l0.length : Int)) = true := decide_eq_true c2
 clear c2
 replace H := ifP H; obtain ⟨c3, H⟩ := H
 have c3b0 := eq_true c3
 have c3b1 : decide (((l0.length : Int) : Int).toNat ≤ 8796093022208) = true := decide_eq_true c3
 clear c3
 obtain ⟨y429, hy429⟩ : ∃ y_ : List (S82), y_ = (List.replicate ((l0.length : Int) : Int).toNat z82) := ⟨_, rfl⟩
 replace H : (fE.l0 k l0 y429 0) = some r := by first | (rw [hy429]; with_reducible exact H) | (have H2_ := (Option.bind_some _ _).symm.trans H; rw [hy429]; with_reducible exact H2_) | (have H2_ := (Option.bind_some _ _).symm.trans H; with_reducible exact H2_) | with_reducible exact H | (rw [hy429]; exact H) | exact H
 have Ny429 := ah.mk hy429
 clear hy429
 have H' := ah.mk H
 clear H
 go_enter Tryz.func15, Tryz.ntmps15
 go_wp2_with (first | ((with_reducible refine aJ (N := 7) rfl ?_); refine Kd.En k82 _ 82 rfl (N := 7) rfl 34 _ _ rfl (l0.length : Int) rfl rfl Tryz.underlying34 (.agg #[(.int .i64 0), (.slice none 0 0)]) 32 EI rfl (by decide) (by omega) z82 (ok := fun _ => True) (okp := fun _ => True) (AO _ _ _ z82 (Kd.nX _ _ _ _ _)) (fun _ hk => hk) trivial (OD) (Nat.le_trans (Nat.mul_le_mul_right _ (OD : (l0.length : Int).toNat ≤ 8796093022208)) (by omega)) (Below.refl _ _) (Nat.le_refl _) ?_; intro v430 w9000 ho5 hb hg_ hnew_; clear hg_ hnew_; (first | rw [← Ny429.out] at ho5 | (simp only [Int.reduceToNat] at ho5; rw [← Ny429.out] at ho5)); have n0_ := ah.mk (Kd.nT ho5 (aQ BL)); replace HB := BS (w := w) hb; have HO431 := n0_; clear n0_; clear hb ho5))
 go_loopg [4] k (fun kq v4 w' => ∃ (x3_1 : List (S82)) (x4_1 : Int), v4 = .int .i64 x4_1 ∧ ah (fE.l0 kq l0 x3_1 x4_1 = some r) ∧ ah (kq ≤ k) ∧ ah (Kd.S k82 82 w' w.heap.size (fun _ => True) v430 x3_1) ∧ ah (Below w.heap.size w w'))
 case atStart => exact ⟨(y429), (0), EQ, H', ⟨Nat.le_refl _⟩, ⟨(SR HO431)⟩, ⟨BL⟩⟩
 case round =>
  clear H'
  try clear c2
  try clear c2b0
  try clear c2b1
  try clear c3
  try clear c3b0
  try clear c3b1
  obtain ⟨x3_1, x4_1, rfl, HA, HK1, HO_3, HB⟩ := hrel
  cases gk with
  | zero => exact absurd HA.out (by simp [fE.l0])
  | succ k1 =>
   have H := HA.out
   clear HA
   simp only [fE.l0] at H
   replace H := ifD H; rcases H with ⟨c6b0, H⟩ | ⟨c6b0, H⟩
   ·replace H := ifN H; obtain ⟨c7b0, H⟩ := H
    replace H := be H; obtain ⟨⟨t433, t434⟩, A8, H⟩ := H
    dsimp only at H
    replace H := ifN H; obtain ⟨c9b0, H⟩ := H
    obtain ⟨y437, hy437⟩ : ∃ y_ : List (S82), y_ = (x3_1.set (x4_1 : Int).toNat (⟨t433, t434⟩ : S82)) := ⟨_, rfl⟩
    replace H : (fE.l0 k1 l0 y437 (wrap64 (x4_1 + 1))) = some r := by first | (rw [hy437]; with_reducible exact H) | (have H2_ := (Option.bind_some _ _).symm.trans H; rw [hy437]; with_reducible exact H2_) | (have H2_ := (Option.bind_some _ _).symm.trans H; with_reducible exact H2_) | with_reducible exact H | (rw [hy437]; exact H) | exact H
    have Ny437 := ah.mk hy437
    clear hy437
    have H' := ah.mk H
    clear H
    have p432 : 0 ≤ (x4_1 : Int) := OD
    have q432 : x4_1 < (l0.length : Int) := OD
    obtain ⟨ad432, A432_1, c432_1, e432, hx432_0, hx432_1, hl432_1, hi432_1⟩ := CQ HR0.out x4_1 p432 q432
    cases e432
    try replace hx432_0 := (HB.out.cell (World.block_lt_of_cell? w _ hx432_0)).trans hx432_0
    try replace hx432_1 := (HB.out.cell (World.block_lt_of_cell? w _ hx432_1)).trans hx432_1
    have HR432_1 := ah.mk hi432_1
    have HC432_1 := ah.mk hl432_1
    clear hi432_1 hl432_1
    replace p432 := eq_true p432
    replace q432 := eq_true q432
    go_wp2_with (first | ((with_reducible refine ay (f := 53) rfl ?_); refine bE (some 20) Tryz.func53 #[.agg #[.int .i64 ((j6 l0 x4_1).f0), .slice A432_1 ((j6 l0 x4_1).f1).length c432_1]] ?_; (with_reducible refine (kM.calls k1 ((j6 l0 x4_1).f0) _ _ ((j6 l0 x4_1).f1) t433 t434 _ ?side1 ?side2 A8.out).mono ?_); (case side1 => exact CB HR432_1); (case side2 => exact HC432_1.out); rintro e w9001 ⟨v435, rfl, ho0, hb⟩; refine ⟨_, rfl, ?_⟩; have n0_ := ah.mk (Kd.qp (SR HO_3) (Kd.lV ho0) hb); have n1_ := ah.mk (Kd.cO ho0 (aQ BL)); replace HB := BS (w := w) hb; clear HO_3; have HO_3 := n0_; have HO436 := n1_; clear n0_ n1_; (try clear hb); (try clear hk); (try clear ho0); have p10 : 0 ≤ (x4_1 : Int) := OD; have q10 : (x4_1 : Int) < ((x3_1.length : Int) : Int) := OD; obtain ⟨go10, co9002, eo9002, gb10, gl10, cl10, HG10⟩ := Kd.EP HO_3.out (by omega); (first | cases eo9002 | (injection eo9002 with ea_ en_ ec_; (first | subst ea_ | (injection ea_ with ea_; subst ea_)); subst ec_; clear en_)); have GB10 := ah.mk gb10; have GG10 := ah.mk HG10; clear gb10 gl10 HG10; obtain ⟨_, ce10, hcl10, hM10, hcc10, hfr10, _, _⟩ := Kd.Ck HO_3.out z82 (x4_1 : Int) p10 q10; obtain ⟨ve10_1, rfl, ge10_1⟩ := xM hM10; have hx10_0 : w9001.cell? ⟨go10, (x4_1 : Int).toNat * 2, none⟩ = some (.int .i64 ((fG x3_1 x4_1).f0)) := hcc10 0 _ rfl; have hx10_1 : w9001.cell? ⟨go10, (x4_1 : Int).toNat * 2 + 1, none⟩ = some (ve10_1) := hcc10 1 _ rfl; have hf10_0 : w9001.frozen? ⟨go10, (x4_1 : Int).toNat * 2, none⟩ = false := hfr10 0; have hf10_1 : w9001.frozen? ⟨go10, (x4_1 : Int).toNat * 2 + 1, none⟩ = false := hfr10 1; clear hcl10 hcc10 hfr10 hM10; replace p10 := eq_true p10; replace q10 := eq_true q10; have n_ := ah.mk (Kd.mQ (ok' := (fun k_ => some k_ ≠ (v435 : Value).ownBlock)) HO_3.out (fun k_ hk => hk.2)); clear HO_3; have HO_3 := n_; clear n_; have HX12 := ah.mk (show Kd.S k82 82 w9001 w.heap.size (fun k_ => ((fun _ => True)) k_ ∧ ¬ ((fun k_ => some k_ = (v435 : Value).ownBlock)) k_) (.slice (some ⟨go10, 0, none⟩) x3_1.length co9002) x3_1 from (by (with_reducible repeat (first | apply Kd.mI | apply Kd.mD | apply Kd.mU)); exact Kd.mQ HO_3.out (fun k_ hk => ⟨trivial, fun e_ => hk e_⟩))); obtain ⟨oki12, ce12, hcl12, hM12, hcc12, hfr12, hoki12, hH12⟩ := Kd.Ck HX12.out z82 (x4_1 : Int) (OD) (by have h_ : (x4_1 : Int) < ((x3_1.length : Int) : Int) := OD; first | exact h_ | (have e_ := (Kd.iL HO_3.out).1; omega) | simpa using h_); obtain ⟨ve12_1, rfl, ge12_1⟩ := xM hM12; have HP12 := Kd.Fe hH12 (OD) (by have h_ : (x4_1 : Int) < ((x3_1.length : Int) : Int) := OD; first | exact h_ | (have e_ := (Kd.iL HO_3.out).1; omega) | simpa using h_) (seg := [.int .i64 t433, v435]) (j := 0) (show 2 ≤ 2 from by decide) (x' := (⟨t433, t434⟩ : S82)) (AO _ _ _ (⟨t433, t434⟩ : S82) (Kd.dY (Kd.yB rfl (Kd.dY (ok' := fun k_ => ((fun _ => True)) k_ ∧ k_ ≠ go10) (Kd.sw (HO436.out) (Kd.sP HO_3.out) (by decide)) (fun k_ hk => ⟨trivial, fun e_ => (hk.2) (by rw [e_]; rfl)⟩))) (fun _ h_ => Or.inr (h_)))) (fun _ hk => hk) (fun k_ hk_ => ((Kd.dY (ok' := fun k_ => ((fun _ => True)) k_ ∧ k_ ≠ go10) (Kd.sw (HO436.out) (Kd.sP HO_3.out) (by decide)) (fun k_ hk => ⟨trivial, fun e_ => (hk.2) (by rw [e_]; rfl)⟩))).1 k_ hk_.symm); have hs12_0 : ∀ (P_ : Program) (w_ : World) (a_ : Addr) (m_ : Mode), (store a_ v435 m_).run P_ w_ = stored P_ w_ a_ v435 m_ := fun P_ w_ a_ m_ => run_store P_ w_ a_ _ m_ (by obtain ⟨_, _, e_⟩ := Kd.dL HO436.out; rw [e_]; rfl); have hs12_0 : ∀ (P_ : Program) (w_ : World) (a_ : Addr) (m_ : Mode), (store a_ v435 m_).run P_ w_ = stored P_ w_ a_ v435 m_ := fun P_ w_ a_ m_ => run_store P_ w_ a_ _ m_ (by obtain ⟨_, _, e_⟩ := Kd.dL HO436.out; rw [e_]; rfl); have hx12_0 := hcc12 0 _ rfl; (try simp only [show (k82).sz = 2 from rfl, Nat.mul_one, Nat.add_zero] at hx12_0); have hf12_0 := hfr12 0; (try simp only [show (k82).sz = 2 from rfl, Nat.mul_one, Nat.add_zero] at hf12_0); have hx12_1 := hcc12 1 _ rfl; (try simp only [show (k82).sz = 2 from rfl, Nat.mul_one, Nat.add_zero] at hx12_1); have hf12_1 := hfr12 1; (try simp only [show (k82).sz = 2 from rfl, Nat.mul_one, Nat.add_zero] at hf12_1); clear hcl12 hcc12 hfr12 hM12 hoki12 hH12) | ((with_reducible refine jZ (t := 82) (p := 21) rfl ?_); refine jC (t := 82) (p := 21) (v := ?vo_w13) (w1 := ((w9001.setCell ⟨go10, (x4_1 : Int).toNat * 2, none⟩ (.int .i64 t433)).setCell ⟨go10, (x4_1 : Int).toNat * 2 + 1, none⟩ (v435))) ?hg ?ho ?hn ?hr ?_; (case ho => rfl); (case hg => rfl); (case hn => rfl); (case hr => first | (go_simp; done) | (go_simp; rfl)); intro w9003 hw; have hg : w9001.grownBy w9003 (some go10) := (by rw [hw]; exact HP12.2); have hp_ : Kd.S k82 82 w9003 w.heap.size (fun _ => True) (.slice (some ⟨go10, 0, none⟩) x3_1.length co9002) y437 := (by rw [hw, Ny437.out]; exact HP12.1); clear HP12; have n0_ := ah.mk (hp_); have n1_ := ah.mk ((by rw [hw]; exact gZ (gZ (HB.out) GB10.out) GB10.out : Below w.heap.size w w9003)); clear HO_3 HB HO436; have HO_3 := n0_; have HB := n1_; clear n0_ n1_; clear hg hw hp_))
    go_roundg k1
    case measure => have := HK1.out; omega
    case rel => exact ⟨(y437), (wrap64 (x4_1 + 1)), EQ, H', ⟨by have := HK1.out; omega⟩, ⟨(SR HO_3)⟩, ⟨BL⟩⟩
   ·obtain rfl := Option.some.inj H
    go_wp2
    go_ret
    exact ⟨_, EWW, (SR HO_3), BL⟩
def fT.l0 : Nat → List Int → List Int → Int → Option (List Int)
 | 0, _, _, _ => none
 | k + 1, a, b, c => if c < (a.length : Int) then (if 0 ≤ c then (if c < (b.length : Int) then (fT.l0 k a (b.set (c : Int).toNat (rd a c)) (wrap64 (c + 1))) else (none)) else (none)) else (some b)
def fT.f (k : Nat) (l0 : List Int) : Option (List Int) := if 0 ≤ (l0.length : Int) then (if ((l0.length : Int) : Int).toNat ≤ 35184372088832 then (fT.l0 k l0 (List.replicate ((l0.length : Int) : Int).toNat 0) 0) else (none)) else (none)
theorem fT.calls (k : Nat) (A0 : Option Addr) (c0 : Nat) (l0 r : List Int) (w : World) (hr0 : Kd.C (Kd.int .i64) w A0 l0.length l0) (hc0 : l0.length ≤ c0) (h : fT.f k l0 = some r) :
  Calls Tryz.prog 70 #[.slice A0 l0.length c0] w fun e w' => ∃ v0_ : Value, e = .returned (v0_) ∧ Kd.R (Kd.int .i64) 3 w' w.heap.size (fun _ => True) v0_ r ∧ Below w.heap.size w w' := by
 have HR0 := ah.mk hr0
 have HC0 := ah.mk hc0
 clear hr0 hc0
 have HB := ah.mk (Below.refl w.heap.size w)
 unfold fT.f at h
 have H := h
 clear h
 replace H := ifP H; obtain ⟨c2, H⟩ := H
 have c2b0 := eq_true c2
 have c2b1 : decide (0 ≤ (l0.length : Int)) = true := decide_eq_true c2
 clear c2
 replace H := ifP H; obtain ⟨c3, H⟩ := H
 have c3b0 := eq_true c3
 have c3b1 : decide (((l0.length : Int) : Int).toNat ≤ 35184372088832) = true := decide_eq_true c3
 clear c3
 obtain ⟨y438, hy438⟩ : ∃ y_ : List Int, y_ = (List.replicate ((l0.length : Int) : Int).toNat 0) := ⟨_, rfl⟩
 replace H : (fT.l0 k l0 y438 0) = some r := by first | (rw [hy438]; with_reducible exact H) | (have H2_ := (Option.bind_some _ _).symm.trans H; rw [hy438]; with_reducible exact H2_) | (have H2_ := (Option.bind_some _ _).symm.trans H; with_reducible exact H2_) | with_reducible exact H | (rw [hy438]; exact H) | exact H
 have Ny438 := ah.mk hy438
 clear hy438
 have H' := ah.mk H
 clear H
 go_enter Tryz.func70, Tryz.ntmps70
 go_wp2_with (first | ((with_reducible refine aJ (N := 7) rfl ?_); refine Kd.tC (Kd.int .i64) _ 3 rfl (N := 7) rfl 43 _ _ rfl (l0.length : Int) rfl rfl Tryz.underlying43 (.int .i64 0) 8 info3 rfl (by decide) (by omega) 0 (ok := fun _ => True) (okp := fun _ => True) rfl (fun _ hk => hk) trivial (OD) (Nat.le_trans (Nat.mul_le_mul_right _ (OD : (l0.length : Int).toNat ≤ 35184372088832)) (by omega)) (Below.refl _ _) (Nat.le_refl _) ?_; intro v439 w9000 ho5 hb hg_ hnew_; clear hg_ hnew_; (first | rw [← Ny438.out] at ho5 | (simp only [Int.reduceToNat] at ho5; rw [← Ny438.out] at ho5)); have n0_ := ah.mk (Kd.cO ho5 (aQ BL)); replace HB := BS (w := w) hb; have HO440 := n0_; clear n0_; clear hb ho5))
 go_loopg [4] k (fun kq v4 w' => ∃ (x3_1 : List Int) (x4_1 : Int), v4 = .int .i64 x4_1 ∧ ah (fT.l0 kq l0 x3_1 x4_1 = some r) ∧ ah (kq ≤ k) ∧ ah (Kd.R (Kd.int .i64) 3 w' w.heap.size (fun _ => True) v439 x3_1) ∧ ah (Below w.heap.size w w'))
 case atStart => exact ⟨(y438), (0), EQ, H', ⟨Nat.le_refl _⟩, ⟨(RR HO440)⟩, ⟨BL⟩⟩
 case round =>
  clear H'
  try clear c2
  try clear c2b0
  try clear c2b1
  try clear c3
  try clear c3b0
  try clear c3b1
  obtain ⟨x3_1, x4_1, rfl, HA, HK1, HO_3, HB⟩ := hrel
  cases gk with
  | zero => exact absurd HA.out (by simp [fT.l0])
  | succ k1 =>
   have H := HA.out
   clear HA
   simp only [fT.l0] at H
   replace H := ifD H; rcases H with ⟨c6b0, H⟩ | ⟨c6b0, H⟩
   ·replace H := ifN H; obtain ⟨c7b0, H⟩ := H
    replace H := ifN H; obtain ⟨c8b0, H⟩ := H
    obtain ⟨y442, hy442⟩ : ∃ y_ : List Int, y_ = (x3_1.set (x4_1 : Int).toNat (rd l0 x4_1)) := ⟨_, rfl⟩
    replace H : (fT.l0 k1 l0 y442 (wrap64 (x4_1 + 1))) = some r := by first | (rw [hy442]; with_reducible exact H) | (have H2_ := (Option.bind_some _ _).symm.trans H; rw [hy442]; with_reducible exact H2_) | (have H2_ := (Option.bind_some _ _).symm.trans H; with_reducible exact H2_) | with_reducible exact H | (rw [hy442]; exact H) | exact H
    have Ny442 := ah.mk hy442
    clear hy442
    have H' := ah.mk H
    clear H
    have p441 : 0 ≤ (x4_1 : Int) := OD
    have q441 : x4_1 < (l0.length : Int) := OD
    obtain ⟨ad441, e441, hx441_0⟩ := Kd.mG HR0.out x4_1 p441 q441
    cases e441
    try replace hx441_0 := (HB.out.cell (World.block_lt_of_cell? w _ hx441_0)).trans hx441_0
    replace p441 := eq_true p441
    replace q441 := eq_true q441
    have p9 : 0 ≤ (x4_1 : Int) := OD
    have q9 : (x4_1 : Int) < ((x3_1.length : Int) : Int) := OD
    obtain ⟨go9, co9001, eo9001, gb9, gl9, cl9, HG9⟩ := Kd.qm HO_3.out (by omega)
    (first | cases eo9001 | (injection eo9001 with ea_ en_ ec_; (first | subst ea_ | (injection ea_ with ea_; subst ea_)); subst ec_; clear en_))
    have GB9 := ah.mk gb9
    have GG9 := ah.mk HG9
    clear gb9 gl9 HG9
    obtain ⟨hx9_0, hf9_0⟩ := Kd.mo 0 HO_3.out (x4_1 : Int) p9 q9
    replace p9 := eq_true p9
    replace q9 := eq_true q9
    have HP10 := Kd.uz HO_3.out (x4_1 : Int) (rd l0 x4_1)
    go_wp2_with (first | ((with_reducible refine jZ (t := 3) (p := 20) rfl ?_); refine jC (t := 3) (p := 20) (v := ?vo_w11) (w1 := (wr.setCell ⟨go9, (x4_1 : Int).toNat, none⟩ (.int .i64 (rd l0 x4_1)))) ?hg ?ho ?hn ?hr ?_; (case ho => rfl); (case hg => rfl); (case hn => rfl); (case hr => first | (go_simp; done) | (go_simp; rfl)); intro w9002 hw; have hg : wr.grownBy w9002 (some go9) := (by rw [hw]; exact HP10.2); have hp_ : Kd.R (Kd.int .i64) 3 w9002 w.heap.size (fun _ => True) (.slice (some ⟨go9, 0, none⟩) x3_1.length co9001) y442 := (by rw [hw, Ny442.out]; exact HP10.1); clear HP10; have n0_ := ah.mk (hp_); have n1_ := ah.mk ((by rw [hw]; exact gZ (HB.out) GB9.out : Below w.heap.size w w9002)); clear HO_3 HB; have HO_3 := n0_; have HB := n1_; clear n0_ n1_; clear hg hw hp_))
    go_roundg k1
    case measure => have := HK1.out; omega
    case rel => exact ⟨(y442), (wrap64 (x4_1 + 1)), EQ, H', ⟨by have := HK1.out; omega⟩, ⟨(RR HO_3)⟩, ⟨BL⟩⟩
   ·obtain rfl := Option.some.inj H
    go_wp2
    go_ret
    exact ⟨_, EWW, (RR HO_3), BL⟩
def iA.f (k : Nat) (FV FW : Int) (FX : ByteArray) (F4 : List (S68)) (F5 : List Int) (F6 : Int) : Option (Int × Int × ByteArray × (List (S82)) × List Int × Int) := (l5.f FV FW FX).bind fun bt446 => ((fE.f k F4).bind fun t449 => ((fT.f k F5).bind fun t452 => (some (bt446.1, bt446.2.1, bt446.2.2, t449, t452, F6))))
theorem iA.calls (k : Nat) (FV FW : Int) (FX : ByteArray) (A0_3 : Option Addr) (c0_3 : Nat) (F4 : List (S68)) (A0_4 : Option Addr) (c0_4 : Nat) (F5 : List Int) (F6 r1 r2 : Int) (r3 : ByteArray) (r4 : List (S82)) (r5 : List Int) (r6 : Int) (w : World) (hr0_3 : Kd.C k68 w A0_3 F4.length F4) (hc0_3 : F4.length ≤ c0_3) (hr0_4 : Kd.C (Kd.int .i64) w A0_4 F5.length F5) (hc0_4 : F5.length ≤ c0_4) (h : iA.f k FV FW FX F4 F5 F6 = some (r1, r2, r3, r4, r5, r6)) :
  Calls Tryz.prog 24 #[.agg #[.int .i64 FV, .int .i64 FW, .string FX, .slice A0_3 F4.length c0_3, .slice A0_4 F5.length c0_4, .int .i64 F6]] w fun e w' => ∃ v3_ v4_ : Value, e = .returned (.agg #[.int .i64 r1, .int .i64 r2, .string r3, v3_, v4_, .int .i64 r6]) ∧ Kd.S k82 82 w' w.heap.size (fun _ => True) v3_ r4 ∧ Kd.R (Kd.int .i64) 3 w' w.heap.size (fun _ => True) v4_ r5 ∧ Below w.heap.size w w' := by
 have hu45 := Tryz.underlying45
 have hu49 := Tryz.underlying49
 have hu23 := Tryz.underlying23
 have hu32 := Tryz.underlying32
 have HR0_3 := ah.mk hr0_3
 have HC0_3 := ah.mk hc0_3
 clear hr0_3 hc0_3
 have HR0_4 := ah.mk hr0_4
 have HC0_4 := ah.mk hc0_4
 clear hr0_4 hc0_4
 have HB := ah.mk (Below.refl w.heap.size w)
 unfold iA.f at h
 have H := h
 clear h
 replace H := be H; obtain ⟨⟨t446, t447, t448⟩, A2, H⟩ := H
 dsimp only at H
 replace H := be H; obtain ⟨t449, A3, H⟩ := H
 replace H := be H; obtain ⟨t452, A4, H⟩ := H
 simp only [Option.some.injEq, Prod.mk.injEq] at H
 obtain ⟨rfl, rfl, rfl, rfl, rfl, rfl⟩ := H
 go_enter Tryz.func24, Tryz.ntmps24
 go_wp2_with (first | ((with_reducible refine aJ (N := 1) rfl ?_); refine bg (N := 1) (cs := #[.int .i64 FV, .int .i64 FW, .string FX, .slice A0_3 F4.length c0_3, .slice A0_4 F5.length c0_4, .int .i64 F6]) (t := 45) ?_; intro gb443 hg w5 hbox hb; have BK443 := ah.mk hbox; have GW443 := SZ (w := w) hg; have GE443 := GW443; replace HB := BS (w := w) hb; clear hb hbox hg) | ((with_reducible refine aJ (N := 2) rfl ?_); refine bg (N := 2) (cs := #[.int .i64 0, .int .i64 0, .string (⟨#[]⟩ : ByteArray), .slice none 0 0, .slice none 0 0, .int .i64 0]) (t := 49) ?_; intro gb444 hg w6 hbox hb; have n0_ := KB BK443 hb; have n1_ := BS (w := w) hb; have n2_ := ah.mk (hbox); have n3_ := SZ (w := w) hg; have n4_ := SZ (w := w) hg; have n5_ := NL BK443 hg; have n6_ := NG BK443 hg; clear BK443 HB; have BK443 := n0_; have HB := n1_; have BK444 := n2_; have GW444 := n3_; have GE444 := n4_; have NB443_444 := n5_; have NB444_443 := n6_; clear n0_ n1_ n2_ n3_ n4_ n5_ n6_; clear hb hbox hg) | ((with_reducible refine aJ (N := 3) rfl ?_); refine bg (N := 3) (cs := #[.int .i64 0, .int .i64 0, .string (⟨#[]⟩ : ByteArray), .slice none 0 0, .slice none 0 0, .int .i64 0]) (t := 49) ?_; intro gb445 hg w7 hbox hb; have n0_ := KB BK443 hb; have n1_ := KB BK444 hb; have n2_ := BS (w := w) hb; have n3_ := ah.mk (hbox); have n4_ := SZ (w := w) hg; have n5_ := SZ (w := w) hg; have n6_ := NL BK443 hg; have n7_ := NG BK443 hg; have n8_ := NL BK444 hg; have n9_ := NG BK444 hg; clear BK443 BK444 HB; have BK443 := n0_; have BK444 := n1_; have HB := n2_; have BK445 := n3_; have GW445 := n4_; have GE445 := n5_; have NB443_445 := n6_; have NB445_443 := n7_; have NB444_445 := n8_; have NB445_444 := n9_; clear n0_ n1_ n2_ n3_ n4_ n5_ n6_ n7_ n8_ n9_; clear hb hbox hg; have hnb8 := NB443_444.out; have hnc8 := NB444_443.out; have hnb9 := NB443_445.out; have hnc9 := NB445_443.out; obtain ⟨hcz10_0, hcz10_1, hcz10_2, hcz10_3, hcz10_4, hcz10_5, hfz10_0, hfz10_1, hfz10_2, hfz10_3, hfz10_4, hfz10_5⟩ := cz6 BK443.out) | ((with_reducible refine ay (f := 14) rfl ?_); refine bE (some 6) Tryz.func14 #[.agg #[.int .i64 FV, .int .i64 FW, .string FX]] ?_; (with_reducible refine (l5.calls FV FW FX t446 t447 t448 _ A2.out).mono ?_); rintro e w11 ⟨rfl, hb⟩; refine ⟨_, rfl, ?_⟩; replace BK443 := KB BK443 hb; replace BK444 := KB BK444 hb; replace BK445 := KB BK445 hb; replace HB := BS (w := w) hb; (try clear hb); have hnb12 := NB445_444.out; have hnc12 := NB444_445.out; obtain ⟨hcz13_0, hcz13_1, hcz13_2, hcz13_3, hcz13_4, hcz13_5, hfz13_0, hfz13_1, hfz13_2, hfz13_3, hfz13_4, hfz13_5⟩ := cz6 BK445.out; obtain ⟨hcz14_0, hcz14_1, hcz14_2, hcz14_3, hcz14_4, hcz14_5, hfz14_0, hfz14_1, hfz14_2, hfz14_3, hfz14_4, hfz14_5⟩ := cz6 BK443.out) | ((with_reducible refine ay (f := 15) rfl ?_); refine bE (some 10) Tryz.func15 #[.slice A0_3 F4.length c0_3] ?_; (with_reducible refine (fE.calls k _ _ F4 t449 _ ?side1 ?side2 A3.out).mono ?_); (case side1 => exact Kd.eO HR0_3.out BL); (case side2 => exact HC0_3.out); rintro e w15 ⟨v450, rfl, ho0, hb⟩; refine ⟨_, rfl, ?_⟩; have n0_ := ah.mk (Kd.nT ho0 (aQ BL)); have n1_ := ah.mk (aR (g := gb443) (o := .cells #[.int .i64 FV, .int .i64 FW, .string FX, .slice A0_3 F4.length c0_3, .slice A0_4 F5.length c0_4, .int .i64 F6] 45 (0, 0)) (by (with_reducible repeat (first | refine aG ?_ _ | refine aH ?_ | refine aD ?_ _)); refine dN ?_ NB443_445.out _; (with_reducible repeat (first | refine aG ?_ _ | refine aH ?_ | refine aD ?_ _)); refine dN ?_ NB443_445.out _; (with_reducible repeat (first | refine aG ?_ _ | refine aH ?_ | refine aD ?_ _)); refine dN ?_ NB443_445.out _; (with_reducible repeat (first | refine aG ?_ _ | refine aH ?_ | refine aD ?_ _)); exact BK443.out) hb); have n2_ := ah.mk (aR (g := gb444) (o := .cells #[.int .i64 0, .int .i64 0, .string (⟨#[]⟩ : ByteArray), .slice none 0 0, .slice none 0 0, .int .i64 0] 49 (0, 0)) (by (with_reducible repeat (first | refine aG ?_ _ | refine aH ?_ | refine aD ?_ _)); refine dN ?_ NB444_445.out _; (with_reducible repeat (first | refine aG ?_ _ | refine aH ?_ | refine aD ?_ _)); refine dN ?_ NB444_445.out _; (with_reducible repeat (first | refine aG ?_ _ | refine aH ?_ | refine aD ?_ _)); refine dN ?_ NB444_445.out _; (with_reducible repeat (first | refine aG ?_ _ | refine aH ?_ | refine aD ?_ _)); exact BK444.out) hb); have n3_ := ah.mk (aR (g := gb445) (o := .cells #[.int .i64 t446, .int .i64 t447, .string t448, .slice none 0 0, .slice none 0 0, .int .i64 0] 49 (0, 0)) (by (with_reducible repeat (first | refine aG ?_ _ | refine aH ?_ | refine aD ?_ _)); refine aY (cs := #[.int .i64 t446, .int .i64 t447, .string (⟨#[]⟩ : ByteArray), .slice none 0 0, .slice none 0 0, .int .i64 0]) ?_ 2 _ rfl; (with_reducible repeat (first | refine aG ?_ _ | refine aH ?_ | refine aD ?_ _)); refine aY (cs := #[.int .i64 t446, .int .i64 0, .string (⟨#[]⟩ : ByteArray), .slice none 0 0, .slice none 0 0, .int .i64 0]) ?_ 1 _ rfl; (with_reducible repeat (first | refine aG ?_ _ | refine aH ?_ | refine aD ?_ _)); refine aY (cs := #[.int .i64 0, .int .i64 0, .string (⟨#[]⟩ : ByteArray), .slice none 0 0, .slice none 0 0, .int .i64 0]) ?_ 0 _ rfl; (with_reducible repeat (first | refine aG ?_ _ | refine aH ?_ | refine aD ?_ _)); exact BK445.out) hb); replace HB := BS (w := w) hb; clear BK443 BK444 BK445; have HO451 := n0_; have BK443 := n1_; have BK444 := n2_; have BK445 := n3_; clear n0_ n1_ n2_ n3_; (try clear hb); (try clear ho0); obtain ⟨Ao16, co16, eo16⟩ := Kd.oI HO451.out; subst eo16; obtain ⟨hcz17_0, hcz17_1, hcz17_2, hcz17_3, hcz17_4, hcz17_5, hfz17_0, hfz17_1, hfz17_2, hfz17_3, hfz17_4, hfz17_5⟩ := cz6 BK445.out; obtain ⟨hcz18_0, hcz18_1, hcz18_2, hcz18_3, hcz18_4, hcz18_5, hfz18_0, hfz18_1, hfz18_2, hfz18_3, hfz18_4, hfz18_5⟩ := cz6 BK443.out) | ((with_reducible refine ay (f := 70) rfl ?_); refine bE (some 14) Tryz.func70 #[.slice A0_4 F5.length c0_4] ?_; (with_reducible refine (fT.calls k _ _ F5 t452 _ ?side1 ?side2 A4.out).mono ?_); (case side1 => exact Kd.eO HR0_4.out BL); (case side2 => exact HC0_4.out); rintro e w19 ⟨v453, rfl, ho0, hb⟩; refine ⟨_, rfl, ?_⟩; have n0_ := ah.mk (Kd.gI (by (with_reducible repeat (first | apply Kd.mI | apply Kd.mD | apply Kd.mU)); exact (Kd.mQ (Kd.kg (p := ⟨gb445, 3, none⟩) (Kd.qD HO451.out BK445.out (by decide)) (fun _ hk => hk.2) (.slice Ao16 t449.length co16)) (fun _ h_ => h_.1))) hb); have n1_ := ah.mk (Kd.cO ho0 (aQ BL)); have n2_ := ah.mk (aR (g := gb443) (o := .cells #[.int .i64 FV, .int .i64 FW, .string FX, .slice A0_3 F4.length c0_3, .slice A0_4 F5.length c0_4, .int .i64 F6] 45 (0, 0)) (by (with_reducible repeat (first | refine aG ?_ _ | refine aH ?_ | refine aD ?_ _)); refine dN ?_ NB443_445.out _; (with_reducible repeat (first | refine aG ?_ _ | refine aH ?_ | refine aD ?_ _)); exact BK443.out) hb); have n3_ := ah.mk (aR (g := gb444) (o := .cells #[.int .i64 0, .int .i64 0, .string (⟨#[]⟩ : ByteArray), .slice none 0 0, .slice none 0 0, .int .i64 0] 49 (0, 0)) (by (with_reducible repeat (first | refine aG ?_ _ | refine aH ?_ | refine aD ?_ _)); refine dN ?_ NB444_445.out _; (with_reducible repeat (first | refine aG ?_ _ | refine aH ?_ | refine aD ?_ _)); exact BK444.out) hb); have n4_ := ah.mk (aR (g := gb445) (o := .cells #[.int .i64 t446, .int .i64 t447, .string t448, .slice Ao16 t449.length co16, .slice none 0 0, .int .i64 0] 49 (0, 0)) (by (with_reducible repeat (first | refine aG ?_ _ | refine aH ?_ | refine aD ?_ _)); refine aY (cs := #[.int .i64 t446, .int .i64 t447, .string t448, .slice none 0 0, .slice none 0 0, .int .i64 0]) ?_ 3 _ rfl; (with_reducible repeat (first | refine aG ?_ _ | refine aH ?_ | refine aD ?_ _)); exact BK445.out) hb); replace HB := BS (w := w) hb; clear HO451 BK443 BK444 BK445; have HO451 := n0_; have HO454 := n1_; have BK443 := n2_; have BK444 := n3_; have BK445 := n4_; clear n0_ n1_ n2_ n3_ n4_; (try clear hb); (try clear hk); (try clear ho0); obtain ⟨Ao20, co20, eo20⟩ := Kd.dL HO454.out; subst eo20; obtain ⟨hcz21_0, hcz21_1, hcz21_2, hcz21_3, hcz21_4, hcz21_5, hfz21_0, hfz21_1, hfz21_2, hfz21_3, hfz21_4, hfz21_5⟩ := cz6 BK445.out; obtain ⟨hcz22_0, hcz22_1, hcz22_2, hcz22_3, hcz22_4, hcz22_5, hfz22_0, hfz22_1, hfz22_2, hfz22_3, hfz22_4, hfz22_5⟩ := cz6 BK443.out; obtain ⟨hcz23_0, hcz23_1, hcz23_2, hcz23_3, hcz23_4, hcz23_5, hfz23_0, hfz23_1, hfz23_2, hfz23_3, hfz23_4, hfz23_5⟩ := cz6 BK444.out))
 refine bodyPost_ret (results_cell_row rfl _ _ gb444 49 #[.int .i64 t446, .int .i64 t447, .string t448, .slice Ao16 t449.length co16, .slice Ao20 t452.length co20, .int .i64 F6] (0, 0) _ rfl (by (with_reducible repeat (first | refine aG ?_ _ | refine aH ?_ | refine aD ?_ _)); refine aY (cs := #[.int .i64 t446, .int .i64 t447, .string t448, .slice Ao16 t449.length co16, .slice Ao20 t452.length co20, .int .i64 0]) ?_ 5 _ rfl; (with_reducible repeat (first | refine aG ?_ _ | refine aH ?_ | refine aD ?_ _)); refine aY (cs := #[.int .i64 t446, .int .i64 t447, .string t448, .slice Ao16 t449.length co16, .slice none 0 0, .int .i64 0]) ?_ 4 _ rfl; (with_reducible repeat (first | refine aG ?_ _ | refine aH ?_ | refine aD ?_ _)); refine aY (cs := #[.int .i64 t446, .int .i64 t447, .string t448, .slice none 0 0, .slice none 0 0, .int .i64 0]) ?_ 3 _ rfl; (with_reducible repeat (first | refine aG ?_ _ | refine aH ?_ | refine aD ?_ _)); refine aY (cs := #[.int .i64 t446, .int .i64 t447, .string (⟨#[]⟩ : ByteArray), .slice none 0 0, .slice none 0 0, .int .i64 0]) ?_ 2 _ rfl; (with_reducible repeat (first | refine aG ?_ _ | refine aH ?_ | refine aD ?_ _)); refine aY (cs := #[.int .i64 t446, .int .i64 0, .string (⟨#[]⟩ : ByteArray), .slice none 0 0, .slice none 0 0, .int .i64 0]) ?_ 1 _ rfl; (with_reducible repeat (first | refine aG ?_ _ | refine aH ?_ | refine aD ?_ _)); refine aY (cs := #[.int .i64 0, .int .i64 0, .string (⟨#[]⟩ : ByteArray), .slice none 0 0, .slice none 0 0, .int .i64 0]) ?_ 0 _ rfl; (with_reducible repeat (first | refine aG ?_ _ | refine aH ?_ | refine aD ?_ _)); refine dN ?_ NB444_445.out _; (with_reducible repeat (first | refine aG ?_ _ | refine aH ?_ | refine aD ?_ _)); refine dN ?_ NB444_445.out _; (with_reducible repeat (first | refine aG ?_ _ | refine aH ?_ | refine aD ?_ _)); exact BK444.out) Tryz.underlying49 rfl (by kernel_rfl)) rfl ?_
 exact ⟨_, _, EWW, by (with_reducible repeat (first | apply Kd.mI | apply Kd.mD | apply Kd.mU)); exact Kd.mQ (Kd.kg (p := ⟨gb444, 5, none⟩) (Kd.kg (p := ⟨gb444, 4, none⟩) (Kd.kg (p := ⟨gb444, 3, none⟩) (Kd.kg (p := ⟨gb444, 2, none⟩) (Kd.kg (p := ⟨gb444, 1, none⟩) (Kd.kg (p := ⟨gb444, 0, none⟩) (Kd.kg (p := ⟨gb445, 5, none⟩) (Kd.kg (p := ⟨gb445, 4, none⟩) (Kd.qD (Kd.qD HO451.out BK445.out (by decide)) BK444.out (by decide)) (fun _ hk => hk.1.2) (.slice Ao20 t452.length co20)) (fun _ hk => hk.1.2) (.int .i64 F6)) (fun _ hk => hk.2) (.int .i64 t446)) (fun _ hk => hk.2) (.int .i64 t447)) (fun _ hk => hk.2) (.string t448)) (fun _ hk => hk.2) (.slice Ao16 t449.length co16)) (fun _ hk => hk.2) (.slice Ao20 t452.length co20)) (fun _ hk => hk.2) (.int .i64 F6)) (fun _ hk => trivial), by (with_reducible repeat (first | apply Kd.fI | apply Kd.fJ | apply Kd.eu)); exact Kd.dY (Kd.fP (p := ⟨gb444, 5, none⟩) (Kd.fP (p := ⟨gb444, 4, none⟩) (Kd.fP (p := ⟨gb444, 3, none⟩) (Kd.fP (p := ⟨gb444, 2, none⟩) (Kd.fP (p := ⟨gb444, 1, none⟩) (Kd.fP (p := ⟨gb444, 0, none⟩) (Kd.fP (p := ⟨gb445, 5, none⟩) (Kd.fP (p := ⟨gb445, 4, none⟩) (Kd.ni (Kd.ni HO454.out BK445.out (by decide)) BK444.out (by decide)) (fun _ hk => hk.1.2) (.slice Ao20 t452.length co20)) (fun _ hk => hk.1.2) (.int .i64 F6)) (fun _ hk => hk.2) (.int .i64 t446)) (fun _ hk => hk.2) (.int .i64 t447)) (fun _ hk => hk.2) (.string t448)) (fun _ hk => hk.2) (.slice Ao16 t449.length co16)) (fun _ hk => hk.2) (.slice Ao20 t452.length co20)) (fun _ hk => hk.2) (.int .i64 F6)) (fun _ hk => trivial), BL⟩
attribute [local go_sem high] Ee
def dh.f (a0 a1 a2 : Int) : Option (Bool) := if a1 ≤ a0 then (some (decide (a0 ≤ a2))) else (some false)
theorem dh.calls (a0 a1 a2 : Int) (r : Bool) (w : World) (h : dh.f a0 a1 a2 = some r) :
  Calls Tryz.prog 89 #[.int .i64 a0, .int .i64 a1, .int .i64 a2] w fun e w' => e = .returned (.bool r) ∧ cK w w' := by
 unfold dh.f at h
 have H := h
 clear h
 replace H := ah.mk H
 go_enter Tryz.func89, Tryz.ntmps89
 replace H := H.out
 replace H := ifD H; rcases H with ⟨c4b0, H⟩ | ⟨c4b0, H⟩
 ·obtain rfl := Option.some.inj H
  try go_wp2
  go_ret
  exact ⟨EQ, DR⟩
 ·obtain rfl := Option.some.inj H
  try go_wp2
  go_ret
  exact ⟨EQ, DR⟩
mutual
def bD.j0 : Nat → Bool → Int → Int → ByteArray → Option (Bool)
 | 0, _, _, _, _ => none
 | k + 1, a, b, c, d => if a = true then (some false) else (bD.l0 k (d.size : Int) 0 b c d)
def bD.l0 : Nat → Int → Int → Int → Int → ByteArray → Option (Bool)
 | 0, _, _, _, _, _ => none
 | k + 1, a, b, c, d, e => if b < a then (if 0 ≤ b then (if b < (e.size : Int) then (if (bt e b) = 35 then (bD.l0 k a (wrap64 (b + 1)) c d e) else (if (bt e b) = 46 then (bD.l0 k a (wrap64 (b + 1)) c d e) else (some false))) else (none)) else (none)) else (some true)
end
def bD.f (k : Nat) (FV FW : Int) (FX : ByteArray) : Option (Bool) := (dh.f FV 2 6).bind fun t456 => (if t456 = true then ((dh.f FW 2 6).bind fun t457 => (if t457 = true then (bD.j0 k ((FX.size : Int) != (wrap64 (FV * FW))) FV FW FX) else (bD.j0 k true FV FW FX))) else (bD.j0 k true FV FW FX))
theorem bD.calls (k : Nat) (FV FW : Int) (FX : ByteArray) (r : Bool) (w : World) (h : bD.f k FV FW FX = some r) :
  Calls Tryz.prog 110 #[.agg #[.int .i64 FV, .int .i64 FW, .string FX]] w fun e w' => e = .returned (.bool r) ∧ Below w.heap.size w w' := by
 have hu32 := Tryz.underlying32
 have HB := ah.mk (Below.refl w.heap.size w)
 unfold bD.f at h
 have H := h
 clear h
 have HC2 := ah.mk H
 clear H
 go_enter Tryz.func110, Tryz.ntmps110
 go_upto_region 1 with (first | ((with_reducible refine aJ (N := 1) rfl ?_); (try (refine jd (by rfl) ?_; dsimp only)); refine bg (N := 1) (cs := #[.int .i64 FV, .int .i64 FW, .string FX]) (t := 32) ?_; intro gb455 hg w3 hbox hb; have BK455 := ah.mk hbox; have GW455 := SZ (w := w) hg; have GE455 := GW455; replace HB := BS (w := w) hb; clear hb hbox hg))
 (try simp only [Act.put, List.setIfInBounds_toArray, List.set_cons_zero, List.set_cons_succ])
 go_cut [24] (fun v24 wc => ∃ (kq : Nat) (x24_1 : Bool), v24 = .bool x24_1 ∧ ah (bD.j0 kq x24_1 FV FW FX = some r) ∧ ah (kq ≤ k) ∧ ah (wc.heap[gb455]? = some (.cells #[.int .i64 FV, .int .i64 FW, .string FX] 32 (0, 0))) ∧ ah (Below w.heap.size w wc))
 case first =>
  have H := HC2.out
  clear HC2
  replace H := be H; obtain ⟨t456, A4, H⟩ := H
  obtain ⟨hcz8000_0, hcz8000_1, hcz8000_2, hfz8000_0, hfz8000_1, hfz8000_2⟩ := cz3 BK455.out
  replace H := ah.mk H
  go_wp2_with (first | ((with_reducible refine ay (f := 89) rfl ?_); refine bE (some 6) Tryz.func89 #[.int .i64 FV, .int .i64 2, .int .i64 6] ?_; (with_reducible refine (dh.calls FV 2 6 _ _ A4.out).mono ?_); rintro e w' ⟨rfl, ⟨nd, rfl⟩⟩; refine ⟨_, rfl, ?_⟩; refine bU ?_))
  refine Hide.mk ?_
  replace H := H.out
  replace H := ifB H; rcases H with ⟨rfl, H⟩ | ⟨rfl, H⟩
  ·replace H := be H; obtain ⟨t457, A6, H⟩ := H
   replace H := ah.mk H
   go_wp2_with (first | (go_at_call 89; (with_reducible refine (dh.calls FW 2 6 _ _ A6.out).mono ?_); rintro e w' ⟨rfl, ⟨nd, rfl⟩⟩; refine bU ?_))
   refine Hide.mk ?_
   replace H := H.out
   replace H := ifB H; rcases H with ⟨rfl, H⟩ | ⟨rfl, H⟩
   ·have H' := ah.mk H
    clear H
    try go_wp2
    go_meet
    case rel => exact ⟨_, (((FX.size : Int) != (wrap64 (FV * FW)))), EQ, H', ⟨by first | omega | exact Nat.le_refl _⟩, ⟨BK⟩, ⟨BL⟩⟩
   ·have H' := ah.mk H
    clear H
    try go_wp2
    go_meet
    case rel => exact ⟨_, (true), EQ, H', ⟨by first | omega | exact Nat.le_refl _⟩, ⟨BK⟩, ⟨BL⟩⟩
  ·have H' := ah.mk H
   clear H
   try go_wp2
   go_meet
   case rel => exact ⟨_, (true), EQ, H', ⟨by first | omega | exact Nat.le_refl _⟩, ⟨BK⟩, ⟨BL⟩⟩
 case rest =>
  clear HC2
  obtain ⟨kq, x24_1, rfl, HA, HJ1, BK455, HB⟩ := hcut
  cases kq with
  | zero => exact absurd HA.out (by simp [bD.j0])
  | succ kj1 =>
   have H := HA.out
   clear HA
   simp only [bD.j0] at H
   replace H := ifB H; rcases H with ⟨rfl, H⟩ | ⟨rfl, H⟩
   ·obtain rfl := Option.some.inj H
    go_wp2
    go_ret
    exact ⟨EWW, BL⟩
   ·have H' := ah.mk H
    clear H
    obtain ⟨hcz7000_0, hcz7000_1, hcz7000_2, hfz7000_0, hfz7000_1, hfz7000_2⟩ := cz3 BK455.out
    go_wp2
    go_loopg [28] kj1 (fun kq v28 w' => ∃ (x28_2 : Int), v28 = .int .i64 x28_2 ∧ ah (bD.l0 kq (FX.size : Int) x28_2 FV FW FX = some r) ∧ ah (kq ≤ kj1) ∧ ah (w'.heap[gb455]? = some (.cells #[.int .i64 FV, .int .i64 FW, .string FX] 32 (0, 0))) ∧ ah (Below w.heap.size w w'))
    case atStart => exact ⟨(0), EQ, H', ⟨Nat.le_refl _⟩, ⟨BK⟩, ⟨BL⟩⟩
    case round =>
     clear H'
     try clear c11
     try clear hcz7000_0
     try clear hcz7000_1
     try clear hcz7000_2
     try clear hfz7000_0
     try clear hfz7000_1
     try clear hfz7000_2
     obtain ⟨x28_2, rfl, HA, HK2, BK455, HB⟩ := hrel
     cases gk with
     | zero => exact absurd HA.out (by simp [bD.l0])
     | succ k2 =>
      have H := HA.out
      clear HA
      simp only [bD.l0] at H
      replace H := ifD H; rcases H with ⟨c13b0, H⟩ | ⟨c13b0, H⟩
      ·replace H := ifN H; obtain ⟨c14b0, H⟩ := H
       replace H := ifN H; obtain ⟨c15b0, H⟩ := H
       obtain ⟨hcz7001_0, hcz7001_1, hcz7001_2, hfz7001_0, hfz7001_1, hfz7001_2⟩ := cz3 BK455.out
       have p16 : (0 ≤ (x28_2 : Int)) = True := OT
       have q16 : (x28_2 < (FX.size : Int)) = True := OT
       have hx16 := fO FX x28_2
       replace H := ifE H; rcases H with ⟨c17b0, c17b1, H⟩ | ⟨c17, c17b0, c17b1, H⟩
       ·have H' := ah.mk H
        clear H
        go_wp2
        go_roundg k2
        case measure => have := HJ1.out; have := HK2.out; omega
        case rel => exact ⟨(wrap64 (x28_2 + 1)), EQ, H', ⟨by have := HJ1.out; have := HK2.out; omega⟩, ⟨BK⟩, ⟨BL⟩⟩
       ·have p19 : (0 ≤ (x28_2 : Int)) = True := OT
        have q19 : (x28_2 < (FX.size : Int)) = True := OT
        have hx19 := fO FX x28_2
        replace H := ifE H; rcases H with ⟨c20b0, c20b1, H⟩ | ⟨c20, c20b0, c20b1, H⟩
        ·have H' := ah.mk H
         clear H
         go_wp2
         go_roundg k2
         case measure => have := HJ1.out; have := HK2.out; omega
         case rel => exact ⟨(wrap64 (x28_2 + 1)), EQ, H', ⟨by have := HJ1.out; have := HK2.out; omega⟩, ⟨BK⟩, ⟨BL⟩⟩
        ·obtain rfl := Option.some.inj H
         go_wp2
         go_ret
         exact ⟨EWW, BL⟩
      ·obtain rfl := Option.some.inj H
       go_wp2
       go_ret
       exact ⟨EWW, BL⟩
def gQ.f (a0 : ByteArray) : Option (ByteArray) := if a0.size ≤ 100 then (some (strOfNums (bytesOf a0).reverse)) else (none)
theorem gQ.calls (a0 r : ByteArray) (w : World) (h : gQ.f a0 = some r) :
  Calls Tryz.prog 200 #[.string a0] w fun e w' => e = .returned (.string r) ∧ Below w.heap.size w w' := by
 by_cases h1 : a0.size ≤ 100
 ·have hr : r = strOfNums (bytesOf a0).reverse := by
   unfold gQ.f at h
   rw [if_pos h1] at h
   exact (Option.some.inj h).symm
  subst hr
  exact Go.Proofs.YtnfiedfaaaphoaaGreat.HandSort.yT a0 w h1
 ·simp [gQ.f, h1] at h
def jL.f (k : Nat) (FV FW : Int) (FX : ByteArray) : Option (Int × Int × ByteArray) := (bD.f k FV FW FX).bind fun t460 => (if t460 = true then ((gQ.f FX).bind fun t461 => (some (FV, FW, t461))) else (some (0, 0, (⟨#[]⟩ : ByteArray))))
theorem jL.calls (k : Nat) (FV FW : Int) (FX : ByteArray) (r1 r2 : Int) (r3 : ByteArray) (w : World) (h : jL.f k FV FW FX = some (r1, r2, r3)) :
  Calls Tryz.prog 162 #[.agg #[.int .i64 FV, .int .i64 FW, .string FX]] w fun e w' => e = .returned (.agg #[.int .i64 r1, .int .i64 r2, .string r3]) ∧ Below w.heap.size w w' := by
 have hu32 := Tryz.underlying32
 have HB := ah.mk (Below.refl w.heap.size w)
 unfold jL.f at h
 have H := h
 clear h
 replace H := be H; obtain ⟨t460, A2, H⟩ := H
 replace H := ah.mk H
 go_enter Tryz.func162, Tryz.ntmps162
 go_wp2_with (first | ((with_reducible refine aJ (N := 1) rfl ?_); refine bg (N := 1) (cs := #[.int .i64 FV, .int .i64 FW, .string FX]) (t := 32) ?_; intro gb458 hg w9000 hbox hb; have BK458 := ah.mk hbox; have GW458 := SZ (w := w) hg; have GE458 := GW458; replace HB := BS (w := w) hb; clear hb hbox hg) | ((with_reducible refine aJ (N := 2) rfl ?_); refine bg (N := 2) (cs := #[.int .i64 0, .int .i64 0, .string (⟨#[]⟩ : ByteArray)]) (t := 32) ?_; intro gb459 hg w9001 hbox hb; have n0_ := KB BK458 hb; have n1_ := BS (w := w) hb; have n2_ := ah.mk (hbox); have n3_ := SZ (w := w) hg; have n4_ := SZ (w := w) hg; have n5_ := NL BK458 hg; have n6_ := NG BK458 hg; clear BK458 HB; have BK458 := n0_; have HB := n1_; have BK459 := n2_; have GW459 := n3_; have GE459 := n4_; have NB458_459 := n5_; have NB459_458 := n6_; clear n0_ n1_ n2_ n3_ n4_ n5_ n6_; clear hb hbox hg; have hnb9002 := NB458_459.out; have hnc9002 := NB459_458.out; obtain ⟨hcz9003_0, hcz9003_1, hcz9003_2, hfz9003_0, hfz9003_1, hfz9003_2⟩ := cz3 BK458.out; refine bU ?_))
 refine Hide.mk ?_
 replace H := H.out
 replace H := ifB H; rcases H with ⟨rfl, H⟩ | ⟨rfl, H⟩
 ·replace H := be H; obtain ⟨t461, A4, H⟩ := H
  simp only [Option.some.injEq, Prod.mk.injEq] at H
  obtain ⟨rfl, rfl, rfl⟩ := H
  try go_wp2_with (first | ((with_reducible refine ay (f := 110) rfl ?_); refine bE (some 4) Tryz.func110 #[.agg #[.int .i64 FV, .int .i64 FW, .string FX]] ?_; (with_reducible refine (bD.calls k FV FW FX _ _ A2.out).mono ?_); rintro e w9004 ⟨rfl, hb⟩; refine ⟨_, rfl, ?_⟩; replace BK458 := KB BK458 hb; replace BK459 := KB BK459 hb; replace HB := BS (w := w) hb; (try clear hb); obtain ⟨hcz9005_0, hcz9005_1, hcz9005_2, hfz9005_0, hfz9005_1, hfz9005_2⟩ := cz3 BK458.out) | ((with_reducible refine ay (f := 200) rfl ?_); refine bE (some 9) Tryz.func200 #[.string FX] ?_; (with_reducible refine (gQ.calls FX t461 _ A4.out).mono ?_); rintro e w9006 ⟨rfl, hb⟩; refine ⟨_, rfl, ?_⟩; replace BK458 := KB BK458 hb; replace BK459 := KB BK459 hb; replace HB := BS (w := w) hb; (try clear hb); obtain ⟨hcz9007_0, hcz9007_1, hcz9007_2, hfz9007_0, hfz9007_1, hfz9007_2⟩ := cz3 BK458.out; obtain ⟨hcz9008_0, hcz9008_1, hcz9008_2, hfz9008_0, hfz9008_1, hfz9008_2⟩ := cz3 BK459.out))
  refine bodyPost_ret (results_cell_row rfl _ _ gb459 32 #[.int .i64 FV, .int .i64 FW, .string t461] (0, 0) _ rfl (by (with_reducible repeat (first | refine aG ?_ _ | refine aH ?_ | refine aD ?_ _)); refine aY (cs := #[.int .i64 FV, .int .i64 FW, .string (⟨#[]⟩ : ByteArray)]) ?_ 2 _ rfl; (with_reducible repeat (first | refine aG ?_ _ | refine aH ?_ | refine aD ?_ _)); refine aY (cs := #[.int .i64 FV, .int .i64 0, .string (⟨#[]⟩ : ByteArray)]) ?_ 1 _ rfl; (with_reducible repeat (first | refine aG ?_ _ | refine aH ?_ | refine aD ?_ _)); refine aY (cs := #[.int .i64 0, .int .i64 0, .string (⟨#[]⟩ : ByteArray)]) ?_ 0 _ rfl; (with_reducible repeat (first | refine aG ?_ _ | refine aH ?_ | refine aD ?_ _)); refine dN ?_ NB459_458.out _; (with_reducible repeat (first | refine aG ?_ _ | refine aH ?_ | refine aD ?_ _)); exact BK459.out) Tryz.underlying32 rfl (by kernel_rfl)) rfl ?_
  exact ⟨EWW, BL⟩
 ·simp only [Option.some.injEq, Prod.mk.injEq] at H
  obtain ⟨rfl, rfl, rfl⟩ := H
  try go_wp2_with (first | ((with_reducible refine ay (f := 110) rfl ?_); refine bE (some 4) Tryz.func110 #[.agg #[.int .i64 FV, .int .i64 FW, .string FX]] ?_; (with_reducible refine (bD.calls k FV FW FX _ _ A2.out).mono ?_); rintro e w9004 ⟨rfl, hb⟩; refine ⟨_, rfl, ?_⟩; replace BK458 := KB BK458 hb; replace BK459 := KB BK459 hb; replace HB := BS (w := w) hb; (try clear hb); obtain ⟨hcz9005_0, hcz9005_1, hcz9005_2, hfz9005_0, hfz9005_1, hfz9005_2⟩ := cz3 BK459.out))
  refine bodyPost_ret (results_cell_row rfl _ _ gb459 32 #[.int .i64 0, .int .i64 0, .string (⟨#[]⟩ : ByteArray)] (0, 0) _ rfl (by (with_reducible repeat (first | refine aG ?_ _ | refine aH ?_ | refine aD ?_ _)); refine aY (cs := #[.int .i64 0, .int .i64 0, .string (⟨#[]⟩ : ByteArray)]) ?_ 2 _ rfl; (with_reducible repeat (first | refine aG ?_ _ | refine aH ?_ | refine aD ?_ _)); refine aY (cs := #[.int .i64 0, .int .i64 0, .string (⟨#[]⟩ : ByteArray)]) ?_ 1 _ rfl; (with_reducible repeat (first | refine aG ?_ _ | refine aH ?_ | refine aD ?_ _)); refine aY (cs := #[.int .i64 0, .int .i64 0, .string (⟨#[]⟩ : ByteArray)]) ?_ 0 _ rfl; (with_reducible repeat (first | refine aG ?_ _ | refine aH ?_ | refine aD ?_ _)); exact BK459.out) Tryz.underlying32 rfl (by kernel_rfl)) rfl ?_
  exact ⟨EWW, BL⟩
def dU.f (k : Nat) (FV FW : Int) (FX : ByteArray) : Option (Bool) := (bD.f k FV FW FX).bind fun t463 => (if t463 = true then ((jL.f k FV FW FX).bind fun bt464 => (some (FV == bt464.1 && (FW == bt464.2.1 && (FX.toList == bt464.2.2.toList))))) else (some false))
def dU.T1 : Bool × List (List Nat × List Nat) := (true, [([], []), ([0], [0]), ([1, 1], [1]), ([2], [2]), ([2], [2]), ([4, 2, 2], [2, 4]), ([3, 5, 2], [2, 3, 5]), ([2, 6], [2, 6]), ([7, 5, 0, 1, 2, 3, 4, 5, 6, 7], [7])])
def dU.B1 : List Nat := [0, 1, 3, 7, 7, 23, 63, 127, 255]
theorem dU.Et : kG .any (opsOf Tryz.f111 1) = dU.T1 := by kernel_rfl
theorem dU.CP : iW dU.T1.2 dU.B1 = true := by kernel_rfl
theorem dU.calls (k : Nat) (FV FW : Int) (FX : ByteArray) (r : Bool) (w : World) (h : dU.f k FV FW FX = some r) :
  Calls Tryz.prog 111 #[.agg #[.int .i64 FV, .int .i64 FW, .string FX]] w fun e w' => e = .returned (.bool r) ∧ Below w.heap.size w w' := by
 have hu32 := Tryz.underlying32
 have HB := ah.mk (Below.refl w.heap.size w)
 unfold dU.f at h
 have H := h
 clear h
 replace H := be H; obtain ⟨t463, A2, H⟩ := H
 replace H := ah.mk H
 go_enter Tryz.func111, Tryz.ntmps111
 try go_wp2_with (first | ((with_reducible refine aJ (N := 1) rfl ?_); refine bg (N := 1) (cs := #[.int .i64 FV, .int .i64 FW, .string FX]) (t := 32) ?_; intro gb462 hg w9000 hbox hb; have BK462 := ah.mk hbox; have GW462 := SZ (w := w) hg; have GE462 := GW462; replace HB := BS (w := w) hb; clear hb hbox hg))
 replace BK462 := ah.mk (aH BK462.out)
 replace HB := ah.mk (dH HB.out)
 refine ji (n := 9) (S := fun w' => w'.cell? ⟨gb462, 0, none⟩ = some (.int .i64 FV) ∧ w'.cell? ⟨gb462, 1, none⟩ = some (.int .i64 FW) ∧ w'.cell? ⟨gb462, 2, none⟩ = some (.string FX)) (ds := []) #[F,F,F,F,F,F,F,F,F] (by kernel_rfl) rfl rfl ⟨(ak BK462.out 0).trans rfl, (ak BK462.out 1).trans rfl, (ak BK462.out 2).trans rfl⟩ (fun hHeld => ?_); refine iI dU.Et dU.CP (fun HT_ HW_ => ?_)
 generalize w9000.drew = w9001 at BK462 HB hHeld ⊢
 refine taS (i := 0) (N := some 3) #[T,F,F,F,F,F,F,F,F] (eF HT_.out HW_.out (by kernel_rfl)) hHeld ?_
 refine kW (i := 1) (N := some 4) #[T,T,F,F,F,F,F,F,F] rfl rfl (jf HT_.out (by kernel_rfl)) (by decide) (fun K hK => ?_)
 refine iZ Tryz.func110 #[.agg #[.int .i64 FV, .int .i64 FW, .string FX]] ?_
 with_reducible refine (bD.calls k FV FW FX _ _ A2.out).mono ?_
 rintro e w9002 ⟨rfl, hb⟩
 refine ⟨_, rfl, ?_⟩
 replace BK462 := KB BK462 hb
 replace HB := BS (w := w) hb
 (try clear hb)
 refine hK.out _ _ ⟨(ak BK462.out 0).trans rfl, (ak BK462.out 1).trans rfl, (ak BK462.out 2).trans rfl⟩ (fun hHeld => ?_)
 clear hK K
 refine nrm (some 4) ?_
 replace H := H.out
 replace H := ifB H; rcases H with ⟨rfl, H⟩ | ⟨rfl, H⟩
 ·replace H := be H; obtain ⟨⟨t464, t465, t466⟩, A4, H⟩ := H
  dsimp only at H
  obtain rfl := Option.some.inj H
  refine puS (i := 2) (N := some 5) #[T,T,T,F,F,F,F,F,F] (aK HT_.out (by kernel_rfl)) ?_
  refine taS (i := 3) (N := some 6) #[T,T,T,T,F,F,F,F,F] (eF HT_.out HW_.out (by kernel_rfl)) hHeld ?_
  refine taS (i := 4) (N := some 7) #[T,T,T,T,T,F,F,F,F] (eF HT_.out HW_.out (by kernel_rfl)) hHeld ?_
  refine kW (i := 5) (N := some 8) #[T,T,T,T,T,T,F,F,F] rfl rfl (jf HT_.out (by kernel_rfl)) (by decide) (fun K hK => ?_)
  refine iZ Tryz.func162 #[.agg #[.int .i64 FV, .int .i64 FW, .string FX]] ?_
  with_reducible refine (jL.calls k FV FW FX t464 t465 t466 _ A4.out).mono ?_
  rintro e w9003 ⟨rfl, hb⟩
  refine ⟨_, rfl, ?_⟩
  replace BK462 := KB BK462 hb
  replace HB := BS (w := w) hb
  (try clear hb)
  refine hK.out _ _ ⟨(ak BK462.out 0).trans rfl, (ak BK462.out 1).trans rfl, (ak BK462.out 2).trans rfl⟩ (fun hHeld => ?_)
  clear hK K
  refine nrm (some 8) ?_
  refine puS (i := 6) (N := some 9) #[T,T,T,T,T,T,T,F,F] (aK HT_.out (by kernel_rfl)) ?_
  refine puS (i := 7) (N := some 10) #[T,T,T,T,T,T,T,T,F] (aK HT_.out (by kernel_rfl)) ?_
  refine puS (i := 8) (N := some 2) #[T,T,T,T,T,T,T,T,T] (aK HT_.out (by kernel_rfl)) ?_
  refine iD (gG HT_.out (by kernel_rfl)) ?_
  try go_wp2
  go_ret
  exact ⟨EWW, BL⟩
 ·obtain rfl := Option.some.inj H
  refine puS (i := 2) (N := some 5) #[T,T,T,F,F,F,F,F,F] (aK HT_.out (by kernel_rfl)) ?_
  refine puU (i := 3) (N := some 6) #[T,T,T,T,F,F,F,F,F] (aK HT_.out (by kernel_rfl)) ?_
  refine puU (i := 4) (N := some 7) #[T,T,T,T,T,F,F,F,F] (aK HT_.out (by kernel_rfl)) ?_
  refine puU (i := 5) (N := some 8) #[T,T,T,T,T,T,F,F,F] (aK HT_.out (by kernel_rfl)) ?_
  refine puU (i := 6) (N := some 9) #[T,T,T,T,T,T,T,F,F] (aK HT_.out (by kernel_rfl)) ?_
  refine puS (i := 7) (N := some 10) #[T,T,T,T,T,T,T,T,F] (aK HT_.out (by kernel_rfl)) ?_
  refine puS (i := 8) (N := some 2) #[T,T,T,T,T,T,T,T,T] (aK HT_.out (by kernel_rfl)) ?_
  refine iD (gG HT_.out (by kernel_rfl)) ?_
  try go_wp2
  go_ret
  exact ⟨EWW, BL⟩
def lq.f (a0 a1 : Int) : Option (Bool) := if a0 ≥ 0 then (some (decide (a0 < a1))) else (some false)
theorem lq.calls (a0 a1 : Int) (r : Bool) (w : World) (h : lq.f a0 a1 = some r) :
  Calls Tryz.prog 165 #[.int .i64 a0, .int .i64 a1] w fun e w' => e = .returned (.bool r) ∧ cK w w' := by
 unfold lq.f at h
 have H := h
 clear h
 replace H := ah.mk H
 go_enter Tryz.func165, Tryz.ntmps165
 replace H := H.out
 by_cases c3 : a0 ≥ 0
 ·rw [if_pos c3] at H
  have c3b0 : decide (0 ≤ a0) = true := decide_eq_true c3
  clear c3
  obtain rfl := Option.some.inj H
  try go_wp2
  go_ret
  exact ⟨EQ, DR⟩
 ·rw [if_neg c3] at H
  have c3b0 : decide (0 ≤ a0) = false := decide_eq_false c3
  clear c3
  obtain rfl := Option.some.inj H
  try go_wp2
  go_ret
  exact ⟨EQ, DR⟩
def jE.f (k : Nat) (FV FW : Int) (FX : ByteArray) : Option Int := (bD.f k FV FW FX).bind fun t => if t = true then HandForm.parts FV FW FX k (Array.replicate FX.size false) 0 0 else some 0
theorem jE.grid (k : Nat) (R C : Int) (s : ByteArray) (h : bD.f k R C s = some true) : (2 ≤ R ∧ R ≤ 6) ∧ (2 ≤ C ∧ C ≤ 6) ∧ (s.size : Int) = R * C := by
 unfold bD.f at h
 obtain ⟨t1, h1, h⟩ := Option.bind_eq_some_iff.mp h
 have j : ∀ x, bD.j0 k x R C s = some true → x = false := by
  intro x hx
  cases k with
  | zero => simp [bD.j0] at hx
  | succ k => cases x with
   | false => rfl
   | true => simp [bD.j0] at hx
 cases t1 with
 | false =>
  rw [if_neg (by decide)] at h
  cases (j _ h)
 | true =>
  rw [if_pos rfl] at h
  obtain ⟨t2, h2, h⟩ := Option.bind_eq_some_iff.mp h
  cases t2 with
  | false =>
   rw [if_neg (by decide)] at h
   cases (j _ h)
  | true =>
   rw [if_pos rfl] at h
   have h3 := j _ h
   have ir : ∀ a, dh.f a 2 6 = some true → 2 ≤ a ∧ a ≤ 6 := by
    intro a ha
    unfold dh.f at ha
    split at ha
    ·rename_i x
     exact ⟨x, of_decide_eq_true (Option.some.inj ha)⟩
    ·cases ha
   obtain ⟨r0, r1⟩ := ir _ h1
   obtain ⟨c0, c1⟩ := ir _ h2
   have m1 : R * C ≤ 6 * 6 := Int.mul_le_mul (by omega) (by omega) (by omega) (by omega)
   have m2 : 0 ≤ R * C := Int.mul_nonneg (by omega) (by omega)
   have hw : wrap64 (R * C) = R * C := by unfold wrap64; omega
   rw [hw] at h3
   exact ⟨⟨r0, r1⟩, ⟨c0, c1⟩, by simpa using h3⟩
theorem jE.calls (k : Nat) (FV FW : Int) (FX : ByteArray) (r : Int) (w : World) (h : jE.f k FV FW FX = some r) :
  Calls Tryz.prog 163 #[.agg #[.int .i64 FV, .int .i64 FW, .string FX]] w fun e w' => e = .returned (.int .i64 r) ∧ Below w.heap.size w w' := by
 obtain ⟨t, h1, h2⟩ := Option.bind_eq_some_iff.mp h
 exact HandForm.Ba k FV FW FX t r w (fun V => bD.calls k FV FW FX t V h1) (fun e => jE.grid k _ _ _ (e ▸ h1)) h2
def iV.f (k : Nat) (FV FW : Int) (FX : ByteArray) : Option (Bool) := (jE.f k FV FW FX).bind fun t468 => (some (t468 == 1))
theorem iV.calls (k : Nat) (FV FW : Int) (FX : ByteArray) (r : Bool) (w : World) (h : iV.f k FV FW FX = some r) :
  Calls Tryz.prog 112 #[.agg #[.int .i64 FV, .int .i64 FW, .string FX]] w fun e w' => e = .returned (.bool r) ∧ Below w.heap.size w w' := by
 have hu32 := Tryz.underlying32
 have HB := ah.mk (Below.refl w.heap.size w)
 unfold iV.f at h
 have H := h
 clear h
 replace H := be H; obtain ⟨t468, A2, H⟩ := H
 obtain rfl := Option.some.inj H
 go_enter Tryz.func112, Tryz.ntmps112
 go_wp2_with (first | ((with_reducible refine aJ (N := 1) rfl ?_); refine bg (N := 1) (cs := #[.int .i64 FV, .int .i64 FW, .string FX]) (t := 32) ?_; intro gb467 hg w3 hbox hb; have BK467 := ah.mk hbox; have GW467 := SZ (w := w) hg; have GE467 := GW467; replace HB := BS (w := w) hb; clear hb hbox hg; obtain ⟨hcz4_0, hcz4_1, hcz4_2, hfz4_0, hfz4_1, hfz4_2⟩ := cz3 BK467.out) | ((with_reducible refine ay (f := 163) rfl ?_); refine bE (some 4) Tryz.func163 #[.agg #[.int .i64 FV, .int .i64 FW, .string FX]] ?_; (with_reducible refine (jE.calls k FV FW FX t468 _ A2.out).mono ?_); rintro e w5 ⟨rfl, hb⟩; refine ⟨_, rfl, ?_⟩; replace BK467 := KB BK467 hb; replace HB := BS (w := w) hb; (try clear hb)))
 go_ret
 exact ⟨EWW, BL⟩
end Go.Proofs.YtnfiedfaaaphoaaGreat.PFnExactOneRound
