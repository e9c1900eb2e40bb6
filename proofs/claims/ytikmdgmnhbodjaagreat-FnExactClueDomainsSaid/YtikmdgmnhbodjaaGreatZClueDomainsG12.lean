/- Walks of functions: what each computes. -/
import Derived.Test.YtikmdgmnhbodjaaGreatZClueDomainsG0
import Derived.Test.YtikmdgmnhbodjaaGreatZClueDomainsG5
import Derived.Test.YtikmdgmnhbodjaaGreatZClueDomainsG9
import Derived.Test.YtikmdgmnhbodjaaGreatZClueDomainsG10
import Derived.Test.YtikmdgmnhbodjaaGreatZClueDomainsG11
import Derived.Test.YtikmdgmnhbodjaaGreatZClueDomainsW
import Derived.Test.YtikmdgmnhbodjaaGreatZClueDomainsShelf
import Derived.Test.YtikmdgmnhbodjaaGreatZClueDomainsHandSort
import Derived.Test.YtikmdgmnhbodjaaGreatZClueDomainsHandForm
import Derived.Test.YtikmdgmnhbodjaaGreatZClueDomainsHandAlone
import Derived.Test.YtikmdgmnhbodjaaGreatZClueDomainsHandReach
namespace Go.Proofs.YtikmdgmnhbodjaaGreat.PFnExactClueDomains
open Go.RowKit Go.Proofs.YtikmdgmnhbodjaaGreatW.PrintWords Go.Proofs.YtikmdgmnhbodjaaGreatW.PrintLast Go.Proofs.YtikmdgmnhbodjaaGreatW.PrintMore Go.Proofs.YtikmdgmnhbodjaaGreat.Sq
attribute [local go_sem] kW kY mH mI jU jV kX kZ
set_option maxHeartbeats 8000000
set_option maxRecDepth 100000
set_option linter.unusedVariables false
set_option linter.unusedSimpArgs false
def cZ.j0 : Nat → ByteArray → List (S64) → List ByteArray → List (List ByteArray) → List (List ByteArray) → Bool → Int → Int → ByteArray → List (S84) → List Int → Int → Option (Bool)
 | 0, _, _, _, _, _, _, _, _, _, _, _, _ => none
 | k + 1, a, b, c, d, e, f, g, h, i, j, l, m => if f = true then (some false) else ((fq.f k e 1).bind fun n => ((dW.f k n.2 1).bind fun o => (if o < 0 then (some false) else (if o = n.1 then ((gP.f k g h i j l m).bind fun p => ((bN.f k b).bind fun q => ((bZ.f k c).bind fun r => ((cB.f k p.1 p.2.1 p.2.2.1 p.2.2.2.1 p.2.2.2.2.1 p.2.2.2.2.2 a q r).bind fun s => ((dw.f k s d).bind fun u => (if u = true then ((dW.f k n.2 1).bind fun v => (if v < 0 then (some false) else (if v = n.1 then (some true) else (some false)))) else (some false))))))) else (some false)))))
def cZ.f (k : Nat) (JW JX : Int) (JY : ByteArray) (JZ : List (S84)) (Ka : List Int) (Ke : Int) (a1 : ByteArray) (l2 : List (S64)) (l3 : List ByteArray) : Option (Bool) := if (a1.size : Int) > 1048576 then (some true) else ((kM.f k JW JX JY JZ Ka Ke 1048576).bind fun t678 => (if t678 < 0 then (some true) else ((fD.f k l2 t678).bind fun t679 => (if t679 < 0 then (some true) else ((fP.f k l3 t679).bind fun t680 => (if t680 < 0 then (some true) else ((gP.f k JW JX JY JZ Ka Ke).bind fun bt681 => ((bN.f k l2).bind fun t691 => ((bZ.f k l3).bind fun t694 => ((bg.f k bt681.1 bt681.2.1 bt681.2.2.1 bt681.2.2.2.1 bt681.2.2.2.2.1 bt681.2.2.2.2.2 a1 t691 t694).bind fun t697 => ((gP.f k JW JX JY JZ Ka Ke).bind fun bt700 => ((bN.f k l2).bind fun t711 => ((bZ.f k l3).bind fun t714 => ((cB.f k bt700.1 bt700.2.1 bt700.2.2.1 bt700.2.2.2.1 bt700.2.2.2.2.1 bt700.2.2.2.2.2 a1 t711 t714).bind fun t717 => ((dw.f k t717 t697).bind fun t720 => (if t720 = true then ((gP.f k JW JX JY JZ Ka Ke).bind fun bt721 => ((jo.f k bt700.1 bt700.2.1 bt700.2.2.1 bt700.2.2.2.1 bt700.2.2.2.2.1 bt700.2.2.2.2.2 bt721.1 bt721.2.1 bt721.2.2.1 bt721.2.2.2.1 bt721.2.2.2.2.1 bt721.2.2.2.2.2).bind fun t731 => (if t731 = true then ((bN.f k l2).bind fun t732 => ((bX.f k t711 t732).bind fun t735 => (if t735 = true then ((bZ.f k l3).bind fun t736 => ((dK.f k t714 t736).bind fun t739 => (if t739 = true then ((jH.f k bt700.1 bt700.2.1 bt700.2.2.1 bt700.2.2.2.1 bt700.2.2.2.2.1 bt700.2.2.2.2.2 1).bind fun bt740 => ((dX.f k t711 bt740.1).bind fun bt742 => ((eu.f k t714 bt742.1).bind fun bt744 => (if bt744.1 < 0 then (cZ.j0 k a1 l2 l3 t697 t717 true JW JX JY JZ Ka Ke) else ((dw.f k t717 t697).bind fun t746 => (cZ.j0 k a1 l2 l3 t697 t717 (!t746) JW JX JY JZ Ka Ke)))))) else (some false)))) else (some false)))) else (some false)))) else (some false)))))))))))))))))
theorem cZ.calls (k : Nat) (JW JX : Int) (JY : ByteArray) (A0_3 : Option Addr) (c0_3 : Nat) (JZ : List (S84)) (A0_4 : Option Addr) (c0_4 : Nat) (Ka : List Int) (Ke : Int) (a1 : ByteArray) (A2 : Option Addr) (c2 : Nat) (l2 : List (S64)) (A3 : Option Addr) (c3 : Nat) (l3 : List ByteArray) (r : Bool) (w : World) (hr0_3 : Kd.C k84 w A0_3 JZ.length JZ) (hc0_3 : JZ.length ≤ c0_3) (hr0_4 : Kd.C (Kd.int .i64) w A0_4 Ka.length Ka) (hc0_4 : Ka.length ≤ c0_4) (hr2 : Kd.C k64 w A2 l2.length l2) (hc2 : l2.length ≤ c2) (hr3 : Kd.C Kd.string w A3 l3.length l3) (hc3 : l3.length ≤ c3) (h : cZ.f k JW JX JY JZ Ka Ke a1 l2 l3 = some r) :
  Calls Tryz.prog 3 #[.agg #[.int .i64 JW, .int .i64 JX, .string JY, .slice A0_3 JZ.length c0_3, .slice A0_4 Ka.length c0_4, .int .i64 Ke], .string a1, .slice A2 l2.length c2, .slice A3 l3.length c3] w fun e w' => e = .returned (.bool r) ∧ Below w.heap.size w w' := by
 have hu27 := Tryz.underlying27
 have hu38 := Tryz.underlying38
 have HR0_3 := ah.mk hr0_3
 have HC0_3 := ah.mk hc0_3
 clear hr0_3 hc0_3
 have HR0_4 := ah.mk hr0_4
 have HC0_4 := ah.mk hc0_4
 clear hr0_4 hc0_4
 have HR2 := ah.mk hr2
 have HC2 := ah.mk hc2
 clear hr2 hc2
 have HR3 := ah.mk hr3
 have HC3 := ah.mk hc3
 clear hr3 hc3
 have HB := ah.mk (Below.refl w.heap.size w)
 unfold cZ.f at h
 have H := h
 clear h
 replace H := ah.mk H
 go_enter Tryz.func3, Tryz.ntmps3
 go_wp2_with (first | ((with_reducible refine aK (N := 4) rfl ?_); refine bA (N := 4) (cs := #[.int .i64 JW, .int .i64 JX, .string JY, .slice A0_3 JZ.length c0_3, .slice A0_4 Ka.length c0_4, .int .i64 Ke]) (t := 27) ?_; intro gb677 hg w9000 hbox hb; have BK677 := ah.mk hbox; have GW677 := SZ (w := w) hg; have GE677 := GW677; replace HB := BS (w := w) hb; clear hb hbox hg; obtain ⟨hcz9001_0, hcz9001_1, hcz9001_2, hcz9001_3, hcz9001_4, hcz9001_5, hfz9001_0, hfz9001_1, hfz9001_2, hfz9001_3, hfz9001_4, hfz9001_5⟩ := cz6 BK677.out; refine dF ?_))
 refine Hide.mk ?_
 replace H := H.out
 by_cases c5 : (a1.size : Int) > 1048576
 ·rw [if_pos c5] at H
  have c5b0 : decide (1048576 < (a1.size : Int)) = true := decide_eq_true c5
  have c5b1 : decide (1048576 < a1.size) = true := decide_eq_true (by omega)
  clear c5
  obtain rfl := Option.some.inj H
  try go_wp2
  go_ret
  exact ⟨EWW, BL⟩
 ·rw [if_neg c5] at H
  have c5b0 : decide (1048576 < (a1.size : Int)) = false := decide_eq_false c5
  have c5b1 : decide (1048576 < a1.size) = false := decide_eq_false (by omega)
  clear c5
  replace H := be H; obtain ⟨t678, A7, H⟩ := H
  replace H := ah.mk H
  go_wp2_with (first | ((with_reducible refine aA (f := 7) rfl ?_); refine aY (some 24) Tryz.func7 #[.agg #[.int .i64 JW, .int .i64 JX, .string JY, .slice A0_3 JZ.length c0_3, .slice A0_4 Ka.length c0_4, .int .i64 Ke], .int .i64 1048576] ?_; (with_reducible refine (kM.calls k JW JX JY _ _ JZ _ _ Ka Ke 1048576 t678 _ ?side1 ?side2 ?side3 ?side4 A7.out).mono ?_); (case side1 => exact CB HR0_3); (case side2 => exact HC0_3.out); (case side3 => exact CB HR0_4); (case side4 => exact HC0_4.out); rintro e w9002 ⟨rfl, hb⟩; refine ⟨_, rfl, ?_⟩; replace BK677 := KB BK677 hb; replace HB := BS (w := w) hb; (try clear hb); refine dF ?_))
  refine Hide.mk ?_
  replace H := H.out
  replace H := ifD H; rcases H with ⟨c8b0, H⟩ | ⟨c8b0, H⟩
  ·obtain rfl := Option.some.inj H
   try go_wp2
   go_ret
   exact ⟨EWW, BL⟩
  ·replace H := be H; obtain ⟨t679, A12, H⟩ := H
   replace H := ah.mk H
   go_wp2_with (first | ((with_reducible refine aA (f := 8) rfl ?_); refine aY (some 29) Tryz.func8 #[.slice A2 l2.length c2, .int .i64 t678] ?_; (with_reducible refine (fD.calls k _ _ l2 t678 t679 _ ?side1 ?side2 A12.out).mono ?_); (case side1 => exact CB HR2); (case side2 => exact HC2.out); rintro e w9003 ⟨rfl, hb⟩; refine ⟨_, rfl, ?_⟩; replace BK677 := KB BK677 hb; replace HB := BS (w := w) hb; (try clear hb); refine dF ?_))
   refine Hide.mk ?_
   replace H := H.out
   replace H := ifD H; rcases H with ⟨c13b0, H⟩ | ⟨c13b0, H⟩
   ·obtain rfl := Option.some.inj H
    try go_wp2
    go_ret
    exact ⟨EWW, BL⟩
   ·replace H := be H; obtain ⟨t680, A18, H⟩ := H
    replace H := ah.mk H
    go_wp2_with (first | ((with_reducible refine aA (f := 9) rfl ?_); refine aY (some 34) Tryz.func9 #[.slice A3 l3.length c3, .int .i64 t679] ?_; (with_reducible refine (fP.calls k _ _ l3 t679 t680 _ ?side1 ?side2 A18.out).mono ?_); (case side1 => exact CB HR3); (case side2 => exact HC3.out); rintro e w' ⟨rfl, ⟨nd, rfl⟩⟩; refine ⟨_, rfl, ?_⟩; (try (rw [mY w9003]; generalize hq_ : World.drewN w9003 _ = w9003; have n0_ : ah (w9003.heap[gb677]? = some (.cells #[.int .i64 JW, .int .i64 JX, .string JY, .slice A0_3 JZ.length c0_3, .slice A0_4 Ka.length c0_4, .int .i64 Ke] 27 (0, 0))) := ⟨by rw [← hq_]; exact BK⟩; have n1_ : ah (Below w.heap.size w w9003) := ⟨by rw [← hq_]; exact BL⟩; clear BK677 HB hq_; have BK677 := n0_; have HB := n1_; clear n0_ n1_)); have hfz9001_0 := aH BK677.out 0; have hfz9001_1 := aH BK677.out 1; have hfz9001_2 := aH BK677.out 2; have hfz9001_3 := aH BK677.out 3; have hfz9001_4 := aH BK677.out 4; have hfz9001_5 := aH BK677.out 5; obtain ⟨hcz9004_0, hcz9004_1, hcz9004_2, hcz9004_3, hcz9004_4, hcz9004_5, hfz9004_0, hfz9004_1, hfz9004_2, hfz9004_3, hfz9004_4, hfz9004_5⟩ := cz6 BK677.out; refine dF ?_))
    refine Hide.mk ?_
    replace H := H.out
    replace H := ifD H; rcases H with ⟨c19b0, H⟩ | ⟨c19b0, H⟩
    ·obtain rfl := Option.some.inj H
     try go_wp2
     go_ret
     exact ⟨EWW, BL⟩
    ·replace H := be H; obtain ⟨⟨t681, t682, t683, t684, t687, t690⟩, A24, H⟩ := H
     dsimp only at H
     replace H := be H; obtain ⟨t691, A25, H⟩ := H
     replace H := be H; obtain ⟨t694, A26, H⟩ := H
     replace H := be H; obtain ⟨t697, A27, H⟩ := H
     replace H := be H; obtain ⟨⟨t700, t701, t702, t703, t706, t709⟩, A28, H⟩ := H
     dsimp only at H
     replace H := be H; obtain ⟨t711, A29, H⟩ := H
     replace H := be H; obtain ⟨t714, A30, H⟩ := H
     replace H := be H; obtain ⟨t717, A31, H⟩ := H
     replace H := be H; obtain ⟨t720, A32, H⟩ := H
     replace H := ah.mk H
     go_wp2_with (first | ((with_reducible refine aA (f := 11) rfl ?_); refine aY (some 38) Tryz.func11 #[.agg #[.int .i64 JW, .int .i64 JX, .string JY, .slice A0_3 JZ.length c0_3, .slice A0_4 Ka.length c0_4, .int .i64 Ke]] ?_; (with_reducible refine (gP.calls k JW JX JY _ _ JZ _ _ Ka Ke t681 t682 t683 t684 t687 t690 _ ?side1 ?side2 ?side3 ?side4 A24.out).mono ?_); (case side1 => exact CB HR0_3); (case side2 => exact HC0_3.out); (case side3 => exact CB HR0_4); (case side4 => exact HC0_4.out); rintro e w9005 ⟨v685, v688, rfl, ho0, ho1, hb⟩; refine ⟨_, rfl, ?_⟩; have n0_ := ah.mk (Kd.jE ho0 (aJ BL)); have n1_ := ah.mk (Kd.bT ho1 (aJ BL)); replace BK677 := KB BK677 hb; replace HB := BS (w := w) hb; have HO686 := n0_; have HO689 := n1_; clear n0_ n1_; (try clear hb); (try clear ho0); (try clear ho1)) | ((with_reducible refine aA (f := 12) rfl ?_); refine aY (some 41) Tryz.func12 #[.slice A2 l2.length c2] ?_; (with_reducible refine (bN.calls k _ _ l2 t691 _ ?side1 ?side2 A25.out).mono ?_); (case side1 => exact CB HR2); (case side2 => exact HC2.out); rintro e w9006 ⟨v692, rfl, ho0, hb⟩; refine ⟨_, rfl, ?_⟩; have n0_ := ah.mk (Kd.aV (SR HO686) hb); have n2_ := ah.mk (Kd.bT ho0 (aJ BL)); replace HO689 := RB HO689 hb; replace BK677 := KB BK677 hb; replace HB := BS (w := w) hb; clear HO686; have HO686 := n0_; have HO693 := n2_; clear n0_ n2_; (try clear hb); (try clear ho0)) | ((with_reducible refine aA (f := 13) rfl ?_); refine aY (some 43) Tryz.func13 #[.slice A3 l3.length c3] ?_; (with_reducible refine (bZ.calls k _ _ l3 t694 _ ?side1 ?side2 A26.out).mono ?_); (case side1 => exact CB HR3); (case side2 => exact HC3.out); rintro e w9007 ⟨v695, rfl, ho0, hb⟩; refine ⟨_, rfl, ?_⟩; have n0_ := ah.mk (Kd.aV (SR HO686) hb); have n3_ := ah.mk (Kd.bT ho0 (aJ BL)); replace HO689 := RB HO689 hb; replace HO693 := RB HO693 hb; replace BK677 := KB BK677 hb; replace HB := BS (w := w) hb; clear HO686; have HO686 := n0_; have HO696 := n3_; clear n0_ n3_; (try clear hb); (try clear ho0); obtain ⟨Ao9008, co9008, eo9008⟩ := Kd.iT HO686.out; subst eo9008; obtain ⟨Ao9009, co9009, eo9009⟩ := Kd.cK HO689.out; subst eo9009; obtain ⟨Ao9010, co9010, eo9010⟩ := Kd.cK HO693.out; subst eo9010; obtain ⟨Ao9011, co9011, eo9011⟩ := Kd.cK HO696.out; subst eo9011) | ((with_reducible refine aA (f := 10) rfl ?_); refine aY (some 44) Tryz.func10 #[.agg #[.int .i64 t681, .int .i64 t682, .string t683, .slice Ao9008 t684.length co9008, .slice Ao9009 t687.length co9009, .int .i64 t690], .string a1, .slice Ao9010 t691.length co9010, .slice Ao9011 t694.length co9011] ?_; (with_reducible refine (bg.calls k t681 t682 t683 _ _ t684 _ _ t687 t690 a1 _ _ t691 _ _ t694 t697 _ ?side1 ?side2 ?side3 ?side4 ?side5 ?side6 ?side7 ?side8 A27.out).mono ?_); (case side1 => repeat (first | exact (Kd.bI HO686.out).2.2 | (with_reducible refine Kd.dh ?_ _) | (with_reducible refine Kd.dn ?_ _) | (with_reducible refine Kd.dY ?_))); (case side2 => exact (Kd.bI HO686.out).2.1); (case side3 => exact CR2 HO689); (case side4 => exact (Kd.aZ HO689.out).2.1); (case side5 => exact CR2 HO693); (case side6 => exact (Kd.aZ HO693.out).2.1); (case side7 => exact CR2 HO696); (case side8 => exact (Kd.aZ HO696.out).2.1); rintro e w9012 ⟨v698, rfl, ho0, hb⟩; refine ⟨_, rfl, ?_⟩; have n0_ := ah.mk (Kd.aV (SR HO686) hb); have n4_ := ah.mk (Kd.jE (Kd.jw ho0 (Kd.jK (RR HO696))) (aJ BL)); replace HO689 := RB HO689 hb; replace HO693 := RB HO693 hb; replace HO696 := RB HO696 hb; replace BK677 := KB BK677 hb; replace HB := BS (w := w) hb; clear HO686; have HO686 := n0_; have HO699 := n4_; clear n0_ n4_; (try clear hb); (try clear ho0); obtain ⟨hcz9013_0, hcz9013_1, hcz9013_2, hcz9013_3, hcz9013_4, hcz9013_5, hfz9013_0, hfz9013_1, hfz9013_2, hfz9013_3, hfz9013_4, hfz9013_5⟩ := cz6 BK677.out) | ((with_reducible refine aA (f := 11) rfl ?_); refine aY (some 46) Tryz.func11 #[.agg #[.int .i64 JW, .int .i64 JX, .string JY, .slice A0_3 JZ.length c0_3, .slice A0_4 Ka.length c0_4, .int .i64 Ke]] ?_; (with_reducible refine (gP.calls k JW JX JY _ _ JZ _ _ Ka Ke t700 t701 t702 t703 t706 t709 _ ?side1 ?side2 ?side3 ?side4 A28.out).mono ?_); (case side1 => exact CB HR0_3); (case side2 => exact HC0_3.out); (case side3 => exact CB HR0_4); (case side4 => exact HC0_4.out); rintro e w9014 ⟨v704, v707, rfl, ho0, ho1, hb⟩; refine ⟨_, rfl, ?_⟩; have n0_ := ah.mk (Kd.gI (SR HO686) (Kd.mP ho0) hb); have n1_ := ah.mk (Kd.gq (RR HO689) (Kd.gH ho1) hb); have n4_ := ah.mk (Kd.aV (SR HO699) hb); have n5_ := ah.mk (Kd.jE (Kd.jw ho0 (Kd.rZ (SR HO686))) (aJ BL)); have n6_ := ah.mk (Kd.bT (Kd.iV ho1 (Kd.jK (RR HO689))) (aJ BL)); replace HO693 := RB HO693 hb; replace HO696 := RB HO696 hb; replace BK677 := KB BK677 hb; replace HB := BS (w := w) hb; clear HO686 HO689 HO699; have HO686 := n0_; have HO689 := n1_; have HO699 := n4_; have HO705 := n5_; have HO708 := n6_; clear n0_ n1_ n4_ n5_ n6_; (try clear hb); (try clear ho0); (try clear ho1)) | ((with_reducible refine aK (N := 11) rfl ?_); refine bA (N := 11) (cs := #[.int .i64 0, .int .i64 0, .string (⟨#[]⟩ : ByteArray), .slice none 0 0, .slice none 0 0, .int .i64 0]) (t := 38) ?_; intro gb710 hg w9015 hbox hb; have n0_ := ah.mk (Kd.aV (SR HO686) hb); have n1_ := RB HO689 hb; have n2_ := RB HO693 hb; have n3_ := RB HO696 hb; have n4_ := ah.mk (Kd.aV (SR HO699) hb); have n5_ := ah.mk (Kd.aV (SR HO705) hb); have n6_ := RB HO708 hb; have n7_ := KB BK677 hb; have n8_ := BS (w := w) hb; have n9_ := ah.mk (hbox); have n10_ := SZ (w := w) hg; have n11_ := SZ (w := w) hg; have n12_ := NL BK677 hg; have n13_ := NG BK677 hg; clear HO686 HO689 HO693 HO696 HO699 HO705 HO708 BK677 HB; have HO686 := n0_; have HO689 := n1_; have HO693 := n2_; have HO696 := n3_; have HO699 := n4_; have HO705 := n5_; have HO708 := n6_; have BK677 := n7_; have HB := n8_; have BK710 := n9_; have GW710 := n10_; have GE710 := n11_; have NB677_710 := n12_; have NB710_677 := n13_; clear n0_ n1_ n2_ n3_ n4_ n5_ n6_ n7_ n8_ n9_ n10_ n11_ n12_ n13_; clear hb hbox hg; have hnb9016 := NB710_677.out; have hnc9016 := NB677_710.out; obtain ⟨hcz9017_0, hcz9017_1, hcz9017_2, hcz9017_3, hcz9017_4, hcz9017_5, hfz9017_0, hfz9017_1, hfz9017_2, hfz9017_3, hfz9017_4, hfz9017_5⟩ := cz6 BK710.out; obtain ⟨Ao9018, co9018, eo9018⟩ := Kd.iT HO705.out; subst eo9018; obtain ⟨Ao9019, co9019, eo9019⟩ := Kd.cK HO708.out; subst eo9019) | ((with_reducible refine aA (f := 12) rfl ?_); refine aY (some 48) Tryz.func12 #[.slice A2 l2.length c2] ?_; (with_reducible refine (bN.calls k _ _ l2 t711 _ ?side1 ?side2 A29.out).mono ?_); (case side1 => exact Kd.fJ HR2.out BL); (case side2 => exact HC2.out); rintro e w9020 ⟨v712, rfl, ho0, hb⟩; refine ⟨_, rfl, ?_⟩; have n0_ := ah.mk (Kd.aV (by (with_reducible repeat (first | apply Kd.fG | apply Kd.dL | apply Kd.eT)); exact (Kd.gU (Kd.dD (p := ⟨gb710, 5, none⟩) (Kd.dD (p := ⟨gb710, 4, none⟩) (Kd.dD (p := ⟨gb710, 3, none⟩) (Kd.dD (p := ⟨gb710, 2, none⟩) (Kd.dD (p := ⟨gb710, 1, none⟩) (Kd.dD (p := ⟨gb710, 0, none⟩) (Kd.jN HO686.out BK710.out dcE) (fun _ hk => hk.2) (.int .i64 t700)) (fun _ hk => hk.2) (.int .i64 t701)) (fun _ hk => hk.2) (.string t702)) (fun _ hk => hk.2) (.slice Ao9018 t703.length co9018)) (fun _ hk => hk.2) (.slice Ao9019 t706.length co9019)) (fun _ hk => hk.2) (.int .i64 t709)) (fun _ h_ => h_.1))) hb); have n1_ := ah.mk (Kd.iR (by (with_reducible repeat (first | apply Kd.dJ | apply Kd.bS | apply Kd.bR)); exact (Kd.bD (Kd.bq (p := ⟨gb710, 5, none⟩) (Kd.bq (p := ⟨gb710, 4, none⟩) (Kd.bq (p := ⟨gb710, 3, none⟩) (Kd.bq (p := ⟨gb710, 2, none⟩) (Kd.bq (p := ⟨gb710, 1, none⟩) (Kd.bq (p := ⟨gb710, 0, none⟩) (Kd.iC HO689.out BK710.out dcE) (fun _ hk => hk.2) (.int .i64 t700)) (fun _ hk => hk.2) (.int .i64 t701)) (fun _ hk => hk.2) (.string t702)) (fun _ hk => hk.2) (.slice Ao9018 t703.length co9018)) (fun _ hk => hk.2) (.slice Ao9019 t706.length co9019)) (fun _ hk => hk.2) (.int .i64 t709)) (fun _ h_ => h_.1))) hb); have n2_ := ah.mk (Kd.gq (by (with_reducible repeat (first | apply Kd.dJ | apply Kd.bS | apply Kd.bR)); exact (Kd.bD (Kd.bq (p := ⟨gb710, 5, none⟩) (Kd.bq (p := ⟨gb710, 4, none⟩) (Kd.bq (p := ⟨gb710, 3, none⟩) (Kd.bq (p := ⟨gb710, 2, none⟩) (Kd.bq (p := ⟨gb710, 1, none⟩) (Kd.bq (p := ⟨gb710, 0, none⟩) (Kd.iC HO693.out BK710.out dcE) (fun _ hk => hk.2) (.int .i64 t700)) (fun _ hk => hk.2) (.int .i64 t701)) (fun _ hk => hk.2) (.string t702)) (fun _ hk => hk.2) (.slice Ao9018 t703.length co9018)) (fun _ hk => hk.2) (.slice Ao9019 t706.length co9019)) (fun _ hk => hk.2) (.int .i64 t709)) (fun _ h_ => h_.1))) (Kd.gH ho0) hb); have n3_ := ah.mk (Kd.iR (by (with_reducible repeat (first | apply Kd.dJ | apply Kd.bS | apply Kd.bR)); exact (Kd.bD (Kd.bq (p := ⟨gb710, 5, none⟩) (Kd.bq (p := ⟨gb710, 4, none⟩) (Kd.bq (p := ⟨gb710, 3, none⟩) (Kd.bq (p := ⟨gb710, 2, none⟩) (Kd.bq (p := ⟨gb710, 1, none⟩) (Kd.bq (p := ⟨gb710, 0, none⟩) (Kd.iC HO696.out BK710.out dcE) (fun _ hk => hk.2) (.int .i64 t700)) (fun _ hk => hk.2) (.int .i64 t701)) (fun _ hk => hk.2) (.string t702)) (fun _ hk => hk.2) (.slice Ao9018 t703.length co9018)) (fun _ hk => hk.2) (.slice Ao9019 t706.length co9019)) (fun _ hk => hk.2) (.int .i64 t709)) (fun _ h_ => h_.1))) hb); have n4_ := ah.mk (Kd.aV (by (with_reducible repeat (first | apply Kd.fG | apply Kd.dL | apply Kd.eT)); exact (Kd.gU (Kd.dD (p := ⟨gb710, 5, none⟩) (Kd.dD (p := ⟨gb710, 4, none⟩) (Kd.dD (p := ⟨gb710, 3, none⟩) (Kd.dD (p := ⟨gb710, 2, none⟩) (Kd.dD (p := ⟨gb710, 1, none⟩) (Kd.dD (p := ⟨gb710, 0, none⟩) (Kd.jN HO699.out BK710.out dcE) (fun _ hk => hk.2) (.int .i64 t700)) (fun _ hk => hk.2) (.int .i64 t701)) (fun _ hk => hk.2) (.string t702)) (fun _ hk => hk.2) (.slice Ao9018 t703.length co9018)) (fun _ hk => hk.2) (.slice Ao9019 t706.length co9019)) (fun _ hk => hk.2) (.int .i64 t709)) (fun _ h_ => h_.1))) hb); have n5_ := ah.mk (Kd.aV (by (with_reducible repeat (first | apply Kd.fG | apply Kd.dL | apply Kd.eT)); exact (Kd.gU (Kd.dD (p := ⟨gb710, 5, none⟩) (Kd.dD (p := ⟨gb710, 4, none⟩) (Kd.dD (p := ⟨gb710, 3, none⟩) (Kd.dD (p := ⟨gb710, 2, none⟩) (Kd.dD (p := ⟨gb710, 1, none⟩) (Kd.dD (p := ⟨gb710, 0, none⟩) (Kd.jN HO705.out BK710.out dcE) (fun _ hk => hk.2) (.int .i64 t700)) (fun _ hk => hk.2) (.int .i64 t701)) (fun _ hk => hk.2) (.string t702)) (fun _ hk => hk.2) (.slice Ao9018 t703.length co9018)) (fun _ hk => hk.2) (.slice Ao9019 t706.length co9019)) (fun _ hk => hk.2) (.int .i64 t709)) (fun _ h_ => h_.1))) hb); have n6_ := ah.mk (Kd.iR (by (with_reducible repeat (first | apply Kd.dJ | apply Kd.bS | apply Kd.bR)); exact (Kd.bD (Kd.bq (p := ⟨gb710, 5, none⟩) (Kd.bq (p := ⟨gb710, 4, none⟩) (Kd.bq (p := ⟨gb710, 3, none⟩) (Kd.bq (p := ⟨gb710, 2, none⟩) (Kd.bq (p := ⟨gb710, 1, none⟩) (Kd.bq (p := ⟨gb710, 0, none⟩) (Kd.iC HO708.out BK710.out dcE) (fun _ hk => hk.2) (.int .i64 t700)) (fun _ hk => hk.2) (.int .i64 t701)) (fun _ hk => hk.2) (.string t702)) (fun _ hk => hk.2) (.slice Ao9018 t703.length co9018)) (fun _ hk => hk.2) (.slice Ao9019 t706.length co9019)) (fun _ hk => hk.2) (.int .i64 t709)) (fun _ h_ => h_.1))) hb); have n7_ := ah.mk (Kd.bT (Kd.iV ho0 (Kd.jK (by (with_reducible repeat (first | apply Kd.dJ | apply Kd.bS | apply Kd.bR)); exact (Kd.bD (Kd.bq (p := ⟨gb710, 5, none⟩) (Kd.bq (p := ⟨gb710, 4, none⟩) (Kd.bq (p := ⟨gb710, 3, none⟩) (Kd.bq (p := ⟨gb710, 2, none⟩) (Kd.bq (p := ⟨gb710, 1, none⟩) (Kd.bq (p := ⟨gb710, 0, none⟩) (Kd.iC HO693.out BK710.out dcE) (fun _ hk => hk.2) (.int .i64 t700)) (fun _ hk => hk.2) (.int .i64 t701)) (fun _ hk => hk.2) (.string t702)) (fun _ hk => hk.2) (.slice Ao9018 t703.length co9018)) (fun _ hk => hk.2) (.slice Ao9019 t706.length co9019)) (fun _ hk => hk.2) (.int .i64 t709)) (fun _ h_ => h_.1))))) (aJ BL)); have n8_ := ah.mk (cO (g := gb677) (o := .cells #[.int .i64 JW, .int .i64 JX, .string JY, .slice A0_3 JZ.length c0_3, .slice A0_4 Ka.length c0_4, .int .i64 Ke] 27 (0, 0)) (by (with_reducible repeat (first | refine aC ?_ _ | refine aD ?_ | refine ay ?_ _)); refine bU ?_ NB677_710.out _; (with_reducible repeat (first | refine aC ?_ _ | refine aD ?_ | refine ay ?_ _)); refine bU ?_ NB677_710.out _; (with_reducible repeat (first | refine aC ?_ _ | refine aD ?_ | refine ay ?_ _)); refine bU ?_ NB677_710.out _; (with_reducible repeat (first | refine aC ?_ _ | refine aD ?_ | refine ay ?_ _)); refine bU ?_ NB677_710.out _; (with_reducible repeat (first | refine aC ?_ _ | refine aD ?_ | refine ay ?_ _)); refine bU ?_ NB677_710.out _; (with_reducible repeat (first | refine aC ?_ _ | refine aD ?_ | refine ay ?_ _)); refine bU ?_ NB677_710.out _; (with_reducible repeat (first | refine aC ?_ _ | refine aD ?_ | refine ay ?_ _)); exact BK677.out) hb); have n9_ := ah.mk (cO (g := gb710) (o := .cells #[.int .i64 t700, .int .i64 t701, .string t702, .slice Ao9018 t703.length co9018, .slice Ao9019 t706.length co9019, .int .i64 t709] 38 (0, 0)) (by (with_reducible repeat (first | refine aC ?_ _ | refine aD ?_ | refine ay ?_ _)); refine aR (cs := #[.int .i64 t700, .int .i64 t701, .string t702, .slice Ao9018 t703.length co9018, .slice Ao9019 t706.length co9019, .int .i64 0]) ?_ 5 _ rfl; (with_reducible repeat (first | refine aC ?_ _ | refine aD ?_ | refine ay ?_ _)); refine aR (cs := #[.int .i64 t700, .int .i64 t701, .string t702, .slice Ao9018 t703.length co9018, .slice none 0 0, .int .i64 0]) ?_ 4 _ rfl; (with_reducible repeat (first | refine aC ?_ _ | refine aD ?_ | refine ay ?_ _)); refine aR (cs := #[.int .i64 t700, .int .i64 t701, .string t702, .slice none 0 0, .slice none 0 0, .int .i64 0]) ?_ 3 _ rfl; (with_reducible repeat (first | refine aC ?_ _ | refine aD ?_ | refine ay ?_ _)); refine aR (cs := #[.int .i64 t700, .int .i64 t701, .string (⟨#[]⟩ : ByteArray), .slice none 0 0, .slice none 0 0, .int .i64 0]) ?_ 2 _ rfl; (with_reducible repeat (first | refine aC ?_ _ | refine aD ?_ | refine ay ?_ _)); refine aR (cs := #[.int .i64 t700, .int .i64 0, .string (⟨#[]⟩ : ByteArray), .slice none 0 0, .slice none 0 0, .int .i64 0]) ?_ 1 _ rfl; (with_reducible repeat (first | refine aC ?_ _ | refine aD ?_ | refine ay ?_ _)); refine aR (cs := #[.int .i64 0, .int .i64 0, .string (⟨#[]⟩ : ByteArray), .slice none 0 0, .slice none 0 0, .int .i64 0]) ?_ 0 _ rfl; (with_reducible repeat (first | refine aC ?_ _ | refine aD ?_ | refine ay ?_ _)); exact BK710.out) hb); replace HB := BS (w := w) hb; clear HO686 HO689 HO693 HO696 HO699 HO705 HO708 BK677 BK710; have HO686 := n0_; have HO689 := n1_; have HO693 := n2_; have HO696 := n3_; have HO699 := n4_; have HO705 := n5_; have HO708 := n6_; have HO713 := n7_; have BK677 := n8_; have BK710 := n9_; clear n0_ n1_ n2_ n3_ n4_ n5_ n6_ n7_ n8_ n9_; (try clear hb); (try clear hk); (try clear ho0)) | ((with_reducible refine aA (f := 13) rfl ?_); refine aY (some 50) Tryz.func13 #[.slice A3 l3.length c3] ?_; (with_reducible refine (bZ.calls k _ _ l3 t714 _ ?side1 ?side2 A30.out).mono ?_); (case side1 => exact CB HR3); (case side2 => exact HC3.out); rintro e w9021 ⟨v715, rfl, ho0, hb⟩; refine ⟨_, rfl, ?_⟩; have n0_ := ah.mk (Kd.aV (SR HO686) hb); have n3_ := ah.mk (Kd.gq (RR HO696) (Kd.gH ho0) hb); have n4_ := ah.mk (Kd.gI (SR HO699) (Kd.gH ho0) hb); have n5_ := ah.mk (Kd.aV (SR HO705) hb); have n8_ := ah.mk (Kd.bT (Kd.iV ho0 (Kd.jK (RR HO696))) (aJ BL)); replace HO689 := RB HO689 hb; replace HO693 := RB HO693 hb; replace HO708 := RB HO708 hb; replace HO713 := RB HO713 hb; replace BK677 := KB BK677 hb; replace BK710 := KB BK710 hb; replace HB := BS (w := w) hb; clear HO686 HO696 HO699 HO705; have HO686 := n0_; have HO696 := n3_; have HO699 := n4_; have HO705 := n5_; have HO716 := n8_; clear n0_ n3_ n4_ n5_ n8_; (try clear hb); (try clear ho0); obtain ⟨hcz9022_0, hcz9022_1, hcz9022_2, hcz9022_3, hcz9022_4, hcz9022_5, hfz9022_0, hfz9022_1, hfz9022_2, hfz9022_3, hfz9022_4, hfz9022_5⟩ := cz6 BK710.out; obtain ⟨Ao9023, co9023, eo9023⟩ := Kd.cK HO713.out; subst eo9023; obtain ⟨Ao9024, co9024, eo9024⟩ := Kd.cK HO716.out; subst eo9024) | ((with_reducible refine aA (f := 14) rfl ?_); refine aY (some 55) Tryz.func14 #[.agg #[.int .i64 t700, .int .i64 t701, .string t702, .slice Ao9018 t703.length co9018, .slice Ao9019 t706.length co9019, .int .i64 t709], .string a1, .slice Ao9023 t711.length co9023, .slice Ao9024 t714.length co9024] ?_; (with_reducible refine (cB.calls k t700 t701 t702 _ _ t703 _ _ t706 t709 a1 _ _ t711 _ _ t714 t717 _ ?side1 ?side2 ?side3 ?side4 ?side5 ?side6 ?side7 ?side8 A31.out).mono ?_); (case side1 => repeat (first | exact (Kd.bI HO705.out).2.2 | (with_reducible refine Kd.dh ?_ _) | (with_reducible refine Kd.dn ?_ _) | (with_reducible refine Kd.dY ?_))); (case side2 => exact (Kd.bI HO705.out).2.1); (case side3 => exact CR2 HO708); (case side4 => exact (Kd.aZ HO708.out).2.1); (case side5 => exact CR2 HO713); (case side6 => exact (Kd.aZ HO713.out).2.1); (case side7 => exact CR2 HO716); (case side8 => exact (Kd.aZ HO716.out).2.1); rintro e w9025 ⟨v718, rfl, ho0, hb⟩; refine ⟨_, rfl, ?_⟩; obtain ⟨Bg, hBg, ho0⟩ := nZ ho0; have n0_ := ah.mk (Kd.aV (SR HO686) hb); have n1_ := RB HO689 hb; have n2_ := RB HO693 hb; have n3_ := RB HO696 hb; have n4_ := ah.mk (Kd.gI (uN hBg (SR HO699)) (Kd.mP ho0) hb); have n5_ := ah.mk (Kd.aV (SR HO705) hb); have n6_ := RB HO708 hb; have n7_ := RB HO713 hb; have n8_ := RB HO716 hb; have n9_ := ah.mk (Kd.jE (Kd.jw (Kd.jw (Kd.jw ho0 (Kd.jK (RR HO696))) (Kd.rZ (SR HO699))) (Kd.jK (RR HO716))) (aJ BL)); have n10_ := KB BK677 hb; have n11_ := KB BK710 hb; have n12_ := BS (w := w) hb; clear hBg HO686 HO689 HO693 HO696 HO699 HO705 HO708 HO713 HO716 BK677 BK710 HB; have HO686 := n0_; have HO689 := n1_; have HO693 := n2_; have HO696 := n3_; have HO699 := n4_; have HO705 := n5_; have HO708 := n6_; have HO713 := n7_; have HO716 := n8_; have HO719 := n9_; have BK677 := n10_; have BK710 := n11_; have HB := n12_; clear n0_ n1_ n2_ n3_ n4_ n5_ n6_ n7_ n8_ n9_ n10_ n11_ n12_; (try clear hb); (try clear ho0); obtain ⟨Ao9026, co9026, eo9026⟩ := Kd.iT HO719.out; subst eo9026; obtain ⟨Ao9027, co9027, eo9027⟩ := Kd.iT HO699.out; subst eo9027) | ((with_reducible refine aA (f := 15) rfl ?_); refine aY (some 58) Tryz.func15 #[.slice Ao9026 t717.length co9026, .slice Ao9027 t697.length co9027] ?_; (with_reducible refine (dw.calls k _ _ t717 _ _ t697 _ _ ?side1 ?side2 ?side3 ?side4 A32.out).mono ?_); (case side1 => repeat (first | exact (Kd.bI HO719.out).2.2 | (with_reducible refine Kd.dh ?_ _) | (with_reducible refine Kd.dn ?_ _) | (with_reducible refine Kd.dY ?_))); (case side2 => exact (Kd.bI HO719.out).2.1); (case side3 => repeat (first | exact (Kd.bI HO699.out).2.2 | (with_reducible refine Kd.dh ?_ _) | (with_reducible refine Kd.dn ?_ _) | (with_reducible refine Kd.dY ?_))); (case side4 => exact (Kd.bI HO699.out).2.1); rintro e w' ⟨rfl, ⟨nd, rfl⟩⟩; refine ⟨_, rfl, ?_⟩; refine dF ?_))
     refine Hide.mk ?_
     replace H := H.out
     replace H := ifB H; rcases H with ⟨rfl, H⟩ | ⟨rfl, H⟩
     ·replace H := be H; obtain ⟨⟨t721, t722, t723, t724, t727, t730⟩, A34, H⟩ := H
      dsimp only at H
      replace H := be H; obtain ⟨t731, A35, H⟩ := H
      replace H := ah.mk H
      try go_wp2
      (try (rw [mY w9025]; generalize hq_ : World.drewN w9025 _ = w9025; have n0_ : ah (Kd.S k70 70 w9025 w.heap.size (fun k_ => (True ∧ some k_ ≠ (.slice Ao9018 t703.length co9018 : Value).ownBlock)) (.slice Ao9008 t684.length co9008) t684) := ⟨by rw [← hq_]; exact (SR HO686)⟩; have n1_ : ah (Kd.R (Kd.int .i64) 3 w9025 w.heap.size (fun k_ => (True ∧ some k_ ≠ (.slice Ao9019 t706.length co9019 : Value).ownBlock)) (.slice Ao9009 t687.length co9009) t687) := ⟨by rw [← hq_]; exact (RR HO689)⟩; have n2_ : ah (Kd.R k73 73 w9025 w.heap.size (fun k_ => (True ∧ some k_ ≠ (.slice Ao9023 t711.length co9023 : Value).ownBlock)) (.slice Ao9010 t691.length co9010) t691) := ⟨by rw [← hq_]; exact (RR HO693)⟩; have n3_ : ah (Kd.R Kd.string 9 w9025 w.heap.size (fun k_ => (True ∧ some k_ ≠ (.slice Ao9024 t714.length co9024 : Value).ownBlock)) (.slice Ao9011 t694.length co9011) t694) := ⟨by rw [← hq_]; exact (RR HO696)⟩; have n4_ : ah (Kd.S (pW Bg (Kd.slice 9 Kd.string)) 29 w9025 w.heap.size (fun k_ => (((True ∧ some k_ ≠ (.slice Ao9011 t694.length co9011 : Value).ownBlock) ∧ some k_ ≠ (.slice Ao9024 t714.length co9024 : Value).ownBlock) ∧ some k_ ≠ (.slice Ao9026 t717.length co9026 : Value).ownBlock)) (.slice Ao9027 t697.length co9027) t697) := ⟨by rw [← hq_]; exact (SR HO699)⟩; have n5_ : ah (Kd.S k70 70 w9025 w.heap.size (fun k_ => (True ∧ some k_ ≠ (.slice Ao9008 t684.length co9008 : Value).ownBlock)) (.slice Ao9018 t703.length co9018) t703) := ⟨by rw [← hq_]; exact (SR HO705)⟩; have n6_ : ah (Kd.R (Kd.int .i64) 3 w9025 w.heap.size (fun k_ => (True ∧ some k_ ≠ (.slice Ao9009 t687.length co9009 : Value).ownBlock)) (.slice Ao9019 t706.length co9019) t706) := ⟨by rw [← hq_]; exact (RR HO708)⟩; have n7_ : ah (Kd.R k73 73 w9025 w.heap.size (fun k_ => (True ∧ some k_ ≠ (.slice Ao9010 t691.length co9010 : Value).ownBlock)) (.slice Ao9023 t711.length co9023) t711) := ⟨by rw [← hq_]; exact (RR HO713)⟩; have n8_ : ah (Kd.R Kd.string 9 w9025 w.heap.size (fun k_ => (True ∧ some k_ ≠ (.slice Ao9011 t694.length co9011 : Value).ownBlock)) (.slice Ao9024 t714.length co9024) t714) := ⟨by rw [← hq_]; exact (RR HO716)⟩; have n9_ : ah (Kd.S (nR Bg (Kd.slice 9 Kd.string)) 29 w9025 w.heap.size (fun k_ => (((True ∧ some k_ ≠ (.slice Ao9011 t694.length co9011 : Value).ownBlock) ∧ some k_ ≠ (.slice Ao9027 t697.length co9027 : Value).ownBlock) ∧ some k_ ≠ (.slice Ao9024 t714.length co9024 : Value).ownBlock)) (.slice Ao9026 t717.length co9026) t717) := ⟨by rw [← hq_]; exact (SR HO719)⟩; have n10_ : ah (w9025.heap[gb677]? = some (.cells #[.int .i64 JW, .int .i64 JX, .string JY, .slice A0_3 JZ.length c0_3, .slice A0_4 Ka.length c0_4, .int .i64 Ke] 27 (0, 0))) := ⟨by rw [← hq_]; exact BK⟩; have n11_ : ah (w9025.heap[gb710]? = some (.cells #[.int .i64 t700, .int .i64 t701, .string t702, .slice Ao9018 t703.length co9018, .slice Ao9019 t706.length co9019, .int .i64 t709] 38 (0, 0))) := ⟨by rw [← hq_]; exact BK⟩; have n12_ : ah (Below w.heap.size w w9025) := ⟨by rw [← hq_]; exact BL⟩; clear HO686 HO689 HO693 HO696 HO699 HO705 HO708 HO713 HO716 HO719 BK677 BK710 HB hq_; have HO686 := n0_; have HO689 := n1_; have HO693 := n2_; have HO696 := n3_; have HO699 := n4_; have HO705 := n5_; have HO708 := n6_; have HO713 := n7_; have HO716 := n8_; have HO719 := n9_; have BK677 := n10_; have BK710 := n11_; have HB := n12_; clear n0_ n1_ n2_ n3_ n4_ n5_ n6_ n7_ n8_ n9_ n10_ n11_ n12_))
      have n0_ := ah.mk (Kd.eT HO686.out)
      have n1_ := ah.mk (Kd.bR HO689.out)
      have n2_ := ah.mk (Kd.bR HO693.out)
      have n3_ := ah.mk (Kd.bR HO696.out)
      have n4_ := ah.mk (Kd.eT HO699.out)
      have n5_ := ah.mk (Kd.eT HO705.out)
      have n6_ := ah.mk (Kd.bR HO708.out)
      have n7_ := ah.mk (Kd.bR HO713.out)
      have n8_ := ah.mk (Kd.bR HO716.out)
      have n9_ := ah.mk (Kd.eT HO719.out)
      have n10_ := ah.mk (aD BK677.out)
      have n11_ := ah.mk (aD BK710.out)
      have n12_ := ah.mk (dO HB.out)
      clear HO686
      clear HO689
      clear HO693
      clear HO696
      clear HO699
      clear HO705
      clear HO708
      clear HO713
      clear HO716
      clear HO719
      clear BK677
      clear BK710
      clear HB
      have HO686 := n0_
      have HO689 := n1_
      have HO693 := n2_
      have HO696 := n3_
      have HO699 := n4_
      have HO705 := n5_
      have HO708 := n6_
      have HO713 := n7_
      have HO716 := n8_
      have HO719 := n9_
      have BK677 := n10_
      have BK710 := n11_
      have HB := n12_
      clear n0_ n1_ n2_ n3_ n4_ n5_ n6_ n7_ n8_ n9_ n10_ n11_ n12_
      refine jJ (n := 5) (S := fun w' => w'.cell? ⟨gb710, 0, none⟩ = some (.int .i64 t700) ∧ w'.cell? ⟨gb710, 1, none⟩ = some (.int .i64 t701) ∧ w'.cell? ⟨gb710, 2, none⟩ = some (.string t702) ∧ w'.cell? ⟨gb710, 3, none⟩ = some (.slice Ao9018 t703.length co9018) ∧ w'.cell? ⟨gb710, 4, none⟩ = some (.slice Ao9019 t706.length co9019) ∧ w'.cell? ⟨gb710, 5, none⟩ = some (.int .i64 t709) ∧ w'.cell? ⟨gb677, 0, none⟩ = some (.int .i64 JW) ∧ w'.cell? ⟨gb677, 1, none⟩ = some (.int .i64 JX) ∧ w'.cell? ⟨gb677, 2, none⟩ = some (.string JY) ∧ w'.cell? ⟨gb677, 3, none⟩ = some (.slice A0_3 JZ.length c0_3) ∧ w'.cell? ⟨gb677, 4, none⟩ = some (.slice A0_4 Ka.length c0_4) ∧ w'.cell? ⟨gb677, 5, none⟩ = some (.int .i64 Ke)) (ds := []) #[F,F,F,F,F] (by kernel_rfl) rfl rfl ⟨(ak BK710.out 0).trans rfl, (ak BK710.out 1).trans rfl, (ak BK710.out 2).trans rfl, (ak BK710.out 3).trans rfl, (ak BK710.out 4).trans rfl, (ak BK710.out 5).trans rfl, (ak BK677.out 0).trans rfl, (ak BK677.out 1).trans rfl, (ak BK677.out 2).trans rfl, (ak BK677.out 3).trans rfl, (ak BK677.out 4).trans rfl, (ak BK677.out 5).trans rfl⟩ (fun hHeld => ?_)
      generalize w9025.drew = w9028 at HO686 HO689 HO693 HO696 HO699 HO705 HO708 HO713 HO716 HO719 BK677 BK710 HB hHeld ⊢
      refine taS (i := 0) (N := some 60) #[T,F,F,F,F] (by kernel_rfl) hHeld ?_
      refine taS (i := 1) (N := some 61) #[T,T,F,F,F] (by kernel_rfl) hHeld ?_
      refine lg (i := 2) (N := some 62) #[T,T,T,F,F] rfl rfl (by kernel_rfl) dcE (fun K hK => ?_)
      refine jq Tryz.func11 #[.agg #[.int .i64 JW, .int .i64 JX, .string JY, .slice A0_3 JZ.length c0_3, .slice A0_4 Ka.length c0_4, .int .i64 Ke]] ?_
      with_reducible refine (gP.calls k JW JX JY _ _ JZ _ _ Ka Ke t721 t722 t723 t724 t727 t730 _ ?side1 ?side2 ?side3 ?side4 A34.out).mono ?_
      (case side1 => exact CB HR0_3)
      (case side2 => exact HC0_3.out)
      (case side3 => exact CB HR0_4)
      (case side4 => exact HC0_4.out)
      rintro e w9029 ⟨v725, v728, rfl, ho0, ho1, hb⟩
      refine ⟨_, rfl, ?_⟩
      have n0_ := ah.mk (Kd.gI (SR HO686) (Kd.mP ho0) hb)
      have n1_ := ah.mk (Kd.gq (RR HO689) (Kd.gH ho1) hb)
      have n2_ := RB HO693 hb
      have n3_ := RB HO696 hb
      have n4_ := ah.mk (Kd.aV (SR HO699) hb)
      have n5_ := ah.mk (Kd.gI (SR HO705) (Kd.mP ho0) hb)
      have n6_ := ah.mk (Kd.gq (RR HO708) (Kd.gH ho1) hb)
      have n7_ := RB HO713 hb
      have n8_ := RB HO716 hb
      have n9_ := ah.mk (Kd.aV (SR HO719) hb)
      have n10_ := ah.mk (Kd.jE (Kd.jw (Kd.jw ho0 (Kd.rZ (SR HO686))) (Kd.rZ (SR HO705))) (aJ BL))
      have n11_ := ah.mk (Kd.bT (Kd.iV (Kd.iV ho1 (Kd.jK (RR HO689))) (Kd.jK (RR HO708))) (aJ BL))
      have n12_ := KB BK677 hb
      have n13_ := KB BK710 hb
      have n14_ := BS (w := w) hb
      clear HO686
      clear HO689
      clear HO693
      clear HO696
      clear HO699
      clear HO705
      clear HO708
      clear HO713
      clear HO716
      clear HO719
      clear BK677
      clear BK710
      clear HB
      have HO686 := n0_
      have HO689 := n1_
      have HO693 := n2_
      have HO696 := n3_
      have HO699 := n4_
      have HO705 := n5_
      have HO708 := n6_
      have HO713 := n7_
      have HO716 := n8_
      have HO719 := n9_
      have HO726 := n10_
      have HO729 := n11_
      have BK677 := n12_
      have BK710 := n13_
      have HB := n14_
      clear n0_ n1_ n2_ n3_ n4_ n5_ n6_ n7_ n8_ n9_ n10_ n11_ n12_ n13_ n14_
      (try clear hb)
      (try clear ho0)
      (try clear ho1)
      obtain ⟨Ao9030, co9030, eo9030⟩ := Kd.iT HO726.out
      (first | subst eo9030 | (injection eo9030 with f1_ f2_ f3_; have f4_ := f1_.symm; have f5_ := f3_.symm; clear f1_ f2_ f3_; subst f4_; subst f5_))
      obtain ⟨Ao9031, co9031, eo9031⟩ := Kd.cK HO729.out
      (first | subst eo9031 | (injection eo9031 with f1_ f2_ f3_; have f4_ := f1_.symm; have f5_ := f3_.symm; clear f1_ f2_ f3_; subst f4_; subst f5_))
      refine hK.out _ _ ⟨(ak BK710.out 0).trans rfl, (ak BK710.out 1).trans rfl, (ak BK710.out 2).trans rfl, (ak BK710.out 3).trans rfl, (ak BK710.out 4).trans rfl, (ak BK710.out 5).trans rfl, (ak BK677.out 0).trans rfl, (ak BK677.out 1).trans rfl, (ak BK677.out 2).trans rfl, (ak BK677.out 3).trans rfl, (ak BK677.out 4).trans rfl, (ak BK677.out 5).trans rfl⟩ (fun hHeld => ?_)
      clear hK K
      refine nrm (some 62) ?_
      refine lg (i := 3) (N := some 63) #[T,T,T,T,F] rfl rfl (by kernel_rfl) dcE (fun K hK => ?_)
      refine jq Tryz.func16 #[.agg #[.int .i64 t700, .int .i64 t701, .string t702, .slice Ao9018 t703.length co9018, .slice Ao9019 t706.length co9019, .int .i64 t709], .agg #[.int .i64 t721, .int .i64 t722, .string t723, .slice Ao9030 t724.length co9030, .slice Ao9031 t727.length co9031, .int .i64 t730]] ?_
      with_reducible refine (jo.calls k t700 t701 t702 _ _ t703 _ _ t706 t709 t721 t722 t723 _ _ t724 _ _ t727 t730 _ _ ?side1 ?side2 ?side3 ?side4 ?side5 ?side6 ?side7 ?side8 A35.out).mono ?_
      (case side1 => repeat (first | exact (Kd.bI HO705.out).2.2 | (with_reducible refine Kd.dh ?_ _) | (with_reducible refine Kd.dn ?_ _) | (with_reducible refine Kd.dY ?_)))
      (case side2 => exact (Kd.bI HO705.out).2.1)
      (case side3 => exact CR2 HO708)
      (case side4 => exact (Kd.aZ HO708.out).2.1)
      (case side5 => repeat (first | exact (Kd.bI HO726.out).2.2 | (with_reducible refine Kd.dh ?_ _) | (with_reducible refine Kd.dn ?_ _) | (with_reducible refine Kd.dY ?_)))
      (case side6 => exact (Kd.bI HO726.out).2.1)
      (case side7 => exact CR2 HO729)
      (case side8 => exact (Kd.aZ HO729.out).2.1)
      rintro e w9032 ⟨rfl, hb⟩
      refine ⟨_, rfl, ?_⟩
      have n0_ := ah.mk (Kd.aV (SR HO686) hb)
      have n1_ := RB HO689 hb
      have n2_ := RB HO693 hb
      have n3_ := RB HO696 hb
      have n4_ := ah.mk (Kd.aV (SR HO699) hb)
      have n5_ := ah.mk (Kd.aV (SR HO705) hb)
      have n6_ := RB HO708 hb
      have n7_ := RB HO713 hb
      have n8_ := RB HO716 hb
      have n9_ := ah.mk (Kd.aV (SR HO719) hb)
      have n10_ := ah.mk (Kd.aV (SR HO726) hb)
      have n11_ := RB HO729 hb
      have n12_ := KB BK677 hb
      have n13_ := KB BK710 hb
      have n14_ := BS (w := w) hb
      clear HO686
      clear HO689
      clear HO693
      clear HO696
      clear HO699
      clear HO705
      clear HO708
      clear HO713
      clear HO716
      clear HO719
      clear HO726
      clear HO729
      clear BK677
      clear BK710
      clear HB
      have HO686 := n0_
      have HO689 := n1_
      have HO693 := n2_
      have HO696 := n3_
      have HO699 := n4_
      have HO705 := n5_
      have HO708 := n6_
      have HO713 := n7_
      have HO716 := n8_
      have HO719 := n9_
      have HO726 := n10_
      have HO729 := n11_
      have BK677 := n12_
      have BK710 := n13_
      have HB := n14_
      clear n0_ n1_ n2_ n3_ n4_ n5_ n6_ n7_ n8_ n9_ n10_ n11_ n12_ n13_ n14_
      (try clear hb)
      refine hK.out _ _ ⟨(ak BK710.out 0).trans rfl, (ak BK710.out 1).trans rfl, (ak BK710.out 2).trans rfl, (ak BK710.out 3).trans rfl, (ak BK710.out 4).trans rfl, (ak BK710.out 5).trans rfl, (ak BK677.out 0).trans rfl, (ak BK677.out 1).trans rfl, (ak BK677.out 2).trans rfl, (ak BK677.out 3).trans rfl, (ak BK677.out 4).trans rfl, (ak BK677.out 5).trans rfl⟩ (fun hHeld => ?_)
      clear hK K
      refine nrm (some 63) ?_
      replace H := H.out
      replace H := ifB H; rcases H with ⟨rfl, H⟩ | ⟨rfl, H⟩
      ·replace H := be H; obtain ⟨t732, A37, H⟩ := H
       replace H := be H; obtain ⟨t735, A38, H⟩ := H
       replace H := ah.mk H
       refine puS (i := 4) (N := some 64) #[T,T,T,T,T] (by kernel_rfl) ?_
       refine je (by kernel_rfl) ?_
       go_wp2_with (first | ((with_reducible refine aA (f := 12) rfl ?_); refine aY (some 67) Tryz.func12 #[.slice A2 l2.length c2] ?_; (with_reducible refine (bN.calls k _ _ l2 t732 _ ?side1 ?side2 A37.out).mono ?_); (case side1 => exact CB HR2); (case side2 => exact HC2.out); rintro e w9033 ⟨v733, rfl, ho0, hb⟩; refine ⟨_, rfl, ?_⟩; have n0_ := ah.mk (Kd.aV (SR HO686) hb); have n2_ := ah.mk (Kd.gq (RR HO693) (Kd.gH ho0) hb); have n4_ := ah.mk (Kd.aV (SR HO699) hb); have n5_ := ah.mk (Kd.aV (SR HO705) hb); have n7_ := ah.mk (Kd.gq (RR HO713) (Kd.gH ho0) hb); have n9_ := ah.mk (Kd.aV (SR HO719) hb); have n10_ := ah.mk (Kd.aV (SR HO726) hb); have n12_ := ah.mk (Kd.bT (Kd.iV (Kd.iV ho0 (Kd.jK (RR HO693))) (Kd.jK (RR HO713))) (aJ BL)); replace HO689 := RB HO689 hb; replace HO696 := RB HO696 hb; replace HO708 := RB HO708 hb; replace HO716 := RB HO716 hb; replace HO729 := RB HO729 hb; replace BK677 := KB BK677 hb; replace BK710 := KB BK710 hb; replace HB := BS (w := w) hb; clear HO686 HO693 HO699 HO705 HO713 HO719 HO726; have HO686 := n0_; have HO693 := n2_; have HO699 := n4_; have HO705 := n5_; have HO713 := n7_; have HO719 := n9_; have HO726 := n10_; have HO734 := n12_; clear n0_ n2_ n4_ n5_ n7_ n9_ n10_ n12_; (try clear hb); (try clear ho0); obtain ⟨Ao9034, co9034, eo9034⟩ := Kd.cK HO734.out; subst eo9034) | ((with_reducible refine aA (f := 17) rfl ?_); refine aY (some 68) Tryz.func17 #[.slice Ao9023 t711.length co9023, .slice Ao9034 t732.length co9034] ?_; (with_reducible refine (bX.calls k _ _ t711 _ _ t732 _ _ ?side1 ?side2 ?side3 ?side4 A38.out).mono ?_); (case side1 => exact CR2 HO713); (case side2 => exact (Kd.aZ HO713.out).2.1); (case side3 => exact CR2 HO734); (case side4 => exact (Kd.aZ HO734.out).2.1); rintro e w9035 ⟨rfl, hb⟩; refine ⟨_, rfl, ?_⟩; have n0_ := ah.mk (Kd.aV (SR HO686) hb); have n4_ := ah.mk (Kd.aV (SR HO699) hb); have n5_ := ah.mk (Kd.aV (SR HO705) hb); have n9_ := ah.mk (Kd.aV (SR HO719) hb); have n10_ := ah.mk (Kd.aV (SR HO726) hb); replace HO689 := RB HO689 hb; replace HO693 := RB HO693 hb; replace HO696 := RB HO696 hb; replace HO708 := RB HO708 hb; replace HO713 := RB HO713 hb; replace HO716 := RB HO716 hb; replace HO729 := RB HO729 hb; replace HO734 := RB HO734 hb; replace BK677 := KB BK677 hb; replace BK710 := KB BK710 hb; replace HB := BS (w := w) hb; clear HO686 HO699 HO705 HO719 HO726; have HO686 := n0_; have HO699 := n4_; have HO705 := n5_; have HO719 := n9_; have HO726 := n10_; clear n0_ n4_ n5_ n9_ n10_; (try clear hb); refine dF ?_))
       refine Hide.mk ?_
       replace H := H.out
       replace H := ifB H; rcases H with ⟨rfl, H⟩ | ⟨rfl, H⟩
       ·replace H := be H; obtain ⟨t736, A40, H⟩ := H
        replace H := be H; obtain ⟨t739, A41, H⟩ := H
        replace H := ah.mk H
        go_wp2_with (first | ((with_reducible refine aA (f := 13) rfl ?_); refine aY (some 72) Tryz.func13 #[.slice A3 l3.length c3] ?_; (with_reducible refine (bZ.calls k _ _ l3 t736 _ ?side1 ?side2 A40.out).mono ?_); (case side1 => exact CB HR3); (case side2 => exact HC3.out); rintro e w9036 ⟨v737, rfl, ho0, hb⟩; refine ⟨_, rfl, ?_⟩; have n0_ := ah.mk (Kd.aV (SR HO686) hb); have n3_ := ah.mk (Kd.gq (RR HO696) (Kd.gH ho0) hb); have n4_ := ah.mk (Kd.gI (SR HO699) (Kd.gH ho0) hb); have n5_ := ah.mk (Kd.aV (SR HO705) hb); have n8_ := ah.mk (Kd.gq (RR HO716) (Kd.gH ho0) hb); have n9_ := ah.mk (Kd.gI (SR HO719) (Kd.gH ho0) hb); have n10_ := ah.mk (Kd.aV (SR HO726) hb); have n13_ := ah.mk (Kd.bT (Kd.iV (Kd.iV ho0 (Kd.jK (RR HO696))) (Kd.jK (RR HO716))) (aJ BL)); replace HO689 := RB HO689 hb; replace HO693 := RB HO693 hb; replace HO708 := RB HO708 hb; replace HO713 := RB HO713 hb; replace HO729 := RB HO729 hb; replace HO734 := RB HO734 hb; replace BK677 := KB BK677 hb; replace BK710 := KB BK710 hb; replace HB := BS (w := w) hb; clear HO686 HO696 HO699 HO705 HO716 HO719 HO726; have HO686 := n0_; have HO696 := n3_; have HO699 := n4_; have HO705 := n5_; have HO716 := n8_; have HO719 := n9_; have HO726 := n10_; have HO738 := n13_; clear n0_ n3_ n4_ n5_ n8_ n9_ n10_ n13_; (try clear hb); (try clear ho0); obtain ⟨Ao9037, co9037, eo9037⟩ := Kd.cK HO738.out; subst eo9037) | ((with_reducible refine aA (f := 18) rfl ?_); refine aY (some 73) Tryz.func18 #[.slice Ao9024 t714.length co9024, .slice Ao9037 t736.length co9037] ?_; (with_reducible refine (dK.calls k _ _ t714 _ _ t736 _ _ ?side1 ?side2 ?side3 ?side4 A41.out).mono ?_); (case side1 => exact CR2 HO716); (case side2 => exact (Kd.aZ HO716.out).2.1); (case side3 => exact CR2 HO738); (case side4 => exact (Kd.aZ HO738.out).2.1); rintro e w' ⟨rfl, ⟨nd, rfl⟩⟩; refine ⟨_, rfl, ?_⟩; (first | have nq0_ := ah.mk (Kd.bS HO686.out nd) | have nq0_ := ah.mk (Kd.dL HO686.out nd)); (first | have nq1_ := ah.mk (Kd.bS HO689.out nd) | have nq1_ := ah.mk (Kd.dL HO689.out nd)); (first | have nq2_ := ah.mk (Kd.bS HO693.out nd) | have nq2_ := ah.mk (Kd.dL HO693.out nd)); (first | have nq3_ := ah.mk (Kd.bS HO696.out nd) | have nq3_ := ah.mk (Kd.dL HO696.out nd)); (first | have nq4_ := ah.mk (Kd.bS HO699.out nd) | have nq4_ := ah.mk (Kd.dL HO699.out nd)); (first | have nq5_ := ah.mk (Kd.bS HO705.out nd) | have nq5_ := ah.mk (Kd.dL HO705.out nd)); (first | have nq6_ := ah.mk (Kd.bS HO708.out nd) | have nq6_ := ah.mk (Kd.dL HO708.out nd)); (first | have nq7_ := ah.mk (Kd.bS HO713.out nd) | have nq7_ := ah.mk (Kd.dL HO713.out nd)); (first | have nq8_ := ah.mk (Kd.bS HO716.out nd) | have nq8_ := ah.mk (Kd.dL HO716.out nd)); (first | have nq9_ := ah.mk (Kd.bS HO719.out nd) | have nq9_ := ah.mk (Kd.dL HO719.out nd)); (first | have nq10_ := ah.mk (Kd.bS HO726.out nd) | have nq10_ := ah.mk (Kd.dL HO726.out nd)); (first | have nq11_ := ah.mk (Kd.bS HO729.out nd) | have nq11_ := ah.mk (Kd.dL HO729.out nd)); (first | have nq12_ := ah.mk (Kd.bS HO734.out nd) | have nq12_ := ah.mk (Kd.dL HO734.out nd)); (first | have nq13_ := ah.mk (Kd.bS HO738.out nd) | have nq13_ := ah.mk (Kd.dL HO738.out nd)); have nq14_ := ah.mk (aC BK677.out nd); have nq15_ := ah.mk (aC BK710.out nd); have nq16_ := ah.mk (iy HB.out nd); clear HO686 HO689 HO693 HO696 HO699 HO705 HO708 HO713 HO716 HO719 HO726 HO729 HO734 HO738 BK677 BK710 HB; have HO686 := nq0_; have HO689 := nq1_; have HO693 := nq2_; have HO696 := nq3_; have HO699 := nq4_; have HO705 := nq5_; have HO708 := nq6_; have HO713 := nq7_; have HO716 := nq8_; have HO719 := nq9_; have HO726 := nq10_; have HO729 := nq11_; have HO734 := nq12_; have HO738 := nq13_; have BK677 := nq14_; have BK710 := nq15_; have HB := nq16_; clear nq0_ nq1_ nq2_ nq3_ nq4_ nq5_ nq6_ nq7_ nq8_ nq9_ nq10_ nq11_ nq12_ nq13_ nq14_ nq15_ nq16_; generalize World.drewN w9036 nd = w9036d at HB HO686 HO689 HO693 HO696 HO699 HO705 HO708 HO713 HO716 HO719 HO726 HO729 HO734 HO738 BK677 BK710 ⊢; obtain ⟨hcz9038_0, hcz9038_1, hcz9038_2, hcz9038_3, hcz9038_4, hcz9038_5, hfz9038_0, hfz9038_1, hfz9038_2, hfz9038_3, hfz9038_4, hfz9038_5⟩ := cz6 BK710.out; refine dF ?_))
        refine Hide.mk ?_
        replace H := H.out
        replace H := ifB H; rcases H with ⟨rfl, H⟩ | ⟨rfl, H⟩
        ·replace H := be H; obtain ⟨⟨t740, t741⟩, A43, H⟩ := H
         dsimp only at H
         replace H := be H; obtain ⟨⟨t742, t743⟩, A44, H⟩ := H
         dsimp only at H
         replace H := be H; obtain ⟨⟨t744, t745⟩, A45, H⟩ := H
         dsimp only at H
         have HC46 := ah.mk H
         clear H
         go_upto_region 30 with (first | ((with_reducible refine aA (f := 19) rfl ?_); refine aY (some 77) Tryz.func19 #[.agg #[.int .i64 t700, .int .i64 t701, .string t702, .slice Ao9018 t703.length co9018, .slice Ao9019 t706.length co9019, .int .i64 t709], .int .i64 1] ?_; (with_reducible refine (jH.calls k t700 t701 t702 _ t703 (fun k_ => some k_ = (.slice Ao9019 t706.length co9019 : Value).ownBlock) (.slice Ao9019 t706.length co9019) t706 t709 1 t740 t741 w _ ?side1 ?side2 ?side3 ?side4 A43.out).mono ?_); (case side1 => exact BL); (case side2 => exact ⟨_, (Kd.qQ HO705.out (Kd.gV HO708.out) dcE)⟩); (case side3 => exact True.intro); (case side4 => exact Kd.mq rfl HO708.out); rintro e w9039 ⟨rfl, hy0, hb, hkp⟩; refine ⟨_, rfl, ?_⟩; have n0_ := ah.mk (BM BK hkp dcE (fun hs_ => (fun e_ => (Kd.lM HO708.out BK677.out dcE) e_) hs_)); have n1_ := ah.mk (Kd.bD (ok' := fun k_ => some k_ ≠ (.slice Ao9019 t706.length co9019 : Value).ownBlock ∧ some k_ ≠ (.slice Ao9031 t727.length co9031 : Value).ownBlock) (uq (HO689.out) hkp dcE (fun k_ hk_ hs_ => (hk_.1.2) hs_)) (fun k_ hk_ => ⟨hk_.1.1.2, hk_.1.2⟩)); have n2_ := ah.mk (Kd.bD (ok' := fun k_ => some k_ ≠ (.slice Ao9023 t711.length co9023 : Value).ownBlock ∧ some k_ ≠ (.slice Ao9034 t732.length co9034 : Value).ownBlock) (uq ((Kd.iq HO693.out (Kd.gV HO708.out) dcE)) hkp dcE (fun k_ hk_ hs_ => (hk_.2) hs_)) (fun k_ hk_ => ⟨hk_.1.1.1.2, hk_.1.1.2⟩)); have n3_ := ah.mk (Kd.bD (ok' := fun k_ => some k_ ≠ (.slice Ao9024 t714.length co9024 : Value).ownBlock ∧ some k_ ≠ (.slice Ao9037 t736.length co9037 : Value).ownBlock) (uq ((Kd.iq HO696.out (Kd.gV HO708.out) dcE)) hkp dcE (fun k_ hk_ hs_ => (hk_.2) hs_)) (fun k_ hk_ => ⟨hk_.1.1.1.2, hk_.1.1.2⟩)); have n4_ := ah.mk (Kd.gU (ok' := fun k_ => some k_ ≠ (.slice Ao9011 t694.length co9011 : Value).ownBlock ∧ some k_ ≠ (.slice Ao9024 t714.length co9024 : Value).ownBlock ∧ some k_ ≠ (.slice Ao9026 t717.length co9026 : Value).ownBlock ∧ some k_ ≠ (.slice Ao9037 t736.length co9037 : Value).ownBlock) (Iu ((Kd.qQ HO699.out (Kd.gV HO708.out) dcE)) hkp dcE (fun k_ hk_ hs_ => (hk_.2) hs_)) (fun k_ hk_ => ⟨hk_.1.1.1.1.1.2, hk_.1.1.1.1.2, hk_.1.1.1.2, hk_.1.1.2⟩)); have n5_ := ah.mk (Kd.Br rfl hy0 (fun k_ e_ => HO708.out.1 k_ e_)); have n6_ := ah.mk (BM BK hkp dcE (fun hs_ => (fun e_ => (Kd.lM HO708.out BK710.out dcE) e_) hs_)); have n7_ := ah.mk (Kd.bD (ok' := fun k_ => some k_ ≠ (.slice Ao9010 t691.length co9010 : Value).ownBlock ∧ some k_ ≠ (.slice Ao9034 t732.length co9034 : Value).ownBlock) (uq ((Kd.iq HO713.out (Kd.gV HO708.out) dcE)) hkp dcE (fun k_ hk_ hs_ => (hk_.2) hs_)) (fun k_ hk_ => ⟨hk_.1.1.1.2, hk_.1.1.2⟩)); have n8_ := ah.mk (Kd.bD (ok' := fun k_ => some k_ ≠ (.slice Ao9011 t694.length co9011 : Value).ownBlock ∧ some k_ ≠ (.slice Ao9037 t736.length co9037 : Value).ownBlock) (uq ((Kd.iq HO716.out (Kd.gV HO708.out) dcE)) hkp dcE (fun k_ hk_ hs_ => (hk_.2) hs_)) (fun k_ hk_ => ⟨hk_.1.1.1.2, hk_.1.1.2⟩)); have n9_ := ah.mk (Kd.gU (ok' := fun k_ => some k_ ≠ (.slice Ao9011 t694.length co9011 : Value).ownBlock ∧ some k_ ≠ (.slice Ao9027 t697.length co9027 : Value).ownBlock ∧ some k_ ≠ (.slice Ao9024 t714.length co9024 : Value).ownBlock ∧ some k_ ≠ (.slice Ao9037 t736.length co9037 : Value).ownBlock) (Iu ((Kd.qQ HO719.out (Kd.gV HO708.out) dcE)) hkp dcE (fun k_ hk_ hs_ => (hk_.2) hs_)) (fun k_ hk_ => ⟨hk_.1.1.1.1.1.2, hk_.1.1.1.1.2, hk_.1.1.1.2, hk_.1.1.2⟩)); have n10_ := ah.mk (Kd.bD (ok' := fun k_ => some k_ ≠ (.slice Ao9009 t687.length co9009 : Value).ownBlock ∧ some k_ ≠ (.slice Ao9019 t706.length co9019 : Value).ownBlock) (uq (HO729.out) hkp dcE (fun k_ hk_ hs_ => (hk_.2) hs_)) (fun k_ hk_ => ⟨hk_.1.1.2, hk_.1.2⟩)); have n11_ := ah.mk (Kd.bD (ok' := fun k_ => some k_ ≠ (.slice Ao9010 t691.length co9010 : Value).ownBlock ∧ some k_ ≠ (.slice Ao9023 t711.length co9023 : Value).ownBlock) (uq ((Kd.iq HO734.out (Kd.gV HO708.out) dcE)) hkp dcE (fun k_ hk_ hs_ => (hk_.2) hs_)) (fun k_ hk_ => ⟨hk_.1.1.1.2, hk_.1.1.2⟩)); have n12_ := ah.mk (Kd.bD (ok' := fun k_ => some k_ ≠ (.slice Ao9011 t694.length co9011 : Value).ownBlock ∧ some k_ ≠ (.slice Ao9024 t714.length co9024 : Value).ownBlock) (uq ((Kd.iq HO738.out (Kd.gV HO708.out) dcE)) hkp dcE (fun k_ hk_ hs_ => (hk_.2) hs_)) (fun k_ hk_ => ⟨hk_.1.1.1.2, hk_.1.1.2⟩)); have n13_ := ah.mk (hb); clear BK677 HO689 HO693 HO696 HO699 HO708 BK710 HO713 HO716 HO719 HO729 HO734 HO738 HB HO686 HO705 HO726; have BK677 := n0_; have HO689 := n1_; have HO693 := n2_; have HO696 := n3_; have HO699 := n4_; have HO708 := n5_; have BK710 := n6_; have HO713 := n7_; have HO716 := n8_; have HO719 := n9_; have HO729 := n10_; have HO734 := n11_; have HO738 := n12_; have HB := n13_; clear n0_ n1_ n2_ n3_ n4_ n5_ n6_ n7_ n8_ n9_ n10_ n11_ n12_ n13_; (try clear hb); (try clear hkp); (try clear hy0)) | ((with_reducible refine aA (f := 20) rfl ?_); refine aY (some 80) Tryz.func20 #[.slice Ao9023 t711.length co9023, .int .i64 t740] ?_; (with_reducible refine (dX.calls k (fun k_ => some k_ = (.slice Ao9023 t711.length co9023 : Value).ownBlock) (.slice Ao9023 t711.length co9023) t711 t740 t742 t743 w _ ?side1 ?side2 A44.out).mono ?_); (case side1 => exact BL); (case side2 => exact Kd.mq rfl HO713.out); rintro e w9040 ⟨rfl, hy0, hb, hkp⟩; refine ⟨_, rfl, ?_⟩; have n0_ := ah.mk (oh BK hkp (fun hs_ => (fun e_ => (Kd.lM HO713.out BK677.out dcE) e_) hs_)); have n1_ := ah.mk (Kd.bD (ok' := fun k_ => some k_ ≠ (.slice Ao9019 t706.length co9019 : Value).ownBlock ∧ some k_ ≠ (.slice Ao9031 t727.length co9031 : Value).ownBlock) (Kd.kD ((Kd.iq HO689.out (Kd.gV HO713.out) dcE)) hkp (fun k_ hk_ hs_ => (hk_.2) hs_)) (fun k_ hk_ => ⟨hk_.1.1.1, hk_.1.1.2⟩)); have n2_ := ah.mk (Kd.bD (ok' := fun k_ => some k_ ≠ (.slice Ao9023 t711.length co9023 : Value).ownBlock ∧ some k_ ≠ (.slice Ao9034 t732.length co9034 : Value).ownBlock) (Kd.kD (HO693.out) hkp (fun k_ hk_ hs_ => (hk_.1) hs_)) (fun k_ hk_ => ⟨hk_.1.1, hk_.1.2⟩)); have n3_ := ah.mk (Kd.bD (ok' := fun k_ => some k_ ≠ (.slice Ao9024 t714.length co9024 : Value).ownBlock ∧ some k_ ≠ (.slice Ao9037 t736.length co9037 : Value).ownBlock) (Kd.kD ((Kd.iq HO696.out (Kd.gV HO713.out) dcE)) hkp (fun k_ hk_ hs_ => (hk_.2) hs_)) (fun k_ hk_ => ⟨hk_.1.1.1, hk_.1.1.2⟩)); have n4_ := ah.mk (Kd.gU (ok' := fun k_ => some k_ ≠ (.slice Ao9011 t694.length co9011 : Value).ownBlock ∧ some k_ ≠ (.slice Ao9024 t714.length co9024 : Value).ownBlock ∧ some k_ ≠ (.slice Ao9026 t717.length co9026 : Value).ownBlock ∧ some k_ ≠ (.slice Ao9037 t736.length co9037 : Value).ownBlock) (Kd.wu ((Kd.qQ HO699.out (Kd.gV HO713.out) dcE)) hkp (fun k_ hk_ hs_ => (hk_.2) hs_)) (fun k_ hk_ => ⟨hk_.1.1.1, hk_.1.1.2.1, hk_.1.1.2.2.1, hk_.1.1.2.2.2⟩)); have n5_ := ah.mk (Kd.bD (ok' := fun k_ => some k_ ≠ (.slice Ao9009 t687.length co9009 : Value).ownBlock ∧ some k_ ≠ (.slice Ao9031 t727.length co9031 : Value).ownBlock) (Kd.kD ((Kd.iq HO708.out (Kd.gV HO713.out) dcE)) hkp (fun k_ hk_ hs_ => (hk_.2) hs_)) (fun k_ hk_ => ⟨hk_.1.1.1.2, hk_.1.1.2⟩)); have n6_ := ah.mk (oh BK hkp (fun hs_ => (fun e_ => (Kd.lM HO713.out BK710.out dcE) e_) hs_)); have n7_ := ah.mk (Kd.Br rfl hy0 (fun k_ e_ => HO713.out.1 k_ e_)); have n8_ := ah.mk (Kd.bD (ok' := fun k_ => some k_ ≠ (.slice Ao9011 t694.length co9011 : Value).ownBlock ∧ some k_ ≠ (.slice Ao9037 t736.length co9037 : Value).ownBlock) (Kd.kD ((Kd.iq HO716.out (Kd.gV HO713.out) dcE)) hkp (fun k_ hk_ hs_ => (hk_.2) hs_)) (fun k_ hk_ => ⟨hk_.1.1.1, hk_.1.1.2⟩)); have n9_ := ah.mk (Kd.gU (ok' := fun k_ => some k_ ≠ (.slice Ao9011 t694.length co9011 : Value).ownBlock ∧ some k_ ≠ (.slice Ao9027 t697.length co9027 : Value).ownBlock ∧ some k_ ≠ (.slice Ao9024 t714.length co9024 : Value).ownBlock ∧ some k_ ≠ (.slice Ao9037 t736.length co9037 : Value).ownBlock) (Kd.wu ((Kd.qQ HO719.out (Kd.gV HO713.out) dcE)) hkp (fun k_ hk_ hs_ => (hk_.2) hs_)) (fun k_ hk_ => ⟨hk_.1.1.1, hk_.1.1.2.1, hk_.1.1.2.2.1, hk_.1.1.2.2.2⟩)); have n10_ := ah.mk (Kd.bD (ok' := fun k_ => some k_ ≠ (.slice Ao9009 t687.length co9009 : Value).ownBlock ∧ some k_ ≠ (.slice Ao9019 t706.length co9019 : Value).ownBlock) (Kd.kD ((Kd.iq HO729.out (Kd.gV HO713.out) dcE)) hkp (fun k_ hk_ hs_ => (hk_.2) hs_)) (fun k_ hk_ => ⟨hk_.1.1.1, hk_.1.1.2⟩)); have n11_ := ah.mk (Kd.bD (ok' := fun k_ => some k_ ≠ (.slice Ao9010 t691.length co9010 : Value).ownBlock ∧ some k_ ≠ (.slice Ao9023 t711.length co9023 : Value).ownBlock) (Kd.kD (HO734.out) hkp (fun k_ hk_ hs_ => (hk_.2) hs_)) (fun k_ hk_ => ⟨hk_.1.1, hk_.1.2⟩)); have n12_ := ah.mk (Kd.bD (ok' := fun k_ => some k_ ≠ (.slice Ao9011 t694.length co9011 : Value).ownBlock ∧ some k_ ≠ (.slice Ao9024 t714.length co9024 : Value).ownBlock) (Kd.kD ((Kd.iq HO738.out (Kd.gV HO713.out) dcE)) hkp (fun k_ hk_ hs_ => (hk_.2) hs_)) (fun k_ hk_ => ⟨hk_.1.1.1, hk_.1.1.2⟩)); have n13_ := ah.mk (hb); clear BK677 HO689 HO693 HO696 HO699 HO708 BK710 HO713 HO716 HO719 HO729 HO734 HO738 HB; have BK677 := n0_; have HO689 := n1_; have HO693 := n2_; have HO696 := n3_; have HO699 := n4_; have HO708 := n5_; have BK710 := n6_; have HO713 := n7_; have HO716 := n8_; have HO719 := n9_; have HO729 := n10_; have HO734 := n11_; have HO738 := n12_; have HB := n13_; clear n0_ n1_ n2_ n3_ n4_ n5_ n6_ n7_ n8_ n9_ n10_ n11_ n12_ n13_; (try clear hb); (try clear hkp); (try clear hy0)) | ((with_reducible refine aA (f := 21) rfl ?_); refine aY (some 83) Tryz.func21 #[.slice Ao9024 t714.length co9024, .int .i64 t742] ?_; (with_reducible refine (eu.calls k (fun k_ => some k_ = (.slice Ao9024 t714.length co9024 : Value).ownBlock) (.slice Ao9024 t714.length co9024) t714 t742 t744 t745 w _ ?side1 ?side2 A45.out).mono ?_); (case side1 => exact BL); (case side2 => exact Kd.mq rfl HO716.out); rintro e w9041 ⟨rfl, hy0, hb, hkp⟩; refine ⟨_, rfl, ?_⟩; have n0_ := ah.mk (oh BK hkp (fun hs_ => (fun e_ => (Kd.lM HO716.out BK677.out dcE) e_) hs_)); have n1_ := ah.mk (Kd.bD (ok' := fun k_ => some k_ ≠ (.slice Ao9019 t706.length co9019 : Value).ownBlock ∧ some k_ ≠ (.slice Ao9031 t727.length co9031 : Value).ownBlock) (Kd.kD ((Kd.iq HO689.out (Kd.gV HO716.out) dcE)) hkp (fun k_ hk_ hs_ => (hk_.2) hs_)) (fun k_ hk_ => ⟨hk_.1.1.1, hk_.1.1.2⟩)); have n2_ := ah.mk (Kd.bD (ok' := fun k_ => some k_ ≠ (.slice Ao9023 t711.length co9023 : Value).ownBlock ∧ some k_ ≠ (.slice Ao9034 t732.length co9034 : Value).ownBlock) (Kd.kD ((Kd.iq HO693.out (Kd.gV HO716.out) dcE)) hkp (fun k_ hk_ hs_ => (hk_.2) hs_)) (fun k_ hk_ => ⟨hk_.1.1.1, hk_.1.1.2⟩)); have n3_ := ah.mk (Kd.bD (ok' := fun k_ => some k_ ≠ (.slice Ao9024 t714.length co9024 : Value).ownBlock ∧ some k_ ≠ (.slice Ao9037 t736.length co9037 : Value).ownBlock) (Kd.kD (HO696.out) hkp (fun k_ hk_ hs_ => (hk_.1) hs_)) (fun k_ hk_ => ⟨hk_.1.1, hk_.1.2⟩)); have n4_ := ah.mk (Kd.gU (ok' := fun k_ => some k_ ≠ (.slice Ao9011 t694.length co9011 : Value).ownBlock ∧ some k_ ≠ (.slice Ao9024 t714.length co9024 : Value).ownBlock ∧ some k_ ≠ (.slice Ao9026 t717.length co9026 : Value).ownBlock ∧ some k_ ≠ (.slice Ao9037 t736.length co9037 : Value).ownBlock) (Kd.wu (HO699.out) hkp (fun k_ hk_ hs_ => (hk_.2.1) hs_)) (fun k_ hk_ => ⟨hk_.1.1, hk_.1.2.1, hk_.1.2.2.1, hk_.1.2.2.2⟩)); have n5_ := ah.mk (Kd.bD (ok' := fun k_ => some k_ ≠ (.slice Ao9009 t687.length co9009 : Value).ownBlock ∧ some k_ ≠ (.slice Ao9031 t727.length co9031 : Value).ownBlock) (Kd.kD ((Kd.iq HO708.out (Kd.gV HO716.out) dcE)) hkp (fun k_ hk_ hs_ => (hk_.2) hs_)) (fun k_ hk_ => ⟨hk_.1.1.1, hk_.1.1.2⟩)); have n6_ := ah.mk (oh BK hkp (fun hs_ => (fun e_ => (Kd.lM HO716.out BK710.out dcE) e_) hs_)); have n7_ := ah.mk (Kd.bD (ok' := fun k_ => some k_ ≠ (.slice Ao9010 t691.length co9010 : Value).ownBlock ∧ some k_ ≠ (.slice Ao9034 t732.length co9034 : Value).ownBlock) (Kd.kD ((Kd.iq HO713.out (Kd.gV HO716.out) dcE)) hkp (fun k_ hk_ hs_ => (hk_.2) hs_)) (fun k_ hk_ => ⟨hk_.1.1.1, hk_.1.1.2⟩)); have n8_ := ah.mk (Kd.Br rfl hy0 (fun k_ e_ => HO716.out.1 k_ e_)); have n9_ := ah.mk (Kd.gU (ok' := fun k_ => some k_ ≠ (.slice Ao9011 t694.length co9011 : Value).ownBlock ∧ some k_ ≠ (.slice Ao9027 t697.length co9027 : Value).ownBlock ∧ some k_ ≠ (.slice Ao9024 t714.length co9024 : Value).ownBlock ∧ some k_ ≠ (.slice Ao9037 t736.length co9037 : Value).ownBlock) (Kd.wu (HO719.out) hkp (fun k_ hk_ hs_ => (hk_.2.2.1) hs_)) (fun k_ hk_ => ⟨hk_.1.1, hk_.1.2.1, hk_.1.2.2.1, hk_.1.2.2.2⟩)); have n10_ := ah.mk (Kd.bD (ok' := fun k_ => some k_ ≠ (.slice Ao9009 t687.length co9009 : Value).ownBlock ∧ some k_ ≠ (.slice Ao9019 t706.length co9019 : Value).ownBlock) (Kd.kD ((Kd.iq HO729.out (Kd.gV HO716.out) dcE)) hkp (fun k_ hk_ hs_ => (hk_.2) hs_)) (fun k_ hk_ => ⟨hk_.1.1.1, hk_.1.1.2⟩)); have n11_ := ah.mk (Kd.bD (ok' := fun k_ => some k_ ≠ (.slice Ao9010 t691.length co9010 : Value).ownBlock ∧ some k_ ≠ (.slice Ao9023 t711.length co9023 : Value).ownBlock) (Kd.kD ((Kd.iq HO734.out (Kd.gV HO716.out) dcE)) hkp (fun k_ hk_ hs_ => (hk_.2) hs_)) (fun k_ hk_ => ⟨hk_.1.1.1, hk_.1.1.2⟩)); have n12_ := ah.mk (Kd.bD (ok' := fun k_ => some k_ ≠ (.slice Ao9011 t694.length co9011 : Value).ownBlock ∧ some k_ ≠ (.slice Ao9024 t714.length co9024 : Value).ownBlock) (Kd.kD (HO738.out) hkp (fun k_ hk_ hs_ => (hk_.2) hs_)) (fun k_ hk_ => ⟨hk_.1.1, hk_.1.2⟩)); have n13_ := ah.mk (hb); clear BK677 HO689 HO693 HO696 HO699 HO708 BK710 HO713 HO716 HO719 HO729 HO734 HO738 HB; have BK677 := n0_; have HO689 := n1_; have HO693 := n2_; have HO696 := n3_; have HO699 := n4_; have HO708 := n5_; have BK710 := n6_; have HO713 := n7_; have HO716 := n8_; have HO719 := n9_; have HO729 := n10_; have HO734 := n11_; have HO738 := n12_; have HB := n13_; clear n0_ n1_ n2_ n3_ n4_ n5_ n6_ n7_ n8_ n9_ n10_ n11_ n12_ n13_; (try clear hb); (try clear hkp); (try clear hy0)))
         (try simp only [Act.put, List.setIfInBounds_toArray, List.set_cons_zero, List.set_cons_succ])
         go_cut [91] (fun v91 wc => ∃ (kq : Nat) (x91_45 : Bool), v91 = .bool x91_45 ∧ ah (cZ.j0 kq a1 l2 l3 t697 t717 x91_45 JW JX JY JZ Ka Ke = some r) ∧ ah (kq ≤ k) ∧ ah (Kd.S (pW Bg (Kd.slice 9 Kd.string)) 29 wc w.heap.size (fun k_ => some k_ ≠ ((.slice Ao9026 t717.length co9026) : Value).ownBlock) (.slice Ao9027 t697.length co9027) t697) ∧ ah (Kd.S (nR Bg (Kd.slice 9 Kd.string)) 29 wc w.heap.size (fun k_ => some k_ ≠ ((.slice Ao9027 t697.length co9027) : Value).ownBlock) (.slice Ao9026 t717.length co9026) t717) ∧ ah (wc.heap[gb677]? = some (.cells #[.int .i64 JW, .int .i64 JX, .string JY, (.slice A0_3 JZ.length c0_3), (.slice A0_4 Ka.length c0_4), .int .i64 Ke] 27 (0, 0))) ∧ ah (Below w.heap.size w wc))
         case first =>
          have H := HC46.out
          clear HC46
          replace H := ifD H; rcases H with ⟨c89b0, H⟩ | ⟨c89b0, H⟩
          ·(first | rw [c89b0] | (simp only [iQ, jv]; rw [c89b0]) | skip)
           have H' := ah.mk H
           clear H
           go_wp2
           go_meet
           case rel => exact ⟨_, (true), EQ, H', ⟨by first | omega | exact Nat.le_refl _⟩, ⟨by (with_reducible repeat (first | apply Kd.fG | apply Kd.dL | apply Kd.eT)); exact Kd.gU HO699.out (fun _ hk => hk.2.2.1)⟩, ⟨by (with_reducible repeat (first | apply Kd.fG | apply Kd.dL | apply Kd.eT)); exact Kd.gU HO719.out (fun _ hk => hk.2.1)⟩, ⟨BK⟩, ⟨BL⟩⟩
          ·(first | rw [c89b0] | (simp only [iQ, jv]; rw [c89b0]) | skip)
           replace H := be H; obtain ⟨t746, A90, H⟩ := H
           have H' := ah.mk H
           clear H
           go_wp2_with (first | (go_at_call 15; (with_reducible refine (dw.calls k _ _ t717 _ _ t697 t746 _ ?side1 ?side2 ?side3 ?side4 A90.out).mono ?_); (case side1 => repeat (first | exact (Kd.bI HO719.out).2.2 | (with_reducible refine Kd.dh ?_ _) | (with_reducible refine Kd.dn ?_ _) | (with_reducible refine Kd.dY ?_))); (case side2 => exact (Kd.bI HO719.out).2.1); (case side3 => repeat (first | exact (Kd.bI HO699.out).2.2 | (with_reducible refine Kd.dh ?_ _) | (with_reducible refine Kd.dn ?_ _) | (with_reducible refine Kd.dY ?_))); (case side4 => exact (Kd.bI HO699.out).2.1); rintro e w' ⟨rfl, ⟨nd, rfl⟩⟩))
           go_meet
           case rel => exact ⟨_, (!t746), EQ, H', ⟨by first | omega | exact Nat.le_refl _⟩, ⟨by (with_reducible repeat (first | apply Kd.fG | apply Kd.dL | apply Kd.eT)); exact Kd.gU HO699.out (fun _ hk => hk.2.2.1)⟩, ⟨by (with_reducible repeat (first | apply Kd.fG | apply Kd.dL | apply Kd.eT)); exact Kd.gU HO719.out (fun _ hk => hk.2.1)⟩, ⟨BK⟩, ⟨BL⟩⟩
         case rest =>
          clear HC46
          try clear c2
          try clear c3
          try clear c5
          try clear c5b0
          try clear c5b1
          try clear c8
          try clear c8b0
          try clear c13
          try clear c13b0
          try clear c19
          try clear c19b0
          try clear c33
          try clear c36
          try clear c39
          try clear c42
          try clear hcz9001_0
          try clear hcz9001_1
          try clear hcz9001_2
          try clear hcz9001_3
          try clear hcz9001_4
          try clear hcz9001_5
          try clear hcz9004_0
          try clear hcz9004_1
          try clear hcz9004_2
          try clear hcz9004_3
          try clear hcz9004_4
          try clear hcz9004_5
          try clear hcz9013_0
          try clear hcz9013_1
          try clear hcz9013_2
          try clear hcz9013_3
          try clear hcz9013_4
          try clear hcz9013_5
          try clear hcz9017_0
          try clear hcz9017_1
          try clear hcz9017_2
          try clear hcz9017_3
          try clear hcz9017_4
          try clear hcz9017_5
          try clear hcz9022_0
          try clear hcz9022_1
          try clear hcz9022_2
          try clear hcz9022_3
          try clear hcz9022_4
          try clear hcz9022_5
          try clear hcz9038_0
          try clear hcz9038_1
          try clear hcz9038_2
          try clear hcz9038_3
          try clear hcz9038_4
          try clear hcz9038_5
          try clear hfz9001_0
          try clear hfz9001_1
          try clear hfz9001_2
          try clear hfz9001_3
          try clear hfz9001_4
          try clear hfz9001_5
          try clear hfz9004_0
          try clear hfz9004_1
          try clear hfz9004_2
          try clear hfz9004_3
          try clear hfz9004_4
          try clear hfz9004_5
          try clear hfz9013_0
          try clear hfz9013_1
          try clear hfz9013_2
          try clear hfz9013_3
          try clear hfz9013_4
          try clear hfz9013_5
          try clear hfz9017_0
          try clear hfz9017_1
          try clear hfz9017_2
          try clear hfz9017_3
          try clear hfz9017_4
          try clear hfz9017_5
          try clear hfz9022_0
          try clear hfz9022_1
          try clear hfz9022_2
          try clear hfz9022_3
          try clear hfz9022_4
          try clear hfz9022_5
          try clear hfz9038_0
          try clear hfz9038_1
          try clear hfz9038_2
          try clear hfz9038_3
          try clear hfz9038_4
          try clear hfz9038_5
          obtain ⟨kq, x91_45, rfl, HA, HJ45, HO_10, HO_14, BK677, HB⟩ := hcut
          cases kq with
          | zero => exact absurd HA.out (by simp [cZ.j0])
          | succ kj45 =>
           have H := HA.out
           clear HA
           simp only [cZ.j0] at H
           replace H := ifB H; rcases H with ⟨rfl, H⟩ | ⟨rfl, H⟩
           ·obtain rfl := Option.some.inj H
            go_wp2
            go_ret
            exact ⟨EWW, BL⟩
           ·replace H := be H; obtain ⟨⟨t747, t748⟩, A92, H⟩ := H
            dsimp only at H
            replace H := be H; obtain ⟨t749, A93, H⟩ := H
            replace H := ah.mk H
            go_wp2_with (first | ((with_reducible refine aA (f := 22) rfl ?_); refine aY (some 94) Tryz.func22 #[.slice Ao9026 t717.length co9026, .int .i64 1] ?_; (with_reducible refine (fq.calls (B := Bg) kj45 (fun k_ => some k_ ≠ (.slice Ao9027 t697.length co9027 : Value).ownBlock) (.slice Ao9026 t717.length co9026) t717 1 t747 t748 w _ ?side1 ?side2 A92.out).mono ?_); (case side1 => exact BL); (case side2 => exact HO_14.out); rintro e w9042 ⟨rfl, hy0, hb, hkp⟩; refine ⟨_, rfl, ?_⟩; have n0_ := ah.mk ((JF (SR HO_10) hkp dcE)); have n1_ := ah.mk (hy0); have n2_ := ah.mk ((Hq BK hkp dcE)); have n3_ := ah.mk (hb); clear HO_10 HO_14 BK677 HB; have HO_10 := n0_; have HO_14 := n1_; have BK677 := n2_; have HB := n3_; clear n0_ n1_ n2_ n3_; (try clear hb); (try clear hkp); (try clear hy0)) | ((with_reducible refine aA (f := 23) rfl ?_); refine qY (some 97) rfl rfl Tryz.func23 (by kernel_rfl) rfl #[.slice Ao9026 t748.length co9026, .int .i64 1] rfl (by (try simp only [List.map_toArray, List.map_cons, List.map_nil]); first | done | (rw [show t748.length = t717.length from (Kd.bI HO_14.out).1.symm] <;> rfl) | rfl | (simp only [List.length_drop, List.length_take]; rfl)) ?_; (with_reducible refine (dW.calls kj45 _ _ t748 1 t749 _ ?side1 ?side2 A93.out).mono ?_); (case side1 => repeat (first | exact (Kd.bI HO_14.out).2.2 | (with_reducible refine Kd.dh ?_ _) | (with_reducible refine Kd.dn ?_ _) | (with_reducible refine Kd.dY ?_))); (case side2 => rw [show t748.length = t717.length from (Kd.bI HO_14.out).1.symm]; exact (Kd.bI HO_14.out).2.1); rintro e w9043 ⟨rfl, hb⟩; refine ⟨_, rfl, ?_⟩; have n0_ := ah.mk (Kd.aV (SR HO_10) hb); have n1_ := ah.mk (Kd.aV (SR HO_14) hb); replace BK677 := KB BK677 hb; replace HB := BS (w := w) hb; clear HO_10 HO_14; have HO_10 := n0_; have HO_14 := n1_; clear n0_ n1_; (try clear hb); obtain ⟨hcz9044_0, hcz9044_1, hcz9044_2, hcz9044_3, hcz9044_4, hcz9044_5, hfz9044_0, hfz9044_1, hfz9044_2, hfz9044_3, hfz9044_4, hfz9044_5⟩ := cz6 BK677.out; refine dF ?_))
            refine Hide.mk ?_
            replace H := H.out
            replace H := ifD H; rcases H with ⟨c94b0, H⟩ | ⟨c94b0, H⟩
            ·obtain rfl := Option.some.inj H
             try go_wp2
             go_ret
             exact ⟨EWW, BL⟩
            ·replace H := ifE H; rcases H with ⟨c97b0, c97b1, H⟩ | ⟨c97, c97b0, c97b1, H⟩
             ·replace H := be H; obtain ⟨⟨t750, t751, t752, t753, t756, t759⟩, A98, H⟩ := H
              dsimp only at H
              replace H := be H; obtain ⟨t760, A99, H⟩ := H
              replace H := be H; obtain ⟨t763, A100, H⟩ := H
              replace H := be H; obtain ⟨t766, A101, H⟩ := H
              replace H := be H; obtain ⟨t769, A102, H⟩ := H
              replace H := ah.mk H
              go_wp2_with (first | ((with_reducible refine aA (f := 11) rfl ?_); refine aY (some 104) Tryz.func11 #[.agg #[.int .i64 JW, .int .i64 JX, .string JY, .slice A0_3 JZ.length c0_3, .slice A0_4 Ka.length c0_4, .int .i64 Ke]] ?_; (with_reducible refine (gP.calls kj45 JW JX JY _ _ JZ _ _ Ka Ke t750 t751 t752 t753 t756 t759 _ ?side1 ?side2 ?side3 ?side4 A98.out).mono ?_); (case side1 => exact CB HR0_3); (case side2 => exact HC0_3.out); (case side3 => exact CB HR0_4); (case side4 => exact HC0_4.out); rintro e w9045 ⟨v754, v757, rfl, ho0, ho1, hb⟩; refine ⟨_, rfl, ?_⟩; have n0_ := ah.mk (Kd.aV (SR HO_10) hb); have n1_ := ah.mk (Kd.aV (SR HO_14) hb); have n2_ := ah.mk (Kd.jE ho0 (aJ BL)); have n3_ := ah.mk (Kd.bT ho1 (aJ BL)); replace BK677 := KB BK677 hb; replace HB := BS (w := w) hb; clear HO_10 HO_14; have HO_10 := n0_; have HO_14 := n1_; have HO755 := n2_; have HO758 := n3_; clear n0_ n1_ n2_ n3_; (try clear hb); (try clear ho0); (try clear ho1)) | ((with_reducible refine aA (f := 12) rfl ?_); refine aY (some 107) Tryz.func12 #[.slice A2 l2.length c2] ?_; (with_reducible refine (bN.calls kj45 _ _ l2 t760 _ ?side1 ?side2 A99.out).mono ?_); (case side1 => exact CB HR2); (case side2 => exact HC2.out); rintro e w9046 ⟨v761, rfl, ho0, hb⟩; refine ⟨_, rfl, ?_⟩; have n0_ := ah.mk (Kd.aV (SR HO_10) hb); have n1_ := ah.mk (Kd.aV (SR HO_14) hb); have n2_ := ah.mk (Kd.aV (SR HO755) hb); have n4_ := ah.mk (Kd.bT ho0 (aJ BL)); replace HO758 := RB HO758 hb; replace BK677 := KB BK677 hb; replace HB := BS (w := w) hb; clear HO_10 HO_14 HO755; have HO_10 := n0_; have HO_14 := n1_; have HO755 := n2_; have HO762 := n4_; clear n0_ n1_ n2_ n4_; (try clear hb); (try clear ho0)) | ((with_reducible refine aA (f := 13) rfl ?_); refine aY (some 109) Tryz.func13 #[.slice A3 l3.length c3] ?_; (with_reducible refine (bZ.calls kj45 _ _ l3 t763 _ ?side1 ?side2 A100.out).mono ?_); (case side1 => exact CB HR3); (case side2 => exact HC3.out); rintro e w9047 ⟨v764, rfl, ho0, hb⟩; refine ⟨_, rfl, ?_⟩; have n0_ := ah.mk (Kd.gI (SR HO_10) (Kd.gH ho0) hb); have n1_ := ah.mk (Kd.gI (SR HO_14) (Kd.gH ho0) hb); have n2_ := ah.mk (Kd.aV (SR HO755) hb); have n5_ := ah.mk (Kd.bT ho0 (aJ BL)); replace HO758 := RB HO758 hb; replace HO762 := RB HO762 hb; replace BK677 := KB BK677 hb; replace HB := BS (w := w) hb; clear HO_10 HO_14 HO755; have HO_10 := n0_; have HO_14 := n1_; have HO755 := n2_; have HO765 := n5_; clear n0_ n1_ n2_ n5_; (try clear hb); (try clear ho0); obtain ⟨Ao9048, co9048, eo9048⟩ := Kd.iT HO755.out; subst eo9048; obtain ⟨Ao9049, co9049, eo9049⟩ := Kd.cK HO758.out; subst eo9049; obtain ⟨Ao9050, co9050, eo9050⟩ := Kd.cK HO762.out; subst eo9050; obtain ⟨Ao9051, co9051, eo9051⟩ := Kd.cK HO765.out; subst eo9051) | ((with_reducible refine aA (f := 14) rfl ?_); refine aY (some 110) Tryz.func14 #[.agg #[.int .i64 t750, .int .i64 t751, .string t752, .slice Ao9048 t753.length co9048, .slice Ao9049 t756.length co9049, .int .i64 t759], .string a1, .slice Ao9050 t760.length co9050, .slice Ao9051 t763.length co9051] ?_; (with_reducible refine (cB.calls kj45 t750 t751 t752 _ _ t753 _ _ t756 t759 a1 _ _ t760 _ _ t763 t766 _ ?side1 ?side2 ?side3 ?side4 ?side5 ?side6 ?side7 ?side8 A101.out).mono ?_); (case side1 => repeat (first | exact (Kd.bI HO755.out).2.2 | (with_reducible refine Kd.dh ?_ _) | (with_reducible refine Kd.dn ?_ _) | (with_reducible refine Kd.dY ?_))); (case side2 => exact (Kd.bI HO755.out).2.1); (case side3 => exact CR2 HO758); (case side4 => exact (Kd.aZ HO758.out).2.1); (case side5 => exact CR2 HO762); (case side6 => exact (Kd.aZ HO762.out).2.1); (case side7 => exact CR2 HO765); (case side8 => exact (Kd.aZ HO765.out).2.1); rintro e w9052 ⟨v767, rfl, ho0, hb⟩; refine ⟨_, rfl, ?_⟩; have n0_ := ah.mk (Kd.gI (SR HO_10) (Kd.mP ho0) hb); have n1_ := ah.mk (Kd.gI (SR HO_14) (Kd.mP ho0) hb); have n2_ := ah.mk (Kd.aV (SR HO755) hb); have n6_ := ah.mk (Kd.jE (Kd.jw (Kd.jw (Kd.jw ho0 (Kd.rZ (SR HO_10))) (Kd.rZ (SR HO_14))) (Kd.jK (RR HO765))) (aJ BL)); replace HO758 := RB HO758 hb; replace HO762 := RB HO762 hb; replace HO765 := RB HO765 hb; replace BK677 := KB BK677 hb; replace HB := BS (w := w) hb; clear HO_10 HO_14 HO755; have HO_10 := n0_; have HO_14 := n1_; have HO755 := n2_; have HO768 := n6_; clear n0_ n1_ n2_ n6_; (try clear hb); (try clear ho0); obtain ⟨Ao9053, co9053, eo9053⟩ := Kd.iT HO768.out; subst eo9053) | ((with_reducible refine aA (f := 15) rfl ?_); refine aY (some 113) Tryz.func15 #[.slice Ao9053 t766.length co9053, .slice Ao9027 t697.length co9027] ?_; (with_reducible refine (dw.calls kj45 _ _ t766 _ _ t697 _ _ ?side1 ?side2 ?side3 ?side4 A102.out).mono ?_); (case side1 => repeat (first | exact (Kd.bI HO768.out).2.2 | (with_reducible refine Kd.dh ?_ _) | (with_reducible refine Kd.dn ?_ _) | (with_reducible refine Kd.dY ?_))); (case side2 => exact (Kd.bI HO768.out).2.1); (case side3 => repeat (first | exact (Kd.bI HO_10.out).2.2 | (with_reducible refine Kd.dh ?_ _) | (with_reducible refine Kd.dn ?_ _) | (with_reducible refine Kd.dY ?_))); (case side4 => exact (Kd.bI HO_10.out).2.1); rintro e w' ⟨rfl, ⟨nd, rfl⟩⟩; refine ⟨_, rfl, ?_⟩; refine dF ?_))
              refine Hide.mk ?_
              replace H := H.out
              replace H := ifB H; rcases H with ⟨rfl, H⟩ | ⟨rfl, H⟩
              ·replace H := be H; obtain ⟨t770, A104, H⟩ := H
               replace H := ah.mk H
               go_wp2_with (first | ((with_reducible refine aA (f := 23) rfl ?_); refine qY (some 117) rfl rfl Tryz.func23 (by kernel_rfl) rfl #[.slice Ao9026 t748.length co9026, .int .i64 1] rfl (by (try simp only [List.map_toArray, List.map_cons, List.map_nil]); first | done | (rw [show t748.length = t717.length from (Kd.bI HO_14.out).1.symm] <;> rfl) | rfl | (simp only [List.length_drop, List.length_take]; rfl)) ?_; (with_reducible refine (dW.calls kj45 _ _ t748 1 t770 _ ?side1 ?side2 A104.out).mono ?_); (case side1 => repeat (first | exact (Kd.bI HO_14.out).2.2 | (with_reducible refine Kd.dh ?_ _) | (with_reducible refine Kd.dn ?_ _) | (with_reducible refine Kd.dY ?_))); (case side2 => rw [show t748.length = t717.length from (Kd.bI HO_14.out).1.symm]; exact (Kd.bI HO_14.out).2.1); rintro e w9054 ⟨rfl, hb⟩; refine ⟨_, rfl, ?_⟩; have n0_ := ah.mk (Kd.aV (SR HO_10) hb); have n1_ := ah.mk (Kd.aV (SR HO_14) hb); have n2_ := ah.mk (Kd.aV (SR HO755) hb); have n6_ := ah.mk (Kd.aV (SR HO768) hb); replace HO758 := RB HO758 hb; replace HO762 := RB HO762 hb; replace HO765 := RB HO765 hb; replace BK677 := KB BK677 hb; replace HB := BS (w := w) hb; clear HO_10 HO_14 HO755 HO768; have HO_10 := n0_; have HO_14 := n1_; have HO755 := n2_; have HO768 := n6_; clear n0_ n1_ n2_ n6_; (try clear hb); refine dF ?_))
               refine Hide.mk ?_
               replace H := H.out
               replace H := ifD H; rcases H with ⟨c105b0, H⟩ | ⟨c105b0, H⟩
               ·obtain rfl := Option.some.inj H
                try go_wp2
                go_ret
                exact ⟨EWW, BL⟩
               ·replace H := ifE H; rcases H with ⟨c119b0, c119b1, H⟩ | ⟨c119, c119b0, c119b1, H⟩
                ·obtain rfl := Option.some.inj H
                 try go_wp2
                 go_ret
                 exact ⟨EWW, BL⟩
                ·obtain rfl := Option.some.inj H
                 try go_wp2
                 go_ret
                 exact ⟨EWW, BL⟩
              ·obtain rfl := Option.some.inj H
               try go_wp2
               go_ret
               exact ⟨EWW, BL⟩
             ·obtain rfl := Option.some.inj H
              try go_wp2
              go_ret
              exact ⟨EWW, BL⟩
        ·obtain rfl := Option.some.inj H
         try go_wp2
         go_ret
         exact ⟨EWW, BL⟩
       ·obtain rfl := Option.some.inj H
        try go_wp2
        go_ret
        exact ⟨EWW, BL⟩
      ·obtain rfl := Option.some.inj H
       refine puS (i := 4) (N := some 64) #[T,T,T,T,T] (by kernel_rfl) ?_
       refine je (by kernel_rfl) ?_
       try go_wp2
       go_ret
       exact ⟨EWW, BL⟩
     ·obtain rfl := Option.some.inj H
      try go_wp2
      go_ret
      exact ⟨EWW, BL⟩
end Go.Proofs.YtikmdgmnhbodjaaGreat.PFnExactClueDomains
