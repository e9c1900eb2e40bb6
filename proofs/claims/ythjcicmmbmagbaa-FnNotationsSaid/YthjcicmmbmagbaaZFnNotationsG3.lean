/- Walks of functions: what each computes. -/
import Derived.Test.YthjcicmmbmagbaaZFnNotationsG0
import Derived.Test.YthjcicmmbmagbaaZFnNotationsW
import Derived.Test.YthjcicmmbmagbaaZFnNotationsShelf
import Derived.Test.YthjcicmmbmagbaaZFnNotationsHandSort
import Derived.Test.YthjcicmmbmagbaaZFnNotationsHandForm
import Derived.Test.YthjcicmmbmagbaaZFnNotationsHandAlone
import Derived.Test.YthjcicmmbmagbaaZFnNotationsHandRead
namespace Go.Proofs.Ythjcicmmbmagbaa.PFnNotations
open Go.RowKit Go.Proofs.YthjcicmmbmagbaaW.PrintWords Go.Proofs.YthjcicmmbmagbaaW.PrintLast Go.Proofs.YthjcicmmbmagbaaW.PrintMore Go.Proofs.Ythjcicmmbmagbaa.Sq
attribute [local go_sem] jY jI lY lI jB jq jJ jW
set_option maxHeartbeats 8000000
set_option maxRecDepth 100000
set_option linter.unusedVariables false
set_option linter.unusedSimpArgs false
mutual
def aN.l0 : Nat → List (bq) → List Bool → Int → Option (List Int)
 | 0, _, _, _ => none
 | k + 1, a, b, c => if c ≥ 0 then (if 0 ≤ c then (if c < (a.length : Int) then (if c < (b.length : Int) then (if gU false b c = true then (aN.j1 k a b c (((ah a c).f0) != 1) ((ah a c).f0) ((ah a c).f1) ((ah a c).f2) ((ah a c).f3)) else (aN.j1 k a b c false ((ah a c).f0) ((ah a c).f1) ((ah a c).f2) ((ah a c).f3))) else (none)) else (none)) else (none)) else (aN.l1 k ([] : List Int) b (b.length : Int) 0)
def aN.j1 : Nat → List (bq) → List Bool → Int → Bool → Int → ByteArray → Int → Int → Option (List Int)
 | 0, _, _, _, _, _, _, _, _ => none
 | k + 1, a, b, c, d, e, f, g, h => if d = true then (if 0 ≤ g then (if g < (b.length : Int) then ((some (b.set (g : Int).toNat true : List Bool)).bind fun i => ((bU.f e).bind fun j => (if j = true then (if 0 ≤ h then (if h < (b.length : Int) then (aN.l0 k a (i.set (h : Int).toNat true) (wrap64 (c - 1))) else (none)) else (none)) else (aN.l0 k a i (wrap64 (c - 1)))))) else (none)) else (none)) else (aN.l0 k a b (wrap64 (c - 1)))
def aN.l1 : Nat → List Int → List Bool → Int → Int → Option (List Int)
 | 0, _, _, _, _ => none
 | k + 1, a, b, c, d => if d < c then (if 0 ≤ d then (if d < (b.length : Int) then (if gU false b d = true then (if a.length < 17592186044416 then (aN.l1 k (a ++ [d]) b c (wrap64 (d + 1))) else (none)) else (aN.l1 k a b c (wrap64 (d + 1)))) else (none)) else (none)) else (some a)
end
def aN.f (k : Nat) (l0 : List (bq)) : Option (List Int) := (aX.f k l0).bind fun t288 => (if t288 = true then (if 0 ≤ (l0.length : Int) then (if ((l0.length : Int) : Int).toNat ≤ 281474976710656 then ((some (List.replicate ((l0.length : Int) : Int).toNat false : List Bool)).bind fun y289 => (if 0 ≤ (wrap64 ((l0.length : Int) - 1)) then (if (wrap64 ((l0.length : Int) - 1)) < (y289.length : Int) then (aN.l0 k l0 (y289.set ((wrap64 ((l0.length : Int) - 1)) : Int).toNat true) (wrap64 ((l0.length : Int) - 1))) else (none)) else (none))) else (none)) else (none)) else (some ([] : List Int)))
theorem aN.calls (k : Nat) (A0 : Option Addr) (c0 : Nat) (l0 : List (bq)) (r : List Int) (w : World) (hr0 : Kd.C eY w A0 l0.length l0) (hc0 : l0.length ≤ c0) (h : aN.f k l0 = some r) :
  Calls Try.prog 48 #[.slice A0 l0.length c0] w fun e w' => ∃ v0_ : Value, e = .returned (v0_) ∧ Kd.R (Kd.int .i64) 3 w' w.heap.size (fun _ => True) v0_ r ∧ Below w.heap.size w w' := by
 have hu110 := Try.underlying110
 have HR0 := aj.mk hr0
 have HC0 := aj.mk hc0
 clear hr0 hc0
 have HB := aj.mk (Below.refl w.heap.size w)
 unfold aN.f at h
 have H := h
 clear h
 replace H := be H; obtain ⟨t288, A2, H⟩ := H
 by_cases c3 : t288 = true
 ·subst c3
  rw [if_pos rfl] at H
  by_cases c4 : 0 ≤ (l0.length : Int)
  ·rw [if_pos c4] at H
   have c4b0 := eq_true c4
   have c4b1 : decide (0 ≤ (l0.length : Int)) = true := decide_eq_true c4
   clear c4
   by_cases c5 : ((l0.length : Int) : Int).toNat ≤ 281474976710656
   ·rw [if_pos c5] at H
    have c5b0 := eq_true c5
    have c5b1 : decide (((l0.length : Int) : Int).toNat ≤ 281474976710656) = true := decide_eq_true c5
    clear c5
    obtain ⟨y289, hy289⟩ : ∃ y_ : List Bool, y_ = (List.replicate ((l0.length : Int) : Int).toNat false) := ⟨_, rfl⟩
    replace H : (if 0 ≤ (wrap64 ((l0.length : Int) - 1)) then (if (wrap64 ((l0.length : Int) - 1)) < (y289.length : Int) then (aN.l0 k l0 (y289.set ((wrap64 ((l0.length : Int) - 1)) : Int).toNat true) (wrap64 ((l0.length : Int) - 1))) else (none)) else (none)) = some r := by first | (rw [hy289]; with_reducible exact H) | (have H2_ := (Option.bind_some _ _).symm.trans H; rw [hy289]; with_reducible exact H2_) | (have H2_ := (Option.bind_some _ _).symm.trans H; with_reducible exact H2_) | with_reducible exact H | (rw [hy289]; exact H) | exact H
    have Ny289 := aj.mk hy289
    clear hy289
    obtain ⟨ji6, hji6⟩ : ∃ j_ : Int, (wrap64 ((l0.length : Int) - 1)) = j_ := ⟨_, rfl⟩
    replace H : (if 0 ≤ (ji6) then (if (ji6) < (y289.length : Int) then (aN.l0 k l0 (y289.set ((ji6) : Int).toNat true) ji6) else (none)) else (none)) = some r := by first | (rw [hji6] at H; exact H) | (simp only [hji6] at H ⊢; exact H)
    (try rw [hji6] at A2)
    have hji6w : (IntKind.i64.wrap ((l0.length : Int) - 1)) = ji6 := (bY _).trans hji6
    by_cases c7 : 0 ≤ (ji6)
    ·rw [if_pos c7] at H
     have c7b0 : decide (0 ≤ (ji6)) = true := decide_eq_true c7
     clear c7
     by_cases c8 : (ji6) < (y289.length : Int)
     ·rw [if_pos c8] at H
      have c8b0 : decide ((ji6) < (y289.length : Int)) = true := decide_eq_true c8
      clear c8
      obtain ⟨y292, hy292⟩ : ∃ y_ : List Bool, y_ = (y289.set ((ji6) : Int).toNat true) := ⟨_, rfl⟩
      replace H : (aN.l0 k l0 y292 ji6) = some r := by first | (rw [hy292]; with_reducible exact H) | (have H2_ := (Option.bind_some _ _).symm.trans H; rw [hy292]; with_reducible exact H2_) | (have H2_ := (Option.bind_some _ _).symm.trans H; with_reducible exact H2_) | with_reducible exact H | (rw [hy292]; exact H) | exact H
      have Ny292 := aj.mk hy292
      clear hy292
      have H' := aj.mk H
      clear H
      go_enter Try.func48, Try.ntmps48
      go_wp2_with (first | ((with_reducible refine aJ (f := 50) rfl ?_); refine bI (some 10) Try.func50 #[.slice A0 l0.length c0] ?_; (with_reducible refine (aX.calls k _ _ l0 true _ ?side1 ?side2 A2.out).mono ?_); (case side1 => repeat (first | exact HR0.out | (with_reducible refine Kd.fU ?_ _) | (with_reducible refine Kd.fT ?_ _) | (with_reducible refine Kd.iB ?_))); (case side2 => exact HC0.out); rintro e w10 ⟨rfl, hb⟩; refine ⟨_, rfl, ?_⟩; replace HB := BS (w := w) hb; (try clear hb)) | ((with_reducible refine dz (N := 14) rfl ?_); refine Kd.wK Kd.bool _ 4 rfl (N := 14) rfl 131 _ _ rfl (l0.length : Int) rfl rfl Try.underlying131 (.bool false) 1 wR rfl (by decide) (by omega) false (ok := fun _ => True) (okp := fun _ => True) rfl (fun _ hk => hk) trivial (OD) (Nat.le_trans (Nat.mul_le_mul_right _ (OD : (l0.length : Int).toNat ≤ 281474976710656)) (by omega)) (Below.refl _ _) (Nat.le_refl _) ?_; intro v290 w11 ho12 hb hg_ hnew_; clear hg_ hnew_; (first | rw [← Ny289.out] at ho12 | (simp only [Int.reduceToNat] at ho12; rw [← Ny289.out] at ho12)); have n0_ := aj.mk (Kd.dF ho12 (bS BL)); replace HB := BS (w := w) hb; have HO291 := n0_; clear n0_; clear hb ho12; have p9 : 0 ≤ ((ji6) : Int) := OD; have q9 : ((ji6) : Int) < ((y289.length : Int) : Int) := OD; obtain ⟨go9, co9, eo9, gb9, gl9, cl9, HG9⟩ := Kd.nT HO291.out (by omega); (first | cases eo9 | (injection eo9 with ea_ en_ ec_; (first | subst ea_ | (injection ea_ with ea_; subst ea_)); subst ec_; clear en_)); have GB9 := aj.mk gb9; have GG9 := aj.mk HG9; clear gb9 gl9 HG9; obtain ⟨hx9_0, hf9_0⟩ := Kd.kF false HO291.out ((ji6) : Int) p9 q9; replace p9 := eq_true p9; replace q9 := eq_true q9; obtain ⟨hy13_, hz13_⟩ := Kd.kF false HO291.out ((ji6) : Int) (OD) (OD); have HP13 := Kd.qB HO291.out ((ji6) : Int) true) | ((with_reducible refine fZ (t := 4) (p := 19) rfl ?_); refine fJ (t := 4) (p := 19) (v := ?vo_w14) (w1 := (w11.setCell ⟨go9, ((ji6) : Int).toNat, none⟩ (.bool true))) ?hg ?ho ?hn ?hr ?_; (case ho => rfl); (case hg => rfl); (case hn => rfl); (case hr => first | (go_simp; done) | (go_simp; rfl)); intro w14 hw; have hg : w11.grownBy w14 (some go9) := (by rw [hw]; exact HP13.2); have hp_ : Kd.R Kd.bool 4 w14 w.heap.size (fun _ => True) (.slice (some ⟨go9, 0, none⟩) y289.length co9) y292 := (by rw [hw, Ny292.out]; exact HP13.1); clear HP13; have n0_ := aj.mk (hp_); have n1_ := aj.mk ((by rw [hw]; exact aD (HB.out) GB9.out : Below w.heap.size w w14)); clear HO291 HB; have HO291 := n0_; have HB := n1_; clear n0_ n1_; clear hg hw hp_))
      go_loopg [4] k (fun kq v4 w' => ∃ (x3_1 : List Bool) (x4_1 : Int), v4 = .int .i64 x4_1 ∧ aj (aN.l0 kq l0 x3_1 x4_1 = some r) ∧ aj (kq ≤ k) ∧ aj (Kd.R Kd.bool 4 w' w.heap.size (fun _ => True) (.slice (some ⟨go9, 0, none⟩) y289.length co9) x3_1) ∧ aj (Below w.heap.size w w'))
      case atStart => exact ⟨(y292), (ji6), (by first | rfl | (simp; done) | (simp only [← hji6] <;> (first | rfl | simp)) | (simp [*]; done)), H', ⟨Nat.le_refl _⟩, ⟨(RR HO291)⟩, ⟨BL⟩⟩
      case round =>
       clear H'
       try clear c3
       try clear c4
       try clear c4b0
       try clear c4b1
       try clear c5
       try clear c5b0
       try clear c5b1
       try clear c7
       try clear c7b0
       try clear c8
       try clear c8b0
       try clear p9
       try clear q9
       try clear hx9_0
       try clear p9
       try clear q9
       obtain ⟨x3_1, x4_1, rfl, HA, HK1, HO_3, HB⟩ := hrel
       have hl3_1 := (Kd.aZ HO_3.out).1
       rw [hl3_1] at HO_3
       (try simp only [hl3_1])
       cases gk with
       | zero => exact absurd HA.out (by simp [aN.l0])
       | succ k1 =>
        have H := HA.out
        clear HA
        simp only [aN.l0] at H
        by_cases c15 : x4_1 ≥ 0
        ·rw [if_pos c15] at H
         have c15b0 : decide (0 ≤ x4_1) = true := decide_eq_true c15
         clear c15
         by_cases c16 : 0 ≤ x4_1
         ·rw [if_pos c16] at H
          have c16b0 : decide (0 ≤ x4_1) = true := decide_eq_true c16
          clear c16
          by_cases c17 : x4_1 < (l0.length : Int)
          ·rw [if_pos c17] at H
           have c17b0 : decide (x4_1 < (l0.length : Int)) = true := decide_eq_true c17
           clear c17
           have HC18 := aj.mk H
           clear H
           have p293 : 0 ≤ (x4_1 : Int) := OD
           have q293 : x4_1 < (l0.length : Int) := OD
           obtain ⟨ad293, e293, hx293_0, hx293_1, hx293_2, hx293_3⟩ := fK HR0.out x4_1 p293 q293
           cases e293
           try replace hx293_0 := (HB.out.cell (World.block_lt_of_cell? w _ hx293_0)).trans hx293_0
           try replace hx293_1 := (HB.out.cell (World.block_lt_of_cell? w _ hx293_1)).trans hx293_1
           try replace hx293_2 := (HB.out.cell (World.block_lt_of_cell? w _ hx293_2)).trans hx293_2
           try replace hx293_3 := (HB.out.cell (World.block_lt_of_cell? w _ hx293_3)).trans hx293_3
           replace p293 := eq_true p293
           replace q293 := eq_true q293
           go_upto_region 9 with (first | ((with_reducible refine dz (N := 5) rfl ?_); refine gV (N := 5) (cs := #[.int .i64 0, .string (⟨#[]⟩ : ByteArray), .int .i64 0, .int .i64 0]) (t := 110) ?_; intro gb294 hg w19 hbox hb; have n0_ := RB HO_3 hb; have n1_ := BS (w := w) hb; have n2_ := aj.mk (hbox); have n3_ := SZ (w := w) hg; have n4_ := SZ (w := w) hg; clear HO_3 HB; have HO_3 := n0_; have HB := n1_; have BK294 := n2_; have GW294 := n3_; have GE294 := n4_; clear n0_ n1_ n2_ n3_ n4_; clear hb hbox hg; obtain ⟨hcz20_0, hcz20_1, hcz20_2, hcz20_3, hfz20_0, hfz20_1, hfz20_2, hfz20_3⟩ := cz4 BK294.out))
           (try simp only [Act.put, List.setIfInBounds_toArray, List.set_cons_zero, List.set_cons_succ])
           go_cut [39] (fun v39 wc => ∃ (kq : Nat) (x39_17 : Bool), v39 = .bool x39_17 ∧ aj (aN.j1 kq l0 x3_1 x4_1 x39_17 ((ah l0 x4_1).f0) ((ah l0 x4_1).f1) ((ah l0 x4_1).f2) ((ah l0 x4_1).f3) = some r) ∧ aj (kq ≤ k1) ∧ aj (Kd.R Kd.bool 4 wc w.heap.size (fun _ => True) (.slice (some ⟨go9, 0, none⟩) x3_1.length co9) x3_1) ∧ aj (wc.heap[gb294]? = some (.cells #[.int .i64 ((ah l0 x4_1).f0), .string ((ah l0 x4_1).f1), .int .i64 ((ah l0 x4_1).f2), .int .i64 ((ah l0 x4_1).f3)] 110 (0, 0))) ∧ aj (Below w.heap.size w wc))
           case first =>
            have H := HC18.out
            clear HC18
            by_cases c21 : x4_1 < (x3_1.length : Int)
            ·rw [if_pos c21] at H
             have c21b0 : decide (x4_1 < (x3_1.length : Int)) = true := decide_eq_true c21
             clear c21
             (first | rw [c21b0] | (simp only [bY, cu]; rw [c21b0]) | skip)
             obtain ⟨bq22, hbq22⟩ : ∃ b_ : Bool, b_ = (gU false x3_1 x4_1) := ⟨_, rfl⟩
             replace H : (if bq22 = true then (aN.j1 k1 l0 x3_1 x4_1 (((ah l0 x4_1).f0) != 1) ((ah l0 x4_1).f0) ((ah l0 x4_1).f1) ((ah l0 x4_1).f2) ((ah l0 x4_1).f3)) else (aN.j1 k1 l0 x3_1 x4_1 false ((ah l0 x4_1).f0) ((ah l0 x4_1).f1) ((ah l0 x4_1).f2) ((ah l0 x4_1).f3))) = some r := by rw [← hbq22] at H; exact H
             have Nbq22 := aj.mk hbq22
             clear hbq22
             by_cases c23 : bq22 = true
             ·subst c23
              rw [if_pos rfl] at H
              have H' := aj.mk H
              clear H
              have p295 : 0 ≤ (x4_1 : Int) := OD
              have q295 : x4_1 < (x3_1.length : Int) := OD
              obtain ⟨ad295, e295, hx295_0⟩ := Kd.nD (Kd.aZ HO_3.out).2.2 x4_1 p295 q295
              (try rw [← Nbq22.out] at hx295_0)
              obtain rfl : (⟨go9, 0, none⟩ : Addr) = ad295 := (by injection e295)
              (first | simp only [add_plain] at hx295_0 | simp only [pX] at hx295_0 | simp only [Addr.add, Nat.zero_add] at hx295_0 | skip)
              have hn295_0 : (⟨go9, 0, none⟩ : Addr).block ≠ gb294 := Kd.iQ (Kd.lq HO_3.out BK294.out (by decide))
              have hn295_1 : (⟨go9, 0, none⟩ : Addr).block ≠ gb294 := Kd.iQ (Kd.lq HO_3.out BK294.out (by decide))
              have hn295_2 : (⟨go9, 0, none⟩ : Addr).block ≠ gb294 := Kd.iQ (Kd.lq HO_3.out BK294.out (by decide))
              have hn295_3 : (⟨go9, 0, none⟩ : Addr).block ≠ gb294 := Kd.iQ (Kd.lq HO_3.out BK294.out (by decide))
              replace hx295_0 := (cell_far (p := ⟨gb294, 0, none⟩) AB (.int .i64 ((ah l0 x4_1).f0))).trans hx295_0
              replace hx295_0 := (cell_far (p := ⟨gb294, 1, none⟩) AB (.string ((ah l0 x4_1).f1))).trans hx295_0
              replace hx295_0 := (cell_far (p := ⟨gb294, 2, none⟩) AB (.int .i64 ((ah l0 x4_1).f2))).trans hx295_0
              replace hx295_0 := (cell_far (p := ⟨gb294, 3, none⟩) AB (.int .i64 ((ah l0 x4_1).f3))).trans hx295_0
              clear hn295_0
              clear hn295_1
              clear hn295_2
              clear hn295_3
              replace p295 := eq_true p295
              replace q295 := eq_true q295
              obtain ⟨hcz24_0, hcz24_1, hcz24_2, hcz24_3, hfz24_0, hfz24_1, hfz24_2, hfz24_3⟩ := cz4 BK294.out
              go_wp2
              go_meet
              case rel => exact ⟨_, ((((ah l0 x4_1).f0) != 1)), EQ, H', ⟨by have := HK1.out; first | omega | exact Nat.le_refl _⟩, ⟨by (try simp only [hl3_1]); (with_reducible repeat (first | apply Kd.dL | apply Kd.dM | apply Kd.dJ)); exact Kd.dD (Kd.gX (p := ⟨gb294, 3, none⟩) (Kd.gX (p := ⟨gb294, 2, none⟩) (Kd.gX (p := ⟨gb294, 1, none⟩) (Kd.gX (p := ⟨gb294, 0, none⟩) (Kd.kr HO_3.out BK294.out (by decide)) (fun _ hk => hk.2) (.int .i64 ((ah l0 x4_1).f0))) (fun _ hk => hk.2) (.string ((ah l0 x4_1).f1))) (fun _ hk => hk.2) (.int .i64 ((ah l0 x4_1).f2))) (fun _ hk => hk.2) (.int .i64 ((ah l0 x4_1).f3))) (fun _ hk => trivial)⟩, ⟨by (try simp only [hl3_1]); (with_reducible repeat (first | refine av ?_ _ | refine aC ?_ | refine au ?_ _)); refine aU (cs := #[.int .i64 ((ah l0 x4_1).f0), .string ((ah l0 x4_1).f1), .int .i64 ((ah l0 x4_1).f2), .int .i64 0]) ?_ 3 _ rfl; (with_reducible repeat (first | refine av ?_ _ | refine aC ?_ | refine au ?_ _)); refine aU (cs := #[.int .i64 ((ah l0 x4_1).f0), .string ((ah l0 x4_1).f1), .int .i64 0, .int .i64 0]) ?_ 2 _ rfl; (with_reducible repeat (first | refine av ?_ _ | refine aC ?_ | refine au ?_ _)); refine aU (cs := #[.int .i64 ((ah l0 x4_1).f0), .string (⟨#[]⟩ : ByteArray), .int .i64 0, .int .i64 0]) ?_ 1 _ rfl; (with_reducible repeat (first | refine av ?_ _ | refine aC ?_ | refine au ?_ _)); refine aU (cs := #[.int .i64 0, .string (⟨#[]⟩ : ByteArray), .int .i64 0, .int .i64 0]) ?_ 0 _ rfl; (with_reducible repeat (first | refine av ?_ _ | refine aC ?_ | refine au ?_ _)); exact BK294.out⟩, ⟨BL⟩⟩
             ·replace c23 := Bool.eq_false_iff.mpr c23
              subst c23
              rw [if_neg Bool.false_ne_true] at H
              have H' := aj.mk H
              clear H
              have p295 : 0 ≤ (x4_1 : Int) := OD
              have q295 : x4_1 < (x3_1.length : Int) := OD
              obtain ⟨ad295, e295, hx295_0⟩ := Kd.nD (Kd.aZ HO_3.out).2.2 x4_1 p295 q295
              (try rw [← Nbq22.out] at hx295_0)
              obtain rfl : (⟨go9, 0, none⟩ : Addr) = ad295 := (by injection e295)
              (first | simp only [add_plain] at hx295_0 | simp only [pX] at hx295_0 | simp only [Addr.add, Nat.zero_add] at hx295_0 | skip)
              have hn295_0 : (⟨go9, 0, none⟩ : Addr).block ≠ gb294 := Kd.iQ (Kd.lq HO_3.out BK294.out (by decide))
              have hn295_1 : (⟨go9, 0, none⟩ : Addr).block ≠ gb294 := Kd.iQ (Kd.lq HO_3.out BK294.out (by decide))
              have hn295_2 : (⟨go9, 0, none⟩ : Addr).block ≠ gb294 := Kd.iQ (Kd.lq HO_3.out BK294.out (by decide))
              have hn295_3 : (⟨go9, 0, none⟩ : Addr).block ≠ gb294 := Kd.iQ (Kd.lq HO_3.out BK294.out (by decide))
              replace hx295_0 := (cell_far (p := ⟨gb294, 0, none⟩) AB (.int .i64 ((ah l0 x4_1).f0))).trans hx295_0
              replace hx295_0 := (cell_far (p := ⟨gb294, 1, none⟩) AB (.string ((ah l0 x4_1).f1))).trans hx295_0
              replace hx295_0 := (cell_far (p := ⟨gb294, 2, none⟩) AB (.int .i64 ((ah l0 x4_1).f2))).trans hx295_0
              replace hx295_0 := (cell_far (p := ⟨gb294, 3, none⟩) AB (.int .i64 ((ah l0 x4_1).f3))).trans hx295_0
              clear hn295_0
              clear hn295_1
              clear hn295_2
              clear hn295_3
              replace p295 := eq_true p295
              replace q295 := eq_true q295
              go_wp2
              go_meet
              case rel => exact ⟨_, (false), EQ, H', ⟨by have := HK1.out; first | omega | exact Nat.le_refl _⟩, ⟨by (try simp only [hl3_1]); (with_reducible repeat (first | apply Kd.dL | apply Kd.dM | apply Kd.dJ)); exact Kd.dD (Kd.gX (p := ⟨gb294, 3, none⟩) (Kd.gX (p := ⟨gb294, 2, none⟩) (Kd.gX (p := ⟨gb294, 1, none⟩) (Kd.gX (p := ⟨gb294, 0, none⟩) (Kd.kr HO_3.out BK294.out (by decide)) (fun _ hk => hk.2) (.int .i64 ((ah l0 x4_1).f0))) (fun _ hk => hk.2) (.string ((ah l0 x4_1).f1))) (fun _ hk => hk.2) (.int .i64 ((ah l0 x4_1).f2))) (fun _ hk => hk.2) (.int .i64 ((ah l0 x4_1).f3))) (fun _ hk => trivial)⟩, ⟨by (try simp only [hl3_1]); (with_reducible repeat (first | refine av ?_ _ | refine aC ?_ | refine au ?_ _)); refine aU (cs := #[.int .i64 ((ah l0 x4_1).f0), .string ((ah l0 x4_1).f1), .int .i64 ((ah l0 x4_1).f2), .int .i64 0]) ?_ 3 _ rfl; (with_reducible repeat (first | refine av ?_ _ | refine aC ?_ | refine au ?_ _)); refine aU (cs := #[.int .i64 ((ah l0 x4_1).f0), .string ((ah l0 x4_1).f1), .int .i64 0, .int .i64 0]) ?_ 2 _ rfl; (with_reducible repeat (first | refine av ?_ _ | refine aC ?_ | refine au ?_ _)); refine aU (cs := #[.int .i64 ((ah l0 x4_1).f0), .string (⟨#[]⟩ : ByteArray), .int .i64 0, .int .i64 0]) ?_ 1 _ rfl; (with_reducible repeat (first | refine av ?_ _ | refine aC ?_ | refine au ?_ _)); refine aU (cs := #[.int .i64 0, .string (⟨#[]⟩ : ByteArray), .int .i64 0, .int .i64 0]) ?_ 0 _ rfl; (with_reducible repeat (first | refine av ?_ _ | refine aC ?_ | refine au ?_ _)); exact BK294.out⟩, ⟨BL⟩⟩
            ·rw [if_neg c21] at H
             exact absurd H (by simp)
           case rest =>
            clear HC18
            try clear c3
            try clear c4
            try clear c4b0
            try clear c4b1
            try clear c5
            try clear c5b0
            try clear c5b1
            try clear c7
            try clear c7b0
            try clear c8
            try clear c8b0
            try clear p9
            try clear q9
            try clear c15
            try clear c15b0
            try clear c16
            try clear c16b0
            try clear c17
            try clear c17b0
            try clear hcz20_0
            try clear hcz20_1
            try clear hcz20_2
            try clear hcz20_3
            try clear hfz20_0
            try clear hfz20_1
            try clear hfz20_2
            try clear hfz20_3
            try clear hx293_0
            try clear hx293_1
            try clear hx293_2
            try clear hx293_3
            try clear hx9_0
            try clear p293
            try clear p9
            try clear q293
            try clear q9
            obtain ⟨kq, x39_17, rfl, HA, HJ17, HO_3, BK294, HB⟩ := hcut
            cases kq with
            | zero => exact absurd HA.out (by simp [aN.j1])
            | succ kj17 =>
             have H := HA.out
             clear HA
             simp only [aN.j1] at H
             by_cases c25 : x39_17 = true
             ·subst c25
              rw [if_pos rfl] at H
              by_cases c26 : 0 ≤ ((ah l0 x4_1).f2)
              ·rw [if_pos c26] at H
               have c26b0 : decide (0 ≤ ((ah l0 x4_1).f2)) = true := decide_eq_true c26
               clear c26
               by_cases c27 : ((ah l0 x4_1).f2) < (x3_1.length : Int)
               ·rw [if_pos c27] at H
                have c27b0 : decide (((ah l0 x4_1).f2) < (x3_1.length : Int)) = true := decide_eq_true c27
                clear c27
                obtain ⟨y296, hy296⟩ : ∃ y_ : List Bool, y_ = (x3_1.set (((ah l0 x4_1).f2) : Int).toNat true) := ⟨_, rfl⟩
                replace H : ((bU.f ((ah l0 x4_1).f0)).bind fun t297 => (if t297 = true then (if 0 ≤ ((ah l0 x4_1).f3) then (if ((ah l0 x4_1).f3) < (x3_1.length : Int) then (aN.l0 kj17 l0 (y296.set (((ah l0 x4_1).f3) : Int).toNat true) (wrap64 (x4_1 - 1))) else (none)) else (none)) else (aN.l0 kj17 l0 y296 (wrap64 (x4_1 - 1))))) = some r := by first | (rw [hy296]; with_reducible exact H) | (have H2_ := (Option.bind_some _ _).symm.trans H; rw [hy296]; with_reducible exact H2_) | (have H2_ := (Option.bind_some _ _).symm.trans H; with_reducible exact H2_) | with_reducible exact H | (rw [hy296]; exact H) | exact H
                have Ny296 := aj.mk hy296
                clear hy296
                replace H := be H; obtain ⟨t297, A29, H⟩ := H
                by_cases c30 : t297 = true
                ·subst c30
                 rw [if_pos rfl] at H
                 by_cases c31 : 0 ≤ ((ah l0 x4_1).f3)
                 ·rw [if_pos c31] at H
                  have c31b0 : decide (0 ≤ ((ah l0 x4_1).f3)) = true := decide_eq_true c31
                  clear c31
                  by_cases c32 : ((ah l0 x4_1).f3) < (x3_1.length : Int)
                  ·rw [if_pos c32] at H
                   have c32b0 : decide (((ah l0 x4_1).f3) < (x3_1.length : Int)) = true := decide_eq_true c32
                   clear c32
                   obtain ⟨y298, hy298⟩ : ∃ y_ : List Bool, y_ = (y296.set (((ah l0 x4_1).f3) : Int).toNat true) := ⟨_, rfl⟩
                   replace H : (aN.l0 kj17 l0 y298 (wrap64 (x4_1 - 1))) = some r := by first | (rw [hy298]; with_reducible exact H) | (have H2_ := (Option.bind_some _ _).symm.trans H; rw [hy298]; with_reducible exact H2_) | (have H2_ := (Option.bind_some _ _).symm.trans H; with_reducible exact H2_) | with_reducible exact H | (rw [hy298]; exact H) | exact H
                   have Ny298 := aj.mk hy298
                   clear hy298
                   have H' := aj.mk H
                   clear H
                   obtain ⟨hcz34_0, hcz34_1, hcz34_2, hcz34_3, hfz34_0, hfz34_1, hfz34_2, hfz34_3⟩ := cz4 BK294.out
                   have p28 : 0 ≤ (((ah l0 x4_1).f2) : Int) := OD
                   have q28 : (((ah l0 x4_1).f2) : Int) < ((x3_1.length : Int) : Int) := OD
                   obtain ⟨hx28_0, hf28_0⟩ := Kd.kF false HO_3.out (((ah l0 x4_1).f2) : Int) p28 q28
                   replace p28 := eq_true p28
                   replace q28 := eq_true q28
                   have HP35 := Kd.qB HO_3.out (((ah l0 x4_1).f2) : Int) true
                   go_wp2_with (first | ((with_reducible refine fZ (t := 4) (p := 43) rfl ?_); refine fJ (t := 4) (p := 43) (v := ?vo_w36) (w1 := (wc.setCell ⟨go9, (((ah l0 x4_1).f2) : Int).toNat, none⟩ (.bool true))) ?hg ?ho ?hn ?hr ?_; (case ho => rfl); (case hg => rfl); (case hn => rfl); (case hr => first | (go_simp; done) | (go_simp; rfl)); intro w36 hw; have hg : wc.grownBy w36 (some go9) := (by rw [hw]; exact HP35.2); have hp_ : Kd.R Kd.bool 4 w36 w.heap.size (fun _ => True) (.slice (some ⟨go9, 0, none⟩) x3_1.length co9) y296 := (by rw [hw, Ny296.out]; exact HP35.1); clear HP35; have n0_ := aj.mk (hp_); have n1_ := aj.mk (iC (g := gb294) (o := .cells #[.int .i64 ((ah l0 x4_1).f0), .string ((ah l0 x4_1).f1), .int .i64 ((ah l0 x4_1).f2), .int .i64 ((ah l0 x4_1).f3)] 110 (0, 0)) BK hg (Kd.lq HO_3.out BK294.out (by decide))); have n2_ := aj.mk ((by rw [hw]; exact aD (HB.out) GB9.out : Below w.heap.size w w36)); clear HO_3 BK294 HB; have HO_3 := n0_; have BK294 := n1_; have HB := n2_; clear n0_ n1_ n2_; clear hg hw hp_; obtain ⟨hcz37_0, hcz37_1, hcz37_2, hcz37_3, hfz37_0, hfz37_1, hfz37_2, hfz37_3⟩ := cz4 BK294.out) | ((with_reducible refine aJ (f := 107) rfl ?_); refine bI (some 46) Try.func107 #[.int .i64 ((ah l0 x4_1).f0)] ?_; (with_reducible refine (bU.calls ((ah l0 x4_1).f0) true _ A29.out).mono ?_); rintro e w' ⟨rfl, ⟨nd, rfl⟩⟩; refine ⟨_, rfl, ?_⟩; (try (rw [oF w36]; generalize hq_ : World.drewN w36 _ = w36; have n0_ : aj (Kd.R Kd.bool 4 w36 w.heap.size (fun _ => True) (.slice (some ⟨go9, 0, none⟩) x3_1.length co9) y296) := ⟨by rw [← hq_]; exact (RR HO_3)⟩; have n1_ : aj (w36.heap[gb294]? = some (.cells #[.int .i64 ((ah l0 x4_1).f0), .string ((ah l0 x4_1).f1), .int .i64 ((ah l0 x4_1).f2), .int .i64 ((ah l0 x4_1).f3)] 110 (0, 0))) := ⟨by rw [← hq_]; exact BK⟩; have n2_ : aj (Below w.heap.size w w36) := ⟨by rw [← hq_]; exact BL⟩; clear HO_3 BK294 HB hq_; have HO_3 := n0_; have BK294 := n1_; have HB := n2_; clear n0_ n1_ n2_)); obtain ⟨hcz37_0, hcz37_1, hcz37_2, hcz37_3, hfz37_0, hfz37_1, hfz37_2, hfz37_3⟩ := cz4 BK294.out; have p33 : 0 ≤ (((ah l0 x4_1).f3) : Int) := OD; have q33 : (((ah l0 x4_1).f3) : Int) < ((x3_1.length : Int) : Int) := OD; obtain ⟨hx33_0, hf33_0⟩ := Kd.kF false HO_3.out (((ah l0 x4_1).f3) : Int) p33 q33; replace p33 := eq_true p33; replace q33 := eq_true q33; obtain ⟨hy38_, hz38_⟩ := Kd.kF false HO_3.out (((ah l0 x4_1).f3) : Int) (OD) (OD); have HP38 := Kd.qB HO_3.out (((ah l0 x4_1).f3) : Int) true) | ((with_reducible refine fZ (t := 4) (p := 50) rfl ?_); refine fJ (t := 4) (p := 50) (v := ?vo_w39) (w1 := (w36.setCell ⟨go9, (((ah l0 x4_1).f3) : Int).toNat, none⟩ (.bool true))) ?hg ?ho ?hn ?hr ?_; (case ho => rfl); (case hg => rfl); (case hn => rfl); (case hr => first | (go_simp; done) | (go_simp; rfl)); intro w39 hw; have hg : w36.grownBy w39 (some go9) := (by rw [hw]; exact HP38.2); have hp_ : Kd.R Kd.bool 4 w39 w.heap.size (fun _ => True) (.slice (some ⟨go9, 0, none⟩) x3_1.length co9) y298 := (by rw [hw, Ny298.out]; exact HP38.1); clear HP38; have n0_ := aj.mk (hp_); have n1_ := aj.mk (iC (g := gb294) (o := .cells #[.int .i64 ((ah l0 x4_1).f0), .string ((ah l0 x4_1).f1), .int .i64 ((ah l0 x4_1).f2), .int .i64 ((ah l0 x4_1).f3)] 110 (0, 0)) BK hg (Kd.lq HO_3.out BK294.out (by decide))); have n2_ := aj.mk ((by rw [hw]; exact aD (HB.out) GB9.out : Below w.heap.size w w39)); clear HO_3 BK294 HB; have HO_3 := n0_; have BK294 := n1_; have HB := n2_; clear n0_ n1_ n2_; clear hg hw hp_))
                   (try simp only [← hl3_1])
                   go_roundg kj17
                   case measure => have := HK1.out; have := HJ17.out; omega
                   case rel => exact ⟨(y298), (wrap64 (x4_1 - 1)), EQ, H', ⟨by have := HK1.out; have := HJ17.out; omega⟩, ⟨by (try simp only [hl3_1]); (with_reducible repeat (first | apply Kd.dL | apply Kd.dM | apply Kd.dJ)); exact HO_3.out⟩, ⟨BL⟩⟩
                  ·rw [if_neg c32] at H
                   exact absurd H (by simp)
                 ·rw [if_neg c31] at H
                  exact absurd H (by simp)
                ·replace c30 := Bool.eq_false_iff.mpr c30
                 subst c30
                 rw [if_neg Bool.false_ne_true] at H
                 have H' := aj.mk H
                 clear H
                 obtain ⟨hcz40_0, hcz40_1, hcz40_2, hcz40_3, hfz40_0, hfz40_1, hfz40_2, hfz40_3⟩ := cz4 BK294.out
                 have p28 : 0 ≤ (((ah l0 x4_1).f2) : Int) := OD
                 have q28 : (((ah l0 x4_1).f2) : Int) < ((x3_1.length : Int) : Int) := OD
                 obtain ⟨hx28_0, hf28_0⟩ := Kd.kF false HO_3.out (((ah l0 x4_1).f2) : Int) p28 q28
                 replace p28 := eq_true p28
                 replace q28 := eq_true q28
                 have HP41 := Kd.qB HO_3.out (((ah l0 x4_1).f2) : Int) true
                 go_wp2_with (first | ((with_reducible refine fZ (t := 4) (p := 43) rfl ?_); refine fJ (t := 4) (p := 43) (v := ?vo_w42) (w1 := (wc.setCell ⟨go9, (((ah l0 x4_1).f2) : Int).toNat, none⟩ (.bool true))) ?hg ?ho ?hn ?hr ?_; (case ho => rfl); (case hg => rfl); (case hn => rfl); (case hr => first | (go_simp; done) | (go_simp; rfl)); intro w42 hw; have hg : wc.grownBy w42 (some go9) := (by rw [hw]; exact HP41.2); have hp_ : Kd.R Kd.bool 4 w42 w.heap.size (fun _ => True) (.slice (some ⟨go9, 0, none⟩) x3_1.length co9) y296 := (by rw [hw, Ny296.out]; exact HP41.1); clear HP41; have n0_ := aj.mk (hp_); have n1_ := aj.mk (iC (g := gb294) (o := .cells #[.int .i64 ((ah l0 x4_1).f0), .string ((ah l0 x4_1).f1), .int .i64 ((ah l0 x4_1).f2), .int .i64 ((ah l0 x4_1).f3)] 110 (0, 0)) BK hg (Kd.lq HO_3.out BK294.out (by decide))); have n2_ := aj.mk ((by rw [hw]; exact aD (HB.out) GB9.out : Below w.heap.size w w42)); clear HO_3 BK294 HB; have HO_3 := n0_; have BK294 := n1_; have HB := n2_; clear n0_ n1_ n2_; clear hg hw hp_; obtain ⟨hcz43_0, hcz43_1, hcz43_2, hcz43_3, hfz43_0, hfz43_1, hfz43_2, hfz43_3⟩ := cz4 BK294.out) | ((with_reducible refine aJ (f := 107) rfl ?_); refine bI (some 46) Try.func107 #[.int .i64 ((ah l0 x4_1).f0)] ?_; (with_reducible refine (bU.calls ((ah l0 x4_1).f0) false _ A29.out).mono ?_); rintro e w' ⟨rfl, ⟨nd, rfl⟩⟩; refine ⟨_, rfl, ?_⟩))
                 (try simp only [← hl3_1])
                 go_roundg kj17
                 case measure => have := HK1.out; have := HJ17.out; omega
                 case rel => exact ⟨(y296), (wrap64 (x4_1 - 1)), EQ, H', ⟨by have := HK1.out; have := HJ17.out; omega⟩, ⟨by (try simp only [hl3_1]); (with_reducible repeat (first | apply Kd.dL | apply Kd.dM | apply Kd.dJ)); exact HO_3.out⟩, ⟨BL⟩⟩
               ·rw [if_neg c27] at H
                exact absurd H (by simp)
              ·rw [if_neg c26] at H
               exact absurd H (by simp)
             ·replace c25 := Bool.eq_false_iff.mpr c25
              subst c25
              rw [if_neg Bool.false_ne_true] at H
              have H' := aj.mk H
              clear H
              go_wp2
              (try simp only [← hl3_1])
              go_roundg kj17
              case measure => have := HK1.out; have := HJ17.out; omega
              case rel => exact ⟨(x3_1), (wrap64 (x4_1 - 1)), EQ, H', ⟨by have := HK1.out; have := HJ17.out; omega⟩, ⟨by (try simp only [hl3_1]); (with_reducible repeat (first | apply Kd.dL | apply Kd.dM | apply Kd.dJ)); exact HO_3.out⟩, ⟨BL⟩⟩
          ·rw [if_neg c17] at H
           exact absurd H (by simp)
         ·rw [if_neg c16] at H
          exact absurd H (by simp)
        ·rw [if_neg c15] at H
         have c15b0 : decide (0 ≤ x4_1) = false := decide_eq_false c15
         clear c15
         have H' := aj.mk H
         clear H
         go_wp2
         go_loopg [6, 53] k1 (fun kq v6 v53 w' => ∃ (x6_2 : List Int) (x53_2 : Int), v53 = .int .i64 x53_2 ∧ aj (aN.l1 kq x6_2 x3_1 (x3_1.length : Int) x53_2 = some r) ∧ aj (kq ≤ k1) ∧ aj (Kd.R (Kd.int .i64) 3 w' w.heap.size (fun _ => True) v6 x6_2) ∧ aj (Kd.R Kd.bool 4 w' w.heap.size (fun _ => True) (.slice (some ⟨go9, 0, none⟩) x3_1.length co9) x3_1) ∧ aj (Below w.heap.size w w'))
         case atStart => exact ⟨(([] : List Int)), (0), EQ, H', ⟨Nat.le_refl _⟩, ⟨by (try simp only [hl3_1]); first | exact Kd.ko _ _ _ _ _ | exact Kd.uL _ _ _ _ _ | exact Kd.uO _ _ _ _ _ | exact Kd.vw _ _ _ _ _ | exact Kd.uX _ _ _ _ _⟩, ⟨by (try simp only [hl3_1]); (with_reducible repeat (first | apply Kd.dL | apply Kd.dM | apply Kd.dJ)); exact HO_3.out⟩, ⟨BL⟩⟩
         case round =>
          clear H'
          try clear c3
          try clear c4
          try clear c4b0
          try clear c4b1
          try clear c5
          try clear c5b0
          try clear c5b1
          try clear c7
          try clear c7b0
          try clear c8
          try clear c8b0
          try clear p9
          try clear q9
          try clear c15
          try clear c15b0
          try clear hx9_0
          try clear p9
          try clear q9
          obtain ⟨x6_2, x53_2, rfl, HA, HK2, HO_6, HO_51, HB⟩ := hrel
          cases gk with
          | zero => exact absurd HA.out (by simp [aN.l1])
          | succ k2 =>
           have H := HA.out
           clear HA
           simp only [aN.l1] at H
           by_cases c44 : x53_2 < (x3_1.length : Int)
           ·rw [if_pos c44] at H
            have c44b0 : decide (x53_2 < (x3_1.length : Int)) = true := decide_eq_true c44
            clear c44
            by_cases c45 : 0 ≤ x53_2
            ·rw [if_pos c45] at H
             have c45b0 : decide (0 ≤ x53_2) = true := decide_eq_true c45
             clear c45
             by_cases c46 : x53_2 < (x3_1.length : Int)
             ·rw [if_pos c46] at H
              have c46b0 : decide (x53_2 < (x3_1.length : Int)) = true := decide_eq_true c46
              clear c46
              obtain ⟨bq47, hbq47⟩ : ∃ b_ : Bool, b_ = (gU false x3_1 x53_2) := ⟨_, rfl⟩
              replace H : (if bq47 = true then (if x6_2.length < 17592186044416 then (aN.l1 k2 (x6_2 ++ [x53_2]) x3_1 (x3_1.length : Int) (wrap64 (x53_2 + 1))) else (none)) else (aN.l1 k2 x6_2 x3_1 (x3_1.length : Int) (wrap64 (x53_2 + 1)))) = some r := by rw [← hbq47] at H; exact H
              have Nbq47 := aj.mk hbq47
              clear hbq47
              by_cases c48 : bq47 = true
              ·subst c48
               rw [if_pos rfl] at H
               by_cases c49 : x6_2.length < 17592186044416
               ·rw [if_pos c49] at H
                have LMc49 := aj.mk c49
                clear c49
                obtain ⟨y300, hy300⟩ : ∃ y_ : List Int, y_ = (x6_2 ++ [x53_2]) := ⟨_, rfl⟩
                replace H : (aN.l1 k2 y300 x3_1 (x3_1.length : Int) (wrap64 (x53_2 + 1))) = some r := by first | (rw [hy300]; with_reducible exact H) | (have H2_ := (Option.bind_some _ _).symm.trans H; rw [hy300]; with_reducible exact H2_) | (have H2_ := (Option.bind_some _ _).symm.trans H; with_reducible exact H2_) | with_reducible exact H | (rw [hy300]; exact H) | exact H
                have Ny300 := aj.mk hy300
                clear hy300
                have H' := aj.mk H
                clear H
                have p299 : 0 ≤ (x53_2 : Int) := OD
                have q299 : x53_2 < (x3_1.length : Int) := OD
                obtain ⟨ad299, e299, hx299_0⟩ := Kd.nD (Kd.aZ HO_51.out).2.2 x53_2 p299 q299
                (try rw [← Nbq47.out] at hx299_0)
                obtain rfl : (⟨go9, 0, none⟩ : Addr) = ad299 := (by injection e299)
                (first | simp only [add_plain] at hx299_0 | simp only [pX] at hx299_0 | simp only [Addr.add, Nat.zero_add] at hx299_0 | skip)
                replace p299 := eq_true p299
                replace q299 := eq_true q299
                go_wp2_with (first | ((with_reducible refine iR (b := .append) (xs := #[.tmp 59, .tmp 61]) rfl ?_); at_builtin; refine Kd.lF (Kd.int .i64) (w0 := w) w.heap.size rfl (.tmp 59) (.tmp 61) 45 3 (.int .i64 0) 8 rfl Try.underlying45 info3 rfl (by decide) (by omega) u6 x6_2 x53_2 [.int .i64 x53_2] (fun _ => True) (fun _ => False) rfl rfl ?aP (fun _ hk => hk.elim) ?aF ?aO ?aB ?aS ?aL ?_; (case aP => exact rfl); (case aB => exact BL); (case aF => exact (fun _ _ => trivial)); (case aO => exact (RR HO_6)); (case aS => exact (bS BL)); (case aL => have := LMc49.out; omega); intro v301 w50 ho hb hg hat; rw [← Ny300.out] at ho; have n0_ := aj.mk (Kd.tH (RR HO_51) (Kd.sK (RR HO_6)) (by decide) hg); have n1_ := aj.mk (hb); have n2_ := aj.mk (ho); clear HO_51 HB HO_6; have HO_51 := n0_; have HB := n1_; have HO302 := n2_; clear n0_ n1_ n2_; clear ho hb hg hat))
                go_roundg k2
                case measure => have := HK1.out; have := HK2.out; omega
                case rel => exact ⟨(y300), (wrap64 (x53_2 + 1)), EQ, H', ⟨by have := HK1.out; have := HK2.out; omega⟩, ⟨by (try simp only [hl3_1]); (with_reducible repeat (first | apply Kd.dL | apply Kd.dM | apply Kd.dJ)); exact HO302.out⟩, ⟨by (try simp only [hl3_1]); (with_reducible repeat (first | apply Kd.dL | apply Kd.dM | apply Kd.dJ)); exact HO_51.out⟩, ⟨BL⟩⟩
               ·rw [if_neg c49] at H
                exact absurd H (by simp)
              ·replace c48 := Bool.eq_false_iff.mpr c48
               subst c48
               rw [if_neg Bool.false_ne_true] at H
               have H' := aj.mk H
               clear H
               have p299 : 0 ≤ (x53_2 : Int) := OD
               have q299 : x53_2 < (x3_1.length : Int) := OD
               obtain ⟨ad299, e299, hx299_0⟩ := Kd.nD (Kd.aZ HO_51.out).2.2 x53_2 p299 q299
               (try rw [← Nbq47.out] at hx299_0)
               obtain rfl : (⟨go9, 0, none⟩ : Addr) = ad299 := (by injection e299)
               (first | simp only [add_plain] at hx299_0 | simp only [pX] at hx299_0 | simp only [Addr.add, Nat.zero_add] at hx299_0 | skip)
               replace p299 := eq_true p299
               replace q299 := eq_true q299
               go_wp2
               go_roundg k2
               case measure => have := HK1.out; have := HK2.out; omega
               case rel => exact ⟨(x6_2), (wrap64 (x53_2 + 1)), EQ, H', ⟨by have := HK1.out; have := HK2.out; omega⟩, ⟨by (try simp only [hl3_1]); (with_reducible repeat (first | apply Kd.dL | apply Kd.dM | apply Kd.dJ)); exact HO_6.out⟩, ⟨by (try simp only [hl3_1]); (with_reducible repeat (first | apply Kd.dL | apply Kd.dM | apply Kd.dJ)); exact HO_51.out⟩, ⟨BL⟩⟩
             ·rw [if_neg c46] at H
              exact absurd H (by simp)
            ·rw [if_neg c45] at H
             exact absurd H (by simp)
           ·rw [if_neg c44] at H
            have c44b0 : decide (x53_2 < (x3_1.length : Int)) = false := decide_eq_false c44
            clear c44
            obtain rfl := Option.some.inj H
            go_wp2
            go_ret
            exact ⟨_, by first | rfl | (simp [eH, eO] <;> rfl) | (simp only [← hji6]; first | rfl | (simp [eH, eO] <;> rfl)) | (simp [*, eH, eO] <;> rfl), (RR HO_6), BL⟩
     ·rw [if_neg c8] at H
      exact absurd H (by simp)
    ·rw [if_neg c7] at H
     exact absurd H (by simp)
   ·rw [if_neg c5] at H
    exact absurd H (by simp)
  ·rw [if_neg c4] at H
   exact absurd H (by simp)
 ·replace c3 := Bool.eq_false_iff.mpr c3
  subst c3
  rw [if_neg Bool.false_ne_true] at H
  obtain rfl := Option.some.inj H
  go_enter Try.func48, Try.ntmps48
  go_wp2_with (first | ((with_reducible refine aJ (f := 50) rfl ?_); refine bI (some 10) Try.func50 #[.slice A0 l0.length c0] ?_; (with_reducible refine (aX.calls k _ _ l0 false _ ?side1 ?side2 A2.out).mono ?_); (case side1 => repeat (first | exact HR0.out | (with_reducible refine Kd.fU ?_ _) | (with_reducible refine Kd.fT ?_ _) | (with_reducible refine Kd.iB ?_))); (case side2 => exact HC0.out); rintro e w51 ⟨rfl, hb⟩; refine ⟨_, rfl, ?_⟩; replace HB := BS (w := w) hb; (try clear hb)))
  go_ret
  exact ⟨_, EWW, by first | exact Kd.ko _ _ _ _ _ | exact Kd.uL _ _ _ _ _ | exact Kd.uO _ _ _ _ _ | exact Kd.vw _ _ _ _ _ | exact Kd.uX _ _ _ _ _, BL⟩
def bC.f (a0 a1 a2 : Int) : Option (Bool) := if a0 ≥ a1 then (some (decide (a0 ≤ a2))) else (some false)
theorem bC.calls (a0 a1 a2 : Int) (r : Bool) (w : World) (h : bC.f a0 a1 a2 = some r) :
  Calls Try.prog 86 #[.int .i64 a0, .int .i64 a1, .int .i64 a2] w fun e w' => e = .returned (.bool r) ∧ dB w w' := by
 unfold bC.f at h
 have H := h
 clear h
 replace H := aj.mk H
 go_enter Try.func86, Try.ntmps86
 replace H := H.out
 by_cases c4 : a0 ≥ a1
 ·rw [if_pos c4] at H
  have c4b0 : decide (a1 ≤ a0) = true := decide_eq_true c4
  clear c4
  obtain rfl := Option.some.inj H
  try go_wp2
  go_ret
  exact ⟨EQ, DR⟩
 ·rw [if_neg c4] at H
  have c4b0 : decide (a1 ≤ a0) = false := decide_eq_false c4
  clear c4
  obtain rfl := Option.some.inj H
  try go_wp2
  go_ret
  exact ⟨EQ, DR⟩
def bR.l0 : Nat → ByteArray → Int → Option (Bool)
 | 0, _, _ => none
 | k + 1, a, b => if b < (a.size : Int) then (if 0 ≤ b then (if (bt a b) < 97 then (some false) else (if (bt a b) > 122 then (some false) else (bR.l0 k a (wrap64 (b + 1))))) else (none)) else (some true)
def bR.f (k : Nat) (a0 : ByteArray) : Option (Bool) := (bC.f (a0.size : Int) 1 8).bind fun t303 => (if t303 = true then (bR.l0 k a0 0) else (some false))
theorem bR.calls (k : Nat) (a0 : ByteArray) (r : Bool) (w : World) (h : bR.f k a0 = some r) :
  Calls Try.prog 112 #[.string a0] w fun e w' => e = .returned (.bool r) ∧ dB w w' := by
 unfold bR.f at h
 have H := h
 clear h
 replace H := be H; obtain ⟨t303, A2, H⟩ := H
 replace H := aj.mk H
 go_enter Try.func112, Try.ntmps112
 go_wp2_with (first | ((with_reducible refine aJ (f := 86) rfl ?_); refine bI (some 6) Try.func86 #[.int .i64 (a0.size : Int), .int .i64 1, .int .i64 8] ?_; (with_reducible refine (bC.calls (a0.size : Int) 1 8 _ _ A2.out).mono ?_); rintro e w' ⟨rfl, ⟨nd, rfl⟩⟩; refine ⟨_, rfl, ?_⟩; refine eU ?_))
 refine Hide.mk ?_
 replace H := H.out
 replace H := ifB H; rcases H with ⟨rfl, H⟩ | ⟨rfl, H⟩
 ·have H' := aj.mk H
  clear H
  try go_wp2
  go_loopg [3] k (fun kq v3 w' => ∃ (x3_1 : Int), v3 = .int .i64 x3_1 ∧ aj (bR.l0 kq a0 x3_1 = some r) ∧ aj (kq ≤ k) ∧ dB w w')
  case atStart => exact ⟨(0), EQ, H', ⟨Nat.le_refl _⟩, DR⟩
  case round =>
   clear H'
   try clear c3
   obtain ⟨x3_1, rfl, HA, HK1, ⟨m1, rfl⟩⟩ := hrel
   cases gk with
   | zero => exact absurd HA.out (by simp [bR.l0])
   | succ k1 =>
    have H := HA.out
    clear HA
    simp only [bR.l0] at H
    replace H := ifD H; rcases H with ⟨c4b0, H⟩ | ⟨c4b0, H⟩
    ·replace H := ifN H; obtain ⟨c5b0, H⟩ := H
     have p6 : (0 ≤ (x3_1 : Int)) = True := OT
     have q6 : (x3_1 < (a0.size : Int)) = True := OT
     have hx6 := uZ a0 x3_1
     replace H := ifD H; rcases H with ⟨c7b0, H⟩ | ⟨c7b0, H⟩
     ·obtain rfl := Option.some.inj H
      go_wp2
      go_ret
      exact ⟨EQ, DR⟩
     ·have p8 : (0 ≤ (x3_1 : Int)) = True := OT
      have q8 : (x3_1 < (a0.size : Int)) = True := OT
      have hx8 := uZ a0 x3_1
      by_cases c9 : (bt a0 x3_1) > 122
      ·rw [if_pos c9] at H
       have c9b0 : decide (122 < (bt a0 x3_1)) = true := decide_eq_true c9
       clear c9
       obtain rfl := Option.some.inj H
       go_wp2
       go_ret
       exact ⟨EQ, DR⟩
      ·rw [if_neg c9] at H
       have c9b0 : decide (122 < (bt a0 x3_1)) = false := decide_eq_false c9
       clear c9
       have H' := aj.mk H
       clear H
       go_wp2
       go_roundg k1
       case measure => have := HK1.out; omega
       case rel => exact ⟨(wrap64 (x3_1 + 1)), EQ, H', ⟨by have := HK1.out; omega⟩, DR⟩
    ·obtain rfl := Option.some.inj H
     go_wp2
     go_ret
     exact ⟨EQ, DR⟩
 ·obtain rfl := Option.some.inj H
  try go_wp2
  go_ret
  exact ⟨EQ, DR⟩
mutual
def bX.j0 : Nat → List (bq) → Int → Bool → Int → ByteArray → Int → Int → Option (Bool)
 | 0, _, _, _, _, _, _, _ => none
 | k + 1, a, b, c, d, e, f, g => if c = true then (some false) else (if d = 4 then (bX.j1 k a b true d e f g) else (bX.j1 k a b (d == 5) d e f g))
def bX.j1 : Nat → List (bq) → Int → Bool → Int → ByteArray → Int → Int → Option (Bool)
 | 0, _, _, _, _, _, _, _ => none
 | k + 1, a, b, c, d, e, f, g => if d = 1 then (if f = 0 then (some (g == 0)) else (some false)) else ((bC.f f 0 (wrap64 (b - 1))).bind fun h => (if h = true then (if c = true then ((bC.f g 0 (wrap64 (b - 1))).bind fun i => (if i = true then (some true) else (some false))) else (if g = 0 then (if d = 2 then (some true) else (if 0 ≤ f then (if f < (a.length : Int) then (some (((ah a f).f0) == 1)) else (none)) else (none))) else (some false))) else (some false)))
end
def bX.f (k : Nat) (l0 : List (bq)) (a1 : Int) : Option (Bool) := if 0 ≤ a1 then (if a1 < (l0.length : Int) then ((bC.f ((ah l0 a1).f0) 1 9).bind fun t306 => (if t306 = true then ((bR.f k ((ah l0 a1).f1)).bind fun t307 => (if ((((ah l0 a1).f0) == 1) != t307) = true then (bX.j0 k l0 a1 true ((ah l0 a1).f0) ((ah l0 a1).f1) ((ah l0 a1).f2) ((ah l0 a1).f3)) else (if ((ah l0 a1).f0) = 1 then (bX.j0 k l0 a1 false ((ah l0 a1).f0) ((ah l0 a1).f1) ((ah l0 a1).f2) ((ah l0 a1).f3)) else (bX.j0 k l0 a1 (((ah l0 a1).f1).toList != ([] : List UInt8)) ((ah l0 a1).f0) ((ah l0 a1).f1) ((ah l0 a1).f2) ((ah l0 a1).f3))))) else (bX.j0 k l0 a1 true ((ah l0 a1).f0) ((ah l0 a1).f1) ((ah l0 a1).f2) ((ah l0 a1).f3)))) else (none)) else (none)
theorem bX.calls (k : Nat) (A0 : Option Addr) (c0 : Nat) (l0 : List (bq)) (a1 : Int) (r : Bool) (w : World) (hr0 : Kd.C eY w A0 l0.length l0) (hc0 : l0.length ≤ c0) (h : bX.f k l0 a1 = some r) :
  Calls Try.prog 125 #[.slice A0 l0.length c0, .int .i64 a1] w fun e w' => e = .returned (.bool r) ∧ Below w.heap.size w w' := by
 have hu110 := Try.underlying110
 have HR0 := aj.mk hr0
 have HC0 := aj.mk hc0
 clear hr0 hc0
 have HB := aj.mk (Below.refl w.heap.size w)
 unfold bX.f at h
 have H := h
 clear h
 replace H := ifN H; obtain ⟨c3b0, H⟩ := H
 replace H := ifN H; obtain ⟨c4b0, H⟩ := H
 have HC5 := aj.mk H
 clear H
 have p304 : 0 ≤ (a1 : Int) := OD
 have q304 : a1 < (l0.length : Int) := OD
 obtain ⟨ad304, e304, hx304_0, hx304_1, hx304_2, hx304_3⟩ := fK HR0.out a1 p304 q304
 cases e304
 replace p304 := eq_true p304
 replace q304 := eq_true q304
 go_enter Try.func125, Try.ntmps125
 go_upto_region 2 with (first | ((with_reducible refine dz (N := 5) rfl ?_); refine gV (N := 5) (cs := #[.int .i64 0, .string (⟨#[]⟩ : ByteArray), .int .i64 0, .int .i64 0]) (t := 110) ?_; intro gb305 hg w9000 hbox hb; have BK305 := aj.mk hbox; have GW305 := SZ (w := w) hg; have GE305 := GW305; replace HB := BS (w := w) hb; clear hb hbox hg; obtain ⟨hcz9001_0, hcz9001_1, hcz9001_2, hcz9001_3, hfz9001_0, hfz9001_1, hfz9001_2, hfz9001_3⟩ := cz4 BK305.out))
 repeat (go_quiet (first | ((with_reducible refine dz (N := 5) rfl ?_); refine gV (N := 5) (cs := #[.int .i64 0, .string (⟨#[]⟩ : ByteArray), .int .i64 0, .int .i64 0]) (t := 110) ?_; intro gb305 hg w9000 hbox hb; have BK305 := aj.mk hbox; have GW305 := SZ (w := w) hg; have GE305 := GW305; replace HB := BS (w := w) hb; clear hb hbox hg; obtain ⟨hcz9001_0, hcz9001_1, hcz9001_2, hcz9001_3, hfz9001_0, hfz9001_1, hfz9001_2, hfz9001_3⟩ := cz4 BK305.out)); go_upto_region 2 with (first | ((with_reducible refine dz (N := 5) rfl ?_); refine gV (N := 5) (cs := #[.int .i64 0, .string (⟨#[]⟩ : ByteArray), .int .i64 0, .int .i64 0]) (t := 110) ?_; intro gb305 hg w9000 hbox hb; have BK305 := aj.mk hbox; have GW305 := SZ (w := w) hg; have GE305 := GW305; replace HB := BS (w := w) hb; clear hb hbox hg; obtain ⟨hcz9001_0, hcz9001_1, hcz9001_2, hcz9001_3, hfz9001_0, hfz9001_1, hfz9001_2, hfz9001_3⟩ := cz4 BK305.out)))
 (try simp only [Act.put, List.setIfInBounds_toArray, List.set_cons_zero, List.set_cons_succ])
 go_cut [33] (fun v33 wc => ∃ (kq : Nat) (x33_4 : Bool), v33 = .bool x33_4 ∧ aj (bX.j0 kq l0 a1 x33_4 ((ah l0 a1).f0) ((ah l0 a1).f1) ((ah l0 a1).f2) ((ah l0 a1).f3) = some r) ∧ aj (kq ≤ k) ∧ aj (wc.heap[gb305]? = some (.cells #[.int .i64 ((ah l0 a1).f0), .string ((ah l0 a1).f1), .int .i64 ((ah l0 a1).f2), .int .i64 ((ah l0 a1).f3)] 110 (0, 0))) ∧ aj (Below w.heap.size w wc))
 case first =>
  have H := HC5.out
  clear HC5
  replace H := be H; obtain ⟨t306, A8, H⟩ := H
  obtain ⟨hcz9002_0, hcz9002_1, hcz9002_2, hcz9002_3, hfz9002_0, hfz9002_1, hfz9002_2, hfz9002_3⟩ := cz4 BK305.out
  replace H := ifB H; rcases H with ⟨rfl, H⟩ | ⟨rfl, H⟩
  ·replace H := be H; obtain ⟨t307, A10, H⟩ := H
   by_cases c11 : ((((ah l0 a1).f0) == 1) != t307) = true
   ·rw [if_pos c11] at H
    have c11b0 : ((((ah l0 a1).f0) == 1) != t307) = true := c11
    (try (have c11b1 : decide ((((ah l0 a1).f0) == 1) = t307) = false := by simpa using c11))
    (try (have c11b2 : ((((ah l0 a1).f0) == 1) == t307) = false := by simpa using c11))
    (try (have c11b3 : ¬ ((((ah l0 a1).f0) == 1) = t307) := by simpa using c11))
    clear c11
    (first | rw [c11b0] | (simp only [bY, cu]; rw [c11b0]) | skip)
    have H' := aj.mk H
    clear H
    repeat (go_wp2_with (first | (go_at_call 86; (with_reducible refine (bC.calls ((ah l0 a1).f0) 1 9 _ _ A8.out).mono ?_); rintro e w' ⟨rfl, ⟨nd, rfl⟩⟩; (try first | exact da | exact DD)) | (go_at_call 112; (with_reducible refine (bR.calls k ((ah l0 a1).f1) t307 _ A10.out).mono ?_); rintro e w' ⟨rfl, ⟨nd, rfl⟩⟩; (try first | exact da | exact DD))); go_quiet (first | (go_at_call 86; (with_reducible refine (bC.calls ((ah l0 a1).f0) 1 9 _ _ A8.out).mono ?_); rintro e w' ⟨rfl, ⟨nd, rfl⟩⟩; (try first | exact da | exact DD)) | (go_at_call 112; (with_reducible refine (bR.calls k ((ah l0 a1).f1) t307 _ A10.out).mono ?_); rintro e w' ⟨rfl, ⟨nd, rfl⟩⟩; (try first | exact da | exact DD))))
    go_wp2_with (first | (go_at_call 86; (with_reducible refine (bC.calls ((ah l0 a1).f0) 1 9 _ _ A8.out).mono ?_); rintro e w' ⟨rfl, ⟨nd, rfl⟩⟩; (try first | exact da | exact DD)) | (go_at_call 112; (with_reducible refine (bR.calls k ((ah l0 a1).f1) t307 _ A10.out).mono ?_); rintro e w' ⟨rfl, ⟨nd, rfl⟩⟩; (try first | exact da | exact DD)))
    go_meet
    case rel => exact ⟨_, (true), (by first | rfl | (simp; done) | (simp [*]; rw [Bool.eq_iff_iff]; simp [bne, List.isEmpty_iff]; done) | (simp [*]; done)), H', ⟨by first | omega | exact Nat.le_refl _⟩, ⟨by (with_reducible repeat (first | refine av ?_ _ | refine aC ?_ | refine au ?_ _)); refine aU (cs := #[.int .i64 ((ah l0 a1).f0), .string ((ah l0 a1).f1), .int .i64 ((ah l0 a1).f2), .int .i64 0]) ?_ 3 _ rfl; (with_reducible repeat (first | refine av ?_ _ | refine aC ?_ | refine au ?_ _)); refine aU (cs := #[.int .i64 ((ah l0 a1).f0), .string ((ah l0 a1).f1), .int .i64 0, .int .i64 0]) ?_ 2 _ rfl; (with_reducible repeat (first | refine av ?_ _ | refine aC ?_ | refine au ?_ _)); refine aU (cs := #[.int .i64 ((ah l0 a1).f0), .string (⟨#[]⟩ : ByteArray), .int .i64 0, .int .i64 0]) ?_ 1 _ rfl; (with_reducible repeat (first | refine av ?_ _ | refine aC ?_ | refine au ?_ _)); refine aU (cs := #[.int .i64 0, .string (⟨#[]⟩ : ByteArray), .int .i64 0, .int .i64 0]) ?_ 0 _ rfl; (with_reducible repeat (first | refine av ?_ _ | refine aC ?_ | refine au ?_ _)); exact BK305.out⟩, ⟨BL⟩⟩
   ·rw [if_neg c11] at H
    have c11b0 : ((((ah l0 a1).f0) == 1) != t307) = false := by simpa using c11
    (try (have c11b1 : decide ((((ah l0 a1).f0) == 1) = t307) = true := by simpa using c11))
    (try (have c11b2 : ((((ah l0 a1).f0) == 1) == t307) = true := by simpa using c11))
    clear c11
    (first | rw [c11b0] | (simp only [bY, cu]; rw [c11b0]) | skip)
    by_cases c13 : ((ah l0 a1).f0) = 1
    ·rw [if_pos c13] at H
     have c13b0 : (((ah l0 a1).f0) == 1) = true := beq_iff_eq.mpr c13
     have c13b1 : (((ah l0 a1).f0) != 1) = false := bne_eq_false_iff_eq.mpr c13
     have cw_ : t307 = true := by simpa [c13b0] using c11b0   -- mended
     clear c13
     have H' := aj.mk H
     clear H
     repeat (go_wp2_with (first | (go_at_call 86; (with_reducible refine (bC.calls ((ah l0 a1).f0) 1 9 _ _ A8.out).mono ?_); rintro e w' ⟨rfl, ⟨nd, rfl⟩⟩; (try first | exact da | exact DD)) | (go_at_call 112; (with_reducible refine (bR.calls k ((ah l0 a1).f1) t307 _ A10.out).mono ?_); rintro e w' ⟨rfl, ⟨nd, rfl⟩⟩; (try first | exact da | exact DD))); go_quiet (first | (go_at_call 86; (with_reducible refine (bC.calls ((ah l0 a1).f0) 1 9 _ _ A8.out).mono ?_); rintro e w' ⟨rfl, ⟨nd, rfl⟩⟩; (try first | exact da | exact DD)) | (go_at_call 112; (with_reducible refine (bR.calls k ((ah l0 a1).f1) t307 _ A10.out).mono ?_); rintro e w' ⟨rfl, ⟨nd, rfl⟩⟩; (try first | exact da | exact DD))))
     go_wp2_with (first | (go_at_call 86; (with_reducible refine (bC.calls ((ah l0 a1).f0) 1 9 _ _ A8.out).mono ?_); rintro e w' ⟨rfl, ⟨nd, rfl⟩⟩; (try first | exact da | exact DD)) | (go_at_call 112; (with_reducible refine (bR.calls k ((ah l0 a1).f1) t307 _ A10.out).mono ?_); rintro e w' ⟨rfl, ⟨nd, rfl⟩⟩; (try first | exact da | exact DD)))
     go_meet
     case rel => exact ⟨_, (false), (by first | rfl | (simp; done) | (simp [*]; rw [Bool.eq_iff_iff]; simp [bne, List.isEmpty_iff]; done) | (simp [*]; done)), H', ⟨by first | omega | exact Nat.le_refl _⟩, ⟨by (with_reducible repeat (first | refine av ?_ _ | refine aC ?_ | refine au ?_ _)); refine aU (cs := #[.int .i64 ((ah l0 a1).f0), .string ((ah l0 a1).f1), .int .i64 ((ah l0 a1).f2), .int .i64 0]) ?_ 3 _ rfl; (with_reducible repeat (first | refine av ?_ _ | refine aC ?_ | refine au ?_ _)); refine aU (cs := #[.int .i64 ((ah l0 a1).f0), .string ((ah l0 a1).f1), .int .i64 0, .int .i64 0]) ?_ 2 _ rfl; (with_reducible repeat (first | refine av ?_ _ | refine aC ?_ | refine au ?_ _)); refine aU (cs := #[.int .i64 ((ah l0 a1).f0), .string (⟨#[]⟩ : ByteArray), .int .i64 0, .int .i64 0]) ?_ 1 _ rfl; (with_reducible repeat (first | refine av ?_ _ | refine aC ?_ | refine au ?_ _)); refine aU (cs := #[.int .i64 0, .string (⟨#[]⟩ : ByteArray), .int .i64 0, .int .i64 0]) ?_ 0 _ rfl; (with_reducible repeat (first | refine av ?_ _ | refine aC ?_ | refine au ?_ _)); exact BK305.out⟩, ⟨BL⟩⟩
    ·rw [if_neg c13] at H
     have c13b0 : (((ah l0 a1).f0) == 1) = false := beq_eq_false_iff_ne.mpr c13
     have c13b1 : (((ah l0 a1).f0) != 1) = true := bne_iff_ne.mpr c13
     have cw_ : t307 = false := by simpa [c13b0] using c11b0   -- mended
     have H' := aj.mk H
     clear H
     repeat (go_wp2_with (first | (go_at_call 86; (with_reducible refine (bC.calls ((ah l0 a1).f0) 1 9 _ _ A8.out).mono ?_); rintro e w' ⟨rfl, ⟨nd, rfl⟩⟩; (try first | exact da | exact DD)) | (go_at_call 112; (with_reducible refine (bR.calls k ((ah l0 a1).f1) t307 _ A10.out).mono ?_); rintro e w' ⟨rfl, ⟨nd, rfl⟩⟩; (try first | exact da | exact DD))); go_quiet (first | (go_at_call 86; (with_reducible refine (bC.calls ((ah l0 a1).f0) 1 9 _ _ A8.out).mono ?_); rintro e w' ⟨rfl, ⟨nd, rfl⟩⟩; (try first | exact da | exact DD)) | (go_at_call 112; (with_reducible refine (bR.calls k ((ah l0 a1).f1) t307 _ A10.out).mono ?_); rintro e w' ⟨rfl, ⟨nd, rfl⟩⟩; (try first | exact da | exact DD))))
     go_wp2_with (first | (go_at_call 86; (with_reducible refine (bC.calls ((ah l0 a1).f0) 1 9 _ _ A8.out).mono ?_); rintro e w' ⟨rfl, ⟨nd, rfl⟩⟩; (try first | exact da | exact DD)) | (go_at_call 112; (with_reducible refine (bR.calls k ((ah l0 a1).f1) t307 _ A10.out).mono ?_); rintro e w' ⟨rfl, ⟨nd, rfl⟩⟩; (try first | exact da | exact DD)))
     go_meet
     case rel => exact ⟨_, ((((ah l0 a1).f1).toList != ([] : List UInt8))), (by first | rfl | (simp; done) | (simp [*]; rw [Bool.eq_iff_iff]; simp [bne, List.isEmpty_iff]; done) | (simp [*]; done)), H', ⟨by first | omega | exact Nat.le_refl _⟩, ⟨by (with_reducible repeat (first | refine av ?_ _ | refine aC ?_ | refine au ?_ _)); refine aU (cs := #[.int .i64 ((ah l0 a1).f0), .string ((ah l0 a1).f1), .int .i64 ((ah l0 a1).f2), .int .i64 0]) ?_ 3 _ rfl; (with_reducible repeat (first | refine av ?_ _ | refine aC ?_ | refine au ?_ _)); refine aU (cs := #[.int .i64 ((ah l0 a1).f0), .string ((ah l0 a1).f1), .int .i64 0, .int .i64 0]) ?_ 2 _ rfl; (with_reducible repeat (first | refine av ?_ _ | refine aC ?_ | refine au ?_ _)); refine aU (cs := #[.int .i64 ((ah l0 a1).f0), .string (⟨#[]⟩ : ByteArray), .int .i64 0, .int .i64 0]) ?_ 1 _ rfl; (with_reducible repeat (first | refine av ?_ _ | refine aC ?_ | refine au ?_ _)); refine aU (cs := #[.int .i64 0, .string (⟨#[]⟩ : ByteArray), .int .i64 0, .int .i64 0]) ?_ 0 _ rfl; (with_reducible repeat (first | refine av ?_ _ | refine aC ?_ | refine au ?_ _)); exact BK305.out⟩, ⟨BL⟩⟩
  ·have H' := aj.mk H
   clear H
   repeat (go_wp2_with (first | (go_at_call 86; (with_reducible refine (bC.calls ((ah l0 a1).f0) 1 9 _ _ A8.out).mono ?_); rintro e w' ⟨rfl, ⟨nd, rfl⟩⟩; (try first | exact da | exact DD))); go_quiet (first | (go_at_call 86; (with_reducible refine (bC.calls ((ah l0 a1).f0) 1 9 _ _ A8.out).mono ?_); rintro e w' ⟨rfl, ⟨nd, rfl⟩⟩; (try first | exact da | exact DD))))
   go_wp2_with (first | (go_at_call 86; (with_reducible refine (bC.calls ((ah l0 a1).f0) 1 9 _ _ A8.out).mono ?_); rintro e w' ⟨rfl, ⟨nd, rfl⟩⟩; (try first | exact da | exact DD)))
   go_meet
   case rel => exact ⟨_, (true), (by first | rfl | (simp; done) | (simp [*]; rw [Bool.eq_iff_iff]; simp [bne, List.isEmpty_iff]; done) | (simp [*]; done)), H', ⟨by first | omega | exact Nat.le_refl _⟩, ⟨by (with_reducible repeat (first | refine av ?_ _ | refine aC ?_ | refine au ?_ _)); refine aU (cs := #[.int .i64 ((ah l0 a1).f0), .string ((ah l0 a1).f1), .int .i64 ((ah l0 a1).f2), .int .i64 0]) ?_ 3 _ rfl; (with_reducible repeat (first | refine av ?_ _ | refine aC ?_ | refine au ?_ _)); refine aU (cs := #[.int .i64 ((ah l0 a1).f0), .string ((ah l0 a1).f1), .int .i64 0, .int .i64 0]) ?_ 2 _ rfl; (with_reducible repeat (first | refine av ?_ _ | refine aC ?_ | refine au ?_ _)); refine aU (cs := #[.int .i64 ((ah l0 a1).f0), .string (⟨#[]⟩ : ByteArray), .int .i64 0, .int .i64 0]) ?_ 1 _ rfl; (with_reducible repeat (first | refine av ?_ _ | refine aC ?_ | refine au ?_ _)); refine aU (cs := #[.int .i64 0, .string (⟨#[]⟩ : ByteArray), .int .i64 0, .int .i64 0]) ?_ 0 _ rfl; (with_reducible repeat (first | refine av ?_ _ | refine aC ?_ | refine au ?_ _)); exact BK305.out⟩, ⟨BL⟩⟩
 case rest =>
  clear HC5
  try clear c3
  try clear c3b0
  try clear c4
  try clear c4b0
  try clear hcz9001_0
  try clear hcz9001_1
  try clear hcz9001_2
  try clear hcz9001_3
  try clear hfz9001_0
  try clear hfz9001_1
  try clear hfz9001_2
  try clear hfz9001_3
  try clear hx304_0
  try clear hx304_1
  try clear hx304_2
  try clear hx304_3
  try clear p304
  try clear q304
  obtain ⟨kq, x33_4, rfl, HA, HJ4, BK305, HB⟩ := hcut
  cases kq with
  | zero => exact absurd HA.out (by simp [bX.j0])
  | succ kj4 =>
   have H := HA.out
   clear HA
   simp only [bX.j0] at H
   replace H := ifB H; rcases H with ⟨rfl, H⟩ | ⟨rfl, H⟩
   ·obtain rfl := Option.some.inj H
    go_wp2
    repeat (go_quiet (fail); try go_wp2)
    go_ret
    exact ⟨EWW, BL⟩
   ·have HC18 := aj.mk H
    clear H
    go_upto_region 4 with (fail)
    repeat (go_quiet (fail); go_upto_region 4 with (fail))
    go_cut [6] (fun v6 wc => ∃ (kq : Nat) (x6_17 : Bool), v6 = .bool x6_17 ∧ aj (bX.j1 kq l0 a1 x6_17 ((ah l0 a1).f0) ((ah l0 a1).f1) ((ah l0 a1).f2) ((ah l0 a1).f3) = some r) ∧ aj (kq ≤ kj4) ∧ aj (wc.heap[gb305]? = some (.cells #[.int .i64 ((ah l0 a1).f0), .string ((ah l0 a1).f1), .int .i64 ((ah l0 a1).f2), .int .i64 ((ah l0 a1).f3)] 110 (0, 0))) ∧ aj (Below w.heap.size w wc))
    case first =>
     have H := HC18.out
     clear HC18
     obtain ⟨hcz9003_0, hcz9003_1, hcz9003_2, hcz9003_3, hfz9003_0, hfz9003_1, hfz9003_2, hfz9003_3⟩ := cz4 BK305.out
     replace H := ifE H; rcases H with ⟨c19b0, c19b1, H⟩ | ⟨c19, c19b0, c19b1, H⟩
     ·(first | rw [c19b0] | (simp only [bY, cu]; rw [c19b0]) | skip)
      have H' := aj.mk H
      clear H
      go_wp2
      repeat (go_quiet (fail); try go_wp2)
      go_meet
      case rel => exact ⟨_, (true), (by first | rfl | (simp; done) | (simp [*]; rw [Bool.eq_iff_iff]; simp [bne, List.isEmpty_iff]; done) | (simp [*]; done)), H', ⟨by have := HJ4.out; first | omega | exact Nat.le_refl _⟩, ⟨BK⟩, ⟨BL⟩⟩
     ·(first | rw [c19b0] | (simp only [bY, cu]; rw [c19b0]) | skip)
      have H' := aj.mk H
      clear H
      go_wp2
      repeat (go_quiet (fail); try go_wp2)
      go_meet
      case rel => exact ⟨_, ((((ah l0 a1).f0) == 5)), (by first | rfl | (simp; done) | (simp [*]; rw [Bool.eq_iff_iff]; simp [bne, List.isEmpty_iff]; done) | (simp [*]; done)), H', ⟨by have := HJ4.out; first | omega | exact Nat.le_refl _⟩, ⟨BK⟩, ⟨BL⟩⟩
    case rest =>
     clear HC18
     try clear c3
     try clear c3b0
     try clear c4
     try clear c4b0
     try clear c17
     try clear hcz9001_0
     try clear hcz9001_1
     try clear hcz9001_2
     try clear hcz9001_3
     try clear hfz9001_0
     try clear hfz9001_1
     try clear hfz9001_2
     try clear hfz9001_3
     try clear hx304_0
     try clear hx304_1
     try clear hx304_2
     try clear hx304_3
     try clear p304
     try clear q304
     obtain ⟨kq, x6_17, rfl, HA, HJ17, BK305, HB⟩ := hcut
     cases kq with
     | zero => exact absurd HA.out (by simp [bX.j1])
     | succ kj17 =>
      have H := HA.out
      clear HA
      simp only [bX.j1] at H
      obtain ⟨hcz9004_0, hcz9004_1, hcz9004_2, hcz9004_3, hfz9004_0, hfz9004_1, hfz9004_2, hfz9004_3⟩ := cz4 BK305.out
      replace H := ifE H; rcases H with ⟨c22b0, c22b1, H⟩ | ⟨c22, c22b0, c22b1, H⟩
      ·replace H := ifE H; rcases H with ⟨c23b0, c23b1, H⟩ | ⟨c23, c23b0, c23b1, H⟩
       ·obtain rfl := Option.some.inj H
        go_wp2
        repeat (go_quiet (fail); try go_wp2)
        go_ret
        exact ⟨EWW, BL⟩
       ·obtain rfl := Option.some.inj H
        go_wp2
        repeat (go_quiet (fail); try go_wp2)
        go_ret
        exact ⟨EWW, BL⟩
      ·replace H := be H; obtain ⟨t308, A26, H⟩ := H
       replace H := ifB H; rcases H with ⟨rfl, H⟩ | ⟨rfl, H⟩
       ·replace H := ifB H; rcases H with ⟨rfl, H⟩ | ⟨rfl, H⟩
        ·replace H := be H; obtain ⟨t309, A29, H⟩ := H
         replace H := ifB H; rcases H with ⟨rfl, H⟩ | ⟨rfl, H⟩
         ·obtain rfl := Option.some.inj H
          repeat (go_wp2_with (first | (go_at_call 86; (with_reducible refine (bC.calls ((ah l0 a1).f2) 0 (wrap64 (a1 - 1)) _ _ A26.out).mono ?_); rintro e w' ⟨rfl, ⟨nd, rfl⟩⟩; (try first | exact da | exact DD)) | (go_at_call 86; (with_reducible refine (bC.calls ((ah l0 a1).f3) 0 (wrap64 (a1 - 1)) _ _ A29.out).mono ?_); rintro e w' ⟨rfl, ⟨nd, rfl⟩⟩; (try first | exact da | exact DD))); go_quiet (first | (go_at_call 86; (with_reducible refine (bC.calls ((ah l0 a1).f2) 0 (wrap64 (a1 - 1)) _ _ A26.out).mono ?_); rintro e w' ⟨rfl, ⟨nd, rfl⟩⟩; (try first | exact da | exact DD)) | (go_at_call 86; (with_reducible refine (bC.calls ((ah l0 a1).f3) 0 (wrap64 (a1 - 1)) _ _ A29.out).mono ?_); rintro e w' ⟨rfl, ⟨nd, rfl⟩⟩; (try first | exact da | exact DD))))
          go_wp2_with (first | (go_at_call 86; (with_reducible refine (bC.calls ((ah l0 a1).f2) 0 (wrap64 (a1 - 1)) _ _ A26.out).mono ?_); rintro e w' ⟨rfl, ⟨nd, rfl⟩⟩; (try first | exact da | exact DD)) | (go_at_call 86; (with_reducible refine (bC.calls ((ah l0 a1).f3) 0 (wrap64 (a1 - 1)) _ _ A29.out).mono ?_); rintro e w' ⟨rfl, ⟨nd, rfl⟩⟩; (try first | exact da | exact DD)))
          go_ret
          exact ⟨EWW, BL⟩
         ·obtain rfl := Option.some.inj H
          repeat (go_wp2_with (first | (go_at_call 86; (with_reducible refine (bC.calls ((ah l0 a1).f2) 0 (wrap64 (a1 - 1)) _ _ A26.out).mono ?_); rintro e w' ⟨rfl, ⟨nd, rfl⟩⟩; (try first | exact da | exact DD)) | (go_at_call 86; (with_reducible refine (bC.calls ((ah l0 a1).f3) 0 (wrap64 (a1 - 1)) _ _ A29.out).mono ?_); rintro e w' ⟨rfl, ⟨nd, rfl⟩⟩; (try first | exact da | exact DD))); go_quiet (first | (go_at_call 86; (with_reducible refine (bC.calls ((ah l0 a1).f2) 0 (wrap64 (a1 - 1)) _ _ A26.out).mono ?_); rintro e w' ⟨rfl, ⟨nd, rfl⟩⟩; (try first | exact da | exact DD)) | (go_at_call 86; (with_reducible refine (bC.calls ((ah l0 a1).f3) 0 (wrap64 (a1 - 1)) _ _ A29.out).mono ?_); rintro e w' ⟨rfl, ⟨nd, rfl⟩⟩; (try first | exact da | exact DD))))
          go_wp2_with (first | (go_at_call 86; (with_reducible refine (bC.calls ((ah l0 a1).f2) 0 (wrap64 (a1 - 1)) _ _ A26.out).mono ?_); rintro e w' ⟨rfl, ⟨nd, rfl⟩⟩; (try first | exact da | exact DD)) | (go_at_call 86; (with_reducible refine (bC.calls ((ah l0 a1).f3) 0 (wrap64 (a1 - 1)) _ _ A29.out).mono ?_); rintro e w' ⟨rfl, ⟨nd, rfl⟩⟩; (try first | exact da | exact DD)))
          go_ret
          exact ⟨EWW, BL⟩
        ·replace H := ifE H; rcases H with ⟨c33b0, c33b1, H⟩ | ⟨c33, c33b0, c33b1, H⟩
         ·replace H := ifE H; rcases H with ⟨c34b0, c34b1, H⟩ | ⟨c34, c34b0, c34b1, H⟩
          ·obtain rfl := Option.some.inj H
           repeat (go_wp2_with (first | (go_at_call 86; (with_reducible refine (bC.calls ((ah l0 a1).f2) 0 (wrap64 (a1 - 1)) _ _ A26.out).mono ?_); rintro e w' ⟨rfl, ⟨nd, rfl⟩⟩; (try first | exact da | exact DD))); go_quiet (first | (go_at_call 86; (with_reducible refine (bC.calls ((ah l0 a1).f2) 0 (wrap64 (a1 - 1)) _ _ A26.out).mono ?_); rintro e w' ⟨rfl, ⟨nd, rfl⟩⟩; (try first | exact da | exact DD))))
           go_wp2_with (first | (go_at_call 86; (with_reducible refine (bC.calls ((ah l0 a1).f2) 0 (wrap64 (a1 - 1)) _ _ A26.out).mono ?_); rintro e w' ⟨rfl, ⟨nd, rfl⟩⟩; (try first | exact da | exact DD)))
           go_ret
           exact ⟨EWW, BL⟩
          ·replace H := ifN H; obtain ⟨c36b0, H⟩ := H
           replace H := ifN H; obtain ⟨c37b0, H⟩ := H
           obtain rfl := Option.some.inj H
           repeat (go_wp2_with (first | (go_at_call 86; (with_reducible refine (bC.calls ((ah l0 a1).f2) 0 (wrap64 (a1 - 1)) _ _ A26.out).mono ?_); rintro e w' ⟨rfl, ⟨nd, rfl⟩⟩; (try first | exact da | exact DD); have p310 : 0 ≤ (((ah l0 a1).f2) : Int) := OD; have q310 : ((ah l0 a1).f2) < (l0.length : Int) := OD; obtain ⟨ad310, e310, hx310_0, hx310_1, hx310_2, hx310_3⟩ := fK HR0.out ((ah l0 a1).f2) p310 q310; obtain rfl : ad304 = ad310 := (by injection e310); replace hx310_0 := (HB.out.cell (World.block_lt_of_cell? w _ hx310_0)).trans hx310_0; replace hx310_1 := (HB.out.cell (World.block_lt_of_cell? w _ hx310_1)).trans hx310_1; replace hx310_2 := (HB.out.cell (World.block_lt_of_cell? w _ hx310_2)).trans hx310_2; replace hx310_3 := (HB.out.cell (World.block_lt_of_cell? w _ hx310_3)).trans hx310_3; replace p310 := eq_true p310; replace q310 := eq_true q310)); go_quiet (first | (go_at_call 86; (with_reducible refine (bC.calls ((ah l0 a1).f2) 0 (wrap64 (a1 - 1)) _ _ A26.out).mono ?_); rintro e w' ⟨rfl, ⟨nd, rfl⟩⟩; (try first | exact da | exact DD); have p310 : 0 ≤ (((ah l0 a1).f2) : Int) := OD; have q310 : ((ah l0 a1).f2) < (l0.length : Int) := OD; obtain ⟨ad310, e310, hx310_0, hx310_1, hx310_2, hx310_3⟩ := fK HR0.out ((ah l0 a1).f2) p310 q310; obtain rfl : ad304 = ad310 := (by injection e310); replace hx310_0 := (HB.out.cell (World.block_lt_of_cell? w _ hx310_0)).trans hx310_0; replace hx310_1 := (HB.out.cell (World.block_lt_of_cell? w _ hx310_1)).trans hx310_1; replace hx310_2 := (HB.out.cell (World.block_lt_of_cell? w _ hx310_2)).trans hx310_2; replace hx310_3 := (HB.out.cell (World.block_lt_of_cell? w _ hx310_3)).trans hx310_3; replace p310 := eq_true p310; replace q310 := eq_true q310)))
           go_wp2_with (first | (go_at_call 86; (with_reducible refine (bC.calls ((ah l0 a1).f2) 0 (wrap64 (a1 - 1)) _ _ A26.out).mono ?_); rintro e w' ⟨rfl, ⟨nd, rfl⟩⟩; (try first | exact da | exact DD); have p310 : 0 ≤ (((ah l0 a1).f2) : Int) := OD; have q310 : ((ah l0 a1).f2) < (l0.length : Int) := OD; obtain ⟨ad310, e310, hx310_0, hx310_1, hx310_2, hx310_3⟩ := fK HR0.out ((ah l0 a1).f2) p310 q310; obtain rfl : ad304 = ad310 := (by injection e310); replace hx310_0 := (HB.out.cell (World.block_lt_of_cell? w _ hx310_0)).trans hx310_0; replace hx310_1 := (HB.out.cell (World.block_lt_of_cell? w _ hx310_1)).trans hx310_1; replace hx310_2 := (HB.out.cell (World.block_lt_of_cell? w _ hx310_2)).trans hx310_2; replace hx310_3 := (HB.out.cell (World.block_lt_of_cell? w _ hx310_3)).trans hx310_3; replace p310 := eq_true p310; replace q310 := eq_true q310))
           go_ret
           exact ⟨EWW, BL⟩
         ·obtain rfl := Option.some.inj H
          repeat (go_wp2_with (first | (go_at_call 86; (with_reducible refine (bC.calls ((ah l0 a1).f2) 0 (wrap64 (a1 - 1)) _ _ A26.out).mono ?_); rintro e w' ⟨rfl, ⟨nd, rfl⟩⟩; (try first | exact da | exact DD))); go_quiet (first | (go_at_call 86; (with_reducible refine (bC.calls ((ah l0 a1).f2) 0 (wrap64 (a1 - 1)) _ _ A26.out).mono ?_); rintro e w' ⟨rfl, ⟨nd, rfl⟩⟩; (try first | exact da | exact DD))))
          go_wp2_with (first | (go_at_call 86; (with_reducible refine (bC.calls ((ah l0 a1).f2) 0 (wrap64 (a1 - 1)) _ _ A26.out).mono ?_); rintro e w' ⟨rfl, ⟨nd, rfl⟩⟩; (try first | exact da | exact DD)))
          go_ret
          exact ⟨EWW, BL⟩
       ·obtain rfl := Option.some.inj H
        repeat (go_wp2_with (first | (go_at_call 86; (with_reducible refine (bC.calls ((ah l0 a1).f2) 0 (wrap64 (a1 - 1)) _ _ A26.out).mono ?_); rintro e w' ⟨rfl, ⟨nd, rfl⟩⟩; (try first | exact da | exact DD))); go_quiet (first | (go_at_call 86; (with_reducible refine (bC.calls ((ah l0 a1).f2) 0 (wrap64 (a1 - 1)) _ _ A26.out).mono ?_); rintro e w' ⟨rfl, ⟨nd, rfl⟩⟩; (try first | exact da | exact DD))))
        go_wp2_with (first | (go_at_call 86; (with_reducible refine (bC.calls ((ah l0 a1).f2) 0 (wrap64 (a1 - 1)) _ _ A26.out).mono ?_); rintro e w' ⟨rfl, ⟨nd, rfl⟩⟩; (try first | exact da | exact DD)))
        go_ret
        exact ⟨EWW, BL⟩
mutual
def bK.l0 : Nat → List (bq) → Int → Option (Bool)
 | 0, _, _ => none
 | k + 1, a, b => if b < (a.length : Int) then (bK.j1 k a b (decide ((a.length : Int) ≤ 9))) else (bK.j1 k a b false)
def bK.j1 : Nat → List (bq) → Int → Bool → Option (Bool)
 | 0, _, _, _ => none
 | k + 1, a, b, c => if c = true then ((bX.f k a b).bind fun d => (if d = true then (bK.l0 k a (wrap64 (b + 1))) else (some false))) else ((bC.f (a.length : Int) 1 9).bind fun e => (some e))
end
def bK.f (k : Nat) (l0 : List (bq)) : Option (Bool) := bK.l0 k l0 0
theorem bK.calls (k : Nat) (A0 : Option Addr) (c0 : Nat) (l0 : List (bq)) (r : Bool) (w : World) (hr0 : Kd.C eY w A0 l0.length l0) (hc0 : l0.length ≤ c0) (h : bK.f k l0 = some r) :
  Calls Try.prog 76 #[.slice A0 l0.length c0] w fun e w' => e = .returned (.bool r) ∧ Below w.heap.size w w' := by
 have HR0 := aj.mk hr0
 have HC0 := aj.mk hc0
 clear hr0 hc0
 have HB := aj.mk (Below.refl w.heap.size w)
 have H : (bK.l0 k l0 0) = some r := h
 clear h
 have H' := aj.mk H
 clear H
 go_enter Try.func76, Try.ntmps76
 go_wp2
 go_loopg [3] k (fun kq v3 w' => ∃ (x3_1 : Int), v3 = .int .i64 x3_1 ∧ aj (bK.l0 kq l0 x3_1 = some r) ∧ aj (kq ≤ k) ∧ aj (Below w.heap.size w w'))
 case atStart => exact ⟨(0), EQ, H', ⟨Nat.le_refl _⟩, ⟨BL⟩⟩
 case round =>
  clear H'
  obtain ⟨x3_1, rfl, HA, HK1, HB⟩ := hrel
  cases gk with
  | zero => exact absurd HA.out (by simp [bK.l0])
  | succ k1 =>
   have H := HA.out
   clear HA
   simp only [bK.l0] at H
   have HC2 := aj.mk H
   clear H
   go_upto_region 2 with (fail)
   go_cut [12] (fun v12 wc => ∃ (kq : Nat) (x12_1 : Bool), v12 = .bool x12_1 ∧ aj (bK.j1 kq l0 x3_1 x12_1 = some r) ∧ aj (kq ≤ k1) ∧ aj (Below w.heap.size w wc))
   case first =>
    have H := HC2.out
    clear HC2
    replace H := ifD H; rcases H with ⟨c3b0, H⟩ | ⟨c3b0, H⟩
    ·(first | rw [c3b0] | (simp only [bY, cu]; rw [c3b0]) | skip)
     have H' := aj.mk H
     clear H
     go_wp2
     go_meet
     case rel => exact ⟨_, (decide ((l0.length : Int) ≤ 9)), EQ, H', ⟨by have := HK1.out; first | omega | exact Nat.le_refl _⟩, ⟨BL⟩⟩
    ·(first | rw [c3b0] | (simp only [bY, cu]; rw [c3b0]) | skip)
     have H' := aj.mk H
     clear H
     go_wp2
     go_meet
     case rel => exact ⟨_, (false), EQ, H', ⟨by have := HK1.out; first | omega | exact Nat.le_refl _⟩, ⟨BL⟩⟩
   case rest =>
    clear HC2
    obtain ⟨kq, x12_1, rfl, HA, HJ1, HB⟩ := hcut
    cases kq with
    | zero => exact absurd HA.out (by simp [bK.j1])
    | succ kj1 =>
     have H := HA.out
     clear HA
     simp only [bK.j1] at H
     replace H := ifB H; rcases H with ⟨rfl, H⟩ | ⟨rfl, H⟩
     ·replace H := be H; obtain ⟨t311, A5, H⟩ := H
      replace H := aj.mk H
      go_wp2_with (first | ((with_reducible refine aJ (f := 125) rfl ?_); refine bI (some 17) Try.func125 #[.slice A0 l0.length c0, .int .i64 x3_1] ?_; (with_reducible refine (bX.calls kj1 _ _ l0 x3_1 _ _ ?side1 ?side2 A5.out).mono ?_); (case side1 => exact CB HR0); (case side2 => exact HC0.out); rintro e w5000 ⟨rfl, hb⟩; refine ⟨_, rfl, ?_⟩; replace HB := BS (w := w) hb; (try clear hb); refine eU ?_))
      refine Hide.mk ?_
      replace H := H.out
      replace H := ifB H; rcases H with ⟨rfl, H⟩ | ⟨rfl, H⟩
      ·have H' := aj.mk H
       clear H
       try go_wp2
       go_roundg kj1
       case measure => have := HK1.out; have := HJ1.out; omega
       case rel => exact ⟨(wrap64 (x3_1 + 1)), EQ, H', ⟨by have := HK1.out; have := HJ1.out; omega⟩, ⟨BL⟩⟩
      ·obtain rfl := Option.some.inj H
       try go_wp2
       go_ret
       exact ⟨EWW, BL⟩
     ·replace H := be H; obtain ⟨t312, A9, H⟩ := H
      obtain rfl := Option.some.inj H
      go_wp2_with (first | ((with_reducible refine aJ (f := 86) rfl ?_); refine bI (some 21) Try.func86 #[.int .i64 (l0.length : Int), .int .i64 1, .int .i64 9] ?_; (with_reducible refine (bC.calls (l0.length : Int) 1 9 t312 _ A9.out).mono ?_); rintro e w' ⟨rfl, ⟨nd, rfl⟩⟩; refine ⟨_, rfl, ?_⟩))
      go_ret
      exact ⟨EWW, BL⟩
def iw.f (a0 a1 : Int) : Option (Int) := if a1 < a0 then (some a1) else (some a0)
theorem iw.calls (a0 a1 r : Int) (w : World) (h : iw.f a0 a1 = some r) :
  Calls Try.prog 166 #[.int .i64 a0, .int .i64 a1] w fun e w' => e = .returned (.int .i64 r) ∧ dB w w' := by
 unfold iw.f at h
 have H := h
 clear h
 replace H := aj.mk H
 go_enter Try.func166, Try.ntmps166
 replace H := H.out
 replace H := ifD H; rcases H with ⟨c3b0, H⟩ | ⟨c3b0, H⟩
 ·obtain rfl := Option.some.inj H
  try go_wp2
  go_ret
  exact ⟨EQ, DR⟩
 ·obtain rfl := Option.some.inj H
  try go_wp2
  go_ret
  exact ⟨EQ, DR⟩
mutual
def bB.l0 : Nat → List (bq) → List Int → Int → Option (Int)
 | 0, _, _, _ => none
 | k + 1, a, b, c => if c < (a.length : Int) then (if 0 ≤ c then (if ((ah a c).f0) = 1 then (if b.length < 17592186044416 then (bB.l0 k a (b ++ [(((ah a c).f1).size : Int)]) (wrap64 (c + 1))) else (none)) else (if ((ah a c).f0) = 4 then (bB.j1 k a b c (((ah a c).f0) == 4) ((ah a c).f0) ((ah a c).f1) ((ah a c).f2) ((ah a c).f3)) else (bB.j1 k a b c (((ah a c).f0) == 5) ((ah a c).f0) ((ah a c).f1) ((ah a c).f2) ((ah a c).f3)))) else (none)) else (if 0 ≤ (wrap64 ((b.length : Int) - 1)) then (if (wrap64 ((b.length : Int) - 1)) < (b.length : Int) then (some (rd b (wrap64 ((b.length : Int) - 1)))) else (none)) else (none))
def bB.j1 : Nat → List (bq) → List Int → Int → Bool → Int → ByteArray → Int → Int → Option (Int)
 | 0, _, _, _, _, _, _, _, _ => none
 | k + 1, a, b, c, d, e, f, g, h => if d = true then (if 0 ≤ g then (if g < (b.length : Int) then (if 0 ≤ h then (if h < (b.length : Int) then ((iw.f 999 (wrap64 ((wrap64 ((rd b g) + (rd b h))) + 4))).bind fun i => (if b.length < 17592186044416 then (bB.l0 k a (b ++ [i]) (wrap64 (c + 1))) else (none))) else (none)) else (none)) else (none)) else (none)) else (if 0 ≤ g then (if g < (b.length : Int) then ((iw.f 999 (wrap64 ((rd b g) + 3))).bind fun j => (if b.length < 17592186044416 then (bB.l0 k a (b ++ [j]) (wrap64 (c + 1))) else (none))) else (none)) else (none))
end
def bB.f (k : Nat) (l0 : List (bq)) : Option (Int) := bB.l0 k l0 (([] : List Int)) 0
def bB.T12 : Bool × List (List Nat × List Nat) := (true, [([], []), ([], []), ([], []), ([2], [2]), ([1, 3], [1, 3]), ([4], [4]), ([], []), ([], []), ([7], [7]), ([6, 8], [6, 8]), ([9], [9]), ([5, 10], [5, 10]), ([11], [11]), ([12], [12]), ([13], [13]), ([0, 14, 13], [0, 14]), ([15, 15, 0, 1, 2, 3, 4, 5, 6, 7, 8, 9, 10, 11, 12, 13, 14, 15], [0, 1, 6, 15])])
def bB.B12 : List Nat := [0, 0, 0, 4, 14, 30, 0, 0, 128, 448, 960, 2046, 4094, 8190, 16382, 32767, 65535]
theorem bB.sU : iE .any (opsOf Try.f126 12) = bB.T12 := by kernel_rfl
theorem bB.qF : iy bB.T12.2 bB.B12 = true := by kernel_rfl
theorem bB.calls (k : Nat) (A0 : Option Addr) (c0 : Nat) (l0 : List (bq)) (r : Int) (w : World) (hr0 : Kd.C eY w A0 l0.length l0) (hc0 : l0.length ≤ c0) (h : bB.f k l0 = some r) :
  Calls Try.prog 126 #[.slice A0 l0.length c0] w fun e w' => e = .returned (.int .i64 r) ∧ Below w.heap.size w w' := by
 have hu110 := Try.underlying110
 have HR0 := aj.mk hr0
 have HC0 := aj.mk hc0
 clear hr0 hc0
 have HB := aj.mk (Below.refl w.heap.size w)
 unfold bB.f at h
 have H := h
 clear h
 obtain ⟨y313, hy313⟩ : ∃ y_ : List Int, y_ = (([] : List Int)) := ⟨_, rfl⟩
 replace H : (bB.l0 k l0 y313 0) = some r := by first | (rw [hy313]; with_reducible exact H) | (have H2_ := (Option.bind_some _ _).symm.trans H; rw [hy313]; with_reducible exact H2_) | (have H2_ := (Option.bind_some _ _).symm.trans H; with_reducible exact H2_) | with_reducible exact H | (rw [hy313]; exact H) | exact H
 have Ny313 := aj.mk hy313
 clear hy313
 have H' := aj.mk H
 clear H
 go_enter Try.func126, Try.ntmps126
 go_wp2_with (first | ((with_reducible refine dz (N := 6) rfl ?_); refine Kd.kS (Kd.int .i64) _ 3 ?hg (N := 6) ?hd (xs := ([] : List Int)) (inner := []) (ok := fun _ => True) (okp := fun _ => True) ?hr ?hp (fun _ hk => hk) trivial (Below.refl _ _) (Nat.le_refl _) (by simp) ?_; (case hd => rfl); (case hg => rfl); (case hr => first | (go_simp; done) | (go_simp; rfl)); (case hp => exact (bD.none _ _)); intro v314 w2 ho3 hb hg_ hnew_; clear hg_ hnew_; (first | rw [← Ny313.out] at ho3 | (simp only [Int.reduceToNat] at ho3; rw [← Ny313.out] at ho3)); have n0_ := aj.mk (Kd.dF ho3 (bS BL)); replace HB := BS (w := w) hb; have HO315 := n0_; clear n0_; clear hb ho3))
 go_loopg [3, 4] k (fun kq v3 v4 w' => ∃ (x3_1 : List Int) (x4_1 : Int), v4 = .int .i64 x4_1 ∧ aj (bB.l0 kq l0 x3_1 x4_1 = some r) ∧ aj (kq ≤ k) ∧ aj (Kd.R (Kd.int .i64) 3 w' w.heap.size (fun _ => True) v3 x3_1) ∧ aj (Below w.heap.size w w'))
 case atStart => exact ⟨(y313), (0), EQ, H', ⟨Nat.le_refl _⟩, ⟨(RR HO315)⟩, ⟨BL⟩⟩
 case round =>
  clear H'
  obtain ⟨x3_1, x4_1, rfl, HA, HK1, HO_3, HB⟩ := hrel
  cases gk with
  | zero => exact absurd HA.out (by simp [bB.l0])
  | succ k1 =>
   have H := HA.out
   clear HA
   simp only [bB.l0] at H
   replace H := ifD H; rcases H with ⟨c4b0, H⟩ | ⟨c4b0, H⟩
   ·replace H := ifN H; obtain ⟨c5b0, H⟩ := H
    have p317 : 0 ≤ (x4_1 : Int) := OD
    have q317 : x4_1 < (l0.length : Int) := OD
    obtain ⟨ad317, e317, hx317_0, hx317_1, hx317_2, hx317_3⟩ := fK HR0.out x4_1 p317 q317
    cases e317
    try replace hx317_0 := (HB.out.cell (World.block_lt_of_cell? w _ hx317_0)).trans hx317_0
    try replace hx317_1 := (HB.out.cell (World.block_lt_of_cell? w _ hx317_1)).trans hx317_1
    try replace hx317_2 := (HB.out.cell (World.block_lt_of_cell? w _ hx317_2)).trans hx317_2
    try replace hx317_3 := (HB.out.cell (World.block_lt_of_cell? w _ hx317_3)).trans hx317_3
    replace p317 := eq_true p317
    replace q317 := eq_true q317
    replace H := ifE H; rcases H with ⟨c6b0, c6b1, H⟩ | ⟨c6, c6b0, c6b1, H⟩
    ·replace H := ifP H; obtain ⟨c7, H⟩ := H
     have LMc7 := aj.mk c7
     clear c7
     obtain ⟨y319, hy319⟩ : ∃ y_ : List Int, y_ = (x3_1 ++ [(((ah l0 x4_1).f1).size : Int)]) := ⟨_, rfl⟩
     replace H : (bB.l0 k1 l0 y319 (wrap64 (x4_1 + 1))) = some r := by first | (rw [hy319]; with_reducible exact H) | (have H2_ := (Option.bind_some _ _).symm.trans H; rw [hy319]; with_reducible exact H2_) | (have H2_ := (Option.bind_some _ _).symm.trans H; with_reducible exact H2_) | with_reducible exact H | (rw [hy319]; exact H) | exact H
     have Ny319 := aj.mk hy319
     clear hy319
     have H' := aj.mk H
     clear H
     go_wp2_with (first | ((with_reducible refine dz (N := 5) rfl ?_); refine gV (N := 5) (cs := #[.int .i64 0, .string (⟨#[]⟩ : ByteArray), .int .i64 0, .int .i64 0]) (t := 110) ?_; intro gb318 hg w7000 hbox hb; have n0_ := RB HO_3 hb; have n1_ := BS (w := w) hb; have n2_ := aj.mk (hbox); have n3_ := SZ (w := w) hg; have n4_ := SZ (w := w) hg; clear HO_3 HB; have HO_3 := n0_; have HB := n1_; have BK318 := n2_; have GW318 := n3_; have GE318 := n4_; clear n0_ n1_ n2_ n3_ n4_; clear hb hbox hg; obtain ⟨hcz7001_0, hcz7001_1, hcz7001_2, hcz7001_3, hfz7001_0, hfz7001_1, hfz7001_2, hfz7001_3⟩ := cz4 BK318.out) | ((with_reducible refine iR (b := .append) (xs := #[.tmp 31, .tmp 35]) rfl ?_); at_builtin; refine Kd.lF (Kd.int .i64) (w0 := w) w.heap.size rfl (.tmp 31) (.tmp 35) 45 3 (.int .i64 0) 8 rfl Try.underlying45 info3 rfl (by decide) (by omega) u3 x3_1 (((ah l0 x4_1).f1).size : Int) [.int .i64 (((ah l0 x4_1).f1).size : Int)] (fun _ => True) (fun _ => False) rfl (by first | (go_simp; done) | (go_simp; rfl)) ?aP (fun _ hk => hk.elim) ?aF ?aO ?aB ?aS ?aL ?_; (case aP => exact rfl); (case aB => exact BL); (case aF => exact (fun _ _ => trivial)); (case aO => exact (by (with_reducible repeat (first | apply Kd.dL | apply Kd.dM | apply Kd.dJ)); exact Kd.dD (Kd.gX (p := ⟨gb318, 3, none⟩) (Kd.gX (p := ⟨gb318, 2, none⟩) (Kd.gX (p := ⟨gb318, 1, none⟩) (Kd.gX (p := ⟨gb318, 0, none⟩) (Kd.kr HO_3.out BK318.out (by decide)) (fun _ hk => hk.2) (.int .i64 ((ah l0 x4_1).f0))) (fun _ hk => hk.2) (.string ((ah l0 x4_1).f1))) (fun _ hk => hk.2) (.int .i64 ((ah l0 x4_1).f2))) (fun _ hk => hk.2) (.int .i64 ((ah l0 x4_1).f3))) (fun _ hk => trivial))); (case aS => exact (bS BL)); (case aL => have := LMc7.out; omega); intro v320 w7002 ho hb hg hat; rw [← Ny319.out] at ho; have n0_ := aj.mk (iC (g := gb318) (o := .cells #[.int .i64 ((ah l0 x4_1).f0), .string ((ah l0 x4_1).f1), .int .i64 ((ah l0 x4_1).f2), .int .i64 ((ah l0 x4_1).f3)] 110 (0, 0)) (by (with_reducible repeat (first | refine av ?_ _ | refine aC ?_ | refine au ?_ _)); refine aU (cs := #[.int .i64 ((ah l0 x4_1).f0), .string ((ah l0 x4_1).f1), .int .i64 ((ah l0 x4_1).f2), .int .i64 0]) ?_ 3 _ rfl; (with_reducible repeat (first | refine av ?_ _ | refine aC ?_ | refine au ?_ _)); refine aU (cs := #[.int .i64 ((ah l0 x4_1).f0), .string ((ah l0 x4_1).f1), .int .i64 0, .int .i64 0]) ?_ 2 _ rfl; (with_reducible repeat (first | refine av ?_ _ | refine aC ?_ | refine au ?_ _)); refine aU (cs := #[.int .i64 ((ah l0 x4_1).f0), .string (⟨#[]⟩ : ByteArray), .int .i64 0, .int .i64 0]) ?_ 1 _ rfl; (with_reducible repeat (first | refine av ?_ _ | refine aC ?_ | refine au ?_ _)); refine aU (cs := #[.int .i64 0, .string (⟨#[]⟩ : ByteArray), .int .i64 0, .int .i64 0]) ?_ 0 _ rfl; (with_reducible repeat (first | refine av ?_ _ | refine aC ?_ | refine au ?_ _)); exact BK318.out) hg (Kd.lq HO_3.out BK318.out (by decide))); have n1_ := aj.mk (hb); have n2_ := aj.mk (ho); clear BK318 HB HO_3; have BK318 := n0_; have HB := n1_; have HO321 := n2_; clear n0_ n1_ n2_; clear ho hb hg hat))
     go_roundg k1
     case measure => have := HK1.out; omega
     case rel => exact ⟨(y319), (wrap64 (x4_1 + 1)), EQ, H', ⟨by have := HK1.out; omega⟩, ⟨(RR HO321)⟩, ⟨BL⟩⟩
    ·have HC11 := aj.mk H
     clear H
     go_upto_if 37 with (first | ((with_reducible refine dz (N := 5) rfl ?_); refine gV (N := 5) (cs := #[.int .i64 0, .string (⟨#[]⟩ : ByteArray), .int .i64 0, .int .i64 0]) (t := 110) ?_; intro gb318 hg w7000 hbox hb; have n0_ := RB HO_3 hb; have n1_ := BS (w := w) hb; have n2_ := aj.mk (hbox); have n3_ := SZ (w := w) hg; have n4_ := SZ (w := w) hg; clear HO_3 HB; have HO_3 := n0_; have HB := n1_; have BK318 := n2_; have GW318 := n3_; have GE318 := n4_; clear n0_ n1_ n2_ n3_ n4_; clear hb hbox hg; obtain ⟨hcz7001_0, hcz7001_1, hcz7001_2, hcz7001_3, hfz7001_0, hfz7001_1, hfz7001_2, hfz7001_3⟩ := cz4 BK318.out))
     (try simp only [Act.put, List.setIfInBounds_toArray, List.set_cons_zero, List.set_cons_succ])
     go_cut [37] (fun v37 wc => ∃ (kq : Nat) (x37_10 : Bool), v37 = .bool x37_10 ∧ aj (bB.j1 kq l0 x3_1 x4_1 x37_10 ((ah l0 x4_1).f0) ((ah l0 x4_1).f1) ((ah l0 x4_1).f2) ((ah l0 x4_1).f3) = some r) ∧ aj (kq ≤ k1) ∧ aj (Kd.R (Kd.int .i64) 3 wc w.heap.size (fun _ => True) u3 x3_1) ∧ aj (wc.heap[gb318]? = some (.cells #[.int .i64 ((ah l0 x4_1).f0), .string ((ah l0 x4_1).f1), .int .i64 ((ah l0 x4_1).f2), .int .i64 ((ah l0 x4_1).f3)] 110 (0, 0))) ∧ aj (Below w.heap.size w wc))
     case first =>
      have H := HC11.out
      clear HC11
      replace H := ifE H; rcases H with ⟨c14b0, c14b1, H⟩ | ⟨c14, c14b0, c14b1, H⟩
      ·(first | rw [c14b0] | (simp only [bY, cu]; rw [c14b0]) | skip)
       have H' := aj.mk H
       clear H
       go_wp2
       go_meet
       case rel => exact ⟨_, ((((ah l0 x4_1).f0) == 4)), EQ, H', ⟨by have := HK1.out; first | omega | exact Nat.le_refl _⟩, ⟨by (with_reducible repeat (first | apply Kd.dL | apply Kd.dM | apply Kd.dJ)); exact Kd.dD (Kd.gX (p := ⟨gb318, 3, none⟩) (Kd.gX (p := ⟨gb318, 2, none⟩) (Kd.gX (p := ⟨gb318, 1, none⟩) (Kd.gX (p := ⟨gb318, 0, none⟩) (Kd.kr HO_3.out BK318.out (by decide)) (fun _ hk => hk.2) (.int .i64 ((ah l0 x4_1).f0))) (fun _ hk => hk.2) (.string ((ah l0 x4_1).f1))) (fun _ hk => hk.2) (.int .i64 ((ah l0 x4_1).f2))) (fun _ hk => hk.2) (.int .i64 ((ah l0 x4_1).f3))) (fun _ hk => trivial)⟩, ⟨by (with_reducible repeat (first | refine av ?_ _ | refine aC ?_ | refine au ?_ _)); refine aU (cs := #[.int .i64 ((ah l0 x4_1).f0), .string ((ah l0 x4_1).f1), .int .i64 ((ah l0 x4_1).f2), .int .i64 0]) ?_ 3 _ rfl; (with_reducible repeat (first | refine av ?_ _ | refine aC ?_ | refine au ?_ _)); refine aU (cs := #[.int .i64 ((ah l0 x4_1).f0), .string ((ah l0 x4_1).f1), .int .i64 0, .int .i64 0]) ?_ 2 _ rfl; (with_reducible repeat (first | refine av ?_ _ | refine aC ?_ | refine au ?_ _)); refine aU (cs := #[.int .i64 ((ah l0 x4_1).f0), .string (⟨#[]⟩ : ByteArray), .int .i64 0, .int .i64 0]) ?_ 1 _ rfl; (with_reducible repeat (first | refine av ?_ _ | refine aC ?_ | refine au ?_ _)); refine aU (cs := #[.int .i64 0, .string (⟨#[]⟩ : ByteArray), .int .i64 0, .int .i64 0]) ?_ 0 _ rfl; (with_reducible repeat (first | refine av ?_ _ | refine aC ?_ | refine au ?_ _)); exact BK318.out⟩, ⟨BL⟩⟩
      ·(first | rw [c14b0] | (simp only [bY, cu]; rw [c14b0]) | skip)
       have H' := aj.mk H
       clear H
       go_wp2
       go_meet
       case rel => exact ⟨_, ((((ah l0 x4_1).f0) == 5)), EQ, H', ⟨by have := HK1.out; first | omega | exact Nat.le_refl _⟩, ⟨by (with_reducible repeat (first | apply Kd.dL | apply Kd.dM | apply Kd.dJ)); exact Kd.dD (Kd.gX (p := ⟨gb318, 3, none⟩) (Kd.gX (p := ⟨gb318, 2, none⟩) (Kd.gX (p := ⟨gb318, 1, none⟩) (Kd.gX (p := ⟨gb318, 0, none⟩) (Kd.kr HO_3.out BK318.out (by decide)) (fun _ hk => hk.2) (.int .i64 ((ah l0 x4_1).f0))) (fun _ hk => hk.2) (.string ((ah l0 x4_1).f1))) (fun _ hk => hk.2) (.int .i64 ((ah l0 x4_1).f2))) (fun _ hk => hk.2) (.int .i64 ((ah l0 x4_1).f3))) (fun _ hk => trivial)⟩, ⟨by (with_reducible repeat (first | refine av ?_ _ | refine aC ?_ | refine au ?_ _)); refine aU (cs := #[.int .i64 ((ah l0 x4_1).f0), .string ((ah l0 x4_1).f1), .int .i64 ((ah l0 x4_1).f2), .int .i64 0]) ?_ 3 _ rfl; (with_reducible repeat (first | refine av ?_ _ | refine aC ?_ | refine au ?_ _)); refine aU (cs := #[.int .i64 ((ah l0 x4_1).f0), .string ((ah l0 x4_1).f1), .int .i64 0, .int .i64 0]) ?_ 2 _ rfl; (with_reducible repeat (first | refine av ?_ _ | refine aC ?_ | refine au ?_ _)); refine aU (cs := #[.int .i64 ((ah l0 x4_1).f0), .string (⟨#[]⟩ : ByteArray), .int .i64 0, .int .i64 0]) ?_ 1 _ rfl; (with_reducible repeat (first | refine av ?_ _ | refine aC ?_ | refine au ?_ _)); refine aU (cs := #[.int .i64 0, .string (⟨#[]⟩ : ByteArray), .int .i64 0, .int .i64 0]) ?_ 0 _ rfl; (with_reducible repeat (first | refine av ?_ _ | refine aC ?_ | refine au ?_ _)); exact BK318.out⟩, ⟨BL⟩⟩
     case rest =>
      clear HC11
      try clear c4
      try clear c4b0
      try clear c5
      try clear c5b0
      try clear c6
      try clear c6b0
      try clear c6b1
      try clear hcz7001_0
      try clear hcz7001_1
      try clear hcz7001_2
      try clear hcz7001_3
      try clear hfz7001_0
      try clear hfz7001_1
      try clear hfz7001_2
      try clear hfz7001_3
      try clear hx317_0
      try clear hx317_1
      try clear hx317_2
      try clear hx317_3
      try clear p317
      try clear q317
      obtain ⟨kq, x37_10, rfl, HA, HJ10, HO_3, BK318, HB⟩ := hcut
      cases kq with
      | zero => exact absurd HA.out (by simp [bB.j1])
      | succ kj10 =>
       have H := HA.out
       clear HA
       simp only [bB.j1] at H
       replace H := ifB H; rcases H with ⟨rfl, H⟩ | ⟨rfl, H⟩
       ·replace H := ifN H; obtain ⟨c16b0, H⟩ := H
        replace H := ifN H; obtain ⟨c17b0, H⟩ := H
        replace H := ifN H; obtain ⟨c18b0, H⟩ := H
        replace H := ifN H; obtain ⟨c19b0, H⟩ := H
        replace H := be H; obtain ⟨t324, A20, H⟩ := H
        replace H := ifP H; obtain ⟨c21, H⟩ := H
        have LMc21 := aj.mk c21
        clear c21
        obtain ⟨y325, hy325⟩ : ∃ y_ : List Int, y_ = (x3_1 ++ [t324]) := ⟨_, rfl⟩
        replace H : (bB.l0 kj10 l0 y325 (wrap64 (x4_1 + 1))) = some r := by first | (rw [hy325]; with_reducible exact H) | (have H2_ := (Option.bind_some _ _).symm.trans H; rw [hy325]; with_reducible exact H2_) | (have H2_ := (Option.bind_some _ _).symm.trans H; with_reducible exact H2_) | with_reducible exact H | (rw [hy325]; exact H) | exact H
        have Ny325 := aj.mk hy325
        clear hy325
        have H' := aj.mk H
        clear H
        try go_wp2
        replace HO_3 := aj.mk (Kd.dJ HO_3.out)
        replace BK318 := aj.mk (aC BK318.out)
        replace HB := aj.mk (aG HB.out)
        obtain ⟨Ao7002, co7002, eo7002⟩ := Kd.dh HO_3.out
        (first | subst eo7002 | (injection eo7002 with f1_ f2_ f3_; have f4_ := f1_.symm; have f5_ := f3_.symm; clear f1_ f2_ f3_; subst f4_; subst f5_))
        have p322 : 0 ≤ (((ah l0 x4_1).f2) : Int) := OD
        have q322 : ((ah l0 x4_1).f2) < (x3_1.length : Int) := OD
        obtain ⟨ad322, e322, hx322_0⟩ := Kd.jH (Kd.aZ HO_3.out).2.2 ((ah l0 x4_1).f2) p322 q322
        cases e322
        replace p322 := eq_true p322
        replace q322 := eq_true q322
        have p323 : 0 ≤ (((ah l0 x4_1).f3) : Int) := OD
        have q323 : ((ah l0 x4_1).f3) < (x3_1.length : Int) := OD
        obtain ⟨ad323, e323, hx323_0⟩ := Kd.jH (Kd.aZ HO_3.out).2.2 ((ah l0 x4_1).f3) p323 q323
        obtain rfl : ad322 = ad323 := (by injection e323)
        replace p323 := eq_true p323
        replace q323 := eq_true q323
        refine iJ (n := 17) (S := fun w' => w'.cell? ⟨gb318, 0, none⟩ = some (.int .i64 ((ah l0 x4_1).f0)) ∧ w'.cell? ⟨gb318, 1, none⟩ = some (.string ((ah l0 x4_1).f1)) ∧ w'.cell? ⟨gb318, 2, none⟩ = some (.int .i64 ((ah l0 x4_1).f2)) ∧ w'.cell? ⟨gb318, 3, none⟩ = some (.int .i64 ((ah l0 x4_1).f3)) ∧ w'.cell? (ad322.add (((ah l0 x4_1).f2)).toNat) = some (.int .i64 (rd x3_1 ((ah l0 x4_1).f2))) ∧ w'.cell? (ad322.add (((ah l0 x4_1).f3)).toNat) = some (.int .i64 (rd x3_1 ((ah l0 x4_1).f3)))) (ds := [14, 15]) #[F,F,F,F,F,F,F,F,F,F,F,F,F,F,F,F,F] (by kernel_rfl) rfl rfl ⟨(aT BK318.out 0).trans rfl, (aT BK318.out 1).trans rfl, (aT BK318.out 2).trans rfl, (aT BK318.out 3).trans rfl, hx322_0, hx323_0⟩ (fun hHeld => ?_); refine gZ bB.sU bB.qF (fun HT_ HW_ => ?_)
        generalize wc.drew = w7003 at HO_3 BK318 HB hx322_0 hx323_0 hHeld ⊢
        refine puS (i := 0) (N := some 40) #[T,F,F,F,F,F,F,F,F,F,F,F,F,F,F,F,F] (bg HT_.out (by kernel_rfl)) ?_
        refine puS (i := 1) (N := some 41) #[T,T,F,F,F,F,F,F,F,F,F,F,F,F,F,F,F] (bg HT_.out (by kernel_rfl)) ?_
        refine puS (i := 2) (N := some 42) #[T,T,T,F,F,F,F,F,F,F,F,F,F,F,F,F,F] (bg HT_.out (by kernel_rfl)) ?_
        refine puS (i := 6) (N := some 46) #[T,T,T,F,F,F,T,F,F,F,F,F,F,F,F,F,F] (bg HT_.out (by kernel_rfl)) ?_
        refine puS (i := 7) (N := some 47) #[T,T,T,F,F,F,T,T,F,F,F,F,F,F,F,F,F] (bg HT_.out (by kernel_rfl)) ?_
        refine taS (i := 3) (N := some 43) #[T,T,T,T,F,F,T,T,F,F,F,F,F,F,F,F,F] (dU HT_.out HW_.out (by kernel_rfl)) hHeld ?_
        refine puS (i := 4) (N := some 44) #[T,T,T,T,T,F,T,T,F,F,F,F,F,F,F,F,F] (bg HT_.out (by kernel_rfl)) ?_
        refine taS (i := 5) (N := some 45) #[T,T,T,T,T,T,T,T,F,F,F,F,F,F,F,F,F] (dU HT_.out HW_.out (by kernel_rfl)) hHeld ?_
        refine taS (i := 8) (N := some 48) #[T,T,T,T,T,T,T,T,T,F,F,F,F,F,F,F,F] (dU HT_.out HW_.out (by kernel_rfl)) hHeld ?_
        refine puS (i := 9) (N := some 49) #[T,T,T,T,T,T,T,T,T,T,F,F,F,F,F,F,F] (bg HT_.out (by kernel_rfl)) ?_
        refine taS (i := 10) (N := some 50) #[T,T,T,T,T,T,T,T,T,T,T,F,F,F,F,F,F] (dU HT_.out HW_.out (by kernel_rfl)) hHeld ?_
        refine puS (i := 11) (N := some 51) #[T,T,T,T,T,T,T,T,T,T,T,T,F,F,F,F,F] (bg HT_.out (by kernel_rfl)) ?_
        refine puS (i := 12) (N := some 52) #[T,T,T,T,T,T,T,T,T,T,T,T,T,F,F,F,F] (bg HT_.out (by kernel_rfl)) ?_
        refine jm (i := 13) (N := some 53) #[T,T,T,T,T,T,T,T,T,T,T,T,T,T,F,F,F] rfl rfl (gW HT_.out (by kernel_rfl)) (by decide) (fun K hK => ?_)
        refine jM Try.func166 #[.int .i64 999, .int .i64 (wrap64 ((wrap64 ((rd x3_1 ((ah l0 x4_1).f2)) + (rd x3_1 ((ah l0 x4_1).f3)))) + 4))] ?_
        with_reducible refine (iw.calls 999 (wrap64 ((wrap64 ((rd x3_1 ((ah l0 x4_1).f2)) + (rd x3_1 ((ah l0 x4_1).f3)))) + 4)) t324 _ A20.out).mono ?_
        rintro e w' ⟨rfl, ⟨nd, rfl⟩⟩
        refine ⟨_, rfl, ?_⟩
        refine hK.out _ _ ⟨(aT BK318.out 0).trans rfl, (aT BK318.out 1).trans rfl, (aT BK318.out 2).trans rfl, (aT BK318.out 3).trans rfl, hHeld.2.2.2.2.1, hHeld.2.2.2.2.2⟩ (fun hHeld => ?_)
        clear hK K
        refine nrm (some 53) ?_
        refine qO (i := 14) (N := some 54) #[T,T,T,T,T,T,T,T,T,T,T,T,T,T,T,F,F] rfl rfl (gW HT_.out (by kernel_rfl)) (by decide) (fun K hK => ?_)
        refine lC (w1 := ?_) (v := ?_) (by rfl) rfl ?_ ?_
        rotate_left 2
        ·go_simp
         constructor
         ·rfl
         ·rfl
        refine hK.out _ _ ?_
        clear hK K
        refine nrm (some 54) ?_
        refine qO (i := 15) (N := some 55) #[T,T,T,T,T,T,T,T,T,T,T,T,T,T,T,T,F] rfl rfl (gW HT_.out (by kernel_rfl)) (by decide) (fun K hK => ?_)
        refine Kd.oZ (Kd.int .i64) (w0 := w) w.heap.size (by rfl) (.tmp 40) (.tmp 54) 45 3 (.int .i64 0) 8 rfl Try.underlying45 info3 rfl (by decide) (by omega) (.slice (some ad322) x3_1.length co7002) x3_1 t324 [.int .i64 t324] (fun _ => True) (fun _ => False) rfl rfl ?aP (fun _ hk => hk.elim) ?aF ?aO ?aB ?aS ?aL ?_
        (case aP => exact rfl)
        (case aB => exact BL)
        (case aF => exact (fun _ _ => trivial))
        (case aO => exact (RR HO_3))
        (case aS => exact (bS BL))
        (case aL => have := LMc21.out; omega)
        intro v326 w7004 ho hb hg hat
        rw [← Ny325.out] at ho
        have n0_ := aj.mk (iC (g := gb318) (o := .cells #[.int .i64 ((ah l0 x4_1).f0), .string ((ah l0 x4_1).f1), .int .i64 ((ah l0 x4_1).f2), .int .i64 ((ah l0 x4_1).f3)] 110 (0, 0)) BK hg (Kd.lq HO_3.out BK318.out (by decide)))
        have n1_ := aj.mk (hb)
        have n2_ := aj.mk (ho)
        clear BK318
        clear HB
        clear HO_3
        have BK318 := n0_
        have HB := n1_
        have HO327 := n2_
        clear n0_ n1_ n2_
        clear ho hb hg hat
        refine hK.out _ _ ?_
        clear hK K
        refine nrm (some 55) ?_
        refine puS (i := 16) (N := some 3) #[T,T,T,T,T,T,T,T,T,T,T,T,T,T,T,T,T] (bg HT_.out (by kernel_rfl)) ?_
        refine iN (gN HT_.out (by kernel_rfl)) ?_
        try go_wp2
        go_roundg kj10
        case measure => have := HK1.out; have := HJ10.out; omega
        case rel => exact ⟨(y325), (wrap64 (x4_1 + 1)), EQ, H', ⟨by have := HK1.out; have := HJ10.out; omega⟩, ⟨(RR HO327)⟩, ⟨BL⟩⟩
       ·replace H := ifN H; obtain ⟨c25b0, H⟩ := H
        replace H := ifN H; obtain ⟨c26b0, H⟩ := H
        replace H := be H; obtain ⟨t329, A27, H⟩ := H
        replace H := ifP H; obtain ⟨c28, H⟩ := H
        have LMc28 := aj.mk c28
        clear c28
        obtain ⟨y330, hy330⟩ : ∃ y_ : List Int, y_ = (x3_1 ++ [t329]) := ⟨_, rfl⟩
        replace H : (bB.l0 kj10 l0 y330 (wrap64 (x4_1 + 1))) = some r := by first | (rw [hy330]; with_reducible exact H) | (have H2_ := (Option.bind_some _ _).symm.trans H; rw [hy330]; with_reducible exact H2_) | (have H2_ := (Option.bind_some _ _).symm.trans H; with_reducible exact H2_) | with_reducible exact H | (rw [hy330]; exact H) | exact H
        have Ny330 := aj.mk hy330
        clear hy330
        have H' := aj.mk H
        clear H
        obtain ⟨hcz7002_0, hcz7002_1, hcz7002_2, hcz7002_3, hfz7002_0, hfz7002_1, hfz7002_2, hfz7002_3⟩ := cz4 BK318.out
        obtain ⟨Ao7003, co7003, eo7003⟩ := Kd.dh HO_3.out
        subst eo7003
        have p328 : 0 ≤ (((ah l0 x4_1).f2) : Int) := OD
        have q328 : ((ah l0 x4_1).f2) < (x3_1.length : Int) := OD
        obtain ⟨ad328, e328, hx328_0⟩ := Kd.jH (Kd.aZ HO_3.out).2.2 ((ah l0 x4_1).f2) p328 q328
        cases e328
        replace p328 := eq_true p328
        replace q328 := eq_true q328
        go_wp2_with (first | ((with_reducible refine aJ (f := 166) rfl ?_); refine bI (some 26) Try.func166 #[.int .i64 999, .int .i64 (wrap64 ((rd x3_1 ((ah l0 x4_1).f2)) + 3))] ?_; (with_reducible refine (iw.calls 999 (wrap64 ((rd x3_1 ((ah l0 x4_1).f2)) + 3)) t329 _ A27.out).mono ?_); rintro e w' ⟨rfl, ⟨nd, rfl⟩⟩; refine ⟨_, rfl, ?_⟩) | ((with_reducible refine iR (b := .append) (xs := #[.tmp 19, .tmp 27]) rfl ?_); at_builtin; refine Kd.lF (Kd.int .i64) (w0 := w) w.heap.size rfl (.tmp 19) (.tmp 27) 45 3 (.int .i64 0) 8 rfl Try.underlying45 info3 rfl (by decide) (by omega) (.slice (some ad328) x3_1.length co7003) x3_1 t329 [.int .i64 t329] (fun _ => True) (fun _ => False) rfl rfl ?aP (fun _ hk => hk.elim) ?aF ?aO ?aB ?aS ?aL ?_; (case aP => exact rfl); (case aB => exact BL); (case aF => exact (fun _ _ => trivial)); (case aO => exact (RR HO_3)); (case aS => exact (bS BL)); (case aL => have := LMc28.out; omega); intro v331 w7004 ho hb hg hat; rw [← Ny330.out] at ho; have n0_ := aj.mk (iC (g := gb318) (o := .cells #[.int .i64 ((ah l0 x4_1).f0), .string ((ah l0 x4_1).f1), .int .i64 ((ah l0 x4_1).f2), .int .i64 ((ah l0 x4_1).f3)] 110 (0, 0)) BK hg (Kd.lq HO_3.out BK318.out (by decide))); have n1_ := aj.mk (hb); have n2_ := aj.mk (ho); clear BK318 HB HO_3; have BK318 := n0_; have HB := n1_; have HO332 := n2_; clear n0_ n1_ n2_; clear ho hb hg hat))
        go_roundg kj10
        case measure => have := HK1.out; have := HJ10.out; omega
        case rel => exact ⟨(y330), (wrap64 (x4_1 + 1)), EQ, H', ⟨by have := HK1.out; have := HJ10.out; omega⟩, ⟨(RR HO332)⟩, ⟨BL⟩⟩
   ·obtain ⟨ji32, hji32⟩ : ∃ j_ : Int, (wrap64 ((x3_1.length : Int) - 1)) = j_ := ⟨_, rfl⟩
    replace H : (if 0 ≤ (ji32) then (if (ji32) < (x3_1.length : Int) then (some (rd x3_1 (ji32))) else (none)) else (none)) = some r := by first | (rw [hji32] at H; exact H) | (simp only [hji32] at H ⊢; exact H)
    have hji32w : (IntKind.i64.wrap ((x3_1.length : Int) - 1)) = ji32 := (bY _).trans hji32
    replace H := ifN H; obtain ⟨c33b0, H⟩ := H
    replace H := ifN H; obtain ⟨c34b0, H⟩ := H
    obtain rfl := Option.some.inj H
    obtain ⟨Ao7000, co7000, eo7000⟩ := Kd.dh HO_3.out
    subst eo7000
    have p316 : 0 ≤ ((ji32) : Int) := OD
    have q316 : (ji32) < (x3_1.length : Int) := OD
    obtain ⟨ad316, e316, hx316_0⟩ := Kd.jH (Kd.aZ HO_3.out).2.2 (ji32) p316 q316
    cases e316
    replace p316 := eq_true p316
    replace q316 := eq_true q316
    go_wp2
    go_ret
    exact ⟨by first | rfl | (simp [eH, eO] <;> rfl) | (simp only [← hji32]; first | rfl | (simp [eH, eO] <;> rfl)) | (simp [*, eH, eO] <;> rfl), BL⟩
end Go.Proofs.Ythjcicmmbmagbaa.PFnNotations
