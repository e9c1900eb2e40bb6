/- Walks of functions: what each computes. -/
import Derived.Test.YtddacmgigolcbaaDoorZFitsHintP0
import Derived.Test.YtddacmgigolcbaaDoorZFitsHintP5
import Derived.Test.YtddacmgigolcbaaDoorZFitsHintP6
import Derived.Test.YtddacmgigolcbaaDoorZFitsHintW
import Derived.Test.YtddacmgigolcbaaDoorZFitsHintShelf
namespace Go.Proofs.YtddacmgigolcbaaDoor.PFnExactFitsHint
open Go.RowKit Go.Proofs.YtddacmgigolcbaaDoorW.PrintWords Go.Proofs.YtddacmgigolcbaaDoorW.PrintLast Go.Proofs.YtddacmgigolcbaaDoorW.PrintMore Go.Proofs.YtddacmgigolcbaaDoor.Sq
attribute [local go_sem] max2_int min2_int max_two min_two max_three min_three max_four min_four
set_option linter.unusedVariables false
set_option linter.unusedSimpArgs false
mutual
def impl_StepsUsed.l0 : Nat → List (S45) → List Bool → Int → Option (List Int)
 | 0, _, _, _ => none
 | k + 1, x0, x3, x4 => if x4 ≥ 0 then (if 0 ≤ x4 then (if x4 < (x0.length : Int) then (if x4 < (x3.length : Int) then (if rdOf false x3 x4 = true then (impl_StepsUsed.j1 k x0 x3 x4 (((rd_T45 x0 x4).f0) != 1) ((rd_T45 x0 x4).f0) ((rd_T45 x0 x4).f1) ((rd_T45 x0 x4).f2) ((rd_T45 x0 x4).f3)) else (impl_StepsUsed.j1 k x0 x3 x4 false ((rd_T45 x0 x4).f0) ((rd_T45 x0 x4).f1) ((rd_T45 x0 x4).f2) ((rd_T45 x0 x4).f3))) else (none)) else (none)) else (none)) else (impl_StepsUsed.l1 k ([] : List Int) x3 (x3.length : Int) 0)
def impl_StepsUsed.j1 : Nat → List (S45) → List Bool → Int → Bool → Int → ByteArray → Int → Int → Option (List Int)
 | 0, _, _, _, _, _, _, _, _ => none
 | k + 1, x0, x3, x4, x39, x265000, x265001, x265002, x265003 => if x39 = true then (if 0 ≤ x265002 then (if x265002 < (x3.length : Int) then ((some (x3.set (x265002 : Int).toNat true : List Bool)).bind fun y266 => ((impl_isPair.f x265000).bind fun t267 => (if t267 = true then (if 0 ≤ x265003 then (if x265003 < (x3.length : Int) then (impl_StepsUsed.l0 k x0 (y266.set (x265003 : Int).toNat true) (wrap64 (x4 - 1))) else (none)) else (none)) else (impl_StepsUsed.l0 k x0 y266 (wrap64 (x4 - 1)))))) else (none)) else (none)) else (impl_StepsUsed.l0 k x0 x3 (wrap64 (x4 - 1)))
def impl_StepsUsed.l1 : Nat → List Int → List Bool → Int → Int → Option (List Int)
 | 0, _, _, _, _ => none
 | k + 1, x6, x51, x52, x53 => if x53 < x52 then (if 0 ≤ x53 then (if x53 < (x51.length : Int) then (if rdOf false x51 x53 = true then (if x6.length < 17592186044416 then (impl_StepsUsed.l1 k (x6 ++ [x53]) x51 x52 (wrap64 (x53 + 1))) else (none)) else (impl_StepsUsed.l1 k x6 x51 x52 (wrap64 (x53 + 1)))) else (none)) else (none)) else (some x6)
end
def impl_StepsUsed.f (k : Nat) (l0 : List (S45)) : Option (List Int) := (impl_IsPlay.f k l0).bind fun t258 => (if t258 = true then (if 0 ≤ (l0.length : Int) then (if ((l0.length : Int) : Int).toNat ≤ 281474976710656 then ((some (List.replicate ((l0.length : Int) : Int).toNat false : List Bool)).bind fun y259 => (if 0 ≤ (wrap64 ((l0.length : Int) - 1)) then (if (wrap64 ((l0.length : Int) - 1)) < (y259.length : Int) then (impl_StepsUsed.l0 k l0 (y259.set ((wrap64 ((l0.length : Int) - 1)) : Int).toNat true) (wrap64 ((l0.length : Int) - 1))) else (none)) else (none))) else (none)) else (none)) else (some ([] : List Int)))
set_option maxHeartbeats 8000000 in
set_option maxRecDepth 100000 in
theorem impl_StepsUsed.calls (k : Nat) (A0 : Option Addr) (c0 : Nat) (l0 : List (S45)) (r : List Int) (w : World) (hr0 : Kd.C k45 w A0 l0.length l0) (hc0 : l0.length ≤ c0) (h : impl_StepsUsed.f k l0 = some r) :
  Calls Tryd.prog 30 #[.slice A0 l0.length c0] w fun e w' => ∃ v0_ : Value, e = .returned (v0_) ∧ Kd.R (Kd.int .i64) 3 w' w.heap.size (fun _ => True) v0_ r ∧ Below w.heap.size w w' := by
 have hu45 := Tryd.underlying45
 have HR0 := Aside0.mk hr0
 have HC0 := Aside0.mk hc0
 clear hr0 hc0
 have HB := Aside0.mk (Below.refl w.heap.size w)
 have H : ((impl_IsPlay.f k l0).bind fun t258 => (if t258 = true then (if 0 ≤ (l0.length : Int) then (if ((l0.length : Int) : Int).toNat ≤ 281474976710656 then ((some (List.replicate ((l0.length : Int) : Int).toNat false : List Bool)).bind fun y259 => (if 0 ≤ (wrap64 ((l0.length : Int) - 1)) then (if (wrap64 ((l0.length : Int) - 1)) < (y259.length : Int) then (impl_StepsUsed.l0 k l0 (y259.set ((wrap64 ((l0.length : Int) - 1)) : Int).toNat true) (wrap64 ((l0.length : Int) - 1))) else (none)) else (none))) else (none)) else (none)) else (some ([] : List Int)))) = some r := h
 clear h
 replace H := Option.bind_eq_some_iff.mp H
 obtain ⟨t258, A20, H⟩ := H
 replace H : (if t258 = true then (if 0 ≤ (l0.length : Int) then (if ((l0.length : Int) : Int).toNat ≤ 281474976710656 then ((some (List.replicate ((l0.length : Int) : Int).toNat false : List Bool)).bind fun y259 => (if 0 ≤ (wrap64 ((l0.length : Int) - 1)) then (if (wrap64 ((l0.length : Int) - 1)) < (y259.length : Int) then (impl_StepsUsed.l0 k l0 (y259.set ((wrap64 ((l0.length : Int) - 1)) : Int).toNat true) (wrap64 ((l0.length : Int) - 1))) else (none)) else (none))) else (none)) else (none)) else (some ([] : List Int))) = some r := H
 have A2 := Aside0.mk A20
 clear A20
 by_cases c3 : t258 = true
 ·subst c3
  have H1 : (if 0 ≤ (l0.length : Int) then (if ((l0.length : Int) : Int).toNat ≤ 281474976710656 then ((some (List.replicate ((l0.length : Int) : Int).toNat false : List Bool)).bind fun y259 => (if 0 ≤ (wrap64 ((l0.length : Int) - 1)) then (if (wrap64 ((l0.length : Int) - 1)) < (y259.length : Int) then (impl_StepsUsed.l0 k l0 (y259.set ((wrap64 ((l0.length : Int) - 1)) : Int).toNat true) (wrap64 ((l0.length : Int) - 1))) else (none)) else (none))) else (none)) else (none)) = some r := by rw [if_pos rfl] at H; exact H
  clear H
  have H := H1
  clear H1
  by_cases c4 : 0 ≤ (l0.length : Int)
  ·rw [if_pos c4] at H
   have c4b0 := eq_true c4
   have c4b1 : decide (0 ≤ (l0.length : Int)) = true := decide_eq_true c4
   clear c4
   by_cases c5 : ((l0.length : Int) : Int).toNat ≤ 281474976710656
   ·rw [if_pos c5] at H
    have c5b0 := eq_true c5
    have c5b1 : decide (((l0.length : Int) : Int).toNat ≤ 281474976710656) = true := decide_eq_true c5
    clear c5
    obtain ⟨y259, hy259⟩ : ∃ y_ : List Bool, y_ = (List.replicate ((l0.length : Int) : Int).toNat false) := ⟨_, rfl⟩
    replace H : (if 0 ≤ (wrap64 ((l0.length : Int) - 1)) then (if (wrap64 ((l0.length : Int) - 1)) < (y259.length : Int) then (impl_StepsUsed.l0 k l0 (y259.set ((wrap64 ((l0.length : Int) - 1)) : Int).toNat true) (wrap64 ((l0.length : Int) - 1))) else (none)) else (none)) = some r := by first | (rw [hy259]; with_reducible exact H) | (have H2_ := (Option.bind_some _ _).symm.trans H; rw [hy259]; with_reducible exact H2_) | (have H2_ := (Option.bind_some _ _).symm.trans H; with_reducible exact H2_) | with_reducible exact H | (rw [hy259]; exact H) | exact H
    have Ny259 := Aside0.mk hy259
    clear hy259
    obtain ⟨ji6, hji6⟩ : ∃ j_ : Int, (wrap64 ((l0.length : Int) - 1)) = j_ := ⟨_, rfl⟩
    replace H : (if 0 ≤ (ji6) then (if (ji6) < (y259.length : Int) then (impl_StepsUsed.l0 k l0 (y259.set ((ji6) : Int).toNat true) ji6) else (none)) else (none)) = some r := by first | (rw [hji6] at H; exact H) | (simp only [hji6] at H ⊢; exact H)
    (try rw [hji6] at A2)
    have hji6w : (IntKind.i64.wrap ((l0.length : Int) - 1)) = ji6 := (i64_w _).trans hji6
    by_cases c7 : 0 ≤ (ji6)
    ·rw [if_pos c7] at H
     have c7b0 : decide (0 ≤ (ji6)) = true := decide_eq_true c7
     clear c7
     by_cases c8 : (ji6) < (y259.length : Int)
     ·rw [if_pos c8] at H
      have c8b0 : decide ((ji6) < (y259.length : Int)) = true := decide_eq_true c8
      clear c8
      obtain ⟨y262, hy262⟩ : ∃ y_ : List Bool, y_ = (y259.set ((ji6) : Int).toNat true) := ⟨_, rfl⟩
      replace H : (impl_StepsUsed.l0 k l0 y262 ji6) = some r := by first | (rw [hy262]; with_reducible exact H) | (have H2_ := (Option.bind_some _ _).symm.trans H; rw [hy262]; with_reducible exact H2_) | (have H2_ := (Option.bind_some _ _).symm.trans H; with_reducible exact H2_) | with_reducible exact H | (rw [hy262]; exact H) | exact H
      have Ny262 := Aside0.mk hy262
      clear hy262
      have H' := Aside0.mk H
      clear H
      go_enter Tryd.func30, Tryd.ntmps30
      go_wp2_with (first | ((with_reducible refine gate_callee (f := 38) rfl ?_); refine goesS (some 10) Tryd.func38 #[.slice A0 l0.length c0] ?_; (with_reducible refine (impl_IsPlay.calls k _ _ l0 true _ ?side1 ?side2 A2.out).mono ?_); (case side1 => repeat (first | exact HR0.out | (with_reducible refine Kd.C_alloc ?_ _) | (with_reducible refine Kd.C_drewN ?_ _) | (with_reducible refine Kd.C_drew ?_))); (case side2 => exact HC0.out); rintro e w10 ⟨rfl, hb⟩; refine ⟨_, rfl, ?_⟩; have n0_ := Aside0.mk (below_step BL hb); clear HB; have HB := n0_; clear n0_; (try clear hb)) | ((with_reducible refine gate_dst (N := 14) rfl ?_); refine Kd.R_make Kd.bool _ 4 rfl (N := 14) rfl 63 _ _ rfl (l0.length : Int) rfl rfl Tryd.underlying63 (.bool false) 1 info4 rfl (by decide) (by omega) false (ok := fun _ => True) (okp := fun _ => True) rfl (fun _ hk => hk) trivial (OD) (Nat.le_trans (Nat.mul_le_mul_right _ (OD : (l0.length : Int).toNat ≤ 281474976710656)) (by omega)) (Below.refl _ _) (Nat.le_refl _) ?_; intro v260 w11 ho12 hb hg_ hnew_; clear hg_ hnew_; (first | rw [← Ny259.out] at ho12 | (simp only [Int.reduceToNat] at ho12; rw [← Ny259.out] at ho12)); have n0_ := Aside0.mk (Kd.R_lower ho12 (below_size BL)); have n1_ := Aside0.mk (below_step BL hb); clear HB; have HO261 := n0_; have HB := n1_; clear n0_ n1_; clear hb ho12; have p9 : 0 ≤ ((ji6) : Int) := OD; have q9 : ((ji6) : Int) < ((y259.length : Int) : Int) := OD; obtain ⟨go9, co9, eo9, gb9, gl9, cl9, HG9⟩ := Kd.R_form HO261.out (by omega); (first | cases eo9 | (injection eo9 with ea_ en_ ec_; (first | subst ea_ | (injection ea_ with ea_; subst ea_)); subst ec_; clear en_)); have GB9 := Aside0.mk gb9; have GG9 := Aside0.mk HG9; clear gb9 gl9 HG9; obtain ⟨hx9_0, hf9_0⟩ := Kd.R_celln false HO261.out ((ji6) : Int) p9 q9; replace p9 := eq_true p9; replace q9 := eq_true q9; obtain ⟨hy13_, hz13_⟩ := Kd.R_celln false HO261.out ((ji6) : Int) (OD) (OD); have HP13 := Kd.R_putg HO261.out ((ji6) : Int) true) | ((with_reducible refine gate_store (t := 4) (p := 19) rfl ?_); refine store_event (t := 4) (p := 19) (v := ?vo_w14) (w1 := (w11.setCell ⟨go9, ((ji6) : Int).toNat, none⟩ (.bool true))) ?hg ?ho ?hn ?hr ?_; (case ho => rfl); (case hg => rfl); (case hn => rfl); (case hr => first | (go_simp; done) | (go_simp; rfl)); intro w14 hw; have hg : w11.grownBy w14 (some go9) := (by rw [hw]; exact HP13.2); have hp_ : Kd.R Kd.bool 4 w14 w.heap.size (fun _ => True) (.slice (some ⟨go9, 0, none⟩) y259.length co9) y262 := (by rw [hw, Ny262.out]; exact HP13.1); clear HP13; have n0_ := Aside0.mk (hp_); have n1_ := Aside0.mk ((by rw [hw]; exact below_set (HB.out) GB9.out : Below w.heap.size w w14)); clear HO261 HB; have HO261 := n0_; have HB := n1_; clear n0_ n1_; clear hg hw hp_))
      go_loopg [4] k (fun kq v4 w' => ∃ (x3_1 : List Bool) (x4_1 : Int), v4 = .int .i64 x4_1 ∧ Aside0 (impl_StepsUsed.l0 kq l0 x3_1 x4_1 = some r) ∧ Aside0 (kq ≤ k) ∧ Aside0 (Kd.R Kd.bool 4 w' w.heap.size (fun _ => True) (.slice (some ⟨go9, 0, none⟩) y259.length co9) x3_1) ∧ Aside0 (Below w.heap.size w w'))
      case atStart => exact ⟨(y262), (ji6), (by first | rfl | (simp; done) | (simp only [← hji6] <;> (first | rfl | simp)) | (simp [*]; done)), H', ⟨Nat.le_refl _⟩, ⟨(RR HO261)⟩, ⟨BL⟩⟩
      case round =>
       clear H'
       try clear c3
       try clear c4
       try clear c4b0
       try clear c4b1
       try clear c5
       try clear c5b0
       try clear c5b1
       try clear c7
       try clear c7b0
       try clear c8
       try clear c8b0
       try clear p9
       try clear q9
       try clear hx9_0
       try clear p9
       try clear q9
       obtain ⟨x3_1, x4_1, rfl, HA, HK1, HO_3, HB⟩ := hrel
       have hl3_1 := (Kd.R_reads' HO_3.out).1
       rw [hl3_1] at HO_3
       (try simp only [hl3_1])
       cases gk with
       | zero => exact absurd HA.out (by simp [impl_StepsUsed.l0])
       | succ k1 =>
        have H := HA.out
        clear HA
        simp only [impl_StepsUsed.l0] at H
        by_cases c15 : x4_1 ≥ 0
        ·rw [if_pos c15] at H
         have c15b0 : decide (0 ≤ x4_1) = true := decide_eq_true c15
         clear c15
         by_cases c16 : 0 ≤ x4_1
         ·rw [if_pos c16] at H
          have c16b0 : decide (0 ≤ x4_1) = true := decide_eq_true c16
          clear c16
          by_cases c17 : x4_1 < (l0.length : Int)
          ·rw [if_pos c17] at H
           have c17b0 : decide (x4_1 < (l0.length : Int)) = true := decide_eq_true c17
           clear c17
           have HC18 := Aside0.mk H
           clear H
           have p263 : 0 ≤ (x4_1 : Int) := OD
           have q263 : x4_1 < (l0.length : Int) := OD
           obtain ⟨ad263, e263, hx263_0, hx263_1, hx263_2, hx263_3⟩ := at_T45 HR0.out x4_1 p263 q263
           cases e263
           replace hx263_0 := (HB.out.cell (World.block_lt_of_cell? w _ hx263_0)).trans hx263_0
           replace hx263_1 := (HB.out.cell (World.block_lt_of_cell? w _ hx263_1)).trans hx263_1
           replace hx263_2 := (HB.out.cell (World.block_lt_of_cell? w _ hx263_2)).trans hx263_2
           replace hx263_3 := (HB.out.cell (World.block_lt_of_cell? w _ hx263_3)).trans hx263_3
           replace p263 := eq_true p263
           replace q263 := eq_true q263
           go_upto_region 9 with (first | ((with_reducible refine gate_dst (N := 5) rfl ?_); refine box_ev (N := 5) (cs := #[.int .i64 0, .string (⟨#[]⟩ : ByteArray), .int .i64 0, .int .i64 0]) (t := 45) ?_; intro gb264 hg w19 hbox hb; have n0_ := Aside0.mk (Kd.R_below (RR HO_3) hb); have n1_ := Aside0.mk (below_step BL hb); have n2_ := Aside0.mk (hbox); have n3_ := SZ (w := w) hg; have n4_ := SZ (w := w) hg; clear HO_3 HB; have HO_3 := n0_; have HB := n1_; have BK264 := n2_; have GW264 := n3_; have GE264 := n4_; clear n0_ n1_ n2_ n3_ n4_; clear hb hbox hg; obtain ⟨hcz20_0, hcz20_1, hcz20_2, hcz20_3, hfz20_0, hfz20_1, hfz20_2, hfz20_3⟩ := cz4 BK264.out))
           (try simp only [Act.put, List.setIfInBounds_toArray, List.set_cons_zero, List.set_cons_succ])
           go_cut [39] (fun v39 wc => ∃ (kq : Nat) (x39_17 : Bool), v39 = .bool x39_17 ∧ Aside0 (impl_StepsUsed.j1 kq l0 x3_1 x4_1 x39_17 ((rd_T45 l0 x4_1).f0) ((rd_T45 l0 x4_1).f1) ((rd_T45 l0 x4_1).f2) ((rd_T45 l0 x4_1).f3) = some r) ∧ Aside0 (kq ≤ k1) ∧ Aside0 (Kd.R Kd.bool 4 wc w.heap.size (fun _ => True) (.slice (some ⟨go9, 0, none⟩) x3_1.length co9) x3_1) ∧ Aside0 (wc.heap[gb264]? = some (.cells #[.int .i64 ((rd_T45 l0 x4_1).f0), .string ((rd_T45 l0 x4_1).f1), .int .i64 ((rd_T45 l0 x4_1).f2), .int .i64 ((rd_T45 l0 x4_1).f3)] 45 (0, 0))) ∧ Aside0 (Below w.heap.size w wc))
           case first =>
            have H := HC18.out
            clear HC18
            by_cases c21 : x4_1 < (x3_1.length : Int)
            ·rw [if_pos c21] at H
             have c21b0 : decide (x4_1 < (x3_1.length : Int)) = true := decide_eq_true c21
             clear c21
             (first | rw [c21b0] | (simp only [i64_w, i32_w]; rw [c21b0]) | skip)
             obtain ⟨bq22, hbq22⟩ : ∃ b_ : Bool, b_ = (rdOf false x3_1 x4_1) := ⟨_, rfl⟩
             replace H : (if bq22 = true then (impl_StepsUsed.j1 k1 l0 x3_1 x4_1 (((rd_T45 l0 x4_1).f0) != 1) ((rd_T45 l0 x4_1).f0) ((rd_T45 l0 x4_1).f1) ((rd_T45 l0 x4_1).f2) ((rd_T45 l0 x4_1).f3)) else (impl_StepsUsed.j1 k1 l0 x3_1 x4_1 false ((rd_T45 l0 x4_1).f0) ((rd_T45 l0 x4_1).f1) ((rd_T45 l0 x4_1).f2) ((rd_T45 l0 x4_1).f3))) = some r := by rw [← hbq22] at H; exact H
             have Nbq22 := Aside0.mk hbq22
             clear hbq22
             by_cases c23 : bq22 = true
             ·subst c23
              have H1 : (impl_StepsUsed.j1 k1 l0 x3_1 x4_1 (((rd_T45 l0 x4_1).f0) != 1) ((rd_T45 l0 x4_1).f0) ((rd_T45 l0 x4_1).f1) ((rd_T45 l0 x4_1).f2) ((rd_T45 l0 x4_1).f3)) = some r := by rw [if_pos rfl] at H; exact H
              clear H
              have H := H1
              clear H1
              have H' := Aside0.mk H
              clear H
              have p265 : 0 ≤ (x4_1 : Int) := OD
              have q265 : x4_1 < (x3_1.length : Int) := OD
              obtain ⟨ad265, e265, hx265_0⟩ := Kd.at_bool (Kd.R_reads' HO_3.out).2.2 x4_1 p265 q265
              (try rw [← Nbq22.out] at hx265_0)
              obtain rfl : (⟨go9, 0, none⟩ : Addr) = ad265 := (by injection e265)
              (first | simp only [add_plain] at hx265_0 | simp only [add_at] at hx265_0 | simp only [Addr.add, Nat.zero_add] at hx265_0 | skip)
              have hn265_0 : (⟨go9, 0, none⟩ : Addr).block ≠ gb264 := Kd.own_blk (Kd.R_ne HO_3.out BK264.out (by decide))
              have hn265_1 : (⟨go9, 0, none⟩ : Addr).block ≠ gb264 := Kd.own_blk (Kd.R_ne HO_3.out BK264.out (by decide))
              have hn265_2 : (⟨go9, 0, none⟩ : Addr).block ≠ gb264 := Kd.own_blk (Kd.R_ne HO_3.out BK264.out (by decide))
              have hn265_3 : (⟨go9, 0, none⟩ : Addr).block ≠ gb264 := Kd.own_blk (Kd.R_ne HO_3.out BK264.out (by decide))
              replace hx265_0 := (cell_far (p := ⟨gb264, 0, none⟩) (by first | (rw [add_block]; exact hn265_0) | (show (Addr.add _ _).block ≠ _; rw [add_block]; exact hn265_0) | exact hn265_0) (.int .i64 ((rd_T45 l0 x4_1).f0))).trans hx265_0
              replace hx265_0 := (cell_far (p := ⟨gb264, 1, none⟩) (by first | (rw [add_block]; exact hn265_1) | (show (Addr.add _ _).block ≠ _; rw [add_block]; exact hn265_1) | exact hn265_1) (.string ((rd_T45 l0 x4_1).f1))).trans hx265_0
              replace hx265_0 := (cell_far (p := ⟨gb264, 2, none⟩) (by first | (rw [add_block]; exact hn265_2) | (show (Addr.add _ _).block ≠ _; rw [add_block]; exact hn265_2) | exact hn265_2) (.int .i64 ((rd_T45 l0 x4_1).f2))).trans hx265_0
              replace hx265_0 := (cell_far (p := ⟨gb264, 3, none⟩) (by first | (rw [add_block]; exact hn265_3) | (show (Addr.add _ _).block ≠ _; rw [add_block]; exact hn265_3) | exact hn265_3) (.int .i64 ((rd_T45 l0 x4_1).f3))).trans hx265_0
              clear hn265_0
              clear hn265_1
              clear hn265_2
              clear hn265_3
              replace p265 := eq_true p265
              replace q265 := eq_true q265
              obtain ⟨hcz24_0, hcz24_1, hcz24_2, hcz24_3, hfz24_0, hfz24_1, hfz24_2, hfz24_3⟩ := cz4 BK264.out
              go_wp2
              go_meet
              case rel => exact ⟨_, ((((rd_T45 l0 x4_1).f0) != 1)), EQ, H', ⟨by have := HK1.out; first | omega | exact Nat.le_refl _⟩, ⟨by (try simp only [hl3_1]); (with_reducible repeat (first | apply Kd.R_alloc | apply Kd.R_drewN | apply Kd.R_drew)); exact Kd.R_mono (Kd.R_far (p := ⟨gb264, 3, none⟩) (Kd.R_far (p := ⟨gb264, 2, none⟩) (Kd.R_far (p := ⟨gb264, 1, none⟩) (Kd.R_far (p := ⟨gb264, 0, none⟩) (Kd.R_types HO_3.out BK264.out (by decide)) (fun _ hk => hk.2) (.int .i64 ((rd_T45 l0 x4_1).f0))) (fun _ hk => hk.2) (.string ((rd_T45 l0 x4_1).f1))) (fun _ hk => hk.2) (.int .i64 ((rd_T45 l0 x4_1).f2))) (fun _ hk => hk.2) (.int .i64 ((rd_T45 l0 x4_1).f3))) (fun _ hk => trivial)⟩, ⟨by (try simp only [hl3_1]); (with_reducible repeat (first | refine blk_drewN ?_ _ | refine blk_drew ?_ | refine blk_alloc ?_ _)); refine blk_put (cs := #[.int .i64 ((rd_T45 l0 x4_1).f0), .string ((rd_T45 l0 x4_1).f1), .int .i64 ((rd_T45 l0 x4_1).f2), .int .i64 0]) ?_ 3 _ rfl; (with_reducible repeat (first | refine blk_drewN ?_ _ | refine blk_drew ?_ | refine blk_alloc ?_ _)); refine blk_put (cs := #[.int .i64 ((rd_T45 l0 x4_1).f0), .string ((rd_T45 l0 x4_1).f1), .int .i64 0, .int .i64 0]) ?_ 2 _ rfl; (with_reducible repeat (first | refine blk_drewN ?_ _ | refine blk_drew ?_ | refine blk_alloc ?_ _)); refine blk_put (cs := #[.int .i64 ((rd_T45 l0 x4_1).f0), .string (⟨#[]⟩ : ByteArray), .int .i64 0, .int .i64 0]) ?_ 1 _ rfl; (with_reducible repeat (first | refine blk_drewN ?_ _ | refine blk_drew ?_ | refine blk_alloc ?_ _)); refine blk_put (cs := #[.int .i64 0, .string (⟨#[]⟩ : ByteArray), .int .i64 0, .int .i64 0]) ?_ 0 _ rfl; (with_reducible repeat (first | refine blk_drewN ?_ _ | refine blk_drew ?_ | refine blk_alloc ?_ _)); exact BK264.out⟩, ⟨BL⟩⟩
             ·replace c23 := Bool.eq_false_iff.mpr c23
              subst c23
              have H1 : (impl_StepsUsed.j1 k1 l0 x3_1 x4_1 false ((rd_T45 l0 x4_1).f0) ((rd_T45 l0 x4_1).f1) ((rd_T45 l0 x4_1).f2) ((rd_T45 l0 x4_1).f3)) = some r := by rw [if_neg (show ¬ (false = true) by decide)] at H; exact H
              clear H
              have H := H1
              clear H1
              have H' := Aside0.mk H
              clear H
              have p265 : 0 ≤ (x4_1 : Int) := OD
              have q265 : x4_1 < (x3_1.length : Int) := OD
              obtain ⟨ad265, e265, hx265_0⟩ := Kd.at_bool (Kd.R_reads' HO_3.out).2.2 x4_1 p265 q265
              (try rw [← Nbq22.out] at hx265_0)
              obtain rfl : (⟨go9, 0, none⟩ : Addr) = ad265 := (by injection e265)
              (first | simp only [add_plain] at hx265_0 | simp only [add_at] at hx265_0 | simp only [Addr.add, Nat.zero_add] at hx265_0 | skip)
              have hn265_0 : (⟨go9, 0, none⟩ : Addr).block ≠ gb264 := Kd.own_blk (Kd.R_ne HO_3.out BK264.out (by decide))
              have hn265_1 : (⟨go9, 0, none⟩ : Addr).block ≠ gb264 := Kd.own_blk (Kd.R_ne HO_3.out BK264.out (by decide))
              have hn265_2 : (⟨go9, 0, none⟩ : Addr).block ≠ gb264 := Kd.own_blk (Kd.R_ne HO_3.out BK264.out (by decide))
              have hn265_3 : (⟨go9, 0, none⟩ : Addr).block ≠ gb264 := Kd.own_blk (Kd.R_ne HO_3.out BK264.out (by decide))
              replace hx265_0 := (cell_far (p := ⟨gb264, 0, none⟩) (by first | (rw [add_block]; exact hn265_0) | (show (Addr.add _ _).block ≠ _; rw [add_block]; exact hn265_0) | exact hn265_0) (.int .i64 ((rd_T45 l0 x4_1).f0))).trans hx265_0
              replace hx265_0 := (cell_far (p := ⟨gb264, 1, none⟩) (by first | (rw [add_block]; exact hn265_1) | (show (Addr.add _ _).block ≠ _; rw [add_block]; exact hn265_1) | exact hn265_1) (.string ((rd_T45 l0 x4_1).f1))).trans hx265_0
              replace hx265_0 := (cell_far (p := ⟨gb264, 2, none⟩) (by first | (rw [add_block]; exact hn265_2) | (show (Addr.add _ _).block ≠ _; rw [add_block]; exact hn265_2) | exact hn265_2) (.int .i64 ((rd_T45 l0 x4_1).f2))).trans hx265_0
              replace hx265_0 := (cell_far (p := ⟨gb264, 3, none⟩) (by first | (rw [add_block]; exact hn265_3) | (show (Addr.add _ _).block ≠ _; rw [add_block]; exact hn265_3) | exact hn265_3) (.int .i64 ((rd_T45 l0 x4_1).f3))).trans hx265_0
              clear hn265_0
              clear hn265_1
              clear hn265_2
              clear hn265_3
              replace p265 := eq_true p265
              replace q265 := eq_true q265
              go_wp2
              go_meet
              case rel => exact ⟨_, (false), EQ, H', ⟨by have := HK1.out; first | omega | exact Nat.le_refl _⟩, ⟨by (try simp only [hl3_1]); (with_reducible repeat (first | apply Kd.R_alloc | apply Kd.R_drewN | apply Kd.R_drew)); exact Kd.R_mono (Kd.R_far (p := ⟨gb264, 3, none⟩) (Kd.R_far (p := ⟨gb264, 2, none⟩) (Kd.R_far (p := ⟨gb264, 1, none⟩) (Kd.R_far (p := ⟨gb264, 0, none⟩) (Kd.R_types HO_3.out BK264.out (by decide)) (fun _ hk => hk.2) (.int .i64 ((rd_T45 l0 x4_1).f0))) (fun _ hk => hk.2) (.string ((rd_T45 l0 x4_1).f1))) (fun _ hk => hk.2) (.int .i64 ((rd_T45 l0 x4_1).f2))) (fun _ hk => hk.2) (.int .i64 ((rd_T45 l0 x4_1).f3))) (fun _ hk => trivial)⟩, ⟨by (try simp only [hl3_1]); (with_reducible repeat (first | refine blk_drewN ?_ _ | refine blk_drew ?_ | refine blk_alloc ?_ _)); refine blk_put (cs := #[.int .i64 ((rd_T45 l0 x4_1).f0), .string ((rd_T45 l0 x4_1).f1), .int .i64 ((rd_T45 l0 x4_1).f2), .int .i64 0]) ?_ 3 _ rfl; (with_reducible repeat (first | refine blk_drewN ?_ _ | refine blk_drew ?_ | refine blk_alloc ?_ _)); refine blk_put (cs := #[.int .i64 ((rd_T45 l0 x4_1).f0), .string ((rd_T45 l0 x4_1).f1), .int .i64 0, .int .i64 0]) ?_ 2 _ rfl; (with_reducible repeat (first | refine blk_drewN ?_ _ | refine blk_drew ?_ | refine blk_alloc ?_ _)); refine blk_put (cs := #[.int .i64 ((rd_T45 l0 x4_1).f0), .string (⟨#[]⟩ : ByteArray), .int .i64 0, .int .i64 0]) ?_ 1 _ rfl; (with_reducible repeat (first | refine blk_drewN ?_ _ | refine blk_drew ?_ | refine blk_alloc ?_ _)); refine blk_put (cs := #[.int .i64 0, .string (⟨#[]⟩ : ByteArray), .int .i64 0, .int .i64 0]) ?_ 0 _ rfl; (with_reducible repeat (first | refine blk_drewN ?_ _ | refine blk_drew ?_ | refine blk_alloc ?_ _)); exact BK264.out⟩, ⟨BL⟩⟩
            ·rw [if_neg c21] at H
             exact absurd H (by simp)
           case rest =>
            clear HC18
            try clear c3
            try clear c4
            try clear c4b0
            try clear c4b1
            try clear c5
            try clear c5b0
            try clear c5b1
            try clear c7
            try clear c7b0
            try clear c8
            try clear c8b0
            try clear p9
            try clear q9
            try clear c15
            try clear c15b0
            try clear c16
            try clear c16b0
            try clear c17
            try clear c17b0
            try clear hcz20_0
            try clear hcz20_1
            try clear hcz20_2
            try clear hcz20_3
            try clear hfz20_0
            try clear hfz20_1
            try clear hfz20_2
            try clear hfz20_3
            try clear hx263_0
            try clear hx263_1
            try clear hx263_2
            try clear hx263_3
            try clear hx9_0
            try clear p263
            try clear p9
            try clear q263
            try clear q9
            obtain ⟨kq, x39_17, rfl, HA, HJ17, HO_3, BK264, HB⟩ := hcut
            cases kq with
            | zero => exact absurd HA.out (by simp [impl_StepsUsed.j1])
            | succ kj17 =>
             have H := HA.out
             clear HA
             simp only [impl_StepsUsed.j1] at H
             by_cases c25 : x39_17 = true
             ·subst c25
              have H1 : (if 0 ≤ ((rd_T45 l0 x4_1).f2) then (if ((rd_T45 l0 x4_1).f2) < (x3_1.length : Int) then ((some (x3_1.set (((rd_T45 l0 x4_1).f2) : Int).toNat true : List Bool)).bind fun y266 => ((impl_isPair.f ((rd_T45 l0 x4_1).f0)).bind fun t267 => (if t267 = true then (if 0 ≤ ((rd_T45 l0 x4_1).f3) then (if ((rd_T45 l0 x4_1).f3) < (x3_1.length : Int) then (impl_StepsUsed.l0 kj17 l0 (y266.set (((rd_T45 l0 x4_1).f3) : Int).toNat true) (wrap64 (x4_1 - 1))) else (none)) else (none)) else (impl_StepsUsed.l0 kj17 l0 y266 (wrap64 (x4_1 - 1)))))) else (none)) else (none)) = some r := by rw [if_pos rfl] at H; exact H
              clear H
              have H := H1
              clear H1
              by_cases c26 : 0 ≤ ((rd_T45 l0 x4_1).f2)
              ·rw [if_pos c26] at H
               have c26b0 : decide (0 ≤ ((rd_T45 l0 x4_1).f2)) = true := decide_eq_true c26
               clear c26
               by_cases c27 : ((rd_T45 l0 x4_1).f2) < (x3_1.length : Int)
               ·rw [if_pos c27] at H
                have c27b0 : decide (((rd_T45 l0 x4_1).f2) < (x3_1.length : Int)) = true := decide_eq_true c27
                clear c27
                obtain ⟨y266, hy266⟩ : ∃ y_ : List Bool, y_ = (x3_1.set (((rd_T45 l0 x4_1).f2) : Int).toNat true) := ⟨_, rfl⟩
                replace H : ((impl_isPair.f ((rd_T45 l0 x4_1).f0)).bind fun t267 => (if t267 = true then (if 0 ≤ ((rd_T45 l0 x4_1).f3) then (if ((rd_T45 l0 x4_1).f3) < (x3_1.length : Int) then (impl_StepsUsed.l0 kj17 l0 (y266.set (((rd_T45 l0 x4_1).f3) : Int).toNat true) (wrap64 (x4_1 - 1))) else (none)) else (none)) else (impl_StepsUsed.l0 kj17 l0 y266 (wrap64 (x4_1 - 1))))) = some r := by first | (rw [hy266]; with_reducible exact H) | (have H2_ := (Option.bind_some _ _).symm.trans H; rw [hy266]; with_reducible exact H2_) | (have H2_ := (Option.bind_some _ _).symm.trans H; with_reducible exact H2_) | with_reducible exact H | (rw [hy266]; exact H) | exact H
                have Ny266 := Aside0.mk hy266
                clear hy266
                replace H := Option.bind_eq_some_iff.mp H
                obtain ⟨t267, A290, H⟩ := H
                replace H : (if t267 = true then (if 0 ≤ ((rd_T45 l0 x4_1).f3) then (if ((rd_T45 l0 x4_1).f3) < (x3_1.length : Int) then (impl_StepsUsed.l0 kj17 l0 (y266.set (((rd_T45 l0 x4_1).f3) : Int).toNat true) (wrap64 (x4_1 - 1))) else (none)) else (none)) else (impl_StepsUsed.l0 kj17 l0 y266 (wrap64 (x4_1 - 1)))) = some r := H
                have A29 := Aside0.mk A290
                clear A290
                by_cases c30 : t267 = true
                ·subst c30
                 have H1 : (if 0 ≤ ((rd_T45 l0 x4_1).f3) then (if ((rd_T45 l0 x4_1).f3) < (x3_1.length : Int) then (impl_StepsUsed.l0 kj17 l0 (y266.set (((rd_T45 l0 x4_1).f3) : Int).toNat true) (wrap64 (x4_1 - 1))) else (none)) else (none)) = some r := by rw [if_pos rfl] at H; exact H
                 clear H
                 have H := H1
                 clear H1
                 by_cases c31 : 0 ≤ ((rd_T45 l0 x4_1).f3)
                 ·rw [if_pos c31] at H
                  have c31b0 : decide (0 ≤ ((rd_T45 l0 x4_1).f3)) = true := decide_eq_true c31
                  clear c31
                  by_cases c32 : ((rd_T45 l0 x4_1).f3) < (x3_1.length : Int)
                  ·rw [if_pos c32] at H
                   have c32b0 : decide (((rd_T45 l0 x4_1).f3) < (x3_1.length : Int)) = true := decide_eq_true c32
                   clear c32
                   obtain ⟨y268, hy268⟩ : ∃ y_ : List Bool, y_ = (y266.set (((rd_T45 l0 x4_1).f3) : Int).toNat true) := ⟨_, rfl⟩
                   replace H : (impl_StepsUsed.l0 kj17 l0 y268 (wrap64 (x4_1 - 1))) = some r := by first | (rw [hy268]; with_reducible exact H) | (have H2_ := (Option.bind_some _ _).symm.trans H; rw [hy268]; with_reducible exact H2_) | (have H2_ := (Option.bind_some _ _).symm.trans H; with_reducible exact H2_) | with_reducible exact H | (rw [hy268]; exact H) | exact H
                   have Ny268 := Aside0.mk hy268
                   clear hy268
                   have H' := Aside0.mk H
                   clear H
                   obtain ⟨hcz34_0, hcz34_1, hcz34_2, hcz34_3, hfz34_0, hfz34_1, hfz34_2, hfz34_3⟩ := cz4 BK264.out
                   have p28 : 0 ≤ (((rd_T45 l0 x4_1).f2) : Int) := OD
                   have q28 : (((rd_T45 l0 x4_1).f2) : Int) < ((x3_1.length : Int) : Int) := OD
                   obtain ⟨hx28_0, hf28_0⟩ := Kd.R_celln false HO_3.out (((rd_T45 l0 x4_1).f2) : Int) p28 q28
                   replace p28 := eq_true p28
                   replace q28 := eq_true q28
                   have HP35 := Kd.R_putg HO_3.out (((rd_T45 l0 x4_1).f2) : Int) true
                   go_wp2_with (first | ((with_reducible refine gate_store (t := 4) (p := 43) rfl ?_); refine store_event (t := 4) (p := 43) (v := ?vo_w36) (w1 := (wc.setCell ⟨go9, (((rd_T45 l0 x4_1).f2) : Int).toNat, none⟩ (.bool true))) ?hg ?ho ?hn ?hr ?_; (case ho => rfl); (case hg => rfl); (case hn => rfl); (case hr => first | (go_simp; done) | (go_simp; rfl)); intro w36 hw; have hg : wc.grownBy w36 (some go9) := (by rw [hw]; exact HP35.2); have hp_ : Kd.R Kd.bool 4 w36 w.heap.size (fun _ => True) (.slice (some ⟨go9, 0, none⟩) x3_1.length co9) y266 := (by rw [hw, Ny266.out]; exact HP35.1); clear HP35; have n0_ := Aside0.mk (hp_); have n1_ := Aside0.mk (blk_grown (g := gb264) (o := .cells #[.int .i64 ((rd_T45 l0 x4_1).f0), .string ((rd_T45 l0 x4_1).f1), .int .i64 ((rd_T45 l0 x4_1).f2), .int .i64 ((rd_T45 l0 x4_1).f3)] 45 (0, 0)) BK hg (Kd.R_ne HO_3.out BK264.out (by decide))); have n2_ := Aside0.mk ((by rw [hw]; exact below_set (HB.out) GB9.out : Below w.heap.size w w36)); clear HO_3 BK264 HB; have HO_3 := n0_; have BK264 := n1_; have HB := n2_; clear n0_ n1_ n2_; clear hg hw hp_; obtain ⟨hcz37_0, hcz37_1, hcz37_2, hcz37_3, hfz37_0, hfz37_1, hfz37_2, hfz37_3⟩ := cz4 BK264.out) | ((with_reducible refine gate_callee (f := 47) rfl ?_); refine goesS (some 46) Tryd.func47 #[.int .i64 ((rd_T45 l0 x4_1).f0)] ?_; (with_reducible refine (impl_isPair.calls ((rd_T45 l0 x4_1).f0) true _ A29.out).mono ?_); rintro e w' ⟨rfl, ⟨nd, rfl⟩⟩; refine ⟨_, rfl, ?_⟩; (try (rw [drewN_self w36]; generalize hq_ : World.drewN w36 _ = w36; have n0_ : Aside0 (Kd.R Kd.bool 4 w36 w.heap.size (fun _ => True) (.slice (some ⟨go9, 0, none⟩) x3_1.length co9) y266) := ⟨by rw [← hq_]; exact (RR HO_3)⟩; have n1_ : Aside0 (w36.heap[gb264]? = some (.cells #[.int .i64 ((rd_T45 l0 x4_1).f0), .string ((rd_T45 l0 x4_1).f1), .int .i64 ((rd_T45 l0 x4_1).f2), .int .i64 ((rd_T45 l0 x4_1).f3)] 45 (0, 0))) := ⟨by rw [← hq_]; exact BK⟩; have n2_ : Aside0 (Below w.heap.size w w36) := ⟨by rw [← hq_]; exact BL⟩; clear HO_3 BK264 HB hq_; have HO_3 := n0_; have BK264 := n1_; have HB := n2_; clear n0_ n1_ n2_)); obtain ⟨hcz37_0, hcz37_1, hcz37_2, hcz37_3, hfz37_0, hfz37_1, hfz37_2, hfz37_3⟩ := cz4 BK264.out; have p33 : 0 ≤ (((rd_T45 l0 x4_1).f3) : Int) := OD; have q33 : (((rd_T45 l0 x4_1).f3) : Int) < ((x3_1.length : Int) : Int) := OD; obtain ⟨hx33_0, hf33_0⟩ := Kd.R_celln false HO_3.out (((rd_T45 l0 x4_1).f3) : Int) p33 q33; replace p33 := eq_true p33; replace q33 := eq_true q33; obtain ⟨hy38_, hz38_⟩ := Kd.R_celln false HO_3.out (((rd_T45 l0 x4_1).f3) : Int) (OD) (OD); have HP38 := Kd.R_putg HO_3.out (((rd_T45 l0 x4_1).f3) : Int) true) | ((with_reducible refine gate_store (t := 4) (p := 50) rfl ?_); refine store_event (t := 4) (p := 50) (v := ?vo_w39) (w1 := (w36.setCell ⟨go9, (((rd_T45 l0 x4_1).f3) : Int).toNat, none⟩ (.bool true))) ?hg ?ho ?hn ?hr ?_; (case ho => rfl); (case hg => rfl); (case hn => rfl); (case hr => first | (go_simp; done) | (go_simp; rfl)); intro w39 hw; have hg : w36.grownBy w39 (some go9) := (by rw [hw]; exact HP38.2); have hp_ : Kd.R Kd.bool 4 w39 w.heap.size (fun _ => True) (.slice (some ⟨go9, 0, none⟩) x3_1.length co9) y268 := (by rw [hw, Ny268.out]; exact HP38.1); clear HP38; have n0_ := Aside0.mk (hp_); have n1_ := Aside0.mk (blk_grown (g := gb264) (o := .cells #[.int .i64 ((rd_T45 l0 x4_1).f0), .string ((rd_T45 l0 x4_1).f1), .int .i64 ((rd_T45 l0 x4_1).f2), .int .i64 ((rd_T45 l0 x4_1).f3)] 45 (0, 0)) BK hg (Kd.R_ne HO_3.out BK264.out (by decide))); have n2_ := Aside0.mk ((by rw [hw]; exact below_set (HB.out) GB9.out : Below w.heap.size w w39)); clear HO_3 BK264 HB; have HO_3 := n0_; have BK264 := n1_; have HB := n2_; clear n0_ n1_ n2_; clear hg hw hp_))
                   (try simp only [← hl3_1])
                   go_roundg kj17
                   case measure => have := HK1.out; have := HJ17.out; omega
                   case rel => exact ⟨(y268), (wrap64 (x4_1 - 1)), EQ, H', ⟨by have := HK1.out; have := HJ17.out; omega⟩, ⟨by (try simp only [hl3_1]); (with_reducible repeat (first | apply Kd.R_alloc | apply Kd.R_drewN | apply Kd.R_drew)); exact HO_3.out⟩, ⟨BL⟩⟩
                  ·rw [if_neg c32] at H
                   exact absurd H (by simp)
                 ·rw [if_neg c31] at H
                  exact absurd H (by simp)
                ·replace c30 := Bool.eq_false_iff.mpr c30
                 subst c30
                 have H1 : (impl_StepsUsed.l0 kj17 l0 y266 (wrap64 (x4_1 - 1))) = some r := by rw [if_neg (show ¬ (false = true) by decide)] at H; exact H
                 clear H
                 have H := H1
                 clear H1
                 have H' := Aside0.mk H
                 clear H
                 obtain ⟨hcz40_0, hcz40_1, hcz40_2, hcz40_3, hfz40_0, hfz40_1, hfz40_2, hfz40_3⟩ := cz4 BK264.out
                 have p28 : 0 ≤ (((rd_T45 l0 x4_1).f2) : Int) := OD
                 have q28 : (((rd_T45 l0 x4_1).f2) : Int) < ((x3_1.length : Int) : Int) := OD
                 obtain ⟨hx28_0, hf28_0⟩ := Kd.R_celln false HO_3.out (((rd_T45 l0 x4_1).f2) : Int) p28 q28
                 replace p28 := eq_true p28
                 replace q28 := eq_true q28
                 have HP41 := Kd.R_putg HO_3.out (((rd_T45 l0 x4_1).f2) : Int) true
                 go_wp2_with (first | ((with_reducible refine gate_store (t := 4) (p := 43) rfl ?_); refine store_event (t := 4) (p := 43) (v := ?vo_w42) (w1 := (wc.setCell ⟨go9, (((rd_T45 l0 x4_1).f2) : Int).toNat, none⟩ (.bool true))) ?hg ?ho ?hn ?hr ?_; (case ho => rfl); (case hg => rfl); (case hn => rfl); (case hr => first | (go_simp; done) | (go_simp; rfl)); intro w42 hw; have hg : wc.grownBy w42 (some go9) := (by rw [hw]; exact HP41.2); have hp_ : Kd.R Kd.bool 4 w42 w.heap.size (fun _ => True) (.slice (some ⟨go9, 0, none⟩) x3_1.length co9) y266 := (by rw [hw, Ny266.out]; exact HP41.1); clear HP41; have n0_ := Aside0.mk (hp_); have n1_ := Aside0.mk (blk_grown (g := gb264) (o := .cells #[.int .i64 ((rd_T45 l0 x4_1).f0), .string ((rd_T45 l0 x4_1).f1), .int .i64 ((rd_T45 l0 x4_1).f2), .int .i64 ((rd_T45 l0 x4_1).f3)] 45 (0, 0)) BK hg (Kd.R_ne HO_3.out BK264.out (by decide))); have n2_ := Aside0.mk ((by rw [hw]; exact below_set (HB.out) GB9.out : Below w.heap.size w w42)); clear HO_3 BK264 HB; have HO_3 := n0_; have BK264 := n1_; have HB := n2_; clear n0_ n1_ n2_; clear hg hw hp_; obtain ⟨hcz43_0, hcz43_1, hcz43_2, hcz43_3, hfz43_0, hfz43_1, hfz43_2, hfz43_3⟩ := cz4 BK264.out) | ((with_reducible refine gate_callee (f := 47) rfl ?_); refine goesS (some 46) Tryd.func47 #[.int .i64 ((rd_T45 l0 x4_1).f0)] ?_; (with_reducible refine (impl_isPair.calls ((rd_T45 l0 x4_1).f0) false _ A29.out).mono ?_); rintro e w' ⟨rfl, ⟨nd, rfl⟩⟩; refine ⟨_, rfl, ?_⟩))
                 (try simp only [← hl3_1])
                 go_roundg kj17
                 case measure => have := HK1.out; have := HJ17.out; omega
                 case rel => exact ⟨(y266), (wrap64 (x4_1 - 1)), EQ, H', ⟨by have := HK1.out; have := HJ17.out; omega⟩, ⟨by (try simp only [hl3_1]); (with_reducible repeat (first | apply Kd.R_alloc | apply Kd.R_drewN | apply Kd.R_drew)); exact HO_3.out⟩, ⟨BL⟩⟩
               ·rw [if_neg c27] at H
                exact absurd H (by simp)
              ·rw [if_neg c26] at H
               exact absurd H (by simp)
             ·replace c25 := Bool.eq_false_iff.mpr c25
              subst c25
              have H1 : (impl_StepsUsed.l0 kj17 l0 x3_1 (wrap64 (x4_1 - 1))) = some r := by rw [if_neg (show ¬ (false = true) by decide)] at H; exact H
              clear H
              have H := H1
              clear H1
              have H' := Aside0.mk H
              clear H
              go_wp2
              (try simp only [← hl3_1])
              go_roundg kj17
              case measure => have := HK1.out; have := HJ17.out; omega
              case rel => exact ⟨(x3_1), (wrap64 (x4_1 - 1)), EQ, H', ⟨by have := HK1.out; have := HJ17.out; omega⟩, ⟨by (try simp only [hl3_1]); (with_reducible repeat (first | apply Kd.R_alloc | apply Kd.R_drewN | apply Kd.R_drew)); exact HO_3.out⟩, ⟨BL⟩⟩
          ·rw [if_neg c17] at H
           exact absurd H (by simp)
         ·rw [if_neg c16] at H
          exact absurd H (by simp)
        ·rw [if_neg c15] at H
         have c15b0 : decide (0 ≤ x4_1) = false := decide_eq_false c15
         clear c15
         have H' := Aside0.mk H
         clear H
         go_wp2
         go_loopg [6, 53] k1 (fun kq v6 v53 w' => ∃ (x6_2 : List Int) (x53_2 : Int), v53 = .int .i64 x53_2 ∧ Aside0 (impl_StepsUsed.l1 kq x6_2 x3_1 (x3_1.length : Int) x53_2 = some r) ∧ Aside0 (kq ≤ k1) ∧ Aside0 (Kd.R (Kd.int .i64) 3 w' w.heap.size (fun _ => True) v6 x6_2) ∧ Aside0 (Kd.R Kd.bool 4 w' w.heap.size (fun _ => True) (.slice (some ⟨go9, 0, none⟩) x3_1.length co9) x3_1) ∧ Aside0 (Below w.heap.size w w'))
         case atStart => exact ⟨(([] : List Int)), (0), EQ, H', ⟨Nat.le_refl _⟩, ⟨by (try simp only [hl3_1]); first | exact Kd.R_nil _ _ _ _ _ | exact Kd.N_nil _ _ _ _ _ | exact Kd.V_nil _ _ _ _ _ | exact Kd.Q_nil _ _ _ _ _ | exact Kd.S_nil _ _ _ _ _⟩, ⟨by (try simp only [hl3_1]); (with_reducible repeat (first | apply Kd.R_alloc | apply Kd.R_drewN | apply Kd.R_drew)); exact HO_3.out⟩, ⟨BL⟩⟩
         case round =>
          clear H'
          try clear c3
          try clear c4
          try clear c4b0
          try clear c4b1
          try clear c5
          try clear c5b0
          try clear c5b1
          try clear c7
          try clear c7b0
          try clear c8
          try clear c8b0
          try clear p9
          try clear q9
          try clear c15
          try clear c15b0
          try clear hx9_0
          try clear p9
          try clear q9
          obtain ⟨x6_2, x53_2, rfl, HA, HK2, HO_6, HO_51, HB⟩ := hrel
          cases gk with
          | zero => exact absurd HA.out (by simp [impl_StepsUsed.l1])
          | succ k2 =>
           have H := HA.out
           clear HA
           simp only [impl_StepsUsed.l1] at H
           by_cases c44 : x53_2 < (x3_1.length : Int)
           ·rw [if_pos c44] at H
            have c44b0 : decide (x53_2 < (x3_1.length : Int)) = true := decide_eq_true c44
            clear c44
            by_cases c45 : 0 ≤ x53_2
            ·rw [if_pos c45] at H
             have c45b0 : decide (0 ≤ x53_2) = true := decide_eq_true c45
             clear c45
             by_cases c46 : x53_2 < (x3_1.length : Int)
             ·rw [if_pos c46] at H
              have c46b0 : decide (x53_2 < (x3_1.length : Int)) = true := decide_eq_true c46
              clear c46
              obtain ⟨bq47, hbq47⟩ : ∃ b_ : Bool, b_ = (rdOf false x3_1 x53_2) := ⟨_, rfl⟩
              replace H : (if bq47 = true then (if x6_2.length < 17592186044416 then (impl_StepsUsed.l1 k2 (x6_2 ++ [x53_2]) x3_1 (x3_1.length : Int) (wrap64 (x53_2 + 1))) else (none)) else (impl_StepsUsed.l1 k2 x6_2 x3_1 (x3_1.length : Int) (wrap64 (x53_2 + 1)))) = some r := by rw [← hbq47] at H; exact H
              have Nbq47 := Aside0.mk hbq47
              clear hbq47
              by_cases c48 : bq47 = true
              ·subst c48
               have H1 : (if x6_2.length < 17592186044416 then (impl_StepsUsed.l1 k2 (x6_2 ++ [x53_2]) x3_1 (x3_1.length : Int) (wrap64 (x53_2 + 1))) else (none)) = some r := by rw [if_pos rfl] at H; exact H
               clear H
               have H := H1
               clear H1
               by_cases c49 : x6_2.length < 17592186044416
               ·rw [if_pos c49] at H
                have LMc49 := Aside0.mk c49
                clear c49
                obtain ⟨y270, hy270⟩ : ∃ y_ : List Int, y_ = (x6_2 ++ [x53_2]) := ⟨_, rfl⟩
                replace H : (impl_StepsUsed.l1 k2 y270 x3_1 (x3_1.length : Int) (wrap64 (x53_2 + 1))) = some r := by first | (rw [hy270]; with_reducible exact H) | (have H2_ := (Option.bind_some _ _).symm.trans H; rw [hy270]; with_reducible exact H2_) | (have H2_ := (Option.bind_some _ _).symm.trans H; with_reducible exact H2_) | with_reducible exact H | (rw [hy270]; exact H) | exact H
                have Ny270 := Aside0.mk hy270
                clear hy270
                have H' := Aside0.mk H
                clear H
                have p269 : 0 ≤ (x53_2 : Int) := OD
                have q269 : x53_2 < (x3_1.length : Int) := OD
                obtain ⟨ad269, e269, hx269_0⟩ := Kd.at_bool (Kd.R_reads' HO_51.out).2.2 x53_2 p269 q269
                (try rw [← Nbq47.out] at hx269_0)
                obtain rfl : (⟨go9, 0, none⟩ : Addr) = ad269 := (by injection e269)
                (first | simp only [add_plain] at hx269_0 | simp only [add_at] at hx269_0 | simp only [Addr.add, Nat.zero_add] at hx269_0 | skip)
                replace p269 := eq_true p269
                replace q269 := eq_true q269
                go_wp2_with (first | ((with_reducible refine gate_builtin (b := .append) (xs := #[.tmp 59, .tmp 61]) rfl ?_); at_builtin; refine Kd.R_append (Kd.int .i64) (w0 := w) w.heap.size rfl (.tmp 59) (.tmp 61) 46 3 (.int .i64 0) 8 rfl Tryd.underlying46 info3 rfl (by decide) (by omega) u6 x6_2 x53_2 [.int .i64 x53_2] (fun _ => True) (fun _ => False) rfl rfl ?aP (fun _ hk => hk.elim) ?aF ?aO ?aB ?aS ?aL ?_; (case aP => exact rfl); (case aB => exact BL); (case aF => exact (fun _ _ => trivial)); (case aO => exact (RR HO_6)); (case aS => exact (below_size BL)); (case aL => have := LMc49.out; omega); intro v271 w50 ho hb hg hat; rw [← Ny270.out] at ho; have n0_ := Aside0.mk (Kd.R_over' (RR HO_51) (Kd.R_typed (RR HO_6)) (by decide) hg); have n1_ := Aside0.mk (hb); have n2_ := Aside0.mk (ho); clear HO_51 HB HO_6; have HO_51 := n0_; have HB := n1_; have HO272 := n2_; clear n0_ n1_ n2_; clear ho hb hg hat))
                go_roundg k2
                case measure => have := HK1.out; have := HK2.out; omega
                case rel => exact ⟨(y270), (wrap64 (x53_2 + 1)), EQ, H', ⟨by have := HK1.out; have := HK2.out; omega⟩, ⟨by (try simp only [hl3_1]); (with_reducible repeat (first | apply Kd.R_alloc | apply Kd.R_drewN | apply Kd.R_drew)); exact HO272.out⟩, ⟨by (try simp only [hl3_1]); (with_reducible repeat (first | apply Kd.R_alloc | apply Kd.R_drewN | apply Kd.R_drew)); exact HO_51.out⟩, ⟨BL⟩⟩
               ·rw [if_neg c49] at H
                exact absurd H (by simp)
              ·replace c48 := Bool.eq_false_iff.mpr c48
               subst c48
               have H1 : (impl_StepsUsed.l1 k2 x6_2 x3_1 (x3_1.length : Int) (wrap64 (x53_2 + 1))) = some r := by rw [if_neg (show ¬ (false = true) by decide)] at H; exact H
               clear H
               have H := H1
               clear H1
               have H' := Aside0.mk H
               clear H
               have p269 : 0 ≤ (x53_2 : Int) := OD
               have q269 : x53_2 < (x3_1.length : Int) := OD
               obtain ⟨ad269, e269, hx269_0⟩ := Kd.at_bool (Kd.R_reads' HO_51.out).2.2 x53_2 p269 q269
               (try rw [← Nbq47.out] at hx269_0)
               obtain rfl : (⟨go9, 0, none⟩ : Addr) = ad269 := (by injection e269)
               (first | simp only [add_plain] at hx269_0 | simp only [add_at] at hx269_0 | simp only [Addr.add, Nat.zero_add] at hx269_0 | skip)
               replace p269 := eq_true p269
               replace q269 := eq_true q269
               go_wp2
               go_roundg k2
               case measure => have := HK1.out; have := HK2.out; omega
               case rel => exact ⟨(x6_2), (wrap64 (x53_2 + 1)), EQ, H', ⟨by have := HK1.out; have := HK2.out; omega⟩, ⟨by (try simp only [hl3_1]); (with_reducible repeat (first | apply Kd.R_alloc | apply Kd.R_drewN | apply Kd.R_drew)); exact HO_6.out⟩, ⟨by (try simp only [hl3_1]); (with_reducible repeat (first | apply Kd.R_alloc | apply Kd.R_drewN | apply Kd.R_drew)); exact HO_51.out⟩, ⟨BL⟩⟩
             ·rw [if_neg c46] at H
              exact absurd H (by simp)
            ·rw [if_neg c45] at H
             exact absurd H (by simp)
           ·rw [if_neg c44] at H
            have c44b0 : decide (x53_2 < (x3_1.length : Int)) = false := decide_eq_false c44
            clear c44
            obtain rfl := Option.some.inj H
            go_wp2
            go_ret
            exact ⟨_, by first | rfl | (simp [errW_none, errW_some] <;> rfl) | (simp only [← hji6]; first | rfl | (simp [errW_none, errW_some] <;> rfl)) | (simp [*, errW_none, errW_some] <;> rfl), (RR HO_6), BL⟩
     ·rw [if_neg c8] at H
      exact absurd H (by simp)
    ·rw [if_neg c7] at H
     exact absurd H (by simp)
   ·rw [if_neg c5] at H
    exact absurd H (by simp)
  ·rw [if_neg c4] at H
   exact absurd H (by simp)
 ·replace c3 := Bool.eq_false_iff.mpr c3
  subst c3
  have H1 : (some ([] : List Int)) = some r := by rw [if_neg (show ¬ (false = true) by decide)] at H; exact H
  clear H
  have H := H1
  clear H1
  obtain rfl := Option.some.inj H
  go_enter Tryd.func30, Tryd.ntmps30
  go_wp2_with (first | ((with_reducible refine gate_callee (f := 38) rfl ?_); refine goesS (some 10) Tryd.func38 #[.slice A0 l0.length c0] ?_; (with_reducible refine (impl_IsPlay.calls k _ _ l0 false _ ?side1 ?side2 A2.out).mono ?_); (case side1 => repeat (first | exact HR0.out | (with_reducible refine Kd.C_alloc ?_ _) | (with_reducible refine Kd.C_drewN ?_ _) | (with_reducible refine Kd.C_drew ?_))); (case side2 => exact HC0.out); rintro e w51 ⟨rfl, hb⟩; refine ⟨_, rfl, ?_⟩; have n0_ := Aside0.mk (below_step BL hb); clear HB; have HB := n0_; clear n0_; (try clear hb)))
  go_ret
  exact ⟨_, by first | rfl | (simp [errW_none, errW_some] <;> rfl) | (simp [*, errW_none, errW_some] <;> rfl), by first | exact Kd.R_nil _ _ _ _ _ | exact Kd.N_nil _ _ _ _ _ | exact Kd.V_nil _ _ _ _ _ | exact Kd.Q_nil _ _ _ _ _ | exact Kd.S_nil _ _ _ _ _, BL⟩
def impl_HeadOf.f (k : Nat) (a0 : ByteArray) : Option (ByteArray) := (impl_IsWord.f k a0).bind fun t273 => (if t273 = true then (if 0 ≤ 1 then (if 1 ≤ (a0.size : Int) then (some (a0.extract 0 1)) else (none)) else (none)) else (some (⟨#[]⟩ : ByteArray)))
set_option maxHeartbeats 8000000 in
set_option maxRecDepth 100000 in
theorem impl_HeadOf.calls (k : Nat) (a0 : ByteArray) (r : ByteArray) (w : World) (h : impl_HeadOf.f k a0 = some r) :
  Calls Tryd.prog 31 #[.string a0] w fun e w' => e = .returned (.string r) ∧ Drawn0 w w' := by
 have H : ((impl_IsWord.f k a0).bind fun t273 => (if t273 = true then (if 0 ≤ 1 then (if 1 ≤ (a0.size : Int) then (some (a0.extract 0 1)) else (none)) else (none)) else (some (⟨#[]⟩ : ByteArray)))) = some r := h
 clear h
 replace H := Option.bind_eq_some_iff.mp H
 obtain ⟨t273, A20, H⟩ := H
 replace H : (if t273 = true then (if 0 ≤ 1 then (if 1 ≤ (a0.size : Int) then (some (a0.extract 0 1)) else (none)) else (none)) else (some (⟨#[]⟩ : ByteArray))) = some r := H
 have A2 := Aside0.mk A20
 clear A20
 by_cases c3 : t273 = true
 ·subst c3
  have H1 : (if 0 ≤ 1 then (if 1 ≤ (a0.size : Int) then (some (a0.extract 0 1)) else (none)) else (none)) = some r := by rw [if_pos rfl] at H; exact H
  clear H
  have H := H1
  clear H1
  by_cases c4 : 0 ≤ 1
  ·rw [if_pos c4] at H
   have c4b0 := eq_true c4
   have c4b1 : decide (0 ≤ 1) = true := decide_eq_true c4
   clear c4
   by_cases c5 : 1 ≤ (a0.size : Int)
   ·rw [if_pos c5] at H
    have c5b0 := eq_true c5
    have c5b1 : decide (1 ≤ (a0.size : Int)) = true := decide_eq_true c5
    clear c5
    obtain rfl := Option.some.inj H
    go_enter Tryd.func31, Tryd.ntmps31
    go_wp2_with (first | ((with_reducible refine gate_callee (f := 28) rfl ?_); refine goesS (some 4) Tryd.func28 #[.string a0] ?_; (with_reducible refine (impl_IsWord.calls k a0 true _ A2.out).mono ?_); rintro e w' ⟨rfl, ⟨nd, rfl⟩⟩; refine ⟨_, rfl, ?_⟩))
    go_ret
    exact ⟨by first | rfl | (simp; done) | (simp [*]; done), by repeat (first | exact Drawn0.refl _ | apply Drawn0.step)⟩
   ·rw [if_neg c5] at H
    exact absurd H (by simp)
  ·rw [if_neg c4] at H
   exact absurd H (by simp)
 ·replace c3 := Bool.eq_false_iff.mpr c3
  subst c3
  have H1 : (some (⟨#[]⟩ : ByteArray)) = some r := by rw [if_neg (show ¬ (false = true) by decide)] at H; exact H
  clear H
  have H := H1
  clear H1
  obtain rfl := Option.some.inj H
  go_enter Tryd.func31, Tryd.ntmps31
  go_wp2_with (first | ((with_reducible refine gate_callee (f := 28) rfl ?_); refine goesS (some 4) Tryd.func28 #[.string a0] ?_; (with_reducible refine (impl_IsWord.calls k a0 false _ A2.out).mono ?_); rintro e w' ⟨rfl, ⟨nd, rfl⟩⟩; refine ⟨_, rfl, ?_⟩))
  go_ret
  exact ⟨by first | rfl | (simp; done) | (simp [*]; done), by repeat (first | exact Drawn0.refl _ | apply Drawn0.step)⟩
def impl_HintFor.j0 : Nat → ByteArray → Int → Bool → Int → List (S45) → Option (ByteArray)
 | 0, _, _, _, _, _ => none
 | k + 1, x1, x2, x14, x275000, x275001 => if x14 = true then (some (⟨#[]⟩ : ByteArray)) else (if x2 = 1 then (if 0 ≤ (wrap64 ((x275001.length : Int) - 1)) then (if (wrap64 ((x275001.length : Int) - 1)) < (x275001.length : Int) then ((impl_KindName.f ((rd_T45 x275001 (wrap64 ((x275001.length : Int) - 1))).f0)).bind fun t278 => (some t278)) else (none)) else (none)) else (if x2 = 2 then ((impl_StepsUsed.f k x275001).bind fun t279 => ((impl_FormatInt.f (t279.length : Int)).bind fun t282 => (some t282))) else (if x2 = 3 then ((impl_HeadOf.f k x1).bind fun t283 => (some t283)) else (if x2 = 4 then (some x1) else (some (⟨#[]⟩ : ByteArray))))))
def impl_HintFor.f (k : Nat) (a0_0 : Int) (l0_1 : List (S45)) (a1 : ByteArray) (a2 : Int) : Option (ByteArray) := (impl_IsClue.f k a0_0 l0_1).bind fun t275 => (if t275 = true then ((impl_IsWord.f k a1).bind fun t276 => (impl_HintFor.j0 k a1 a2 (!t276) a0_0 l0_1)) else (impl_HintFor.j0 k a1 a2 true a0_0 l0_1))
set_option maxHeartbeats 8000000 in
set_option maxRecDepth 100000 in
theorem impl_HintFor.calls (k : Nat) (a0_0 : Int) (A0_1 : Option Addr) (c0_1 : Nat) (l0_1 : List (S45)) (a1 : ByteArray) (a2 : Int) (r : ByteArray) (w : World) (hr0_1 : Kd.C k45 w A0_1 l0_1.length l0_1) (hc0_1 : l0_1.length ≤ c0_1) (h : impl_HintFor.f k a0_0 l0_1 a1 a2 = some r) :
  Calls Tryd.prog 12 #[.agg #[.int .i64 a0_0, .slice A0_1 l0_1.length c0_1], .string a1, .int .i64 a2] w fun e w' => e = .returned (.string r) ∧ Below w.heap.size w w' := by
 have hu29 := Tryd.underlying29
 have HR0_1 := Aside0.mk hr0_1
 have HC0_1 := Aside0.mk hc0_1
 clear hr0_1 hc0_1
 have HB := Aside0.mk (Below.refl w.heap.size w)
 have H : ((impl_IsClue.f k a0_0 l0_1).bind fun t275 => (if t275 = true then ((impl_IsWord.f k a1).bind fun t276 => (impl_HintFor.j0 k a1 a2 (!t276) a0_0 l0_1)) else (impl_HintFor.j0 k a1 a2 true a0_0 l0_1))) = some r := h
 clear h
 have HC4 := Aside0.mk H
 clear H
 go_enter Tryd.func12, Tryd.ntmps12
 go_upto_region 1 with (first | ((with_reducible refine gate_dst (N := 3) rfl ?_); refine box_ev (N := 3) (cs := #[.int .i64 a0_0, .slice A0_1 l0_1.length c0_1]) (t := 29) ?_; intro gb274 hg w5 hbox hb; have n0_ := Aside0.mk (below_step BL hb); have n1_ := Aside0.mk (hbox); have n2_ := SZ (w := w) hg; have n3_ := SZ (w := w) hg; clear HB; have HB := n0_; have BK274 := n1_; have GW274 := n2_; have GE274 := n3_; clear n0_ n1_ n2_ n3_; clear hb hbox hg))
 (try simp only [Act.put, List.setIfInBounds_toArray, List.set_cons_zero, List.set_cons_succ])
 go_cut [14] (fun v14 wc => ∃ (kq : Nat) (x14_3 : Bool), v14 = .bool x14_3 ∧ Aside0 (impl_HintFor.j0 kq a1 a2 x14_3 a0_0 l0_1 = some r) ∧ Aside0 (kq ≤ k) ∧ Aside0 (wc.heap[gb274]? = some (.cells #[.int .i64 a0_0, (.slice A0_1 l0_1.length c0_1)] 29 (0, 0))) ∧ Aside0 (Below w.heap.size w wc))
 case first =>
  have H := HC4.out
  clear HC4
  replace H := Option.bind_eq_some_iff.mp H
  obtain ⟨t275, A60, H⟩ := H
  replace H : (if t275 = true then ((impl_IsWord.f k a1).bind fun t276 => (impl_HintFor.j0 k a1 a2 (!t276) a0_0 l0_1)) else (impl_HintFor.j0 k a1 a2 true a0_0 l0_1)) = some r := H
  have A6 := Aside0.mk A60
  clear A60
  by_cases c7 : t275 = true
  ·subst c7
   have H1 : ((impl_IsWord.f k a1).bind fun t276 => (impl_HintFor.j0 k a1 a2 (!t276) a0_0 l0_1)) = some r := by rw [if_pos rfl] at H; exact H
   clear H
   have H := H1
   clear H1
   replace H := Option.bind_eq_some_iff.mp H
   obtain ⟨t276, A80, H⟩ := H
   replace H : (impl_HintFor.j0 k a1 a2 (!t276) a0_0 l0_1) = some r := H
   have A8 := Aside0.mk A80
   clear A80
   have H' := Aside0.mk H
   clear H
   obtain ⟨hcz9_0, hcz9_1, hfz9_0, hfz9_1⟩ := cz2 BK274.out
   go_wp2_with (first | ((with_reducible refine gate_callee (f := 21) rfl ?_); refine goesS (some 8) Tryd.func21 #[.agg #[.int .i64 a0_0, .slice A0_1 l0_1.length c0_1]] ?_; (with_reducible refine (impl_IsClue.calls k a0_0 _ _ l0_1 true _ ?side1 ?side2 A6.out).mono ?_); (case side1 => exact CB HR0_1); (case side2 => exact HC0_1.out); rintro e w10 ⟨rfl, hb⟩; refine ⟨_, rfl, ?_⟩; have n0_ := KB BK274 hb; have n1_ := Aside0.mk (below_step BL hb); clear BK274 HB; have BK274 := n0_; have HB := n1_; clear n0_ n1_; (try clear hb)) | (go_at_call 28; (with_reducible refine (impl_IsWord.calls k a1 t276 _ A8.out).mono ?_); rintro e w' ⟨rfl, ⟨nd, rfl⟩⟩))
   go_meet
   case rel => exact ⟨_, (!t276), EQ, H', ⟨by first | omega | exact Nat.le_refl _⟩, ⟨BK⟩, ⟨BL⟩⟩
  ·replace c7 := Bool.eq_false_iff.mpr c7
   subst c7
   have H1 : (impl_HintFor.j0 k a1 a2 true a0_0 l0_1) = some r := by rw [if_neg (show ¬ (false = true) by decide)] at H; exact H
   clear H
   have H := H1
   clear H1
   have H' := Aside0.mk H
   clear H
   obtain ⟨hcz11_0, hcz11_1, hfz11_0, hfz11_1⟩ := cz2 BK274.out
   go_wp2_with (first | ((with_reducible refine gate_callee (f := 21) rfl ?_); refine goesS (some 8) Tryd.func21 #[.agg #[.int .i64 a0_0, .slice A0_1 l0_1.length c0_1]] ?_; (with_reducible refine (impl_IsClue.calls k a0_0 _ _ l0_1 false _ ?side1 ?side2 A6.out).mono ?_); (case side1 => exact CB HR0_1); (case side2 => exact HC0_1.out); rintro e w12 ⟨rfl, hb⟩; refine ⟨_, rfl, ?_⟩; have n0_ := KB BK274 hb; have n1_ := Aside0.mk (below_step BL hb); clear BK274 HB; have BK274 := n0_; have HB := n1_; clear n0_ n1_; (try clear hb)))
   go_meet
   case rel => exact ⟨_, (true), EQ, H', ⟨by first | omega | exact Nat.le_refl _⟩, ⟨BK⟩, ⟨BL⟩⟩
 case rest =>
  clear HC4
  obtain ⟨kq, x14_3, rfl, HA, HJ3, BK274, HB⟩ := hcut
  cases kq with
  | zero => exact absurd HA.out (by simp [impl_HintFor.j0])
  | succ kj3 =>
   have H := HA.out
   clear HA
   simp only [impl_HintFor.j0] at H
   by_cases c13 : x14_3 = true
   ·subst c13
    have H1 : (some (⟨#[]⟩ : ByteArray)) = some r := by rw [if_pos rfl] at H; exact H
    clear H
    have H := H1
    clear H1
    obtain rfl := Option.some.inj H
    go_wp2
    go_ret
    exact ⟨by first | rfl | (simp [errW_none, errW_some] <;> rfl) | (simp [*, errW_none, errW_some] <;> rfl), BL⟩
   ·replace c13 := Bool.eq_false_iff.mpr c13
    subst c13
    have H1 : (if a2 = 1 then (if 0 ≤ (wrap64 ((l0_1.length : Int) - 1)) then (if (wrap64 ((l0_1.length : Int) - 1)) < (l0_1.length : Int) then ((impl_KindName.f ((rd_T45 l0_1 (wrap64 ((l0_1.length : Int) - 1))).f0)).bind fun t278 => (some t278)) else (none)) else (none)) else (if a2 = 2 then ((impl_StepsUsed.f kj3 l0_1).bind fun t279 => ((impl_FormatInt.f (t279.length : Int)).bind fun t282 => (some t282))) else (if a2 = 3 then ((impl_HeadOf.f kj3 a1).bind fun t283 => (some t283)) else (if a2 = 4 then (some a1) else (some (⟨#[]⟩ : ByteArray)))))) = some r := by rw [if_neg (show ¬ (false = true) by decide)] at H; exact H
    clear H
    have H := H1
    clear H1
    by_cases c14 : a2 = 1
    ·rw [if_pos c14] at H
     have c14b0 : (a2 == 1) = true := beq_iff_eq.mpr c14
     have c14b1 : (a2 != 1) = false := bne_eq_false_iff_eq.mpr c14
     clear c14
     obtain ⟨ji15, hji15⟩ : ∃ j_ : Int, (wrap64 ((l0_1.length : Int) - 1)) = j_ := ⟨_, rfl⟩
     replace H : (if 0 ≤ (ji15) then (if (ji15) < (l0_1.length : Int) then ((impl_KindName.f ((rd_T45 l0_1 (ji15)).f0)).bind fun t278 => (some t278)) else (none)) else (none)) = some r := by first | (rw [hji15] at H; exact H) | (simp only [hji15] at H ⊢; exact H)
     have hji15w : (IntKind.i64.wrap ((l0_1.length : Int) - 1)) = ji15 := (i64_w _).trans hji15
     by_cases c16 : 0 ≤ (ji15)
     ·rw [if_pos c16] at H
      have c16b0 : decide (0 ≤ (ji15)) = true := decide_eq_true c16
      clear c16
      by_cases c17 : (ji15) < (l0_1.length : Int)
      ·rw [if_pos c17] at H
       have c17b0 : decide ((ji15) < (l0_1.length : Int)) = true := decide_eq_true c17
       clear c17
       replace H := Option.bind_eq_some_iff.mp H
       obtain ⟨t278, A180, H⟩ := H
       replace H : (some t278) = some r := H
       have A18 := Aside0.mk A180
       clear A180
       obtain rfl := Option.some.inj H
       obtain ⟨hcz19_0, hcz19_1, hfz19_0, hfz19_1⟩ := cz2 BK274.out
       have p277 : 0 ≤ ((ji15) : Int) := OD
       have q277 : (ji15) < (l0_1.length : Int) := OD
       obtain ⟨ad277, e277, hx277_0, hx277_1, hx277_2, hx277_3⟩ := at_T45 HR0_1.out (ji15) p277 q277
       cases e277
       replace hx277_0 := (HB.out.cell (World.block_lt_of_cell? w _ hx277_0)).trans hx277_0
       replace hx277_1 := (HB.out.cell (World.block_lt_of_cell? w _ hx277_1)).trans hx277_1
       replace hx277_2 := (HB.out.cell (World.block_lt_of_cell? w _ hx277_2)).trans hx277_2
       replace hx277_3 := (HB.out.cell (World.block_lt_of_cell? w _ hx277_3)).trans hx277_3
       replace p277 := eq_true p277
       replace q277 := eq_true q277
       go_wp2_with (first | ((with_reducible refine gate_callee (f := 29) rfl ?_); refine goesL_ (some 27) rfl rfl Tryd.func29 (by kernel_rfl) rfl #[.int .i64 ((rd_T45 l0_1 (ji15)).f0)] rfl (by (try simp only [List.map_toArray, List.map_cons, List.map_nil]); first | done | (simp only [hji15]; rfl) | rfl | (simp only [List.length_drop, List.length_take]; rfl)) ?_; (with_reducible refine (impl_KindName.calls ((rd_T45 l0_1 (ji15)).f0) t278 _ A18.out).mono ?_); rintro e w20 ⟨rfl, hb⟩; refine ⟨_, rfl, ?_⟩; have n0_ := KB BK274 hb; have n1_ := Aside0.mk (below_step BL hb); clear BK274 HB; have BK274 := n0_; have HB := n1_; clear n0_ n1_; (try clear hb)))
       go_ret
       exact ⟨by first | rfl | (simp [errW_none, errW_some] <;> rfl) | (simp only [← hji15]; first | rfl | (simp [errW_none, errW_some] <;> rfl)) | (simp [*, errW_none, errW_some] <;> rfl), BL⟩
      ·rw [if_neg c17] at H
       exact absurd H (by simp)
     ·rw [if_neg c16] at H
      exact absurd H (by simp)
    ·rw [if_neg c14] at H
     have c14b0 : (a2 == 1) = false := beq_eq_false_iff_ne.mpr c14
     have c14b1 : (a2 != 1) = true := bne_iff_ne.mpr c14
     by_cases c21 : a2 = 2
     ·rw [if_pos c21] at H
      have c21b0 : (a2 == 2) = true := beq_iff_eq.mpr c21
      have c21b1 : (a2 != 2) = false := bne_eq_false_iff_eq.mpr c21
      clear c21
      replace H := Option.bind_eq_some_iff.mp H
      obtain ⟨t279, A220, H⟩ := H
      replace H : ((impl_FormatInt.f (t279.length : Int)).bind fun t282 => (some t282)) = some r := H
      have A22 := Aside0.mk A220
      clear A220
      replace H := Option.bind_eq_some_iff.mp H
      obtain ⟨t282, A230, H⟩ := H
      replace H : (some t282) = some r := H
      have A23 := Aside0.mk A230
      clear A230
      obtain rfl := Option.some.inj H
      obtain ⟨hcz24_0, hcz24_1, hfz24_0, hfz24_1⟩ := cz2 BK274.out
      go_wp2_with (first | ((with_reducible refine gate_callee (f := 30) rfl ?_); refine goesS (some 32) Tryd.func30 #[.slice A0_1 l0_1.length c0_1] ?_; (with_reducible refine (impl_StepsUsed.calls kj3 _ _ l0_1 t279 _ ?side1 ?side2 A22.out).mono ?_); (case side1 => exact CB HR0_1); (case side2 => exact HC0_1.out); rintro e w25 ⟨v280, rfl, ho0, hb⟩; refine ⟨_, rfl, ?_⟩; have n0_ := Aside0.mk (Kd.R_lower ho0 (below_size BL)); have n1_ := KB BK274 hb; have n2_ := Aside0.mk (below_step BL hb); clear BK274 HB; have HO281 := n0_; have BK274 := n1_; have HB := n2_; clear n0_ n1_ n2_; (try clear hb); (try clear ho0); obtain ⟨Ao26, co26, eo26⟩ := Kd.R_slice HO281.out; subst eo26) | ((with_reducible refine gate_callee (f := 22) rfl ?_); refine goesS (some 34) Tryd.func22 #[.int .i64 (t279.length : Int)] ?_; (with_reducible refine (impl_FormatInt.calls (t279.length : Int) t282 _ A23.out).mono ?_); rintro e w27 ⟨rfl, hb⟩; refine ⟨_, rfl, ?_⟩; have n0_ := Aside0.mk (Kd.R_below (RR HO281) hb); have n1_ := KB BK274 hb; have n2_ := Aside0.mk (below_step BL hb); clear HO281 BK274 HB; have HO281 := n0_; have BK274 := n1_; have HB := n2_; clear n0_ n1_ n2_; (try clear hb)))
      go_ret
      exact ⟨by first | rfl | (simp [errW_none, errW_some] <;> rfl) | (simp [*, errW_none, errW_some] <;> rfl), BL⟩
     ·rw [if_neg c21] at H
      have c21b0 : (a2 == 2) = false := beq_eq_false_iff_ne.mpr c21
      have c21b1 : (a2 != 2) = true := bne_iff_ne.mpr c21
      by_cases c28 : a2 = 3
      ·rw [if_pos c28] at H
       have c28b0 : (a2 == 3) = true := beq_iff_eq.mpr c28
       have c28b1 : (a2 != 3) = false := bne_eq_false_iff_eq.mpr c28
       clear c28
       replace H := Option.bind_eq_some_iff.mp H
       obtain ⟨t283, A290, H⟩ := H
       replace H : (some t283) = some r := H
       have A29 := Aside0.mk A290
       clear A290
       obtain rfl := Option.some.inj H
       go_wp2_with (first | ((with_reducible refine gate_callee (f := 31) rfl ?_); refine goesS (some 38) Tryd.func31 #[.string a1] ?_; (with_reducible refine (impl_HeadOf.calls kj3 a1 t283 _ A29.out).mono ?_); rintro e w' ⟨rfl, ⟨nd, rfl⟩⟩; refine ⟨_, rfl, ?_⟩))
       go_ret
       exact ⟨by first | rfl | (simp [errW_none, errW_some] <;> rfl) | (simp [*, errW_none, errW_some] <;> rfl), BL⟩
      ·rw [if_neg c28] at H
       have c28b0 : (a2 == 3) = false := beq_eq_false_iff_ne.mpr c28
       have c28b1 : (a2 != 3) = true := bne_iff_ne.mpr c28
       by_cases c30 : a2 = 4
       ·rw [if_pos c30] at H
        have c30b0 : (a2 == 4) = true := beq_iff_eq.mpr c30
        have c30b1 : (a2 != 4) = false := bne_eq_false_iff_eq.mpr c30
        clear c30
        obtain rfl := Option.some.inj H
        go_wp2
        go_ret
        exact ⟨by first | rfl | (simp [errW_none, errW_some] <;> rfl) | (simp [*, errW_none, errW_some] <;> rfl), BL⟩
       ·rw [if_neg c30] at H
        have c30b0 : (a2 == 4) = false := beq_eq_false_iff_ne.mpr c30
        have c30b1 : (a2 != 4) = true := bne_iff_ne.mpr c30
        obtain rfl := Option.some.inj H
        go_wp2
        go_ret
        exact ⟨by first | rfl | (simp [errW_none, errW_some] <;> rfl) | (simp [*, errW_none, errW_some] <;> rfl), BL⟩
end Go.Proofs.YtddacmgigolcbaaDoor.PFnExactFitsHint
