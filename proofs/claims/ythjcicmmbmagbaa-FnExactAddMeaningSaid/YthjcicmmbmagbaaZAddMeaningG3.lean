/- Walks of functions: what each computes. -/
import Derived.Test.YthjcicmmbmagbaaZAddMeaningG0
import Derived.Test.YthjcicmmbmagbaaZAddMeaningW
import Derived.Test.YthjcicmmbmagbaaZAddMeaningHandSort
import Derived.Test.YthjcicmmbmagbaaZAddMeaningHandForm
import Derived.Test.YthjcicmmbmagbaaZAddMeaningHandAlone
import Derived.Test.YthjcicmmbmagbaaZAddMeaningHandIns
namespace Go.Proofs.Ythjcicmmbmagbaa.PFnExactAddMeaning
open Go.RowKit Go.Proofs.YthjcicmmbmagbaaW.PrintWords Go.Proofs.YthjcicmmbmagbaaW.PrintLast Go.Proofs.YthjcicmmbmagbaaW.PrintMore
attribute [local go_sem] gF gu gN gM fO fP gB gy
set_option linter.unusedVariables false
set_option linter.unusedSimpArgs false
def bJ.f (pE : ByteArray) (pF : Int) : Option (ByteArray × Int) := some (pE, pF)
set_option maxHeartbeats 8000000 in
set_option maxRecDepth 100000 in
theorem bJ.calls (pE : ByteArray) (pF : Int) (r1 : ByteArray) (r2 : Int) (w : World) (h : bJ.f pE pF = some (r1, r2)) :
  Calls Try.prog 14 #[.agg #[.string pE, .int .i64 pF]] w fun e w' => e = .returned (.agg #[.string r1, .int .i64 r2]) ∧ Below w.heap.size w w' := by
 have hu24 := Try.underlying24
 have hu31 := Try.underlying31
 have HB := ak.mk (Below.refl w.heap.size w)
 have H : (some (pE, pF)) = some (r1, r2) := h
 clear h
 simp only [Option.some.injEq, Prod.mk.injEq] at H
 obtain ⟨rfl, rfl⟩ := H
 go_enter Try.func14, Try.ntmps14
 go_wp2_with (first | ((with_reducible refine bX (N := 1) rfl ?_); refine bV ?hg (N := 1) ?hd (cs := #[.string pE, .int .i64 pF]) (t := 24) ?hr ?_; (case hd => rfl); (case hg => rfl); (case hr => first | (go_simp; done) | (go_simp; rfl)); intro gb157 hg w2 hbox hb; have n0_ := ak.mk (aX (by repeat (first | (with_reducible first | exact HB.out | apply au | apply ah | apply aj) | exact HB.out)) hb); have n1_ := ak.mk (hbox); have n2_ := ak.mk ((by rw [hg]; exact (aW (by repeat (first | (with_reducible first | exact HB.out | apply au | apply ah | apply aj) | exact HB.out))) : w.heap.size ≤ gb157)); have n3_ := ak.mk ((by rw [hg]; exact (aW (by repeat (first | (with_reducible first | exact HB.out | apply au | apply ah | apply aj) | exact HB.out))) : w.heap.size ≤ gb157)); clear HB; have HB := n0_; have BK157 := n1_; have GW157 := n2_; have GE157 := n3_; clear n0_ n1_ n2_ n3_; clear hb hbox hg) | ((with_reducible refine bX (N := 2) rfl ?_); refine bV ?hg (N := 2) ?hd (cs := #[.string (⟨#[]⟩ : ByteArray), .int .i64 0]) (t := 31) ?hr ?_; (case hd => rfl); (case hg => rfl); (case hr => first | (go_simp; done) | (go_simp; rfl)); intro gb158 hg w3 hbox hb; have n0_ := ak.mk (bD (g := gb157) (o := .cells #[.string pE, .int .i64 pF] 24 (0, 0)) (by (with_reducible repeat (first | refine aG ?_ _ | refine aK ?_ | refine aD ?_ _)); exact BK157.out) hb); have n1_ := ak.mk (aX (by repeat (first | (with_reducible first | exact HB.out | apply au | apply ah | apply aj | refine ay ?_ GE157.out) | exact HB.out)) hb); have n2_ := ak.mk (hbox); have n3_ := ak.mk ((by rw [hg]; exact (aW (by repeat (first | (with_reducible first | exact HB.out | apply au | apply ah | apply aj | refine ay ?_ GE157.out) | exact HB.out))) : w.heap.size ≤ gb158)); have n4_ := ak.mk ((by rw [hg]; exact (aW (by repeat (first | (with_reducible first | exact HB.out | apply au | apply ah | apply aj | refine ay ?_ GE157.out) | exact HB.out))) : w.heap.size ≤ gb158)); have n5_ := ak.mk ((by rw [hg]; exact Nat.ne_of_lt (dV (g := gb157) (o := .cells #[.string pE, .int .i64 pF] 24 (0, 0)) (by (with_reducible repeat (first | refine aG ?_ _ | refine aK ?_ | refine aD ?_ _)); exact BK157.out)) : gb157 ≠ gb158)); have n6_ := ak.mk ((by rw [hg]; exact Nat.ne_of_gt (dV (g := gb157) (o := .cells #[.string pE, .int .i64 pF] 24 (0, 0)) (by (with_reducible repeat (first | refine aG ?_ _ | refine aK ?_ | refine aD ?_ _)); exact BK157.out)) : gb158 ≠ gb157)); clear BK157; clear HB; have BK157 := n0_; have HB := n1_; have BK158 := n2_; have GW158 := n3_; have GE158 := n4_; have NB157_158 := n5_; have NB158_157 := n6_; clear n0_ n1_ n2_ n3_ n4_ n5_ n6_; clear hb hbox hg) | ((with_reducible refine bX (N := 3) rfl ?_); refine bV ?hg (N := 3) ?hd (cs := #[.string (⟨#[]⟩ : ByteArray), .int .i64 0]) (t := 31) ?hr ?_; (case hd => rfl); (case hg => rfl); (case hr => first | (go_simp; done) | (go_simp; rfl)); intro gb159 hg w4 hbox hb; have n0_ := ak.mk (bD (g := gb157) (o := .cells #[.string pE, .int .i64 pF] 24 (0, 0)) (by (with_reducible repeat (first | refine aG ?_ _ | refine aK ?_ | refine aD ?_ _)); exact BK157.out) hb); have n1_ := ak.mk (bD (g := gb158) (o := .cells #[.string (⟨#[]⟩ : ByteArray), .int .i64 0] 31 (0, 0)) (by (with_reducible repeat (first | refine aG ?_ _ | refine aK ?_ | refine aD ?_ _)); exact BK158.out) hb); have n2_ := ak.mk (aX (by repeat (first | (with_reducible first | exact HB.out | apply au | apply ah | apply aj | refine ay ?_ GE157.out | refine ay ?_ GE158.out) | exact HB.out)) hb); have n3_ := ak.mk (hbox); have n4_ := ak.mk ((by rw [hg]; exact (aW (by repeat (first | (with_reducible first | exact HB.out | apply au | apply ah | apply aj | refine ay ?_ GE157.out | refine ay ?_ GE158.out) | exact HB.out))) : w.heap.size ≤ gb159)); have n5_ := ak.mk ((by rw [hg]; exact (aW (by repeat (first | (with_reducible first | exact HB.out | apply au | apply ah | apply aj | refine ay ?_ GE157.out | refine ay ?_ GE158.out) | exact HB.out))) : w.heap.size ≤ gb159)); have n6_ := ak.mk ((by rw [hg]; exact Nat.ne_of_lt (dV (g := gb157) (o := .cells #[.string pE, .int .i64 pF] 24 (0, 0)) (by (with_reducible repeat (first | refine aG ?_ _ | refine aK ?_ | refine aD ?_ _)); exact BK157.out)) : gb157 ≠ gb159)); have n7_ := ak.mk ((by rw [hg]; exact Nat.ne_of_gt (dV (g := gb157) (o := .cells #[.string pE, .int .i64 pF] 24 (0, 0)) (by (with_reducible repeat (first | refine aG ?_ _ | refine aK ?_ | refine aD ?_ _)); exact BK157.out)) : gb159 ≠ gb157)); have n8_ := ak.mk ((by rw [hg]; exact Nat.ne_of_lt (dV (g := gb158) (o := .cells #[.string (⟨#[]⟩ : ByteArray), .int .i64 0] 31 (0, 0)) (by (with_reducible repeat (first | refine aG ?_ _ | refine aK ?_ | refine aD ?_ _)); exact BK158.out)) : gb158 ≠ gb159)); have n9_ := ak.mk ((by rw [hg]; exact Nat.ne_of_gt (dV (g := gb158) (o := .cells #[.string (⟨#[]⟩ : ByteArray), .int .i64 0] 31 (0, 0)) (by (with_reducible repeat (first | refine aG ?_ _ | refine aK ?_ | refine aD ?_ _)); exact BK158.out)) : gb159 ≠ gb158)); clear BK157; clear BK158; clear HB; have BK157 := n0_; have BK158 := n1_; have HB := n2_; have BK159 := n3_; have GW159 := n4_; have GE159 := n5_; have NB157_159 := n6_; have NB159_157 := n7_; have NB158_159 := n8_; have NB159_158 := n9_; clear n0_ n1_ n2_ n3_ n4_ n5_ n6_ n7_ n8_ n9_; clear hb hbox hg; have hnb5 := NB157_158.out; have hnc5 := NB158_157.out; have hnb6 := NB157_159.out; have hnc6 := NB159_157.out; have hcz7_0 : w4.cell? ⟨gb157, 0, none⟩ = some (.string pE) := (aM BK157.out 0).trans rfl; have hcz7_1 : w4.cell? ⟨gb157, 1, none⟩ = some (.int .i64 pF) := (aM BK157.out 1).trans rfl; have hfz7_0 := bB BK157.out 0; have hfz7_1 := bB BK157.out 1; have hnb8 := NB159_158.out; have hnc8 := NB158_159.out; have hcz9_0 : w4.cell? ⟨gb159, 0, none⟩ = some (.string (⟨#[]⟩ : ByteArray)) := (aM BK159.out 0).trans rfl; have hcz9_1 : w4.cell? ⟨gb159, 1, none⟩ = some (.int .i64 0) := (aM BK159.out 1).trans rfl; have hfz9_0 := bB BK159.out 0; have hfz9_1 := bB BK159.out 1; have hcz10_0 : w4.cell? ⟨gb158, 0, none⟩ = some (.string (⟨#[]⟩ : ByteArray)) := (aM BK158.out 0).trans rfl; have hcz10_1 : w4.cell? ⟨gb158, 1, none⟩ = some (.int .i64 0) := (aM BK158.out 1).trans rfl; have hfz10_0 := bB BK158.out 0; have hfz10_1 := bB BK158.out 1))
 refine bodyPost_ret (results_cell_row rfl _ _ gb158 31 #[.string pE, .int .i64 pF] (0, 0) _ rfl (by (with_reducible repeat (first | refine aG ?_ _ | refine aK ?_ | refine aD ?_ _)); refine eP (cs := #[.string pE, .int .i64 0]) ?_ 1 _ rfl; (with_reducible repeat (first | refine aG ?_ _ | refine aK ?_ | refine aD ?_ _)); refine eP (cs := #[.string (⟨#[]⟩ : ByteArray), .int .i64 0]) ?_ 0 _ rfl; (with_reducible repeat (first | refine aG ?_ _ | refine aK ?_ | refine aD ?_ _)); refine mI ?_ NB158_159.out _; (with_reducible repeat (first | refine aG ?_ _ | refine aK ?_ | refine aD ?_ _)); refine mI ?_ NB158_159.out _; (with_reducible repeat (first | refine aG ?_ _ | refine aK ?_ | refine aD ?_ _)); exact BK158.out) Try.underlying31 rfl (by kernel_rfl)) rfl ?_
 exact ⟨by first | rfl | (simp [bn, bq] <;> rfl) | (simp [*, bn, bq] <;> rfl), by repeat (first | (with_reducible first | exact HB.out | apply au | apply ah | apply aj | refine ay ?_ GE157.out | refine ay ?_ GE158.out | refine ay ?_ GE159.out) | exact HB.out)⟩
def bE.l0 : Nat → List (S24) → List (S31) → Int → Option ((List (S31)))
 | 0, _, _, _ => none
 | k + 1, x0, x3, x4 => if x4 < (x0.length : Int) then (if 0 ≤ x4 then ((bJ.f ((eX x0 x4).f0) ((eX x0 x4).f1)).bind fun bt164 => (if x4 < (x3.length : Int) then (bE.l0 k x0 (x3.set (x4 : Int).toNat (⟨bt164.1, bt164.2⟩ : S31)) (wrap64 (x4 + 1))) else (none))) else (none)) else (some x3)
def bE.f (k : Nat) (l0 : List (S24)) : Option ((List (S31))) := if 0 ≤ (l0.length : Int) then (if ((l0.length : Int) : Int).toNat ≤ 11728124029610 then (bE.l0 k l0 (List.replicate ((l0.length : Int) : Int).toNat z31) 0) else (none)) else (none)
set_option maxHeartbeats 8000000 in
set_option maxRecDepth 100000 in
theorem bE.calls (k : Nat) (A0 : Option Addr) (c0 : Nat) (l0 : List (S24)) (r : List (S31)) (w : World) (hr0 : Kd.C k24 w A0 l0.length l0) (hc0 : l0.length ≤ c0) (h : bE.f k l0 = some r) :
  Calls Try.prog 13 #[.slice A0 l0.length c0] w fun e w' => ∃ v0_ : Value, e = .returned (v0_) ∧ Kd.R k31 31 w' w.heap.size (fun _ => True) v0_ r ∧ Below w.heap.size w w' := by
 have hu24 := Try.underlying24
 have hu31 := Try.underlying31
 have HR0 := ak.mk hr0
 have HC0 := ak.mk hc0
 clear hr0 hc0
 have HB := ak.mk (Below.refl w.heap.size w)
 have H : (if 0 ≤ (l0.length : Int) then (if ((l0.length : Int) : Int).toNat ≤ 11728124029610 then (bE.l0 k l0 (List.replicate ((l0.length : Int) : Int).toNat z31) 0) else (none)) else (none)) = some r := h
 clear h
 by_cases c2 : 0 ≤ (l0.length : Int)
 ·rw [if_pos c2] at H
  have c2b0 := eq_true c2
  have c2b1 : decide (0 ≤ (l0.length : Int)) = true := decide_eq_true c2
  clear c2
  by_cases c3 : ((l0.length : Int) : Int).toNat ≤ 11728124029610
  ·rw [if_pos c3] at H
   have c3b0 := eq_true c3
   have c3b1 : decide (((l0.length : Int) : Int).toNat ≤ 11728124029610) = true := decide_eq_true c3
   clear c3
   obtain ⟨y160, hy160⟩ : ∃ y_ : List (S31), y_ = (List.replicate ((l0.length : Int) : Int).toNat z31) := ⟨_, rfl⟩
   replace H : (bE.l0 k l0 y160 0) = some r := by first | (rw [hy160]; with_reducible exact H) | (have H2_ := (Option.bind_some _ _).symm.trans H; rw [hy160]; with_reducible exact H2_) | (have H2_ := (Option.bind_some _ _).symm.trans H; with_reducible exact H2_) | with_reducible exact H | (rw [hy160]; exact H) | exact H
   have Ny160 := ak.mk hy160
   clear hy160
   have H' := ak.mk H
   clear H
   go_enter Try.func13, Try.ntmps13
   go_wp2_with (first | ((with_reducible refine bX (N := 7) rfl ?_); refine Kd.oH k31 _ 31 rfl (N := 7) rfl 27 _ _ rfl (l0.length : Int) rfl rfl Try.underlying27 (.agg #[(.string ⟨#[]⟩), (.int .i64 0)]) 24 eB rfl (by decide) (by omega) z31 (ok := fun _ => True) (okp := fun _ => True) (eD _ _ _ z31 ) (fun _ hk => hk) trivial (of_decide_eq_true (by first | (with_reducible assumption) | assumption)) (Nat.le_trans (Nat.mul_le_mul_right _ (of_decide_eq_true (by first | (with_reducible assumption) | assumption) : (l0.length : Int).toNat ≤ 11728124029610)) (by omega)) (Below.refl _ _) (Nat.le_refl _) ?_; intro v161 w4 ho5 hb hg_ hnew_; clear hg_ hnew_; (first | rw [← Ny160.out] at ho5 | (simp only [Int.reduceToNat] at ho5; rw [← Ny160.out] at ho5)); have n0_ := ak.mk (Kd.dD ho5 (aW (by repeat (first | (with_reducible first | exact HB.out | apply au | apply ah | apply aj) | exact HB.out)))); have n1_ := ak.mk (aX (by repeat (first | (with_reducible first | exact HB.out | apply au | apply ah | apply aj) | exact HB.out)) hb); clear HB; have HO162 := n0_; have HB := n1_; clear n0_ n1_; clear hb ho5))
   go_loopg [4] k (fun kq v4 w' => ∃ (x3_1 : List (S31)) (x4_1 : Int), v4 = .int .i64 x4_1 ∧ ak (bE.l0 kq l0 x3_1 x4_1 = some r) ∧ ak (kq ≤ k) ∧ ak (Kd.R k31 31 w' w.heap.size (fun _ => True) v161 x3_1) ∧ ak (Below w.heap.size w w'))
   case atStart => exact ⟨(y160), (0), (by first | rfl | (simp; done) | (simp [*]; done)), H', ⟨Nat.le_refl _⟩, ⟨by (with_reducible repeat (first | apply Kd.aT | apply Kd.aU | apply Kd.aY)); exact HO162.out⟩, ⟨by repeat (first | (with_reducible first | exact HB.out | apply au | apply ah | apply aj) | exact HB.out)⟩⟩
   case round =>
    clear H'
    try clear c2
    try clear c2b0
    try clear c2b1
    try clear c3
    try clear c3b0
    try clear c3b1
    obtain ⟨x3_1, x4_1, rfl, HA, HK1, HO_3, HB⟩ := hrel
    cases gk with
    | zero => exact absurd HA.out (by simp [bE.l0])
    | succ k1 =>
     have H := HA.out
     clear HA
     simp only [bE.l0] at H
     by_cases c6 : x4_1 < (l0.length : Int)
     ·rw [if_pos c6] at H
      have c6b0 : decide (x4_1 < (l0.length : Int)) = true := decide_eq_true c6
      clear c6
      by_cases c7 : 0 ≤ x4_1
      ·rw [if_pos c7] at H
       have c7b0 : decide (0 ≤ x4_1) = true := decide_eq_true c7
       clear c7
       replace H := Option.bind_eq_some_iff.mp H
       obtain ⟨⟨t164, t165⟩, A80, H⟩ := H
       replace H : (if x4_1 < (x3_1.length : Int) then (bE.l0 k1 l0 (x3_1.set (x4_1 : Int).toNat (⟨t164, t165⟩ : S31)) (wrap64 (x4_1 + 1))) else (none)) = some r := H
       have A8 := ak.mk A80
       clear A80
       by_cases c9 : x4_1 < (x3_1.length : Int)
       ·rw [if_pos c9] at H
        have c9b0 : decide (x4_1 < (x3_1.length : Int)) = true := decide_eq_true c9
        clear c9
        obtain ⟨y166, hy166⟩ : ∃ y_ : List (S31), y_ = (x3_1.set (x4_1 : Int).toNat (⟨t164, t165⟩ : S31)) := ⟨_, rfl⟩
        replace H : (bE.l0 k1 l0 y166 (wrap64 (x4_1 + 1))) = some r := by first | (rw [hy166]; with_reducible exact H) | (have H2_ := (Option.bind_some _ _).symm.trans H; rw [hy166]; with_reducible exact H2_) | (have H2_ := (Option.bind_some _ _).symm.trans H; with_reducible exact H2_) | with_reducible exact H | (rw [hy166]; exact H) | exact H
        have Ny166 := ak.mk hy166
        clear hy166
        have H' := ak.mk H
        clear H
        have p163 : 0 ≤ (x4_1 : Int) := of_decide_eq_true (by first | (with_reducible assumption) | assumption)
        have q163 : x4_1 < (l0.length : Int) := of_decide_eq_true (by first | (with_reducible assumption) | assumption)
        obtain ⟨ad163, e163, hx163_0, hx163_1⟩ := mo HR0.out x4_1 p163 q163
        cases e163
        try replace hx163_0 := (HB.out.cell (World.block_lt_of_cell? w _ hx163_0)).trans hx163_0
        try replace hx163_1 := (HB.out.cell (World.block_lt_of_cell? w _ hx163_1)).trans hx163_1
        replace p163 := eq_true p163
        replace q163 := eq_true q163
        go_wp2_with (first | ((with_reducible refine bG (f := 14) rfl ?_); refine dz (some 20) rfl rfl Try.func14 (by kernel_rfl) rfl #[.agg #[.string ((eX l0 x4_1).f0), .int .i64 ((eX l0 x4_1).f1)]] rfl (by (try simp only [List.map_toArray, List.map_cons, List.map_nil]); first | done | rfl | (simp only [List.length_drop, List.length_take]; rfl)) ?_; (with_reducible refine (bJ.calls ((eX l0 x4_1).f0) ((eX l0 x4_1).f1) t164 t165 _ A8.out).mono ?_); rintro e w11 ⟨rfl, hb⟩; refine ⟨_, rfl, ?_⟩; have n0_ := ak.mk (Kd.bO (by (with_reducible repeat (first | apply Kd.aT | apply Kd.aU | apply Kd.aY)); exact HO_3.out) hb); have n1_ := ak.mk (aX (by repeat (first | (with_reducible first | exact HB.out | apply au | apply ah | apply aj) | exact HB.out)) hb); clear HO_3; clear HB; have HO_3 := n0_; have HB := n1_; clear n0_ n1_; (try clear hb); (try clear hb2); (try clear hk); (try clear hi); have p10 : 0 ≤ (x4_1 : Int) := of_decide_eq_true (by first | (with_reducible assumption) | assumption); have q10 : (x4_1 : Int) < ((x3_1.length : Int) : Int) := of_decide_eq_true (by first | (with_reducible assumption) | assumption); obtain ⟨go10, co10, eo10, gb10, gl10, cl10, HG10⟩ := Kd.nD HO_3.out (by omega); (first | cases eo10 | (injection eo10 with ea_ en_ ec_; (first | subst ea_ | (injection ea_ with ea_; subst ea_)); subst ec_; clear en_)); have GB10 := ak.mk gb10; have GG10 := ak.mk HG10; clear gb10 gl10 HG10; obtain ⟨ce10, hcl10, hM10, hcc10, hfr10⟩ := Kd.jC HO_3.out z31 (x4_1 : Int) p10 q10; obtain rfl := gq hM10; have hx10_0 : w11.cell? ⟨go10, (x4_1 : Int).toNat * 2, none⟩ = some (.string ((aJ x3_1 x4_1).f0)) := hcc10 0 _ rfl; have hx10_1 : w11.cell? ⟨go10, (x4_1 : Int).toNat * 2 + 1, none⟩ = some (.int .i64 ((aJ x3_1 x4_1).f1)) := hcc10 1 _ rfl; have hf10_0 : w11.frozen? ⟨go10, (x4_1 : Int).toNat * 2, none⟩ = false := hfr10 0; have hf10_1 : w11.frozen? ⟨go10, (x4_1 : Int).toNat * 2 + 1, none⟩ = false := hfr10 1; clear hcl10 hcc10 hfr10 hM10; replace p10 := eq_true p10; replace q10 := eq_true q10; have HX12 := ak.mk (show Kd.R k31 31 w11 w.heap.size (fun _ => True) (.slice (some ⟨go10, 0, none⟩) x3_1.length co10) x3_1 from (by (with_reducible repeat (first | apply Kd.aT | apply Kd.aU | apply Kd.aY)); exact HO_3.out)); obtain ⟨ce12, hcl12, hM12, hcc12, hfr12⟩ := Kd.jC HX12.out z31 (x4_1 : Int) (of_decide_eq_true (by first | (with_reducible assumption) | assumption)) (by have h_ : (x4_1 : Int) < ((x3_1.length : Int) : Int) := of_decide_eq_true (by first | (with_reducible assumption) | assumption); first | exact h_ | (have e_ := (Kd.bF HO_3.out).1; omega) | simpa using h_); obtain rfl := gq hM12; have HP12 := Kd.nP HX12.out (x4_1 : Int) (of_decide_eq_true (by first | (with_reducible assumption) | assumption)) (by have h_ : (x4_1 : Int) < ((x3_1.length : Int) : Int) := of_decide_eq_true (by first | (with_reducible assumption) | assumption); first | exact h_ | (have e_ := (Kd.bF HO_3.out).1; omega) | simpa using h_) (seg := [.string t164, .int .i64 t165]) (j := 0) hcl12 hcc12 (show 2 ≤ 2 from by decide) (x' := (⟨t164, t165⟩ : S31)) (eD _ _ _ (⟨t164, t165⟩ : S31) ) (fun _ hk => hk); have hx12_0 := hcc12 0 _ rfl; (try simp only [show (k31).sz = 2 from rfl, Nat.mul_one, Nat.add_zero] at hx12_0); have hf12_0 := hfr12 0; (try simp only [show (k31).sz = 2 from rfl, Nat.mul_one, Nat.add_zero] at hf12_0); have hx12_1 := hcc12 1 _ rfl; (try simp only [show (k31).sz = 2 from rfl, Nat.mul_one, Nat.add_zero] at hx12_1); have hf12_1 := hfr12 1; (try simp only [show (k31).sz = 2 from rfl, Nat.mul_one, Nat.add_zero] at hf12_1); clear hcl12 hcc12 hfr12 hM12) | ((with_reducible refine jf (t := 31) (p := 21) rfl ?_); refine iI (t := 31) (p := 21) (v := ?vo_w13) (w1 := ((w11.setCell ⟨go10, (x4_1 : Int).toNat * 2, none⟩ (.string t164)).setCell ⟨go10, (x4_1 : Int).toNat * 2 + 1, none⟩ (.int .i64 t165))) ?hg ?ho ?hn ?hr ?_; (case ho => rfl); (case hg => rfl); (case hn => rfl); (case hr => first | (go_simp; done) | (go_simp; rfl)); intro w13 hw; have hg : w11.grownBy w13 (some go10) := (by rw [hw]; exact HP12.2); have hp_ : Kd.R k31 31 w13 w.heap.size (fun _ => True) (.slice (some ⟨go10, 0, none⟩) x3_1.length co10) y166 := (by rw [hw, Ny166.out]; exact HP12.1); clear HP12; have n0_ := ak.mk (hp_); have n1_ := ak.mk ((by rw [hw]; exact ay (ay (HB.out) GB10.out) GB10.out : Below w.heap.size w w13)); clear HO_3; clear HB; have HO_3 := n0_; have HB := n1_; clear n0_ n1_; clear hg hw hp_))
        go_roundg k1
        case measure => have := HK1.out; omega
        case rel => exact ⟨(y166), (wrap64 (x4_1 + 1)), (by first | rfl | (simp; done) | (simp [*]; done)), H', ⟨by have := HK1.out; omega⟩, ⟨by (with_reducible repeat (first | apply Kd.aT | apply Kd.aU | apply Kd.aY)); exact HO_3.out⟩, ⟨by repeat (first | (with_reducible first | exact HB.out | apply au | apply ah | apply aj) | exact HB.out)⟩⟩
       ·rw [if_neg c9] at H
        exact absurd H (by simp)
      ·rw [if_neg c7] at H
       exact absurd H (by simp)
     ·rw [if_neg c6] at H
      have c6b0 : decide (x4_1 < (l0.length : Int)) = false := decide_eq_false c6
      clear c6
      obtain rfl := Option.some.inj H
      go_wp2
      go_ret
      exact ⟨_, by first | rfl | (simp [bn, bq] <;> rfl) | (simp [*, bn, bq] <;> rfl), by (with_reducible repeat (first | apply Kd.aT | apply Kd.aU | apply Kd.aY)); exact HO_3.out, by repeat (first | (with_reducible first | exact HB.out | apply au | apply ah | apply aj) | exact HB.out)⟩
  ·rw [if_neg c3] at H
   exact absurd H (by simp)
 ·rw [if_neg c2] at H
  exact absurd H (by simp)
def d9.f (a0 : ByteArray) (a1 : ByteArray) : Option (Bool) := if (a0.size : Int) = (a1.size : Int) then (some (Op.bytesLess a0.toList a1.toList)) else (some (decide ((a0.size : Int) < (a1.size : Int))))
set_option maxHeartbeats 8000000 in
set_option maxRecDepth 100000 in
theorem d9.calls (a0 : ByteArray) (a1 : ByteArray) (r : Bool) (w : World) (h : d9.f a0 a1 = some r) :
  Calls Try.prog 114 #[.string a0, .string a1] w fun e w' => e = .returned (.bool r) ∧ bR w w' := by
 have H : (if (a0.size : Int) = (a1.size : Int) then (some (Op.bytesLess a0.toList a1.toList)) else (some (decide ((a0.size : Int) < (a1.size : Int))))) = some r := h
 clear h
 by_cases c3 : (a0.size : Int) = (a1.size : Int)
 ·rw [if_pos c3] at H
  have c3b0 : ((a0.size : Int) == (a1.size : Int)) = true := beq_iff_eq.mpr c3
  have c3b1 : ((a0.size : Int) != (a1.size : Int)) = false := bne_eq_false_iff_eq.mpr c3
  have c3b2 : (a0.size == a1.size) = true := by first | simpa using c3 | (simp at c3 ⊢; omega)
  clear c3
  obtain rfl := Option.some.inj H
  go_enter Try.func114, Try.ntmps114
  go_wp2
  go_ret
  exact ⟨by first | rfl | (simp; done) | (simp [*]; done), by repeat (first | exact bR.refl _ | apply bR.step)⟩
 ·rw [if_neg c3] at H
  have c3b0 : ((a0.size : Int) == (a1.size : Int)) = false := beq_eq_false_iff_ne.mpr c3
  have c3b1 : ((a0.size : Int) != (a1.size : Int)) = true := bne_iff_ne.mpr c3
  have c3b2 : (a0.size == a1.size) = false := by first | simpa using c3 | (simp at c3 ⊢; omega)
  obtain rfl := Option.some.inj H
  go_enter Try.func114, Try.ntmps114
  go_wp2
  go_ret
  exact ⟨by first | rfl | (simp; done) | (simp [*]; done), by repeat (first | exact bR.refl _ | apply bR.step)⟩
def cO.f (pE : ByteArray) (pF : Int) (pG : ByteArray) (pI : Int) : Option (Bool) := if pE.toList = pG.toList then (some (decide (pF < pI))) else ((d9.f pE pG).bind fun t169 => (some t169))
set_option maxHeartbeats 8000000 in
set_option maxRecDepth 100000 in
theorem cO.calls (pE : ByteArray) (pF : Int) (pG : ByteArray) (pI : Int) (r : Bool) (w : World) (h : cO.f pE pF pG pI = some r) :
  Calls Try.prog 56 #[.agg #[.string pE, .int .i64 pF], .agg #[.string pG, .int .i64 pI]] w fun e w' => e = .returned (.bool r) ∧ Below w.heap.size w w' := by
 have hu31 := Try.underlying31
 have HB := ak.mk (Below.refl w.heap.size w)
 have H : (if pE.toList = pG.toList then (some (decide (pF < pI))) else ((d9.f pE pG).bind fun t169 => (some t169))) = some r := h
 clear h
 by_cases c3 : pE.toList = pG.toList
 ·rw [if_pos c3] at H
  have c3b0 : (pE.toList == pG.toList) = true := beq_iff_eq.mpr c3
  have c3b1 : (pE.toList != pG.toList) = false := bne_eq_false_iff_eq.mpr c3
  clear c3
  obtain rfl := Option.some.inj H
  go_enter Try.func56, Try.ntmps56
  go_wp2_with (first | ((with_reducible refine bX (N := 2) rfl ?_); refine bV ?hg (N := 2) ?hd (cs := #[.string pE, .int .i64 pF]) (t := 31) ?hr ?_; (case hd => rfl); (case hg => rfl); (case hr => first | (go_simp; done) | (go_simp; rfl)); intro gb167 hg w4 hbox hb; have n0_ := ak.mk (aX (by repeat (first | (with_reducible first | exact HB.out | apply au | apply ah | apply aj) | exact HB.out)) hb); have n1_ := ak.mk (hbox); have n2_ := ak.mk ((by rw [hg]; exact (aW (by repeat (first | (with_reducible first | exact HB.out | apply au | apply ah | apply aj) | exact HB.out))) : w.heap.size ≤ gb167)); have n3_ := ak.mk ((by rw [hg]; exact (aW (by repeat (first | (with_reducible first | exact HB.out | apply au | apply ah | apply aj) | exact HB.out))) : w.heap.size ≤ gb167)); clear HB; have HB := n0_; have BK167 := n1_; have GW167 := n2_; have GE167 := n3_; clear n0_ n1_ n2_ n3_; clear hb hbox hg) | ((with_reducible refine bX (N := 3) rfl ?_); refine bV ?hg (N := 3) ?hd (cs := #[.string pG, .int .i64 pI]) (t := 31) ?hr ?_; (case hd => rfl); (case hg => rfl); (case hr => first | (go_simp; done) | (go_simp; rfl)); intro gb168 hg w5 hbox hb; have n0_ := ak.mk (bD (g := gb167) (o := .cells #[.string pE, .int .i64 pF] 31 (0, 0)) (by (with_reducible repeat (first | refine aG ?_ _ | refine aK ?_ | refine aD ?_ _)); exact BK167.out) hb); have n1_ := ak.mk (aX (by repeat (first | (with_reducible first | exact HB.out | apply au | apply ah | apply aj | refine ay ?_ GE167.out) | exact HB.out)) hb); have n2_ := ak.mk (hbox); have n3_ := ak.mk ((by rw [hg]; exact (aW (by repeat (first | (with_reducible first | exact HB.out | apply au | apply ah | apply aj | refine ay ?_ GE167.out) | exact HB.out))) : w.heap.size ≤ gb168)); have n4_ := ak.mk ((by rw [hg]; exact (aW (by repeat (first | (with_reducible first | exact HB.out | apply au | apply ah | apply aj | refine ay ?_ GE167.out) | exact HB.out))) : w.heap.size ≤ gb168)); have n5_ := ak.mk ((by rw [hg]; exact Nat.ne_of_lt (dV (g := gb167) (o := .cells #[.string pE, .int .i64 pF] 31 (0, 0)) (by (with_reducible repeat (first | refine aG ?_ _ | refine aK ?_ | refine aD ?_ _)); exact BK167.out)) : gb167 ≠ gb168)); have n6_ := ak.mk ((by rw [hg]; exact Nat.ne_of_gt (dV (g := gb167) (o := .cells #[.string pE, .int .i64 pF] 31 (0, 0)) (by (with_reducible repeat (first | refine aG ?_ _ | refine aK ?_ | refine aD ?_ _)); exact BK167.out)) : gb168 ≠ gb167)); clear BK167; clear HB; have BK167 := n0_; have HB := n1_; have BK168 := n2_; have GW168 := n3_; have GE168 := n4_; have NB167_168 := n5_; have NB168_167 := n6_; clear n0_ n1_ n2_ n3_ n4_ n5_ n6_; clear hb hbox hg; have hnb6 := NB167_168.out; have hnc6 := NB168_167.out; have hcz7_0 : w5.cell? ⟨gb167, 0, none⟩ = some (.string pE) := (aM BK167.out 0).trans rfl; have hcz7_1 : w5.cell? ⟨gb167, 1, none⟩ = some (.int .i64 pF) := (aM BK167.out 1).trans rfl; have hfz7_0 := bB BK167.out 0; have hfz7_1 := bB BK167.out 1; have hcz8_0 : w5.cell? ⟨gb168, 0, none⟩ = some (.string pG) := (aM BK168.out 0).trans rfl; have hcz8_1 : w5.cell? ⟨gb168, 1, none⟩ = some (.int .i64 pI) := (aM BK168.out 1).trans rfl; have hfz8_0 := bB BK168.out 0; have hfz8_1 := bB BK168.out 1))
  go_ret
  exact ⟨by first | rfl | (simp [bn, bq] <;> rfl) | (simp [*, bn, bq] <;> rfl), by repeat (first | (with_reducible first | exact HB.out | apply au | apply ah | apply aj | refine ay ?_ GE167.out | refine ay ?_ GE168.out) | exact HB.out)⟩
 ·rw [if_neg c3] at H
  have c3b0 : (pE.toList == pG.toList) = false := beq_eq_false_iff_ne.mpr c3
  have c3b1 : (pE.toList != pG.toList) = true := bne_iff_ne.mpr c3
  replace H := Option.bind_eq_some_iff.mp H
  obtain ⟨t169, A90, H⟩ := H
  replace H : (some t169) = some r := H
  have A9 := ak.mk A90
  clear A90
  obtain rfl := Option.some.inj H
  go_enter Try.func56, Try.ntmps56
  go_wp2_with (first | ((with_reducible refine bX (N := 2) rfl ?_); refine bV ?hg (N := 2) ?hd (cs := #[.string pE, .int .i64 pF]) (t := 31) ?hr ?_; (case hd => rfl); (case hg => rfl); (case hr => first | (go_simp; done) | (go_simp; rfl)); intro gb167 hg w10 hbox hb; have n0_ := ak.mk (aX (by repeat (first | (with_reducible first | exact HB.out | apply au | apply ah | apply aj) | exact HB.out)) hb); have n1_ := ak.mk (hbox); have n2_ := ak.mk ((by rw [hg]; exact (aW (by repeat (first | (with_reducible first | exact HB.out | apply au | apply ah | apply aj) | exact HB.out))) : w.heap.size ≤ gb167)); have n3_ := ak.mk ((by rw [hg]; exact (aW (by repeat (first | (with_reducible first | exact HB.out | apply au | apply ah | apply aj) | exact HB.out))) : w.heap.size ≤ gb167)); clear HB; have HB := n0_; have BK167 := n1_; have GW167 := n2_; have GE167 := n3_; clear n0_ n1_ n2_ n3_; clear hb hbox hg) | ((with_reducible refine bX (N := 3) rfl ?_); refine bV ?hg (N := 3) ?hd (cs := #[.string pG, .int .i64 pI]) (t := 31) ?hr ?_; (case hd => rfl); (case hg => rfl); (case hr => first | (go_simp; done) | (go_simp; rfl)); intro gb168 hg w11 hbox hb; have n0_ := ak.mk (bD (g := gb167) (o := .cells #[.string pE, .int .i64 pF] 31 (0, 0)) (by (with_reducible repeat (first | refine aG ?_ _ | refine aK ?_ | refine aD ?_ _)); exact BK167.out) hb); have n1_ := ak.mk (aX (by repeat (first | (with_reducible first | exact HB.out | apply au | apply ah | apply aj | refine ay ?_ GE167.out) | exact HB.out)) hb); have n2_ := ak.mk (hbox); have n3_ := ak.mk ((by rw [hg]; exact (aW (by repeat (first | (with_reducible first | exact HB.out | apply au | apply ah | apply aj | refine ay ?_ GE167.out) | exact HB.out))) : w.heap.size ≤ gb168)); have n4_ := ak.mk ((by rw [hg]; exact (aW (by repeat (first | (with_reducible first | exact HB.out | apply au | apply ah | apply aj | refine ay ?_ GE167.out) | exact HB.out))) : w.heap.size ≤ gb168)); have n5_ := ak.mk ((by rw [hg]; exact Nat.ne_of_lt (dV (g := gb167) (o := .cells #[.string pE, .int .i64 pF] 31 (0, 0)) (by (with_reducible repeat (first | refine aG ?_ _ | refine aK ?_ | refine aD ?_ _)); exact BK167.out)) : gb167 ≠ gb168)); have n6_ := ak.mk ((by rw [hg]; exact Nat.ne_of_gt (dV (g := gb167) (o := .cells #[.string pE, .int .i64 pF] 31 (0, 0)) (by (with_reducible repeat (first | refine aG ?_ _ | refine aK ?_ | refine aD ?_ _)); exact BK167.out)) : gb168 ≠ gb167)); clear BK167; clear HB; have BK167 := n0_; have HB := n1_; have BK168 := n2_; have GW168 := n3_; have GE168 := n4_; have NB167_168 := n5_; have NB168_167 := n6_; clear n0_ n1_ n2_ n3_ n4_ n5_ n6_; clear hb hbox hg; have hnb12 := NB167_168.out; have hnc12 := NB168_167.out; have hcz13_0 : w11.cell? ⟨gb167, 0, none⟩ = some (.string pE) := (aM BK167.out 0).trans rfl; have hcz13_1 : w11.cell? ⟨gb167, 1, none⟩ = some (.int .i64 pF) := (aM BK167.out 1).trans rfl; have hfz13_0 := bB BK167.out 0; have hfz13_1 := bB BK167.out 1; have hcz14_0 : w11.cell? ⟨gb168, 0, none⟩ = some (.string pG) := (aM BK168.out 0).trans rfl; have hcz14_1 : w11.cell? ⟨gb168, 1, none⟩ = some (.int .i64 pI) := (aM BK168.out 1).trans rfl; have hfz14_0 := bB BK168.out 0; have hfz14_1 := bB BK168.out 1) | ((with_reducible refine bG (f := 114) rfl ?_); refine dz (some 14) rfl rfl Try.func114 (by kernel_rfl) rfl #[.string pE, .string pG] rfl (by (try simp only [List.map_toArray, List.map_cons, List.map_nil]); first | done | rfl | (simp only [List.length_drop, List.length_take]; rfl)) ?_; (with_reducible refine (d9.calls pE pG t169 _ A9.out).mono ?_); rintro e w' ⟨rfl, ⟨nd, rfl⟩⟩; refine ⟨_, rfl, ?_⟩))
  go_ret
  exact ⟨by first | rfl | (simp [bn, bq] <;> rfl) | (simp [*, bn, bq] <;> rfl), by repeat (first | (with_reducible first | exact HB.out | apply au | apply ah | apply aj | refine ay ?_ GE167.out | refine ay ?_ GE168.out) | exact HB.out)⟩
def dh.f (a0 : Int) (a1 : Int) (a2 : Int) : Option (Bool) := if a1 ≤ a0 then (some (decide (a0 ≤ a2))) else (some false)
set_option maxHeartbeats 8000000 in
set_option maxRecDepth 100000 in
theorem dh.calls (a0 : Int) (a1 : Int) (a2 : Int) (r : Bool) (w : World) (h : dh.f a0 a1 a2 = some r) :
  Calls Try.prog 65 #[.int .i64 a0, .int .i64 a1, .int .i64 a2] w fun e w' => e = .returned (.bool r) ∧ bR w w' := by
 have H : (if a1 ≤ a0 then (some (decide (a0 ≤ a2))) else (some false)) = some r := h
 clear h
 by_cases c4 : a1 ≤ a0
 ·rw [if_pos c4] at H
  have c4b0 : decide (a1 ≤ a0) = true := decide_eq_true c4
  clear c4
  obtain rfl := Option.some.inj H
  go_enter Try.func65, Try.ntmps65
  go_wp2
  go_ret
  exact ⟨by first | rfl | (simp; done) | (simp [*]; done), by repeat (first | exact bR.refl _ | apply bR.step)⟩
 ·rw [if_neg c4] at H
  have c4b0 : decide (a1 ≤ a0) = false := decide_eq_false c4
  clear c4
  obtain rfl := Option.some.inj H
  go_enter Try.func65, Try.ntmps65
  go_wp2
  go_ret
  exact ⟨by first | rfl | (simp; done) | (simp [*]; done), by repeat (first | exact bR.refl _ | apply bR.step)⟩
def eH.f (a0 : Int) : Option (Bool) := if a0 ≥ 97 then (some (decide (a0 ≤ 122))) else (some false)
set_option maxHeartbeats 8000000 in
set_option maxRecDepth 100000 in
theorem eH.calls (a0 : Int) (r : Bool) (w : World) (h : eH.f a0 = some r) :
  Calls Try.prog 122 #[.int .u8 a0] w fun e w' => e = .returned (.bool r) ∧ bR w w' := by
 have H : (if a0 ≥ 97 then (some (decide (a0 ≤ 122))) else (some false)) = some r := h
 clear h
 by_cases c2 : a0 ≥ 97
 ·rw [if_pos c2] at H
  have c2b0 : decide (97 ≤ a0) = true := decide_eq_true c2
  clear c2
  obtain rfl := Option.some.inj H
  go_enter Try.func122, Try.ntmps122
  go_wp2
  go_ret
  exact ⟨by first | rfl | (simp; done) | (simp [*]; done), by repeat (first | exact bR.refl _ | apply bR.step)⟩
 ·rw [if_neg c2] at H
  have c2b0 : decide (97 ≤ a0) = false := decide_eq_false c2
  clear c2
  obtain rfl := Option.some.inj H
  go_enter Try.func122, Try.ntmps122
  go_wp2
  go_ret
  exact ⟨by first | rfl | (simp; done) | (simp [*]; done), by repeat (first | exact bR.refl _ | apply bR.step)⟩
def bT.l0 : Nat → ByteArray → Int → Int → Option (Bool)
 | 0, _, _, _ => none
 | k + 1, x0, x9, x10 => if x10 < x9 then (if 0 ≤ x10 then (if x10 < (x0.size : Int) then ((eH.f (bt x0 x10)).bind fun t171 => (if t171 = true then (bT.l0 k x0 x9 (wrap64 (x10 + 1))) else (some false))) else (none)) else (none)) else (some true)
def bT.f (k : Nat) (a0 : ByteArray) : Option (Bool) := (dh.f (a0.size : Int) 1 8).bind fun t170 => (if t170 = true then (bT.l0 k a0 (a0.size : Int) 0) else (some false))
set_option maxHeartbeats 8000000 in
set_option maxRecDepth 100000 in
theorem bT.calls (k : Nat) (a0 : ByteArray) (r : Bool) (w : World) (h : bT.f k a0 = some r) :
  Calls Try.prog 64 #[.string a0] w fun e w' => e = .returned (.bool r) ∧ bR w w' := by
 have H : ((dh.f (a0.size : Int) 1 8).bind fun t170 => (if t170 = true then (bT.l0 k a0 (a0.size : Int) 0) else (some false))) = some r := h
 clear h
 replace H := Option.bind_eq_some_iff.mp H
 obtain ⟨t170, A20, H⟩ := H
 replace H : (if t170 = true then (bT.l0 k a0 (a0.size : Int) 0) else (some false)) = some r := H
 have A2 := ak.mk A20
 clear A20
 by_cases c3 : t170 = true
 ·subst c3
  have H1 : (bT.l0 k a0 (a0.size : Int) 0) = some r := by rw [if_pos rfl] at H; exact H
  clear H
  have H := H1
  clear H1
  have H' := ak.mk H
  clear H
  go_enter Try.func64, Try.ntmps64
  go_wp2_with (first | ((with_reducible refine bG (f := 65) rfl ?_); refine dz (some 6) rfl rfl Try.func65 (by kernel_rfl) rfl #[.int .i64 (a0.size : Int), .int .i64 1, .int .i64 8] rfl (by (try simp only [List.map_toArray, List.map_cons, List.map_nil]); first | done | rfl | (simp only [List.length_drop, List.length_take]; rfl)) ?_; (with_reducible refine (dh.calls (a0.size : Int) 1 8 true _ A2.out).mono ?_); rintro e w' ⟨rfl, ⟨nd, rfl⟩⟩; refine ⟨_, rfl, ?_⟩))
  go_loopg [10] k (fun kq v10 w' => ∃ (x10_1 : Int), v10 = .int .i64 x10_1 ∧ ak (bT.l0 kq a0 (a0.size : Int) x10_1 = some r) ∧ ak (kq ≤ k) ∧ bR w w')
  case atStart => exact ⟨(0), (by first | rfl | (simp; done) | (simp [*]; done)), H', ⟨Nat.le_refl _⟩, by repeat (first | exact bR.refl _ | apply bR.step)⟩
  case round =>
   clear H'
   try clear c3
   obtain ⟨x10_1, rfl, HA, HK1, ⟨m1, rfl⟩⟩ := hrel
   cases gk with
   | zero => exact absurd HA.out (by simp [bT.l0])
   | succ k1 =>
    have H := HA.out
    clear HA
    simp only [bT.l0] at H
    by_cases c4 : x10_1 < (a0.size : Int)
    ·rw [if_pos c4] at H
     have c4b0 : decide (x10_1 < (a0.size : Int)) = true := decide_eq_true c4
     clear c4
     by_cases c5 : 0 ≤ x10_1
     ·rw [if_pos c5] at H
      have c5b0 : decide (0 ≤ x10_1) = true := decide_eq_true c5
      clear c5
      by_cases c6 : x10_1 < (a0.size : Int)
      ·rw [if_pos c6] at H
       have c6b0 : decide (x10_1 < (a0.size : Int)) = true := decide_eq_true c6
       clear c6
       replace H := Option.bind_eq_some_iff.mp H
       obtain ⟨t171, A80, H⟩ := H
       replace H : (if t171 = true then (bT.l0 k1 a0 (a0.size : Int) (wrap64 (x10_1 + 1))) else (some false)) = some r := H
       have A8 := ak.mk A80
       clear A80
       by_cases c9 : t171 = true
       ·subst c9
        have H1 : (bT.l0 k1 a0 (a0.size : Int) (wrap64 (x10_1 + 1))) = some r := by rw [if_pos rfl] at H; exact H
        clear H
        have H := H1
        clear H1
        have H' := ak.mk H
        clear H
        have p7 : 0 ≤ (x10_1 : Int) := of_decide_eq_true (by first | (with_reducible assumption) | assumption)
        have q7 : x10_1 < (a0.size : Int) := of_decide_eq_true (by first | (with_reducible assumption) | assumption)
        have hx7 := jT a0 x10_1
        replace p7 := eq_true p7
        replace q7 := eq_true q7
        go_wp2_with (first | ((with_reducible refine bG (f := 122) rfl ?_); refine dz (some 16) rfl rfl Try.func122 (by kernel_rfl) rfl #[.int .u8 (bt a0 x10_1)] rfl (by (try simp only [List.map_toArray, List.map_cons, List.map_nil]); first | done | rfl | (simp only [List.length_drop, List.length_take]; rfl)) ?_; (with_reducible refine (eH.calls (bt a0 x10_1) true _ A8.out).mono ?_); rintro e w' ⟨rfl, ⟨nd, rfl⟩⟩; refine ⟨_, rfl, ?_⟩))
        go_roundg k1
        case measure => have := HK1.out; omega
        case rel => exact ⟨(wrap64 (x10_1 + 1)), (by first | rfl | (simp; done) | (simp [*]; done)), H', ⟨by have := HK1.out; omega⟩, by repeat (first | exact bR.refl _ | apply bR.step)⟩
       ·replace c9 := Bool.eq_false_iff.mpr c9
        subst c9
        have H1 : (some false) = some r := by rw [if_neg (show ¬ (false = true) by decide)] at H; exact H
        clear H
        have H := H1
        clear H1
        obtain rfl := Option.some.inj H
        have p7 : 0 ≤ (x10_1 : Int) := of_decide_eq_true (by first | (with_reducible assumption) | assumption)
        have q7 : x10_1 < (a0.size : Int) := of_decide_eq_true (by first | (with_reducible assumption) | assumption)
        have hx7 := jT a0 x10_1
        replace p7 := eq_true p7
        replace q7 := eq_true q7
        go_wp2_with (first | ((with_reducible refine bG (f := 122) rfl ?_); refine dz (some 16) rfl rfl Try.func122 (by kernel_rfl) rfl #[.int .u8 (bt a0 x10_1)] rfl (by (try simp only [List.map_toArray, List.map_cons, List.map_nil]); first | done | rfl | (simp only [List.length_drop, List.length_take]; rfl)) ?_; (with_reducible refine (eH.calls (bt a0 x10_1) false _ A8.out).mono ?_); rintro e w' ⟨rfl, ⟨nd, rfl⟩⟩; refine ⟨_, rfl, ?_⟩))
        go_ret
        exact ⟨by first | rfl | (simp; done) | (simp [*]; done), by repeat (first | exact bR.refl _ | apply bR.step)⟩
      ·rw [if_neg c6] at H
       exact absurd H (by simp)
     ·rw [if_neg c5] at H
      exact absurd H (by simp)
    ·rw [if_neg c4] at H
     have c4b0 : decide (x10_1 < (a0.size : Int)) = false := decide_eq_false c4
     clear c4
     obtain rfl := Option.some.inj H
     go_wp2
     go_ret
     exact ⟨by first | rfl | (simp; done) | (simp [*]; done), by repeat (first | exact bR.refl _ | apply bR.step)⟩
 ·replace c3 := Bool.eq_false_iff.mpr c3
  subst c3
  have H1 : (some false) = some r := by rw [if_neg (show ¬ (false = true) by decide)] at H; exact H
  clear H
  have H := H1
  clear H1
  obtain rfl := Option.some.inj H
  go_enter Try.func64, Try.ntmps64
  go_wp2_with (first | ((with_reducible refine bG (f := 65) rfl ?_); refine dz (some 6) rfl rfl Try.func65 (by kernel_rfl) rfl #[.int .i64 (a0.size : Int), .int .i64 1, .int .i64 8] rfl (by (try simp only [List.map_toArray, List.map_cons, List.map_nil]); first | done | rfl | (simp only [List.length_drop, List.length_take]; rfl)) ?_; (with_reducible refine (dh.calls (a0.size : Int) 1 8 false _ A2.out).mono ?_); rintro e w' ⟨rfl, ⟨nd, rfl⟩⟩; refine ⟨_, rfl, ?_⟩))
  go_ret
  exact ⟨by first | rfl | (simp; done) | (simp [*]; done), by repeat (first | exact bR.refl _ | apply bR.step)⟩
end Go.Proofs.Ythjcicmmbmagbaa.PFnExactAddMeaning
