/- l10Reach: what the marking of connected cells comes to. Plain contract. -/
import Derived.Test.YtdbefmkcondbgaaGreatDoorProg
import Derived.WalkKit
import Derived.BigGuard
import Derived.BigCall
import Derived.Below
import Derived.Deep.DeepCutAuto
import Derived.Deep.CutBlock
import Derived.Deep.LoopGhost
import Derived.Test.YtdbefmkcondbgaaGreatDoorZHaOnSoW
namespace Go.Proofs.YtdbefmkcondbgaaGreatDoor.HandReach
open Go.RowKit Go.Proofs.Yw.PrintWords Go.Proofs.Yw.PrintLast Go.Proofs.Yw.PrintMore
set_option linter.unusedVariables false
set_option linter.unusedSimpArgs false
def uE (C : Int) (x : List Bool) (i : Int) : Bool :=
 (decide (i % C > 0) && gq false x (i - 1)) || (decide (i % C + 1 < C) && gq false x (i + 1)) || (decide (i ≥ C) && gq false x (i - C)) || (decide (i + C < (x.length : Int)) && gq false x (i + C))
mutual
def qL (C : Int) (s : aj) : Nat → List Bool → Bool → Option (List Bool)
 | 0, _, _ => none
 | k + 1, x, g => if g = true then nY C s k x false 0 else some x
def nY (C : Int) (s : aj) : Nat → List Bool → Bool → Int → Option (List Bool)
 | 0, _, _, _ => none
 | k + 1, x, g, i => if i < (x.length : Int) then (if (gq false x i || (bt s i != 46)) = true then nY C s k x g (i + 1) else if uE C x i = true then nY C s k (x.set i.toNat true) true (i + 1) else nY C s k x g (i + 1)) else qL C s k x g
end
def DF (k : Nat) (R C : Int) (s : aj) (l1 : List Bool) (a2 : Int) : Option (List Bool) :=
 if (2 ≤ R ∧ R ≤ 6) ∧ (2 ≤ C ∧ C ≤ 6) ∧ (s.size : Int) = R * C ∧ (l1.length : Int) = R * C ∧ 0 ≤ a2 ∧ a2 < R * C then qL C s k (l1.set a2.toNat true) true else none
set_option maxHeartbeats 8000000 in
set_option maxRecDepth 100000 in
theorem Ka (k : Nat) (Mc : Int) (Md : Int) (Me : aj) (P1_ : Nat → Prop) (u9000_ : Value) (l1 : List Bool) (a2 : Int) (r : List Bool) (w0 w : World) (hB : Below w0.heap.size w0 w) (ho1 : Kd.R Kd.bool 4 w w0.heap.size P1_ u9000_ l1) (h : DF k Mc Md Me l1 a2 = some r) :
  Calls Tryz.prog 135 #[.agg #[.int .i64 Mc, .int .i64 Md, .string Me], u9000_, .int .i64 a2] w fun e w' => ∃ v0_ : Value, e = .returned (v0_) ∧ Kd.R Kd.bool 4 w' w0.heap.size (fun k_ => (P1_ k_ ∨ w.heap.size ≤ k_)) v0_ r ∧ Below w0.heap.size w0 w' ∧ Kept w w' (fun k_ => P1_ k_) := by
 have huG := Tryz.underlying34
 have HO1 := ah.mk (show Kd.R Kd.bool 4 w w0.heap.size (fun k_ => (P1_ k_ ∨ w.heap.size ≤ k_)) u9000_ l1 from Kd.dN ho1 (fun k_ hk => (.inl hk)))
 have HK := ah.mk (Kept.refl w (fun k_ => P1_ k_))
 have HB := ah.mk hB
 clear hB ho1
 unfold DF at h
 by_cases hc : (2 ≤ Mc ∧ Mc ≤ 6) ∧ (2 ≤ Md ∧ Md ≤ 6) ∧ (Me.size : Int) = Mc * Md ∧ (l1.length : Int) = Mc * Md ∧ 0 ≤ a2 ∧ a2 < Mc * Md
 ·rw [if_pos hc] at h
  obtain ⟨⟨hR0, hR1⟩, ⟨hC0, hC1⟩, hs, hl, ha0, ha1⟩ := hc
  have hm4 : Mc * Md ≤ 6 * 6 := Int.mul_le_mul (by omega) (by omega) (by omega) (by omega)
  have hle : l1.length ≤ 36 := by omega
  have p6 : 0 ≤ a2 := ha0
  have q6 : a2 < (l1.length : Int) := by omega
  obtain ⟨go, co, eo, gb, gl, cl, hg0⟩ := Kd.rA HO1.out (by omega)
  subst eo
  have GB := ah.mk gb
  have hMg : P1_ go ∨ w.heap.size ≤ go := HO1.out.1 _ rfl
  have HMG := ah.mk hMg
  obtain ⟨n, hn⟩ : ∃ n, n = l1.length := ⟨_, rfl⟩
  have HN := ah.mk (show (n : Int) = Mc * Md from by omega)
  have HS := ah.mk (show (n : Int) = (Me.size : Int) from by omega)
  have hnle : n ≤ 36 := by omega
  rw [← hn] at q6
  have H := ah.mk h
  have HLL := ah.mk (show (l1.set a2.toNat true).length = n from by rw [List.length_set]; exact hn.symm)
  rw [← hn] at HO1
  rw [← hn]
  clear hm4 hle hs hl ha1 h hg0 gb gl cl hMg hn ha0
  have p6' := eq_true p6
  have q6' := eq_true q6
  go_enter Tryz.func135, Tryz.ntmps135
  go_wp2_with (first | ((with_reducible refine aI (N := 3) rfl ?_); refine nV ?hg (N := 3) ?hd (cs := #[.int .i64 Mc, .int .i64 Md, .string Me]) (t := 34) ?hr ?_; (case hd => rfl); (case hg => rfl); (case hr => first | (go_simp; done) | (go_simp; rfl)); intro g3 hg w2 hbox hb; have n0_ := ah.mk (fZ HB.out hb); have n1_ := ah.mk (show w0.heap.size ≤ g3 from by rw [hg]; exact aH HB.out); have n2_ := ah.mk (Kd.jE HO1.out hb); have n3_ := ah.mk (Kept.below HK.out hb); have n4_ := ah.mk (show go ≠ g3 from by rw [hg]; exact Nat.ne_of_lt (Kd.qG HO1.out _ rfl)); have n5_ := ah.mk (show w.heap.size ≤ g3 from by rw [hg]; exact HK.out.1); clear HB HO1 HK; have HB := n0_; have G3 := n1_; have HO1 := n2_; have HK := n3_; have NG := n4_; have GW := n5_; clear n0_ n1_ n2_ n3_ n4_ n5_; have BK3 := ah.mk hbox; clear hbox hb hg; obtain ⟨hy8_, hz8_⟩ := Kd.nG false HO1.out a2 p6 q6; have HP8 := Kd.uY HO1.out a2 true) | ((with_reducible refine jQ (t := 4) (p := 13) rfl ?_); refine jD (t := 4) (p := 13) (v := ?vo_w9) (w1 := (w2.setCell ⟨go, (a2 : Int).toNat, none⟩ (.bool true))) ?hg ?ho ?hn ?hr ?_; (case ho => rfl); (case hg => rfl); (case hn => rfl); (case hr => first | (go_simp; done) | (go_simp; rfl)); intro w3 hw; have n0_ := ah.mk (show Kd.R Kd.bool 4 w3 w0.heap.size (fun k_ => (P1_ k_ ∨ w.heap.size ≤ k_)) (.slice (some ⟨go, 0, none⟩) n co) (l1.set a2.toNat true) from by rw [hw]; exact HP8.1); have n1_ := ah.mk (show w3.heap[g3]? = some (.cells #[.int .i64 Mc, .int .i64 Md, .string Me] 34 (0, 0)) from by rw [hw]; exact iF BK3.out (p := ⟨go, a2.toNat, none⟩) (fun e => NG.out e.symm) _); have n2_ := ah.mk (show Below w0.heap.size w0 w3 from by rw [hw]; exact fU HB.out GB.out); have n3_ := ah.mk (show Kept w w3 (fun k_ => P1_ k_) from by rw [hw]; exact Kept.setCell HK.out HMG.out _); clear HO1 BK3 HB HK HP8 hy8_ hz8_; have HO1 := n0_; have BK3 := n1_; have HB := n2_; have HK := n3_; clear n0_ n1_ n2_ n3_ hw))
  clear p6 q6 p6' q6'
  go_loopg [7] k (fun kq v7 w' => ∃ (x : List Bool) (g : Bool), v7 = .bool g ∧ x.length = n ∧ ah (qL Md Me kq x g = some r) ∧ ah (kq ≤ k) ∧ ah (Kd.R Kd.bool 4 w' w0.heap.size (fun k_ => (P1_ k_ ∨ w.heap.size ≤ k_)) (.slice (some ⟨go, 0, none⟩) n co) x) ∧ ah (w'.heap[g3]? = some (.cells #[.int .i64 Mc, .int .i64 Md, .string Me] 34 (0, 0))) ∧ ah (Kept w w' (fun k_ => P1_ k_)) ∧ ah (Below w0.heap.size w0 w'))
  case atStart => exact ⟨_, true, rfl, HLL.out, H, ⟨Nat.le_refl _⟩, HO1, BK3, HK, HB⟩
  case round =>
   clear HO1 BK3 HB HK H HLL
   obtain ⟨x, g, rfl, hxl, HA, HK1, HO1, BK3, HK, HB⟩ := hrel
   cases gk with
   | zero => exact absurd HA.out (by simp [qL])
   | succ k1 =>
    have H := HA.out
    simp only [qL] at H
    clear HA
    cases g with
    | true =>
     rw [if_pos rfl] at H
     have H' := ah.mk H
     clear H
     go_wp2
     go_loopg [7, 8] k1 (fun kq v7 v8 w' => ∃ (x : List Bool) (g : Bool) (i : Int), v7 = .bool g ∧ v8 = .int .i64 i ∧ x.length = n ∧ (0 ≤ i ∧ i ≤ 36) ∧ ah (nY Md Me kq x g i = some r) ∧ ah (kq ≤ k1) ∧ ah (Kd.R Kd.bool 4 w' w0.heap.size (fun k_ => (P1_ k_ ∨ w.heap.size ≤ k_)) (.slice (some ⟨go, 0, none⟩) n co) x) ∧ ah (w'.heap[g3]? = some (.cells #[.int .i64 Mc, .int .i64 Md, .string Me] 34 (0, 0))) ∧ ah (Kept w w' (fun k_ => P1_ k_)) ∧ ah (Below w0.heap.size w0 w'))
     case atStart => exact ⟨x, false, 0, rfl, rfl, hxl, by omega, H', ⟨Nat.le_refl _⟩, HO1, BK3, HK, HB⟩
     case round =>
      clear HO1 BK3 HB HK H' hxl
      clear x
      obtain ⟨x, g, i, rfl, rfl, hxl, ⟨hi0, hi1⟩, HA, HK2, HO1, BK3, HK, HB⟩ := hrel
      have hz0 : wr.cell? ⟨g3, 0, none⟩ = some (.int .i64 Mc) := (ak BK3.out 0).trans rfl
      have hz1 : wr.cell? ⟨g3, 1, none⟩ = some (.int .i64 Md) := (ak BK3.out 1).trans rfl
      have hz2 : wr.cell? ⟨g3, 2, none⟩ = some (.string Me) := (ak BK3.out 2).trans rfl
      cases gk with
      | zero => exact absurd HA.out (by simp [nY])
      | succ k2 =>
       have H := HA.out
       simp only [nY] at H
       rw [hxl] at H
       clear HA
       have HXL := ah.mk hxl
       clear hxl
       have hwi : wrap64 (i + 1) = i + 1 := by unfold wrap64; omega
       by_cases c1 : i < (n : Int)
       ·rw [if_pos c1] at H
        have c1b : decide (i < (n : Int)) = true := decide_eq_true c1
        have hb0 := gN Me i
        have p7 := eq_true hi0
        have q7 : (i < (Me.size : Int)) = True := eq_true (by have := HS.out; omega)
        obtain ⟨hcell, hfr⟩ := Kd.nG false HO1.out i hi0 c1
        cases c2 : gq false x i with
        | true =>
         rw [c2] at hcell H
         rw [if_pos (by rfl)] at H
         have H' := ah.mk H
         clear H c2
         go_wp2
         go_roundg k2
         case measure => have := HK1.out; have := HK2.out; omega
         case rel => exact ⟨x, g, i + 1, rfl, rfl, HXL.out, by omega, H', ⟨by have := HK1.out; have := HK2.out; omega⟩, HO1, BK3, HK, HB⟩
        | false =>
         rw [c2] at hcell H
         cases c3 : (bt Me i != 46) with
         | true =>
          rw [c3] at H
          rw [if_pos (by rfl)] at H
          have H' := ah.mk H
          clear H c2
          go_wp2
          go_roundg k2
          case measure => have := HK1.out; have := HK2.out; omega
          case rel => exact ⟨x, g, i + 1, rfl, rfl, HXL.out, by omega, H', ⟨by have := HK1.out; have := HK2.out; omega⟩, HO1, BK3, HK, HB⟩
         | false =>
          rw [c3] at H
          rw [if_neg (by decide)] at H
          have HH := ah.mk H
          clear H
          have hdm : Md * (i / Md) + i % Md = i := Int.mul_ediv_add_emod i Md
          have hd0 : 0 ≤ i / Md := Int.ediv_nonneg hi0 (by omega)
          have hd2 : 0 ≤ i % Md := Int.emod_nonneg _ (by omega)
          have hd3 : i % Md < Md := Int.emod_lt_of_pos _ (by omega)
          have hd4 : 0 ≤ Md * (i / Md) := Int.mul_nonneg (by omega) hd0
          have hd5 : Md * (i / Md) + Md ≤ (n : Int) := by
           have h1 : i / Md < Mc := Int.ediv_lt_of_lt_mul (by omega) (by have := HN.out; omega)
           have h2 : Md * (i / Md + 1) ≤ Md * Mc := Int.mul_le_mul_of_nonneg_left (by omega) (by omega)
           rw [Int.mul_add, Int.mul_one, Int.mul_comm Md Mc, ← HN.out] at h2
           exact h2
          go_upto_region 10 with (fail)
          go_cut [10] (fun v10 wc => v10 = .bool (uE Md x i) ∧ ah (Kd.R Kd.bool 4 wc w0.heap.size (fun k_ => (P1_ k_ ∨ w.heap.size ≤ k_)) (.slice (some ⟨go, 0, none⟩) n co) x) ∧ ah (wc.heap[g3]? = some (.cells #[.int .i64 Mc, .int .i64 Md, .string Me] 34 (0, 0))) ∧ ah (Kept w wc (fun k_ => P1_ k_)) ∧ ah (Below w0.heap.size w0 wc))
          case first =>
           obtain ⟨j1, hj1⟩ : ∃ j, j = i - 1 := ⟨_, rfl⟩
           have hw_j1 : wrap64 (i - 1) = j1 := by unfold wrap64; omega
           obtain ⟨j2, hj2⟩ : ∃ j, j = i - Md := ⟨_, rfl⟩
           have hw_j2 : wrap64 (i - Md) = j2 := by unfold wrap64; omega
           obtain ⟨j3, hj3⟩ : ∃ j, j = i + Md := ⟨_, rfl⟩
           have hw_j3 : wrap64 (i + Md) = j3 := by unfold wrap64; omega
           obtain ⟨j4, hj4⟩ : ∃ j, j = i + 1 := ⟨_, rfl⟩
           have hw_j4 : wrap64 (i + 1) = j4 := by unfold wrap64; omega
           obtain ⟨j5, hj5⟩ : ∃ j, j = i % Md + 1 := ⟨_, rfl⟩
           have hw_j5 : wrap64 (i % Md + 1) = j5 := by unfold wrap64; omega
           have hA : (decide (0 < i % Md) = true ∧ gq false x (j1) = true ∧ wr.cell? ⟨go, (j1).toNat, none⟩ = some (.bool true) ∧ (0 ≤ j1) = True ∧ (j1 < (n : Int)) = True) ∨ (decide (0 < i % Md) = false ∨ (decide (0 < i % Md) = true ∧ gq false x (j1) = false ∧ wr.cell? ⟨go, (j1).toNat, none⟩ = some (.bool false) ∧ (0 ≤ j1) = True ∧ (j1 < (n : Int)) = True)) := by
            by_cases q : 0 < i % Md
            ·have this := (Kd.nG false HO1.out (j1) (by omega) (by omega)).1
             have q1 := eq_true (show 0 ≤ j1 by omega)
             have q2 := eq_true (show j1 < (n : Int) by omega)
             cases e : gq false x (j1) with
             | true => rw [e] at this; exact Or.inl ⟨decide_eq_true q, rfl, this, q1, q2⟩
             | false => rw [e] at this; exact Or.inr (Or.inr ⟨decide_eq_true q, rfl, this, q1, q2⟩)
            ·exact Or.inr (Or.inl (decide_eq_false q))
           have hE : (decide (j5 < Md) = true ∧ gq false x (j4) = true ∧ wr.cell? ⟨go, (j4).toNat, none⟩ = some (.bool true) ∧ (0 ≤ j4) = True ∧ (j4 < (n : Int)) = True) ∨ (decide (j5 < Md) = false ∨ (decide (j5 < Md) = true ∧ gq false x (j4) = false ∧ wr.cell? ⟨go, (j4).toNat, none⟩ = some (.bool false) ∧ (0 ≤ j4) = True ∧ (j4 < (n : Int)) = True)) := by
            by_cases q : j5 < Md
            ·have this := (Kd.nG false HO1.out (j4) (by omega) (by omega)).1
             have q1 := eq_true (show 0 ≤ j4 by omega)
             have q2 := eq_true (show j4 < (n : Int) by omega)
             cases e : gq false x (j4) with
             | true => rw [e] at this; exact Or.inl ⟨decide_eq_true q, rfl, this, q1, q2⟩
             | false => rw [e] at this; exact Or.inr (Or.inr ⟨decide_eq_true q, rfl, this, q1, q2⟩)
            ·exact Or.inr (Or.inl (decide_eq_false q))
           have hU : (decide (Md ≤ i) = true ∧ gq false x (j2) = true ∧ wr.cell? ⟨go, (j2).toNat, none⟩ = some (.bool true) ∧ (0 ≤ j2) = True ∧ (j2 < (n : Int)) = True) ∨ (decide (Md ≤ i) = false ∨ (decide (Md ≤ i) = true ∧ gq false x (j2) = false ∧ wr.cell? ⟨go, (j2).toNat, none⟩ = some (.bool false) ∧ (0 ≤ j2) = True ∧ (j2 < (n : Int)) = True)) := by
            by_cases q : Md ≤ i
            ·have this := (Kd.nG false HO1.out (j2) (by omega) (by omega)).1
             have q1 := eq_true (show 0 ≤ j2 by omega)
             have q2 := eq_true (show j2 < (n : Int) by omega)
             cases e : gq false x (j2) with
             | true => rw [e] at this; exact Or.inl ⟨decide_eq_true q, rfl, this, q1, q2⟩
             | false => rw [e] at this; exact Or.inr (Or.inr ⟨decide_eq_true q, rfl, this, q1, q2⟩)
            ·exact Or.inr (Or.inl (decide_eq_false q))
           have hD : (decide (j3 < (n : Int)) = true ∧ gq false x (j3) = true ∧ wr.cell? ⟨go, (j3).toNat, none⟩ = some (.bool true) ∧ (0 ≤ j3) = True ∧ (j3 < (n : Int)) = True) ∨ (decide (j3 < (n : Int)) = false ∨ (decide (j3 < (n : Int)) = true ∧ gq false x (j3) = false ∧ wr.cell? ⟨go, (j3).toNat, none⟩ = some (.bool false) ∧ (0 ≤ j3) = True ∧ (j3 < (n : Int)) = True)) := by
            by_cases q : j3 < (n : Int)
            ·have this := (Kd.nG false HO1.out (j3) (by omega) (by omega)).1
             have q1 := eq_true (show 0 ≤ j3 by omega)
             have q2 := eq_true (show j3 < (n : Int) by omega)
             cases e : gq false x (j3) with
             | true => rw [e] at this; exact Or.inl ⟨decide_eq_true q, rfl, this, q1, q2⟩
             | false => rw [e] at this; exact Or.inr (Or.inr ⟨decide_eq_true q, rfl, this, q1, q2⟩)
            ·exact Or.inr (Or.inl (decide_eq_false q))
           clear hdm hd4 hd5 hcell hfr hd0 hd2 hd3
           have hn : uE Md x i = ((decide (0 < i % Md) && gq false x (i - 1)) || (decide (i % Md + 1 < Md) && gq false x (i + 1)) || (decide (Md ≤ i) && gq false x (i - Md)) || (decide (i + Md < (n : Int)) && gq false x (i + Md))) := by unfold uE; rw [HXL.out]
           rw [← hj5, ← hj2, ← hj3, ← hj1, ← hj4] at hn
           have HN2 := ah.mk hn
           clear hn HH hj1 hj2 hj3 hj4 hj5 hi0 hi1 hwi
           rcases hA with ⟨b1, b2, b3, b4, b5⟩ | hA
           ·(go_wp2; go_meet; exact ⟨by rw [HN2.out]; simp only [*, decide_true, Bool.true_and, Bool.false_and, Bool.or_false, Bool.or_true, Bool.true_or, Bool.false_or]; try rfl, HO1, BK3, HK, HB⟩)
           rcases hE with ⟨e1, e2, e3, e4, e5⟩ | hE
           ·rcases hA with b1 | ⟨b1, b2, b3, b4, b5⟩ <;> (go_wp2; go_meet; exact ⟨by rw [HN2.out]; simp only [*, decide_true, Bool.true_and, Bool.false_and, Bool.or_false, Bool.or_true, Bool.true_or, Bool.false_or]; try rfl, HO1, BK3, HK, HB⟩)
           rcases hU with ⟨u1, u2, u3, u4, u5⟩ | hU
           ·rcases hA with b1 | ⟨b1, b2, b3, b4, b5⟩ <;> rcases hE with e1 | ⟨e1, e2, e3, e4, e5⟩ <;> (go_wp2; go_meet; exact ⟨by rw [HN2.out]; simp only [*, decide_true, Bool.true_and, Bool.false_and, Bool.or_false, Bool.or_true, Bool.true_or, Bool.false_or]; try rfl, HO1, BK3, HK, HB⟩)
           rcases hD with ⟨v1, v2, v3, v4, v5⟩ | hD
           ·rcases hA with b1 | ⟨b1, b2, b3, b4, b5⟩ <;> rcases hE with e1 | ⟨e1, e2, e3, e4, e5⟩ <;> rcases hU with u1 | ⟨u1, u2, u3, u4, u5⟩ <;> (go_wp2; go_meet; exact ⟨by rw [HN2.out]; simp only [*, decide_true, Bool.true_and, Bool.false_and, Bool.or_false, Bool.or_true, Bool.true_or, Bool.false_or]; try rfl, HO1, BK3, HK, HB⟩)
           ·rcases hA with b1 | ⟨b1, b2, b3, b4, b5⟩ <;> rcases hE with e1 | ⟨e1, e2, e3, e4, e5⟩ <;> rcases hU with u1 | ⟨u1, u2, u3, u4, u5⟩ <;> rcases hD with v1 | ⟨v1, v2, v3, v4, v5⟩ <;> (go_wp2; go_meet; exact ⟨by rw [HN2.out]; simp only [*, decide_true, Bool.true_and, Bool.false_and, Bool.or_false, Bool.or_true, Bool.true_or, Bool.false_or]; try rfl, HO1, BK3, HK, HB⟩)
          case rest =>
           clear HO1 BK3 HK HB hz0 hz1 hz2 hcell hfr hdm hd0 hd2 hd3 hd4 hd5 c2 c3
           obtain ⟨rfl, HO1, BK3, HK, HB⟩ := hcut
           have H := HH.out
           clear HH
           cases c4 : uE Md x i with
           | true =>
            rw [c4] at H
            rw [if_pos rfl] at H
            have H' := ah.mk H
            clear H c4
            obtain ⟨hy8_, hz8_⟩ := Kd.nG false HO1.out i hi0 c1
            have HP8 := Kd.uY HO1.out i true
            have q7 := eq_true c1
            go_wp2_with ((with_reducible refine jQ (t := 4) (p := 95) rfl ?_); refine jD (t := 4) (p := 95) (v := ?vo_w9) (w1 := (wc.setCell ⟨go, (i : Int).toNat, none⟩ (.bool true))) ?hg ?ho ?hn ?hr ?_; (case ho => rfl); (case hg => rfl); (case hn => rfl); (case hr => first | (go_simp; done) | (go_simp; rfl)); intro w5 hw; have n0_ := ah.mk (show Kd.R Kd.bool 4 w5 w0.heap.size (fun k_ => (P1_ k_ ∨ w.heap.size ≤ k_)) (.slice (some ⟨go, 0, none⟩) n co) (x.set i.toNat true) from by rw [hw]; exact HP8.1); have n1_ := ah.mk (show w5.heap[g3]? = some (.cells #[.int .i64 Mc, .int .i64 Md, .string Me] 34 (0, 0)) from by rw [hw]; exact iF BK3.out (p := ⟨go, i.toNat, none⟩) (fun e => NG.out e.symm) _); have n2_ := ah.mk (show Below w0.heap.size w0 w5 from by rw [hw]; exact fU HB.out GB.out); have n3_ := ah.mk (show Kept w w5 (fun k_ => P1_ k_) from by rw [hw]; exact Kept.setCell HK.out HMG.out _); clear HO1 BK3 HB HK HP8 hy8_ hz8_; have HO1 := n0_; have BK3 := n1_; have HB := n2_; have HK := n3_; clear n0_ n1_ n2_ n3_ hw)
            go_roundg k2
            case measure => have := HK1.out; have := HK2.out; omega
            case rel => exact ⟨x.set i.toNat true, true, i + 1, rfl, rfl, by rw [List.length_set]; exact HXL.out, by omega, H', ⟨by have := HK1.out; have := HK2.out; omega⟩, HO1, BK3, HK, HB⟩
           | false =>
            rw [c4] at H
            rw [if_neg (by decide)] at H
            have H' := ah.mk H
            clear H c4
            go_wp2
            go_roundg k2
            case measure => have := HK1.out; have := HK2.out; omega
            case rel => exact ⟨x, g, i + 1, rfl, rfl, HXL.out, by omega, H', ⟨by have := HK1.out; have := HK2.out; omega⟩, HO1, BK3, HK, HB⟩
       ·rw [if_neg c1] at H
        have c1b : decide (i < (n : Int)) = false := decide_eq_false c1
        have H' := ah.mk H
        clear H
        go_wp2
        go_roundg k2
        case measure => have := HK1.out; have := HK2.out; omega
        case rel => exact ⟨x, g, rfl, HXL.out, H', ⟨by have := HK1.out; have := HK2.out; omega⟩, HO1, BK3, HK, HB⟩
    | false =>
     rw [if_neg (by decide)] at H
     obtain rfl := Option.some.inj H
     clear H
     go_wp2
     go_ret
     exact ⟨_, rfl, HO1.out, HB.out, HK.out⟩
 ·rw [if_neg hc] at h
  cases h
end Go.Proofs.YtdbefmkcondbgaaGreatDoor.HandReach
