/- The closure of PartsOf: what a visit leaves in the row of cells that are met. Plain contracts. -/
import Derived.Test.YtdbefmkcondbgaaGreatDoorProg
import Derived.Sort.WalkA
import Derived.WalkKit
import Derived.BigGuard
import Derived.BigCall
import Derived.CellFam
import Derived.Deep.Draws
import Derived.Deep.QuietTactic
import Derived.BigQuiet
import Derived.Below
import Derived.StillTailTactics
import Derived.Lib.OwnBridge
import Derived.Test.YtdbefmkcondbgaaGreatDoorZHaOnSoW
namespace Go.Proofs.YtdbefmkcondbgaaGreatDoor.HandForm
open Go.RowKit Go.Sort Go.Proofs Go.Proofs.Yw.PrintWords Go.Proofs.Yw.PrintLast Go.Proofs.Yw.PrintMore
set_option linter.unusedVariables false
set_option linter.unusedSimpArgs false
set_option maxHeartbeats 1000000 in
theorem Il (a b : Int) (w : World) (h1 : decide (0 ≤ a) = true) (h2 : decide (a < b) = true) : Calls Tryz.prog 121 #[.int .i64 a, .int .i64 b] w fun e w' => e = .returned (.bool true) ∧ w = w' := by
 go_enter Tryz.func121, Tryz.ntmps121
 go_wp2
 go_ret
 exact ⟨rfl, rfl⟩
set_option maxHeartbeats 4000000 in
set_option maxRecDepth 100000 in
theorem uU (R C r c : Int) (s : aj) (gg gm gv b n cap i : Nat) (W : World) (c0 : W.cell? ⟨gg, 0, none⟩ = some (.int .i64 R)) (c1 : W.cell? ⟨gg, 1, none⟩ = some (.int .i64 C)) (c2 : W.cell? ⟨gg, 2, none⟩ = some (.string s)) (cm : W.cell? ⟨gm, 0, none⟩ = some (.slice (some ⟨b, 0, none⟩) n cap))
  (k : (decide (0 ≤ r) = false) ∨ (decide (0 ≤ r) = true ∧ decide (r < R) = false) ∨ (decide (0 ≤ r) = true ∧ decide (r < R) = true ∧ decide (0 ≤ c) = false) ∨ (decide (0 ≤ r) = true ∧ decide (r < R) = true ∧ decide (0 ≤ c) = true ∧ decide (c < C) = false) ∨ (decide (0 ≤ r) = true ∧ decide (r < R) = true ∧ decide (0 ≤ c) = true ∧ decide (c < C) = true ∧ wrap64 (r * C) = r * C ∧ wrap64 (r * C + c) = (i : Int) ∧ i < n ∧ W.cell? ⟨b, i, none⟩ = some (.bool true))) :
  Calls Tryz.prog 146 #[.int .i64 r, .int .i64 c, .pointer (some ⟨gg, 0, none⟩), .pointer (some ⟨gm, 0, none⟩), .pointer (some ⟨gv, 0, none⟩)] W fun e w' => e = .returned (.tuple #[]) ∧ W = w' := by
 rcases k with k1 | ⟨k1, k2⟩ | ⟨k1, k2, k3⟩ | ⟨k1, k2, k3, k4⟩ | ⟨k1, k2, k3, k4, w1, w2, hin, hcell⟩
 all_goals
  go_enter Tryz.func146, Tryz.ntmps146
  go_wp2
  (try simp only [Exit.inBlock, Exit.then]); refine bodyPost_ret (results_none rfl _ _ _) rfl ?_
  exact ⟨rfl, rfl⟩
set_option maxHeartbeats 1000000 in
set_option maxRecDepth 100000 in
theorem Kj (R C r c : Int) (s : aj) (gg gm gv b n cap i : Nat) (W : World) (c0 : W.cell? ⟨gg, 0, none⟩ = some (.int .i64 R)) (c1 : W.cell? ⟨gg, 1, none⟩ = some (.int .i64 C)) (c2 : W.cell? ⟨gg, 2, none⟩ = some (.string s)) (cm : W.cell? ⟨gm, 0, none⟩ = some (.slice (some ⟨b, 0, none⟩) n cap))
  (k1 : decide (0 ≤ r) = true) (k2 : decide (r < R) = true) (k3 : decide (0 ≤ c) = true) (k4 : decide (c < C) = true) (w1 : wrap64 (r * C) = r * C) (w2 : wrap64 (r * C + c) = (i : Int)) (hin : i < n) (hcell : W.cell? ⟨b, i, none⟩ = some (.bool false)) (his : i < s.size) (hb : (((s[i]'his).toNat : Int) != 46) = true) :
  Calls Tryz.prog 146 #[.int .i64 r, .int .i64 c, .pointer (some ⟨gg, 0, none⟩), .pointer (some ⟨gm, 0, none⟩), .pointer (some ⟨gv, 0, none⟩)] W fun e w' => e = .returned (.tuple #[]) ∧ W = w' := by
 go_enter Tryz.func146, Tryz.ntmps146
 go_wp2
 (try simp only [Exit.inBlock, Exit.then]); refine bodyPost_ret (results_none rfl _ _ _) rfl ?_
 exact ⟨rfl, rfl⟩
set_option maxHeartbeats 1000000 in
set_option maxRecDepth 100000 in
theorem Jv (R C r c : Int) (s : aj) (gg gm gv b n cap i : Nat) (W : World) (P1 P2 P3 P4 : World → Prop) (c0 : W.cell? ⟨gg, 0, none⟩ = some (.int .i64 R)) (c1 : W.cell? ⟨gg, 1, none⟩ = some (.int .i64 C)) (c2 : W.cell? ⟨gg, 2, none⟩ = some (.string s)) (cm : W.cell? ⟨gm, 0, none⟩ = some (.slice (some ⟨b, 0, none⟩) n cap))
  (k1 : decide (0 ≤ r) = true) (k2 : decide (r < R) = true) (k3 : decide (0 ≤ c) = true) (k4 : decide (c < C) = true) (w1 : wrap64 (r * C) = r * C) (w2 : wrap64 (r * C + c) = (i : Int)) (hin : i < n) (hcell : W.cell? ⟨b, i, none⟩ = some (.bool false)) (hfr : W.frozen? ⟨b, i, none⟩ = false) (his : i < s.size) (hb : (((s[i]'his).toNat : Int) != 46) = false)
  (w3 : wrap64 (r - 1) = r - 1) (w4 : wrap64 (r + 1) = r + 1) (w5 : wrap64 (c - 1) = c - 1) (w6 : wrap64 (c + 1) = c + 1)
  (cv1 : (W.setCell ⟨b, i, none⟩ (.bool true)).cell? ⟨gv, 0, none⟩ = some (.func (.func 146) #[] #[.pointer (some ⟨gg, 0, none⟩), .pointer (some ⟨gm, 0, none⟩), .pointer (some ⟨gv, 0, none⟩)]))
  (q1 : Calls Tryz.prog 146 #[.int .i64 (r - 1), .int .i64 c, .pointer (some ⟨gg, 0, none⟩), .pointer (some ⟨gm, 0, none⟩), .pointer (some ⟨gv, 0, none⟩)] (W.setCell ⟨b, i, none⟩ (.bool true)) fun e w' => e = .returned (.tuple #[]) ∧ P1 w')
  (v1 : ∀ V, P1 V → V.cell? ⟨gv, 0, none⟩ = some (.func (.func 146) #[] #[.pointer (some ⟨gg, 0, none⟩), .pointer (some ⟨gm, 0, none⟩), .pointer (some ⟨gv, 0, none⟩)])) (q2 : ∀ V, P1 V → Calls Tryz.prog 146 #[.int .i64 (r + 1), .int .i64 c, .pointer (some ⟨gg, 0, none⟩), .pointer (some ⟨gm, 0, none⟩), .pointer (some ⟨gv, 0, none⟩)] V fun e w' => e = .returned (.tuple #[]) ∧ P2 w')
  (v2 : ∀ V, P2 V → V.cell? ⟨gv, 0, none⟩ = some (.func (.func 146) #[] #[.pointer (some ⟨gg, 0, none⟩), .pointer (some ⟨gm, 0, none⟩), .pointer (some ⟨gv, 0, none⟩)])) (q3 : ∀ V, P2 V → Calls Tryz.prog 146 #[.int .i64 r, .int .i64 (c - 1), .pointer (some ⟨gg, 0, none⟩), .pointer (some ⟨gm, 0, none⟩), .pointer (some ⟨gv, 0, none⟩)] V fun e w' => e = .returned (.tuple #[]) ∧ P3 w')
  (v3 : ∀ V, P3 V → V.cell? ⟨gv, 0, none⟩ = some (.func (.func 146) #[] #[.pointer (some ⟨gg, 0, none⟩), .pointer (some ⟨gm, 0, none⟩), .pointer (some ⟨gv, 0, none⟩)])) (q4 : ∀ V, P3 V → Calls Tryz.prog 146 #[.int .i64 r, .int .i64 (c + 1), .pointer (some ⟨gg, 0, none⟩), .pointer (some ⟨gm, 0, none⟩), .pointer (some ⟨gv, 0, none⟩)] V fun e w' => e = .returned (.tuple #[]) ∧ P4 w') :
  Calls Tryz.prog 146 #[.int .i64 r, .int .i64 c, .pointer (some ⟨gg, 0, none⟩), .pointer (some ⟨gm, 0, none⟩), .pointer (some ⟨gv, 0, none⟩)] W fun e w' => e = .returned (.tuple #[]) ∧ P4 w' := by
 have eg : ∀ args w, (callFunc 146 args).run Tryz.prog w = .ok (.enter 146 args) w := fun args w => oU Tryz.func146 (by kernel_rfl) rfl args w
 have a1 : ∀ w, Calls Tryz.prog 121 #[.int .i64 r, .int .i64 R] w fun e w' => e = .returned (.bool true) ∧ w = w' := fun w => Il r R w k1 k2
 have a2 : ∀ w, Calls Tryz.prog 121 #[.int .i64 c, .int .i64 C] w fun e w' => e = .returned (.bool true) ∧ w = w' := fun w => Il c C w k3 k4
 have CV1 := ah.mk cv1
 have Q1 := ah.mk q1
 have Q2 := ah.mk q2
 have Q3 := ah.mk q3
 have Q4 := ah.mk q4
 have V1 := ah.mk v1
 have V2 := ah.mk v2
 have V3 := ah.mk v3
 have A1 := ah.mk a1
 have A2 := ah.mk a2
 clear cv1 q1 q2 q3 q4 v1 v2 v3 a1 a2
 go_enter Tryz.func146, Tryz.ntmps146
 go_upto_region 2 with (first | (go_at_call 121; (with_reducible refine (A1.out _).mono ?_); rintro e w' ⟨rfl, rfl⟩) | (go_at_call 121; (with_reducible refine (A2.out _).mono ?_); rintro e w' ⟨rfl, rfl⟩))
 clear c0 c1 c2 cm hcell hfr k1 k2 k3 k4 w1 w2 hb A1 A2 hin
 have cvA := CV1.out
 clear CV1
 generalize World.setCell W ⟨b, i, none⟩ (.bool true) = U at Q1 cvA ⊢
 go_wp2_with (first | ((with_reducible refine (Q1.out).mono ?_); rintro e U1 ⟨rfl, hP1⟩; have cvB := V1.out _ hP1) | ((with_reducible refine (Q2.out _ hP1).mono ?_); rintro e U2 ⟨rfl, hP2⟩; have cvC := V2.out _ hP2) | ((with_reducible refine (Q3.out _ hP2).mono ?_); rintro e U3 ⟨rfl, hP3⟩; have cvD := V3.out _ hP3) | ((with_reducible refine (Q4.out _ hP3).mono ?_); rintro e U4 ⟨rfl, hP4⟩))
 go_end0
 exact ⟨rfl, hP4⟩
structure St (R C : Int) (s : aj) (gg gm gv b cap n : Nat) (W : World) (d : Array Bool) : Prop where
 c0 : W.cell? ⟨gg, 0, none⟩ = some (.int .i64 R)
 c1 : W.cell? ⟨gg, 1, none⟩ = some (.int .i64 C)
 c2 : W.cell? ⟨gg, 2, none⟩ = some (.string s)
 cm : W.cell? ⟨gm, 0, none⟩ = some (.slice (some ⟨b, 0, none⟩) n cap)
 cv : W.cell? ⟨gv, 0, none⟩ = some (.func (.func 146) #[] #[.pointer (some ⟨gg, 0, none⟩), .pointer (some ⟨gm, 0, none⟩), .pointer (some ⟨gv, 0, none⟩)])
 hd : d.size = n
 hg : gg ≠ b
 hm : gm ≠ b
 hv : gv ≠ b
 hH : Holds Value.bool W b 0 d
theorem St.next {R C : Int} {s : aj} {gg gm gv b cap n : Nat} {W : World} {d : Array Bool} (h : St R C s gg gm gv b cap n W d) (d' : Array Bool) (hd : d'.size = d.size) : St R C s gg gm gv b cap n (putRow Value.bool W b 0 d') d' where
 c0 := (cell?_putRow_other _ _ _ _ _ _ (.inl h.hg)).trans h.c0
 c1 := (cell?_putRow_other _ _ _ _ _ _ (.inl h.hg)).trans h.c1
 c2 := (cell?_putRow_other _ _ _ _ _ _ (.inl h.hg)).trans h.c2
 cm := (cell?_putRow_other _ _ _ _ _ _ (.inl h.hm)).trans h.cm
 cv := (cell?_putRow_other _ _ _ _ _ _ (.inl h.hv)).trans h.cv
 hd := hd.trans h.hd
 hg := h.hg
 hm := h.hm
 hv := h.hv
 hH := holds_putRow _ _ _ _ d d' h.hH hd
def qY (R C : Int) (s : aj) (d : Array Bool) (r c : Int) : Bool :=
 if 0 ≤ r ∧ r < R then (if 0 ≤ c ∧ c < C then (d[(r * C + c).toNat]! || !(bt s (r * C + c) == 46)) else true) else true
def dfs (R C : Int) (s : aj) : Nat → Array Bool → Int → Int → Option (Array Bool)
 | 0, _, _, _ => none
 | k + 1, d, r, c => if qY R C s d r c = true then some d else
   (dfs R C s k (d.setIfInBounds (r * C + c).toNat true) (r - 1) c).bind fun d1 => (dfs R C s k d1 (r + 1) c).bind fun d2 => (dfs R C s k d2 r (c - 1)).bind fun d3 => dfs R C s k d3 r (c + 1)
theorem rE (R C : Int) (s : aj) : ∀ (k : Nat) (d : Array Bool) (r c : Int) (d' : Array Bool), dfs R C s k d r c = some d' → d'.size = d.size := by
 intro k
 induction k with
 | zero => intro d r c d' h; simp [dfs] at h
 | succ k ih =>
  intro d r c d' h
  simp only [dfs] at h
  split at h
  ·cases h; rfl
  ·obtain ⟨d1, h1, h⟩ := Option.bind_eq_some_iff.mp h
   obtain ⟨d2, h2, h⟩ := Option.bind_eq_some_iff.mp h
   obtain ⟨d3, h3, h⟩ := Option.bind_eq_some_iff.mp h
   have e1 := ih _ _ _ _ h1
   have e2 := ih _ _ _ _ h2
   have e3 := ih _ _ _ _ h3
   have e4 := ih _ _ _ _ h
   rw [e4, e3, e2, e1, Array.size_setIfInBounds]
set_option maxHeartbeats 1000000 in
set_option maxRecDepth 100000 in
theorem Kk (R C : Int) (s : aj) (gg gm gv b cap n : Nat) (hR : 0 ≤ R ∧ R ≤ 100) (hC : 0 ≤ C ∧ C ≤ 100) (hs : (s.size : Int) = R * C) (hn : (n : Int) = R * C) : ∀ (k : Nat) (d : Array Bool) (r c : Int) (d' : Array Bool) (W : World), dfs R C s k d r c = some d' → St R C s gg gm gv b cap n W d →
  Calls Tryz.prog 146 #[.int .i64 r, .int .i64 c, .pointer (some ⟨gg, 0, none⟩), .pointer (some ⟨gm, 0, none⟩), .pointer (some ⟨gv, 0, none⟩)] W fun e w' => e = .returned (.tuple #[]) ∧ w' = putRow Value.bool W b 0 d' := by
 intro k
 induction k with
 | zero => intro d r c d' W h; simp [dfs] at h
 | succ k ih =>
  intro d r c d' W h hS
  obtain ⟨c0, c1, c2, cm, cv, hd, hg, hm, hv, hH⟩ := id hS
  have stop : qY R C s d r c = true → W = putRow Value.bool W b 0 d' := by
   intro hs1
   simp only [dfs, hs1, if_true, Option.some.injEq] at h
   subst h
   exact (putRow_self _ _ _ _ _ hH).symm
  by_cases x1 : 0 ≤ r
  ·by_cases x2 : r < R
   ·by_cases x3 : 0 ≤ c
    ·by_cases x4 : c < C
     ·have hm1 : r * C ≤ (R - 1) * C := Int.mul_le_mul_of_nonneg_right (by omega) (by omega)
      have hm2 : 0 ≤ r * C := Int.mul_nonneg (by omega) (by omega)
      have hm3 : (R - 1) * C = R * C - C := by rw [Int.sub_mul, Int.one_mul]
      have hm4 : R * C ≤ 100 * 100 := Int.mul_le_mul (by omega) (by omega) (by omega) (by omega)
      obtain ⟨i, hi⟩ : ∃ i : Nat, (i : Int) = r * C + c := ⟨(r * C + c).toNat, by omega⟩
      have hin : i < n := by omega
      have his : i < s.size := by omega
      have hcell := (hH i (by omega)).1
      have hfr := (hH i (by omega)).2
      rw [Nat.zero_add] at hcell hfr
      have w1 : wrap64 (r * C) = r * C := by unfold wrap64; omega
      have w2 : wrap64 (r * C + c) = (i : Int) := by rw [hi]; unfold wrap64; omega
      have hbt : ((s[i]'his).toNat : Int) = bt s (r * C + c) := by rw [← hi]; exact (gN s i his)
      have hst : qY R C s d r c = (d[i]! || !(bt s (r * C + c) == 46)) := by
       unfold qY
       rw [if_pos ⟨x1, x2⟩, if_pos ⟨x3, x4⟩, ← hi, Int.toNat_natCast]
      cases k3 : d[i]! with
      | true =>
       rw [k3] at hcell
       refine (uU R C r c s gg gm gv b n cap i W c0 c1 c2 cm (.inr (.inr (.inr (.inr ⟨(decide_eq_true x1), (decide_eq_true x2), (decide_eq_true x3), (decide_eq_true x4), w1, w2, hin, hcell⟩))))).mono ?_
       rintro e w' ⟨he, rfl⟩
       exact ⟨he, stop (by rw [hst, k3]; rfl)⟩
      | false =>
       rw [k3] at hcell
       cases k4 : (bt s (r * C + c) == 46) with
       | false =>
        refine (Kj R C r c s gg gm gv b n cap i W c0 c1 c2 cm (decide_eq_true x1) (decide_eq_true x2) (decide_eq_true x3) (decide_eq_true x4) w1 w2 hin hcell his (by rw [hbt]; simpa [bne] using k4)).mono ?_
        rintro e w' ⟨he, rfl⟩
        exact ⟨he, stop (by rw [hst, k3, k4]; rfl)⟩
       | true =>
        have hgo : qY R C s d r c = false := by rw [hst, k3, k4]; rfl
        simp only [dfs, hgo, Bool.false_eq_true, if_false] at h
        rw [show (r * C + c).toNat = i by omega] at h
        obtain ⟨d1, h1, h⟩ := Option.bind_eq_some_iff.mp h
        obtain ⟨d2, h2, h⟩ := Option.bind_eq_some_iff.mp h
        obtain ⟨d3, h3, h⟩ := Option.bind_eq_some_iff.mp h
        have e0 : (d.setIfInBounds i true).size = d.size := Array.size_setIfInBounds
        have e1 := rE _ _ _ _ _ _ _ _ h1
        have e2 := rE _ _ _ _ _ _ _ _ h2
        have e3 := rE _ _ _ _ _ _ _ _ h3
        have e4 := rE _ _ _ _ _ _ _ _ h
        have hset : W.setCell ⟨b, i, none⟩ (.bool true) = putRow Value.bool W b 0 (d.setIfInBounds i true) := by
         have := putRow_set Value.bool W b 0 d i true (by omega)
         rw [putRow_self _ _ _ _ _ hH, Nat.zero_add] at this
         exact this
        have S0 := hS.next (d.setIfInBounds i true) e0
        have S1 := hS.next d1 (by omega)
        have S2 := hS.next d2 (by omega)
        have S3 := hS.next d3 (by omega)
        have pp : ∀ x y : Array Bool, y.size = x.size → putRow Value.bool (putRow Value.bool W b 0 x) b 0 y = putRow Value.bool W b 0 y := fun x y hxy => putRow_putRow _ _ _ _ _ _ hxy
        refine Jv R C r c s gg gm gv b n cap i W (fun V => V = putRow Value.bool W b 0 d1) (fun V => V = putRow Value.bool W b 0 d2) (fun V => V = putRow Value.bool W b 0 d3) (fun V => V = putRow Value.bool W b 0 d') c0 c1 c2 cm (decide_eq_true x1) (decide_eq_true x2) (decide_eq_true x3) (decide_eq_true x4) w1 w2 hin hcell hfr his (by rw [hbt]; simpa [bne] using k4) (by unfold wrap64; omega) (by unfold wrap64; omega) (by unfold wrap64; omega) (by unfold wrap64; omega) ?_ ?_ ?_ ?_ ?_ ?_ ?_ ?_
        ·rw [hset]; exact S0.cv
        ·rw [hset]; exact (ih _ _ _ _ _ h1 S0).mono (fun e w' hq => ⟨hq.1, by rw [hq.2, pp _ _ e1]⟩)
        ·rintro V rfl; exact S1.cv
        ·rintro V rfl; exact (ih _ _ _ _ _ h2 S1).mono (fun e w' hq => ⟨hq.1, by rw [hq.2, pp _ _ e2]⟩)
        ·rintro V rfl; exact S2.cv
        ·rintro V rfl; exact (ih _ _ _ _ _ h3 S2).mono (fun e w' hq => ⟨hq.1, by rw [hq.2, pp _ _ e3]⟩)
        ·rintro V rfl; exact S3.cv
        ·rintro V rfl; exact (ih _ _ _ _ _ h S3).mono (fun e w' hq => ⟨hq.1, by rw [hq.2, pp _ _ e4]⟩)
     ·refine (uU R C r c s gg gm gv b n cap 0 W c0 c1 c2 cm (.inr (.inr (.inr (.inl ⟨(decide_eq_true x1), (decide_eq_true x2), (decide_eq_true x3), (decide_eq_false x4)⟩))))).mono ?_
      rintro e w' ⟨he, rfl⟩
      exact ⟨he, stop (by unfold qY; rw [if_pos ⟨x1, x2⟩, if_neg (fun q => x4 q.2)])⟩
    ·refine (uU R C r c s gg gm gv b n cap 0 W c0 c1 c2 cm (.inr (.inr (.inl ⟨(decide_eq_true x1), (decide_eq_true x2), (decide_eq_false x3)⟩)))).mono ?_
     rintro e w' ⟨he, rfl⟩
     exact ⟨he, stop (by unfold qY; rw [if_pos ⟨x1, x2⟩, if_neg (fun q => x3 q.1)])⟩
   ·refine (uU R C r c s gg gm gv b n cap 0 W c0 c1 c2 cm (.inr (.inl ⟨(decide_eq_true x1), (decide_eq_false x2)⟩))).mono ?_
    rintro e w' ⟨he, rfl⟩
    exact ⟨he, stop (by unfold qY; rw [if_neg (fun q => x2 q.2)])⟩
  ·refine (uU R C r c s gg gm gv b n cap 0 W c0 c1 c2 cm (.inl (decide_eq_false x1))).mono ?_
   rintro e w' ⟨he, rfl⟩
   exact ⟨he, stop (by unfold qY; rw [if_neg (fun q => x1 q.1)])⟩
def parts (R C : Int) (s : aj) : Nat → Array Bool → Int → Int → Option Int
 | 0, _, _, _ => none
 | k + 1, d, i, n => if i < (s.size : Int) then (if bt s i = 46 then (if d[i.toNat]! = true then parts R C s k d (i + 1) n else (dfs R C s k d (i / C) (i % C)).bind fun d' => parts R C s k d' (i + 1) (n + 1)) else parts R C s k d (i + 1) n) else some n
theorem LJ : (Tryz.prog.info? 4).map (fun i => (i.zero, i.size, i.bytes)) = some (some (.bool false), 1, 1) := by kernel_rfl
theorem Ke (P : Program) (fn : Fn) (first cap : Array Value) (w : World) : (Instr.makeFunc fn first cap).run P w = .ok (.func fn first cap) w := rfl
attribute [local go_sem] Ke
theorem IY {e base n : Nat} {W : World} {v : Value} {B : Nat} (h : Kd.bool.R e W base (fun _ => True) v (List.replicate n false)) (hn : ∃ b, v.ownBlock = some b ∧ B ≤ b) :
  ∃ b cap cur, v = .slice (some ⟨b, 0, none⟩) n cap ∧ base ≤ b ∧ B ≤ b ∧ n ≤ cap ∧ W.heap[b]? = some (.cells cur e (0, 0)) ∧ ∀ j, j < n → cur[j]? = some (.bool false) := by
 have ho := Kd.uK h
 obtain ⟨b0, hb0, hB⟩ := hn
 obtain ⟨hl, ho⟩ := ho
 rcases ho with ⟨rfl, _⟩ | ⟨g, cap, cur, rfl, h1, h2, h3, h4, h5, h6⟩
 ·simp [Value.ownBlock] at hb0
 ·simp only [Value.ownBlock, Option.some.injEq] at hb0
  subst hb0
  simp only [List.length_replicate, Nat.mul_one] at *
  refine ⟨g, cap, cur, rfl, h1, hB, h3, h2, fun j hj => ?_⟩
  have h7 : (cur.toList.take n)[j]? = some (.bool false) := by rw [h6]; simp [encs, hj]
  rw [List.getElem?_take_of_lt hj] at h7
  simpa using h7
set_option maxHeartbeats 4000000 in
set_option maxRecDepth 100000 in
theorem Ho (k : Nat) (Mc : Int) (Md : Int) (Me : aj) (t : Bool) (r : Int) (w : World)
  (hic : ∀ V : World, Calls Tryz.prog 43 #[.agg #[.int .i64 Mc, .int .i64 Md, .string Me]] V fun e w' => e = .returned (.bool t) ∧ Below V.heap.size V w')
  (hgt : t = true → (2 ≤ Mc ∧ Mc ≤ 6) ∧ (2 ≤ Md ∧ Md ≤ 6) ∧ (Me.size : Int) = Mc * Md)
  (h : (if t = true then parts Mc Md Me k (Array.replicate Me.size false) 0 0 else some 0) = some r) :
  Calls Tryz.prog 120 #[.agg #[.int .i64 Mc, .int .i64 Md, .string Me]] w fun e w' => e = .returned (.int .i64 r) ∧ Below w.heap.size w w' := by
 have huG := Tryz.underlying34
 have HB := ah.mk (Below.refl w.heap.size w)
 have HG := ah.mk hic
 clear hic
 cases t with
 | false =>
  rw [if_neg (by decide)] at h
  obtain rfl := Option.some.inj h
  clear h hgt
  go_enter Tryz.func120, Tryz.ntmps120
  go_wp2_with (first | ((with_reducible refine aI (N := 1) rfl ?_); refine nV ?hg (N := 1) ?hd (cs := #[.int .i64 Mc, .int .i64 Md, .string Me]) (t := 34) ?hr ?_; (case hd => rfl); (case hg => rfl); (case hr => first | (go_simp; done) | (go_simp; rfl)); intro g1 hg w2 hbox hb; have n0_ := ah.mk (fZ HB.out hb); clear HB; have HB := n0_; clear n0_; have hz0 : w2.cell? ⟨g1, 0, none⟩ = some (.int .i64 Mc) := (ak hbox 0).trans rfl; have hz1 : w2.cell? ⟨g1, 1, none⟩ = some (.int .i64 Md) := (ak hbox 1).trans rfl; have hz2 : w2.cell? ⟨g1, 2, none⟩ = some (.string Me) := (ak hbox 2).trans rfl; clear hbox hb hg) | ((with_reducible refine aA (f := 43) rfl ?_); refine Dp _ rfl rfl Tryz.func43 (by kernel_rfl) rfl #[.agg #[.int .i64 Mc, .int .i64 Md, .string Me]] rfl (by (try simp only [List.map_toArray, List.map_cons, List.map_nil]); first | done | rfl) ?_; refine (HG.out _).mono ?_; rintro e w_ ⟨rfl, hb_⟩; refine ⟨_, rfl, ?_⟩; have n0_ := ah.mk (fZ HB.out hb_); clear HB; have HB := n0_; clear n0_))
  go_ret
  exact ⟨rfl, HB.out⟩
 | true =>
  rw [if_pos rfl] at h
  obtain ⟨⟨hR0, hR1⟩, ⟨hC0, hC1⟩, hsz⟩ := hgt rfl
  have H := ah.mk h
  clear h hgt
  go_enter Tryz.func120, Tryz.ntmps120
  go_upto_region 3 with (first | ((with_reducible refine aI (N := 1) rfl ?_); refine nV ?hg (N := 1) ?hd (cs := #[.int .i64 Mc, .int .i64 Md, .string Me]) (t := 34) ?hr ?_; (case hd => rfl); (case hg => rfl); (case hr => first | (go_simp; done) | (go_simp; rfl)); intro g1 hg w2 hbox hb; have n0_ := ah.mk (fZ HB.out hb); have n1_ := ah.mk (show w.heap.size ≤ g1 from by rw [hg]; exact aH HB.out); clear HB; have HB := n0_; have G1 := n1_; clear n0_ n1_; have hz0 : w2.cell? ⟨g1, 0, none⟩ = some (.int .i64 Mc) := (ak hbox 0).trans rfl; have hz1 : w2.cell? ⟨g1, 1, none⟩ = some (.int .i64 Md) := (ak hbox 1).trans rfl; have hz2 : w2.cell? ⟨g1, 2, none⟩ = some (.string Me) := (ak hbox 2).trans rfl; have BK1 := ah.mk hbox; clear hbox hb hg) | ((with_reducible refine aA (f := 43) rfl ?_); refine Dp _ rfl rfl Tryz.func43 (by kernel_rfl) rfl #[.agg #[.int .i64 Mc, .int .i64 Md, .string Me]] rfl (by (try simp only [List.map_toArray, List.map_cons, List.map_nil]); first | done | rfl) ?_; refine (HG.out _).mono ?_; rintro e w3 ⟨rfl, hb_⟩; refine ⟨_, rfl, ?_⟩; have n0_ := ah.mk (fZ HB.out hb_); have n1_ := ah.mk (bT (g := g1) BK1.out hb_); clear HB BK1; have HB := n0_; have BK1 := n1_; clear n0_ n1_ hb_))
  have hz0 : w3.cell? ⟨g1, 0, none⟩ = some (.int .i64 Mc) := (ak BK1.out 0).trans rfl
  have hz1 : w3.cell? ⟨g1, 1, none⟩ = some (.int .i64 Md) := (ak BK1.out 1).trans rfl
  have hz2 : w3.cell? ⟨g1, 2, none⟩ = some (.string Me) := (ak BK1.out 2).trans rfl
  have hm4 : Mc * Md ≤ 6 * 6 := Int.mul_le_mul (by omega) (by omega) (by omega) (by omega)
  have hle : (Me.size : Int) ≤ 36 := by omega
  have HS := ah.mk hsz
  clear hsz hm4
  have hle0 : (0:Int) ≤ (Me.size : Int) := by omega
  have hle1 : (Me.size : Int).toNat * 1 ≤ 281474976710656 := by omega
  go_upto_region 4 with (first | ((with_reducible refine aI (N := 13) rfl ?_); refine Kd.uW Kd.bool (w0 := w) w.heap.size 4 rfl (N := 13) rfl 152 (.tmp 12) (.tmp 12) rfl (Me.size : Int) rfl rfl Tryz.underlying152 (.bool false) 1 LJ rfl (by decide) (by omega) false (ok := fun _ => True) (okp := fun _ => True) rfl (fun _ hk => hk) trivial hle0 hle1 HB.out (aH HB.out) ?_; intro vm w4 ho hb hgr hnew; rw [Int.toNat_natCast] at ho; obtain ⟨b, cap, cur, rfl, hbb, hbB, hcap, hbk, hcur⟩ := IY ho hnew; have n0_ := ah.mk hb; have n1_ := ah.mk (dZ BK1.out hgr (by simp)); have n2_ := ah.mk (show g1 ≠ b from Nat.ne_of_lt (Nat.lt_of_lt_of_le (mV BK1.out) hbB)); clear HB BK1; have HB := n0_; have BK1 := n1_; have N1b := n2_; have BKM := ah.mk hbk; have HCUR := ah.mk hcur; have GB := ah.mk hbb; clear n0_ n1_ n2_ hb ho hgr hnew hbb hbB hbk hcur) | ((with_reducible refine aI (N := 3) rfl ?_); refine nV ?hg (N := 3) ?hd (cs := #[.slice none 0 0]) (t := 152) ?hr ?_; (case hd => rfl); (case hg => rfl); (case hr => first | (go_simp; done) | (go_simp; rfl)); intro g3 hg w5 hbox hb; have n0_ := ah.mk (fZ HB.out hb); have n1_ := ah.mk (show w.heap.size ≤ g3 from by rw [hg]; exact aH HB.out); have n2_ := ah.mk (bT BK1.out hb); have n3_ := ah.mk (show g3 ≠ g1 from by rw [hg]; exact Nat.ne_of_gt (mV BK1.out)); have n4_ := ah.mk (bT BKM.out hb); have n5_ := ah.mk (show g3 ≠ b from by rw [hg]; exact Nat.ne_of_gt (mV BKM.out)); clear HB BK1 BKM; have HB := n0_; have G3 := n1_; have BK1 := n2_; have N31 := n3_; have BKM := n4_; have N3b := n5_; have BK3 := ah.mk hbox; clear n0_ n1_ n2_ n3_ n4_ n5_; have hz3 : w5.cell? ⟨g3, 0, none⟩ = some (.slice none 0 0) := (ak BK3.out 0).trans rfl; have hf3 := aC BK3.out 0; clear hbox hb hg))
  have huF := Tryz.underlying156
  have m0_ := ah.mk (fU (j := 0) (v := .slice (some ⟨b, 0, none⟩) Me.size cap) HB.out G3.out)
  have m1_ := ah.mk (iF BK1.out (p := ⟨g3, 0, none⟩) (fun e => N31.out e.symm) (.slice (some ⟨b, 0, none⟩) Me.size cap))
  have m2_ := ah.mk (iF BKM.out (p := ⟨g3, 0, none⟩) (fun e => N3b.out e.symm) (.slice (some ⟨b, 0, none⟩) Me.size cap))
  have m3_ := ah.mk (fM (cs' := #[.slice (some ⟨b, 0, none⟩) Me.size cap]) BK3.out 0 (.slice (some ⟨b, 0, none⟩) Me.size cap) rfl)
  clear HB BK1 BKM BK3 hz0 hz1 hz2 hz3 hf3
  generalize World.setCell w5 ⟨g3, 0, none⟩ (.slice (some ⟨b, 0, none⟩) Me.size cap) = w6 at m0_ m1_ m2_ m3_ ⊢
  have HB := m0_
  have BK1 := m1_
  have BKM := m2_
  have BK3 := m3_
  clear m0_ m1_ m2_ m3_
  go_upto_region 6 with (first | ((with_reducible refine aI (N := 4) rfl ?_); refine nV ?hg (N := 4) ?hd (cs := #[.nilFunc]) (t := 156) ?hr ?_; (case hd => rfl); (case hg => rfl); (case hr => first | (go_simp; done) | (go_simp; rfl)); intro g4 hg w7 hbox hb; have n0_ := ah.mk (fZ HB.out hb); have n1_ := ah.mk (show w.heap.size ≤ g4 from by rw [hg]; exact aH HB.out); have n2_ := ah.mk (bT BK1.out hb); have n3_ := ah.mk (show g4 ≠ g1 from by rw [hg]; exact Nat.ne_of_gt (mV BK1.out)); have n4_ := ah.mk (bT BKM.out hb); have n5_ := ah.mk (show g4 ≠ b from by rw [hg]; exact Nat.ne_of_gt (mV BKM.out)); have n6_ := ah.mk (bT BK3.out hb); have n7_ := ah.mk (show g4 ≠ g3 from by rw [hg]; exact Nat.ne_of_gt (mV BK3.out)); clear HB BK1 BKM BK3; have HB := n0_; have G4 := n1_; have BK1 := n2_; have N41 := n3_; have BKM := n4_; have N4b := n5_; have BK3 := n6_; have N43 := n7_; have BK4 := ah.mk hbox; clear n0_ n1_ n2_ n3_ n4_ n5_ n6_ n7_; have hz4 : w7.cell? ⟨g4, 0, none⟩ = some .nilFunc := (ak BK4.out 0).trans rfl; have hf4 := aC BK4.out 0; clear hbox hb hg; have hsf : ∀ (P_ : Program) (w_ : World) (a_ : Addr) (m_ : Mode), (store a_ (.func (.func 146) #[] #[.pointer (some ⟨g1, 0, none⟩), .pointer (some ⟨g3, 0, none⟩), .pointer (some ⟨g4, 0, none⟩)]) m_).run P_ w_ = stored P_ w_ a_ (.func (.func 146) #[] #[.pointer (some ⟨g1, 0, none⟩), .pointer (some ⟨g3, 0, none⟩), .pointer (some ⟨g4, 0, none⟩)]) m_ := fun P_ w_ a_ m_ => run_store P_ w_ a_ _ m_ rfl))
  clear hsf hz4 hf4 huF
  have m0_ := ah.mk (fU (j := 0) (v := (.func (.func 146) #[] #[.pointer (some ⟨g1, 0, none⟩), .pointer (some ⟨g3, 0, none⟩), .pointer (some ⟨g4, 0, none⟩)])) HB.out G4.out)
  have m1_ := ah.mk (iF BK1.out (p := ⟨g4, 0, none⟩) (fun e => N41.out e.symm) (.func (.func 146) #[] #[.pointer (some ⟨g1, 0, none⟩), .pointer (some ⟨g3, 0, none⟩), .pointer (some ⟨g4, 0, none⟩)]))
  have m2_ := ah.mk (iF BKM.out (p := ⟨g4, 0, none⟩) (fun e => N4b.out e.symm) (.func (.func 146) #[] #[.pointer (some ⟨g1, 0, none⟩), .pointer (some ⟨g3, 0, none⟩), .pointer (some ⟨g4, 0, none⟩)]))
  have m3_ := ah.mk (iF BK3.out (p := ⟨g4, 0, none⟩) (fun e => N43.out e.symm) (.func (.func 146) #[] #[.pointer (some ⟨g1, 0, none⟩), .pointer (some ⟨g3, 0, none⟩), .pointer (some ⟨g4, 0, none⟩)]))
  have m4_ := ah.mk (fM (cs' := #[(.func (.func 146) #[] #[.pointer (some ⟨g1, 0, none⟩), .pointer (some ⟨g3, 0, none⟩), .pointer (some ⟨g4, 0, none⟩)])]) BK4.out 0 (.func (.func 146) #[] #[.pointer (some ⟨g1, 0, none⟩), .pointer (some ⟨g3, 0, none⟩), .pointer (some ⟨g4, 0, none⟩)]) rfl)
  clear HB BK1 BKM BK3 BK4
  generalize World.setCell w7 ⟨g4, 0, none⟩ (.func (.func 146) #[] #[.pointer (some ⟨g1, 0, none⟩), .pointer (some ⟨g3, 0, none⟩), .pointer (some ⟨g4, 0, none⟩)]) = w8 at m0_ m1_ m2_ m3_ m4_ ⊢
  have HB := m0_
  have S0 := ah.mk (show St Mc Md Me g1 g3 g4 b cap Me.size w8 (Array.replicate Me.size false) from
   ⟨(ak m1_.out 0).trans rfl, (ak m1_.out 1).trans rfl, (ak m1_.out 2).trans rfl, (ak m3_.out 0).trans rfl, (ak m4_.out 0).trans rfl, Array.size_replicate, N1b.out, N3b.out, N4b.out,
    fun j hj => ⟨by rw [Nat.zero_add, ak m2_.out j, HCUR.out j (by simpa using hj)]; simp at hj; simp [hj], by rw [aC m2_.out]⟩⟩)
  clear m0_ m1_ m2_ m3_ m4_ HCUR
  have hz0 := S0.out.c0
  have hz1 := S0.out.c1
  have hz2 := S0.out.c2
  go_wp2
  have HB0 := HB
  go_loopg [5, 18] k (fun kq v5 v18 w' => ∃ (n i : Int) (d : Array Bool), v5 = .int .i64 n ∧ v18 = .int .i64 i ∧ ah (parts Mc Md Me kq d i n = some r) ∧ ah (kq ≤ k) ∧ (0 ≤ i ∧ i ≤ 36) ∧ (0 ≤ n ∧ n ≤ 36) ∧ n ≤ i ∧ ah (Below w.heap.size w w') ∧ ah (St Mc Md Me g1 g3 g4 b cap Me.size w' d))
  case atStart => exact ⟨0, 0, _, rfl, rfl, H, ⟨Nat.le_refl _⟩, by omega, by omega, by omega, HB, S0⟩
  case round =>
   clear hz0 hz1 hz2 HB S0 H
   obtain ⟨n, i, d, rfl, rfl, HA, HK1, ⟨hi0, hi1⟩, ⟨hn0, hn1⟩, hni, HB, S0⟩ := hrel
   have hz0 := S0.out.c0
   have hz1 := S0.out.c1
   have hz2 := S0.out.c2
   have hzm := S0.out.cm
   cases gk with
   | zero => exact absurd HA.out (by simp [parts])
   | succ k1 =>
    have H := HA.out
    simp only [parts] at H
    clear HA
    by_cases c1 : i < (Me.size : Int)
    ·rw [if_pos c1] at H
     have hd := S0.out.hd
     obtain ⟨hcell, hfr⟩ := S0.out.hH i.toNat (by omega)
     rw [Nat.zero_add] at hcell hfr
     have hb0 := gN Me i
     have p7 := eq_true hi0
     have c1b0 : decide (i < (Me.size : Int)) = true := decide_eq_true c1
     by_cases c2 : bt Me i = 46
     ·rw [if_pos c2] at H
      have c2b : (bt Me i == 46) = true := beq_iff_eq.mpr c2
      cases c3 : d[i.toNat]! with
      | true =>
       rw [if_pos c3] at H
       rw [c3] at hcell
       have H' := ah.mk H
       clear H c2 c3 hd
       go_wp2
       go_roundg k1
       case measure => have := HK1.out; omega
       case rel => exact ⟨n, i + 1, d, rfl, rfl, H', ⟨by have := HK1.out; omega⟩, by omega, by omega, by omega, HB, S0⟩
      | false =>
       rw [c3] at H
       rw [if_neg (by decide)] at H
       rw [c3] at hcell
       obtain ⟨d', h1, H⟩ := Option.bind_eq_some_iff.mp H
       have H1 := ah.mk h1
       have H' := ah.mk H
       clear H h1 c2 c3 hd
       have eg : ∀ args w, (callFunc 146 args).run Tryz.prog w = .ok (.enter 146 args) w := fun args w => oU Tryz.func146 (by kernel_rfl) rfl args w
       go_upto_region 12 with (fail)
       have hz4 := S0.out.cv
       have hq0 : (Md == 0) = false := beq_eq_false_iff_ne.mpr (by omega)
       have hq1 : (Md = 0) = False := eq_false (by omega)
       have hdv : i.tdiv Md = i / Md := Int.tdiv_eq_ediv_of_nonneg hi0
       have hmd : i.tmod Md = i % Md := Int.tmod_eq_emod_of_nonneg hi0
       have hd0 : 0 ≤ i / Md := Int.ediv_nonneg hi0 (by omega)
       have hd1 : i / Md ≤ i := Int.ediv_le_self _ hi0
       have hd2 : 0 ≤ i % Md := Int.emod_nonneg _ (by omega)
       have hd3 : i % Md < Md := Int.emod_lt_of_pos _ (by omega)
       have hw1 : IntKind.i64.wrap (i / Md) = i / Md := by rw [iJ]; unfold wrap64; omega
       have hw2 : IntKind.i64.wrap (i % Md) = i % Md := by rw [iJ]; unfold wrap64; omega
       go_still_tail 9, (by kernel_rfl)
       have B1 := ah.mk (cK HB.out)
       have S1 := ah.mk (show St Mc Md Me g1 g3 g4 b cap Me.size wr.drew d from ⟨S0.out.c0, S0.out.c1, S0.out.c2, S0.out.cm, S0.out.cv, S0.out.hd, S0.out.hg, S0.out.hm, S0.out.hv, S0.out.hH⟩)
       change wpList _ _ _ _ _ wr.drew
       clear HB S0 hz0 hz1 hz2 hzm hz4 hcell hfr
       generalize wr.drew = w9 at B1 S1 ⊢
       have hv := ah.mk (Kk Mc Md Me g1 g3 g4 b cap Me.size (by omega) (by omega) HS.out HS.out k1 d (i / Md) (i % Md) d' w9 H1.out S1.out)
       have hb9 := S1.out.hH
       go_wp2_with ((with_reducible refine (hv.out).mono ?_); rintro e w10 ⟨rfl, rfl⟩)
       go_roundg k1
       case measure => have := HK1.out; omega
       case rel => exact ⟨n + 1, i + 1, d', rfl, rfl, H', ⟨by have := HK1.out; omega⟩, by omega, by omega, by omega, ⟨Go.Lib.below_putRow (q := 0) B1.out GB.out⟩, ⟨S1.out.next d' (rE _ _ _ _ _ _ _ _ H1.out)⟩⟩
     ·rw [if_neg c2] at H
      have c2b : (bt Me i == 46) = false := beq_eq_false_iff_ne.mpr c2
      have H' := ah.mk H
      clear H c2 hd
      go_wp2
      go_roundg k1
      case measure => have := HK1.out; omega
      case rel => exact ⟨n, i + 1, d, rfl, rfl, H', ⟨by have := HK1.out; omega⟩, by omega, by omega, by omega, HB, S0⟩
    ·rw [if_neg c1] at H
     have c1b0 : decide (i < (Me.size : Int)) = false := decide_eq_false c1
     obtain rfl := Option.some.inj H
     clear H
     go_wp2
     go_ret
     exact ⟨rfl, HB.out⟩
end Go.Proofs.YtdbefmkcondbgaaGreatDoor.HandForm
