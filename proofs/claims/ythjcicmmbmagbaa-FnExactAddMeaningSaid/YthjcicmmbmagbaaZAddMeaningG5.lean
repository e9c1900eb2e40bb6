/- Walks of functions: what each computes. -/
import Derived.Test.YthjcicmmbmagbaaZAddMeaningG0
import Derived.Test.YthjcicmmbmagbaaZAddMeaningG3
import Derived.Test.YthjcicmmbmagbaaZAddMeaningG4
import Derived.Test.YthjcicmmbmagbaaZAddMeaningW
import Derived.Test.YthjcicmmbmagbaaZAddMeaningHandSort
import Derived.Test.YthjcicmmbmagbaaZAddMeaningHandForm
import Derived.Test.YthjcicmmbmagbaaZAddMeaningHandAlone
import Derived.Test.YthjcicmmbmagbaaZAddMeaningHandIns
namespace Go.Proofs.Ythjcicmmbmagbaa.PFnExactAddMeaning
open Go.RowKit Go.Proofs.YthjcicmmbmagbaaW.PrintWords Go.Proofs.YthjcicmmbmagbaaW.PrintLast Go.Proofs.YthjcicmmbmagbaaW.PrintMore
attribute [local go_sem] gF gu gN gM fO fP gB gy
set_option linter.unusedVariables false
set_option linter.unusedSimpArgs false
theorem oW (d : Nat) (w : World) (x0 y0 : ByteArray) (x1 y1 : Int) :
  (Op.equalIn (d + 2) 31 (.agg #[.string x0, .int .i64 x1]) (.agg #[.string y0, .int .i64 y1])).run Try.prog w = .ok (x0.toList == y0.toList && (x1 == y1)) w := by
 refine oM Try.underlying31 (by kernel_rfl) ?_
 refine nJ (by rfl) (by go_simp; rfl) (by go_simp; rfl) (by go_simp) ?_
 exact nS (by rfl) (by go_simp; rfl) (by go_simp; rfl) (by go_simp)
attribute [local go_sem high] oW
def bZ.l0 : Nat → List (S31) → Int → Int → ByteArray → Int → Option (Int)
 | 0, _, _, _, _, _ => none
 | k + 1, x0, x7, x8, x181000, x181001 => if x8 < x7 then (if 0 ≤ x8 then (if x8 < (x0.length : Int) then (if (x181000.toList == (((aJ x0 x8).f0).toList) && (x181001 == ((aJ x0 x8).f1))) = true then (some x8) else (bZ.l0 k x0 x7 (wrap64 (x8 + 1)) x181000 x181001)) else (none)) else (none)) else (some (-1))
def bZ.f (k : Nat) (l0 : List (S31)) (pG : ByteArray) (pI : Int) : Option (Int) := bZ.l0 k l0 (l0.length : Int) 0 pG pI
set_option maxHeartbeats 8000000 in
set_option maxRecDepth 100000 in
theorem bZ.calls (k : Nat) (A0 : Option Addr) (c0 : Nat) (l0 : List (S31)) (pG : ByteArray) (pI : Int) (r : Int) (w : World) (hr0 : Kd.C k31 w A0 l0.length l0) (hc0 : l0.length ≤ c0) (h : bZ.f k l0 pG pI = some r) :
  Calls Try.prog 113 #[.slice A0 l0.length c0, .agg #[.string pG, .int .i64 pI]] w fun e w' => e = .returned (.int .i64 r) ∧ Below w.heap.size w w' := by
 have hu31 := Try.underlying31
 have HR0 := ak.mk hr0
 have HC0 := ak.mk hc0
 clear hr0 hc0
 have HB := ak.mk (Below.refl w.heap.size w)
 have H : (bZ.l0 k l0 (l0.length : Int) 0 pG pI) = some r := h
 clear h
 have H' := ak.mk H
 clear H
 go_enter Try.func113, Try.ntmps113
 go_wp2_with (first | ((with_reducible refine bX (N := 3) rfl ?_); refine bV ?hg (N := 3) ?hd (cs := #[.string pG, .int .i64 pI]) (t := 31) ?hr ?_; (case hd => rfl); (case hg => rfl); (case hr => first | (go_simp; done) | (go_simp; rfl)); intro gb180 hg w3 hbox hb; have n0_ := ak.mk (aX (by repeat (first | (with_reducible first | exact HB.out | apply au | apply ah | apply aj) | exact HB.out)) hb); have n1_ := ak.mk (hbox); have n2_ := ak.mk ((by rw [hg]; exact (aW (by repeat (first | (with_reducible first | exact HB.out | apply au | apply ah | apply aj) | exact HB.out))) : w.heap.size ≤ gb180)); have n3_ := ak.mk ((by rw [hg]; exact (aW (by repeat (first | (with_reducible first | exact HB.out | apply au | apply ah | apply aj) | exact HB.out))) : w.heap.size ≤ gb180)); clear HB; have HB := n0_; have BK180 := n1_; have GW180 := n2_; have GE180 := n3_; clear n0_ n1_ n2_ n3_; clear hb hbox hg))
 repeat (go_quiet (first | ((with_reducible refine bX (N := 3) rfl ?_); refine bV ?hg (N := 3) ?hd (cs := #[.string pG, .int .i64 pI]) (t := 31) ?hr ?_; (case hd => rfl); (case hg => rfl); (case hr => first | (go_simp; done) | (go_simp; rfl)); intro gb180 hg w3 hbox hb; have n0_ := ak.mk (aX (by repeat (first | (with_reducible first | exact HB.out | apply au | apply ah | apply aj) | exact HB.out)) hb); have n1_ := ak.mk (hbox); have n2_ := ak.mk ((by rw [hg]; exact (aW (by repeat (first | (with_reducible first | exact HB.out | apply au | apply ah | apply aj) | exact HB.out))) : w.heap.size ≤ gb180)); have n3_ := ak.mk ((by rw [hg]; exact (aW (by repeat (first | (with_reducible first | exact HB.out | apply au | apply ah | apply aj) | exact HB.out))) : w.heap.size ≤ gb180)); clear HB; have HB := n0_; have BK180 := n1_; have GW180 := n2_; have GE180 := n3_; clear n0_ n1_ n2_ n3_; clear hb hbox hg)); try go_wp2_with (first | ((with_reducible refine bX (N := 3) rfl ?_); refine bV ?hg (N := 3) ?hd (cs := #[.string pG, .int .i64 pI]) (t := 31) ?hr ?_; (case hd => rfl); (case hg => rfl); (case hr => first | (go_simp; done) | (go_simp; rfl)); intro gb180 hg w3 hbox hb; have n0_ := ak.mk (aX (by repeat (first | (with_reducible first | exact HB.out | apply au | apply ah | apply aj) | exact HB.out)) hb); have n1_ := ak.mk (hbox); have n2_ := ak.mk ((by rw [hg]; exact (aW (by repeat (first | (with_reducible first | exact HB.out | apply au | apply ah | apply aj) | exact HB.out))) : w.heap.size ≤ gb180)); have n3_ := ak.mk ((by rw [hg]; exact (aW (by repeat (first | (with_reducible first | exact HB.out | apply au | apply ah | apply aj) | exact HB.out))) : w.heap.size ≤ gb180)); clear HB; have HB := n0_; have BK180 := n1_; have GW180 := n2_; have GE180 := n3_; clear n0_ n1_ n2_ n3_; clear hb hbox hg)))
 go_loopg [8] k (fun kq v8 w' => ∃ (x8_1 : Int), v8 = .int .i64 x8_1 ∧ ak (bZ.l0 kq l0 (l0.length : Int) x8_1 pG pI = some r) ∧ ak (kq ≤ k) ∧ ak (w'.heap[gb180]? = some (.cells #[.string pG, .int .i64 pI] 31 (0, 0))) ∧ ak (Below w.heap.size w w'))
 case atStart => exact ⟨(0), (by first | rfl | (simp; done) | (simp [*]; done)), H', ⟨Nat.le_refl _⟩, ⟨by (with_reducible repeat (first | refine aG ?_ _ | refine aK ?_ | refine aD ?_ _)); exact BK180.out⟩, ⟨by repeat (first | (with_reducible first | exact HB.out | apply au | apply ah | apply aj | refine ay ?_ GE180.out) | exact HB.out)⟩⟩
 case round =>
  clear H'
  obtain ⟨x8_1, rfl, HA, HK1, BK180, HB⟩ := hrel
  cases gk with
  | zero => exact absurd HA.out (by simp [bZ.l0])
  | succ k1 =>
   have H := HA.out
   clear HA
   simp only [bZ.l0] at H
   by_cases c4 : x8_1 < (l0.length : Int)
   ·rw [if_pos c4] at H
    have c4b0 : decide (x8_1 < (l0.length : Int)) = true := decide_eq_true c4
    clear c4
    by_cases c5 : 0 ≤ x8_1
    ·rw [if_pos c5] at H
     have c5b0 : decide (0 ≤ x8_1) = true := decide_eq_true c5
     clear c5
     by_cases c6 : x8_1 < (l0.length : Int)
     ·rw [if_pos c6] at H
      have c6b0 : decide (x8_1 < (l0.length : Int)) = true := decide_eq_true c6
      clear c6
      by_cases c7 : (pG.toList == (((aJ l0 x8_1).f0).toList) && (pI == ((aJ l0 x8_1).f1))) = true
      ·rw [if_pos c7] at H
       have c7b0 : (pG.toList == (((aJ l0 x8_1).f0).toList) && (pI == ((aJ l0 x8_1).f1))) = true := c7
       (try (have c7b1 : decide (pG.toList = (((aJ l0 x8_1).f0).toList) && (pI == ((aJ l0 x8_1).f1))) = true := by simpa using c7))
       (try (have c7b2 : (pG.toList == (((aJ l0 x8_1).f0).toList) && (pI == ((aJ l0 x8_1).f1))) = true := by simpa using c7))
       clear c7
       obtain rfl := Option.some.inj H
       have hcz8_0 : wr.cell? ⟨gb180, 0, none⟩ = some (.string pG) := (aM BK180.out 0).trans rfl
       have hcz8_1 : wr.cell? ⟨gb180, 1, none⟩ = some (.int .i64 pI) := (aM BK180.out 1).trans rfl
       have hfz8_0 := bB BK180.out 0
       have hfz8_1 := bB BK180.out 1
       have p181 : 0 ≤ (x8_1 : Int) := of_decide_eq_true (by first | (with_reducible assumption) | assumption)
       have q181 : x8_1 < (l0.length : Int) := of_decide_eq_true (by first | (with_reducible assumption) | assumption)
       obtain ⟨ad181, e181, hx181_0, hx181_1⟩ := dG HR0.out x8_1 p181 q181
       cases e181
       try replace hx181_0 := (HB.out.cell (World.block_lt_of_cell? w _ hx181_0)).trans hx181_0
       try replace hx181_1 := (HB.out.cell (World.block_lt_of_cell? w _ hx181_1)).trans hx181_1
       replace p181 := eq_true p181
       replace q181 := eq_true q181
       go_wp2
       repeat (go_quiet (fail); try go_wp2)
       go_ret
       exact ⟨by first | rfl | (simp [bn, bq] <;> rfl) | (simp [*, bn, bq] <;> rfl), by repeat (first | (with_reducible first | exact HB.out | apply au | apply ah | apply aj | refine ay ?_ GE180.out) | exact HB.out)⟩
      ·rw [if_neg c7] at H
       have c7b0 : (pG.toList == (((aJ l0 x8_1).f0).toList) && (pI == ((aJ l0 x8_1).f1))) = false := by simpa using c7
       (try (have c7b1 : decide (pG.toList = (((aJ l0 x8_1).f0).toList) && (pI == ((aJ l0 x8_1).f1))) = false := by simpa using c7))
       (try (have c7b2 : (pG.toList == (((aJ l0 x8_1).f0).toList) && (pI == ((aJ l0 x8_1).f1))) = false := by simpa using c7))
       (try (have c7b3 : ¬ (pG.toList = (((aJ l0 x8_1).f0).toList) && (pI == ((aJ l0 x8_1).f1))) := by simpa using c7))
       clear c7
       have H' := ak.mk H
       clear H
       have hcz9_0 : wr.cell? ⟨gb180, 0, none⟩ = some (.string pG) := (aM BK180.out 0).trans rfl
       have hcz9_1 : wr.cell? ⟨gb180, 1, none⟩ = some (.int .i64 pI) := (aM BK180.out 1).trans rfl
       have hfz9_0 := bB BK180.out 0
       have hfz9_1 := bB BK180.out 1
       have p181 : 0 ≤ (x8_1 : Int) := of_decide_eq_true (by first | (with_reducible assumption) | assumption)
       have q181 : x8_1 < (l0.length : Int) := of_decide_eq_true (by first | (with_reducible assumption) | assumption)
       obtain ⟨ad181, e181, hx181_0, hx181_1⟩ := dG HR0.out x8_1 p181 q181
       cases e181
       try replace hx181_0 := (HB.out.cell (World.block_lt_of_cell? w _ hx181_0)).trans hx181_0
       try replace hx181_1 := (HB.out.cell (World.block_lt_of_cell? w _ hx181_1)).trans hx181_1
       replace p181 := eq_true p181
       replace q181 := eq_true q181
       go_wp2
       repeat (go_quiet (fail); try go_wp2)
       go_roundg k1
       case measure => have := HK1.out; omega
       case rel => exact ⟨(wrap64 (x8_1 + 1)), (by first | rfl | (simp; done) | (simp [*]; done)), H', ⟨by have := HK1.out; omega⟩, ⟨by (with_reducible repeat (first | refine aG ?_ _ | refine aK ?_ | refine aD ?_ _)); exact BK180.out⟩, ⟨by repeat (first | (with_reducible first | exact HB.out | apply au | apply ah | apply aj | refine ay ?_ GE180.out) | exact HB.out)⟩⟩
     ·rw [if_neg c6] at H
      exact absurd H (by simp)
    ·rw [if_neg c5] at H
     exact absurd H (by simp)
   ·rw [if_neg c4] at H
    have c4b0 : decide (x8_1 < (l0.length : Int)) = false := decide_eq_false c4
    clear c4
    obtain rfl := Option.some.inj H
    go_wp2
    repeat (go_quiet (fail); try go_wp2)
    go_ret
    exact ⟨by first | rfl | (simp [bn, bq] <;> rfl) | (simp [*, bn, bq] <;> rfl), by repeat (first | (with_reducible first | exact HB.out | apply au | apply ah | apply aj | refine ay ?_ GE180.out) | exact HB.out)⟩
def dW.f (k : Nat) (l0 : List (S31)) (pG : ByteArray) (pI : Int) : Option (Bool) := (bZ.f k l0 pG pI).bind fun t183 => (some (decide (t183 ≥ 0)))
set_option maxHeartbeats 8000000 in
set_option maxRecDepth 100000 in
theorem dW.calls (k : Nat) (A0 : Option Addr) (c0 : Nat) (l0 : List (S31)) (pG : ByteArray) (pI : Int) (r : Bool) (w : World) (hr0 : Kd.C k31 w A0 l0.length l0) (hc0 : l0.length ≤ c0) (h : dW.f k l0 pG pI = some r) :
  Calls Try.prog 54 #[.slice A0 l0.length c0, .agg #[.string pG, .int .i64 pI]] w fun e w' => e = .returned (.bool r) ∧ Below w.heap.size w w' := by
 have hu31 := Try.underlying31
 have HR0 := ak.mk hr0
 have HC0 := ak.mk hc0
 clear hr0 hc0
 have HB := ak.mk (Below.refl w.heap.size w)
 have H : ((bZ.f k l0 pG pI).bind fun t183 => (some (decide (t183 ≥ 0)))) = some r := h
 clear h
 replace H := Option.bind_eq_some_iff.mp H
 obtain ⟨t183, A30, H⟩ := H
 replace H : (some (decide (t183 ≥ 0))) = some r := H
 have A3 := ak.mk A30
 clear A30
 obtain rfl := Option.some.inj H
 go_enter Try.func54, Try.ntmps54
 go_wp2_with (first | ((with_reducible refine bX (N := 3) rfl ?_); refine bV ?hg (N := 3) ?hd (cs := #[.string pG, .int .i64 pI]) (t := 31) ?hr ?_; (case hd => rfl); (case hg => rfl); (case hr => first | (go_simp; done) | (go_simp; rfl)); intro gb182 hg w4 hbox hb; have n0_ := ak.mk (aX (by repeat (first | (with_reducible first | exact HB.out | apply au | apply ah | apply aj) | exact HB.out)) hb); have n1_ := ak.mk (hbox); have n2_ := ak.mk ((by rw [hg]; exact (aW (by repeat (first | (with_reducible first | exact HB.out | apply au | apply ah | apply aj) | exact HB.out))) : w.heap.size ≤ gb182)); have n3_ := ak.mk ((by rw [hg]; exact (aW (by repeat (first | (with_reducible first | exact HB.out | apply au | apply ah | apply aj) | exact HB.out))) : w.heap.size ≤ gb182)); clear HB; have HB := n0_; have BK182 := n1_; have GW182 := n2_; have GE182 := n3_; clear n0_ n1_ n2_ n3_; clear hb hbox hg; have hcz5_0 : w4.cell? ⟨gb182, 0, none⟩ = some (.string pG) := (aM BK182.out 0).trans rfl; have hcz5_1 : w4.cell? ⟨gb182, 1, none⟩ = some (.int .i64 pI) := (aM BK182.out 1).trans rfl; have hfz5_0 := bB BK182.out 0; have hfz5_1 := bB BK182.out 1) | ((with_reducible refine bG (f := 113) rfl ?_); refine dz (some 7) rfl rfl Try.func113 (by kernel_rfl) rfl #[.slice A0 l0.length c0, .agg #[.string pG, .int .i64 pI]] rfl (by (try simp only [List.map_toArray, List.map_cons, List.map_nil]); first | done | rfl | (simp only [List.length_drop, List.length_take]; rfl)) ?_; (with_reducible refine (bZ.calls k _ _ l0 pG pI t183 _ ?side1 ?side2 A3.out).mono ?_); (case side1 => repeat (first | exact (Kd.dB HR0.out HB.out) | (with_reducible refine Kd.bK ?_ _) | (with_reducible refine Kd.bL ?_ _) | (with_reducible refine Kd.bW ?_))); (case side2 => exact HC0.out); rintro e w6 ⟨rfl, hb⟩; refine ⟨_, rfl, ?_⟩; have n0_ := ak.mk (bD (g := gb182) (o := .cells #[.string pG, .int .i64 pI] 31 (0, 0)) (by (with_reducible repeat (first | refine aG ?_ _ | refine aK ?_ | refine aD ?_ _)); exact BK182.out) hb); have n1_ := ak.mk (aX (by repeat (first | (with_reducible first | exact HB.out | apply au | apply ah | apply aj | refine ay ?_ GE182.out) | exact HB.out)) hb); clear BK182; clear HB; have BK182 := n0_; have HB := n1_; clear n0_ n1_; (try clear hb); (try clear hb2); (try clear hk); (try clear hi)))
 go_ret
 exact ⟨by first | rfl | (simp [bn, bq] <;> rfl) | (simp [*, bn, bq] <;> rfl), by repeat (first | (with_reducible first | exact HB.out | apply au | apply ah | apply aj | refine ay ?_ GE182.out) | exact HB.out)⟩
def aN.cs (x : S31) : List Value := [.string x.f0, .int .i64 x.f1]
theorem aN.get : ∀ (l : List (S31)) (j : Nat), (l.flatMap aN.cs)[j]? = (l[j / 2]?).bind fun p => (aN.cs p)[j % 2]?
 | [], j => by simp
 | x :: l, 0 => by simp [aN.cs]
 | x :: l, 1 => by simp [aN.cs]
 | x :: l, j + 2 => by
  have h1 : (j + 2) / 2 = j / 2 + 1 := by omega
  have h2 : (j + 2) % 2 = j % 2 := by omega
  rw [h1, h2, List.getElem?_cons_succ, ← aN.get l j]
  simp [aN.cs]
theorem aN.len (l : List (S31)) : (l.flatMap aN.cs).length = l.length * 2 := by
 induction l with
 | nil => rfl
 | cons x l ih =>
  simp only [List.flatMap_cons, List.length_append, ih, List.length_cons, aN.cs, List.length_nil]
  omega
theorem aN.one (l : List (S31)) : ∀ u ∈ l.flatMap aN.cs, u.oneCell' = true := by
 intro u hu
 obtain ⟨x, _, hx⟩ := List.mem_flatMap.1 hu
 simp only [aN.cs, List.mem_cons, List.not_mem_nil, or_false] at hx
 rcases hx with rfl | rfl <;> rfl
theorem aN.reads {w : World} {A : Option Addr} {n : Nat} {l : List (S31)} (h : Kd.C k31 w A n l) : ∀ a, A = some a → ∀ j v, (l.flatMap aN.cs)[j]? = some v → w.cell? (a.add j) = some v := by
 intro a ha j v hj
 rw [aN.get] at hj
 obtain ⟨p, hp, hv⟩ := Option.bind_eq_some_iff.1 hj
 have hlt : j / 2 < l.length := (List.getElem?_eq_some_iff.1 hp).1
 obtain ⟨ad, e, hc⟩ := h.2.2 (by have := h.1; omega)
 rw [ha] at e
 cases e
 obtain ⟨c, _, hk, hcell⟩ := hc (j / 2) p hp
 obtain rfl := lJ hk
 have h5 := hcell (j % 2) v hv
 have h6 : j / 2 * k31.sz + j % 2 = j := by show j / 2 * 2 + j % 2 = j; omega
 rwa [h6] at h5
theorem aN.oO (w : World) (base : Nat) (ok : Nat → Prop) (l : List (S31)) : dx (k31.M w base ok) 2 l (l.flatMap aN.cs) := ⟨aN.len l, fun j p hj => by
 have h : ((l.flatMap aN.cs).drop (j * 2)).take 2 = aN.cs p := by
  apply List.ext_getElem?
  intro i
  rw [List.getElem?_take]
  split
  ·rw [List.getElem?_drop, aN.get, show (j * 2 + i) / 2 = j by omega, show (j * 2 + i) % 2 = i by omega, hj]
   rfl
  ·rw [List.getElem?_eq_none]
   simp [aN.cs]
   omega
 rw [h]
 exact eD w base ok p⟩
theorem aN.inner {w : World} {base : Nat} {ok : Nat → Prop} {l : List (S31)} {inner : List Value} (h : dx (k31.M w base ok) 2 l inner) : inner = l.flatMap aN.cs := by
 apply List.ext_getElem?
 intro j
 rw [aN.get]
 by_cases hj : j / 2 < l.length
 ·have hp := List.getElem?_eq_getElem hj
  have hm := gq (h.2 (j / 2) _ hp)
  have h5 : ((inner.drop (j / 2 * 2)).take 2)[j % 2]? = inner[j]? := by rw [List.getElem?_take, if_pos (by omega), List.getElem?_drop, show j / 2 * 2 + j % 2 = j by omega]
  rw [← h5, hm, hp]
  rfl
 ·rw [List.getElem?_eq_none (by rw [h.1]; omega), List.getElem?_eq_none (by omega)]
  rfl
theorem aN.take : ∀ (l : List (S31)) (i : Nat), (l.flatMap aN.cs).take (i * 2) = (l.take i).flatMap aN.cs
 | [], i => by simp
 | x :: l, 0 => by simp
 | x :: l, i + 1 => by rw [List.take_succ_cons, List.flatMap_cons, List.flatMap_cons, ← aN.take l i, List.take_append, show (aN.cs x).length = 2 from rfl, show (i + 1) * 2 - 2 = i * 2 by omega, List.take_of_length_le (by show 2 ≤ (i + 1) * 2; omega)]
theorem aN.drop : ∀ (l : List (S31)) (i : Nat), (l.flatMap aN.cs).drop (i * 2) = (l.drop i).flatMap aN.cs
 | [], i => by simp
 | x :: l, 0 => by simp
 | x :: l, i + 1 => by rw [List.drop_succ_cons, List.flatMap_cons, ← aN.drop l i, List.drop_append, show (aN.cs x).length = 2 from rfl, show (i + 1) * 2 - 2 = i * 2 by omega, List.drop_eq_nil_of_le (by show 2 ≤ (i + 1) * 2; omega), List.nil_append]
def aN.f (l0 : List (S31)) : Option (List (S31)) := if l0.length ≤ 5864062014805 then (some l0) else (none)
theorem aN.calls (A0 : Option Addr) (c0 : Nat) (l0 : List (S31)) (r : List (S31)) (w : World) (hr0 : Kd.C k31 w A0 l0.length l0) (hc0 : l0.length ≤ c0) (h : aN.f l0 = some r) :
  Calls Try.prog 55 #[.slice A0 l0.length c0] w fun e w' => ∃ v0_ : Value, e = .returned (v0_) ∧ Kd.R k31 31 w' w.heap.size (fun _ => True) v0_ r ∧ Below w.heap.size w w' := by
 unfold aN.f at h
 split at h
 ·rename_i hc
  obtain rfl := Option.some.inj h
  refine (Go.Proofs.Ythjcicmmbmagbaa.HandIns.nV A0 l0.length c0 (l0.flatMap aN.cs) w (aN.len l0) (aN.reads hr0) (aN.one l0) ?_ (by omega)).mono ?_
  ·intro ha
   rcases Nat.eq_zero_or_pos l0.length with hn | hn
   ·exact hn
   ·obtain ⟨ad, e, _⟩ := hr0.2.2 hn
    rw [ha] at e
    cases e
  ·rintro e w' ⟨v, rfl, ho, hb⟩
   exact ⟨v, rfl, ⟨fun _ _ => trivial, l0.flatMap aN.cs, ho, aN.oO _ _ _ l0⟩, hb⟩
 ·cases h
def aV.ig (l : List (S31)) (i : Int) (ys : List (S31)) : List (S31) := l.take i.toNat ++ ys ++ l.drop i.toNat
def aV.cli (l : List (S31)) (i : Int) : Option (List (S31)) := if 0 ≤ i ∧ i ≤ (l.length : Int) then aN.f l else none
theorem aV.nH {l t : List (S31)} {i : Int} (h : aV.cli l i = some t) : 0 ≤ i ∧ i ≤ (t.length : Int) := by
 unfold aV.cli at h
 split at h
 ·rename_i hc
  unfold aN.f at h
  split at h
  ·obtain rfl := Option.some.inj h
   exact hc
  ·cases h
 ·cases h
theorem aV.iQ (A0 : Option Addr) (c0 : Nat) (l0 : List (S31)) (i : Int) (r : List (S31)) (w : World) (hr0 : Kd.C k31 w A0 l0.length l0) (hc0 : l0.length ≤ c0) (h : aV.cli l0 i = some r) :
  Calls Try.prog 55 #[.slice A0 l0.length c0] w fun e w' => ∃ v0_ : Value, e = .returned (v0_) ∧ Kd.R k31 31 w' w.heap.size (fun _ => True) v0_ r ∧ Below w.heap.size w w' :=
 aN.calls A0 c0 l0 r w hr0 hc0 (by unfold aV.cli at h; split at h; exact h; cases h)
theorem aV.flat (xs ys : List (S31)) (i : Nat) : (aV.ig xs (i : Int) ys).flatMap aN.cs = (xs.flatMap aN.cs).take (i * 2) ++ ys.flatMap aN.cs ++ (xs.flatMap aN.cs).drop (i * 2) := by
 rw [aV.ig, Int.toNat_natCast, List.flatMap_append, List.flatMap_append, aN.take, aN.drop]
theorem aV.ins {w0 W : World} (base : Nat) (v v2 : Value) (xs ys : List (S31)) (x6 : Int) (ok ok2 : Nat → Prop) (HO : Kd.R k31 31 W base ok v xs) (HO2 : Kd.R k31 31 W base ok2 v2 ys) (h1 : ys.length = 1) (hne : ∀ k, ok k → some k ≠ v2.ownBlock)
  (hfresh : ∀ k, W.heap.size ≤ k → ok k) (HB : Below base w0 W) (hbase : base ≤ W.heap.size) (hl : (xs.length + ys.length) * 24 ≤ 140737488355328) (hi : 0 ≤ x6 ∧ x6 ≤ (xs.length : Int)) :
  Calls Try.prog 57 #[v, .int .i64 x6, v2] W fun e w1 => ∃ v1 : Value, e = .returned v1 ∧ Kd.R k31 31 w1 base ok v1 (aV.ig xs x6 ys) ∧ Below base w0 w1 ∧ W.grownBy w1 v.ownBlock ∧ (v1.ownBlock = v.ownBlock ∨ ∃ b, v1.ownBlock = some b ∧ W.heap.size ≤ b) := by
 obtain ⟨i, rfl⟩ : ∃ i : Nat, x6 = (i : Int) := ⟨x6.toNat, by omega⟩
 obtain ⟨hok, inner, ho, hr⟩ := HO
 obtain rfl := aN.inner hr
 obtain ⟨hok2, inner2, ho2, hr2⟩ := HO2
 obtain rfl := aN.inner hr2
 have hfl := aV.flat xs ys i
 have hvl : (ys.flatMap aN.cs).length = 2 := by rw [aN.len, h1]
 have hln : (aV.ig xs (i : Int) ys).length = xs.length + 1 := by
  simp only [aV.ig, List.length_append, List.length_take, List.length_drop, h1, Int.toNat_natCast]
  omega
 replace ho : W.ownsRow base 31 2 v xs.length (xs.flatMap aN.cs) := ho
 replace ho2 : W.ownsRow base 31 2 v2 ys.length (ys.flatMap aN.cs) := ho2
 rcases ho2.2 with ⟨rfl, h0⟩ | ⟨vb, vc, vcur, rfl, hvbB, hvb, hvn, hvm, hvz, hvt⟩
 ·omega
 rw [h1] at hvn hvt
 rcases ho.2 with ⟨rfl, h0⟩ | ⟨b, c, cur, rfl, hbB, hb, hnc, hcm, hcur, htk⟩
 ·obtain rfl := List.length_eq_zero_iff.1 h0
  obtain rfl : i = 0 := by simp at hi; omega
  rw [h1]
  refine (Go.Proofs.Ythjcicmmbmagbaa.HandIns.insert_nil vb vc base (ys.flatMap aN.cs) vcur W hvb hvn hvt hvl hbase (aN.one ys)).mono ?_
  rintro e w1 ⟨v1, rfl, ho1, hg, g, hg1, hg2⟩
  refine ⟨v1, rfl, ⟨fun k hk => hfresh k ?_, _, ?_, aN.oO _ _ _ _⟩, HB.grown hg hbase (fun k hk => by cases hk), hg, .inr ⟨g, hg1, hg2⟩⟩
  ·rw [hg1] at hk
   cases hk
   exact hg2
  ·rw [hfl, hln]
   show w1.ownsRow base 31 2 _ _ _
   simpa using ho1
 ·have hbv : vb ≠ b := by
   rintro rfl
   exact hne vb (hok vb rfl) rfl
  have hz : vcur.size ≠ 0 := by omega
  have fin : ∀ (w1 : World) (v1 : Value), w1.ownsRow base 31 2 v1 (xs.length + 1) ((xs.flatMap aN.cs).take (i * 2) ++ ys.flatMap aN.cs ++ (xs.flatMap aN.cs).drop (i * 2)) → W.grownBy w1 (some b) → (v1.ownBlock = some b ∨ ∃ g, v1.ownBlock = some g ∧ W.heap.size ≤ g) →
    ∃ v2 : Value, Ending.returned v1 = .returned v2 ∧ Kd.R k31 31 w1 base ok v2 (aV.ig xs (i : Int) ys) ∧ Below base w0 w1 ∧ W.grownBy w1 (some b) ∧ (v2.ownBlock = some b ∨ ∃ b, v2.ownBlock = some b ∧ W.heap.size ≤ b) := by
   intro w1 v1 ho1 hg hv
   refine ⟨v1, rfl, ⟨fun k hk => ?_, _, ?_, aN.oO _ _ _ _⟩, HB.grown hg hbase (fun k hk => by cases hk; exact hbB), hg, hv⟩
   ·rcases hv with hv | ⟨g, hv, hv2⟩
    ·rw [hv] at hk
     cases hk
     exact hok b rfl
    ·rw [hv] at hk
     cases hk
     exact hfresh _ hv2
   ·rw [hfl, hln]
    exact ho1
  rw [h1]
  by_cases he : i = xs.length
  ·subst he
   refine (Go.Proofs.Ythjcicmmbmagbaa.HandIns.lZ b xs.length c vb vc base (xs.flatMap aN.cs) (ys.flatMap aN.cs) cur vcur W hb hcur hnc hcm htk hvb hvn hvt hvl hbB hbase (by omega) (aN.one xs) (aN.one ys)).mono ?_
   rintro e w1 ⟨v1, rfl, ho1, hg, hv⟩
   refine fin w1 v1 ?_ hg hv
   rw [← aN.len, List.take_length, List.drop_length, List.append_nil]
   exact ho1
  ·by_cases hroom : xs.length + 1 ≤ c
   ·refine (Go.Proofs.Ythjcicmmbmagbaa.HandIns.kV b xs.length c i vb vc base (xs.flatMap aN.cs) (ys.flatMap aN.cs) cur vcur W (by omega) hb hcur hnc hcm htk hvb hvn hz hbv hvt hvl hbB hbase (by omega) (aN.one xs) (aN.one ys) hroom).mono ?_
    rintro e w1 ⟨v1, rfl, ho1, hg, hv⟩
    exact fin w1 v1 ho1 hg hv
   ·refine (Go.Proofs.Ythjcicmmbmagbaa.HandIns.lC b xs.length c i vb vc base (xs.flatMap aN.cs) (ys.flatMap aN.cs) cur vcur W (by omega) hb hcur hnc hcm htk hvb hvn hz hbv hvt hvl hbB hbase (by omega) (aN.one xs) (aN.one ys) (by omega)).mono ?_
    rintro e w1 ⟨v1, rfl, ho1, hg, hv⟩
    exact fin w1 v1 ho1 hg hv
mutual
def aV.j1 : Nat → List (S31) → Int → ByteArray → Int → Option ((List (S31)) × Bool)
 | 0, _, _, _, _ => none
 | k + 1, x0, x6, x185000, x185001 => (aV.cli x0 x6).bind fun t191 => ((some (([(⟨x185000, x185001⟩ : S31)] : List (S31)) : List (S31))).bind fun y194 => (if t191.length + y194.length < 5864062014805 then ((some (aV.ig t191 x6 y194 : List (S31))).bind fun y197 => ((bf.f k y197).bind fun t200 => (if t200 = true then (some (y197, true)) else ((aN.f x0).bind fun t201 => (some (t201, false)))))) else (none)))
def aV.l0 : Nat → List (S31) → Int → ByteArray → Int → Option ((List (S31)) × Bool)
 | 0, _, _, _, _ => none
 | k + 1, x0, x6, x185000, x185001 => if x6 < (x0.length : Int) then (if 0 ≤ x6 then ((cO.f ((aJ x0 x6).f0) ((aJ x0 x6).f1) x185000 x185001).bind fun t190 => (if t190 = true then (aV.l0 k x0 (wrap64 (x6 + 1)) x185000 x185001) else (aV.j1 k x0 x6 x185000 x185001))) else (none)) else (aV.j1 k x0 x6 x185000 x185001)
end
def aV.f (k : Nat) (l0 : List (S31)) (pG : ByteArray) (pI : Int) : Option ((List (S31)) × Bool) := (dW.f k l0 pG pI).bind fun t185 => (if t185 = true then ((aN.f l0).bind fun t186 => (some (t186, false))) else (aV.l0 k l0 0 pG pI))
def aV.T4 : Bool × List (List Nat × List Nat) := (true, [([], []), ([], []), ([1], [1]), ([0, 2], [0, 2]), ([3], [3]), ([4], [4]), ([4], [4]), ([5, 6, 4], [4, 5, 6]), ([7, 4], [4, 7]), ([4], [4]), ([8, 9, 4, 4], [4, 8, 9]), ([4, 10], [4, 10])])
def aV.B4 : List Nat := [0, 0, 2, 7, 15, 31, 31, 127, 255, 31, 1023, 2047]
theorem aV.iB : fT .any (opsOf Try.f15 4) = aV.T4 := by kernel_rfl
theorem aV.gD : fH aV.T4.2 aV.B4 = true := by kernel_rfl
set_option maxHeartbeats 8000000 in
set_option maxRecDepth 100000 in
theorem aV.calls (k : Nat) (A0 : Option Addr) (c0 : Nat) (l0 : List (S31)) (pG : ByteArray) (pI : Int) (r1 : List (S31)) (r2 : Bool) (w : World) (hr0 : Kd.C k31 w A0 l0.length l0) (hc0 : l0.length ≤ c0) (h : aV.f k l0 pG pI = some (r1, r2)) :
  Calls Try.prog 15 #[.slice A0 l0.length c0, .agg #[.string pG, .int .i64 pI]] w fun e w' => ∃ v0_ : Value, e = .returned (.tuple #[v0_, .bool r2]) ∧ Kd.R k31 31 w' w.heap.size (fun _ => True) v0_ r1 ∧ Below w.heap.size w w' := by
 have hu31 := Try.underlying31
 have HR0 := ak.mk hr0
 have HC0 := ak.mk hc0
 clear hr0 hc0
 have HB := ak.mk (Below.refl w.heap.size w)
 have H : ((dW.f k l0 pG pI).bind fun t185 => (if t185 = true then ((aN.f l0).bind fun t186 => (some (t186, false))) else (aV.l0 k l0 0 pG pI))) = some (r1, r2) := h
 clear h
 replace H := Option.bind_eq_some_iff.mp H
 obtain ⟨t185, A30, H⟩ := H
 replace H : (if t185 = true then ((aN.f l0).bind fun t186 => (some (t186, false))) else (aV.l0 k l0 0 pG pI)) = some (r1, r2) := H
 have A3 := ak.mk A30
 clear A30
 by_cases c4 : t185 = true
 ·subst c4
  have H1 : ((aN.f l0).bind fun t186 => (some (t186, false))) = some (r1, r2) := by rw [if_pos rfl] at H; exact H
  clear H
  have H := H1
  clear H1
  replace H := Option.bind_eq_some_iff.mp H
  obtain ⟨t186, A50, H⟩ := H
  replace H : (some (t186, false)) = some (r1, r2) := H
  have A5 := ak.mk A50
  clear A50
  simp only [Option.some.injEq, Prod.mk.injEq] at H
  obtain ⟨rfl, rfl⟩ := H
  go_enter Try.func15, Try.ntmps15
  go_wp2_with (first | ((with_reducible refine bX (N := 3) rfl ?_); refine bV ?hg (N := 3) ?hd (cs := #[.string pG, .int .i64 pI]) (t := 31) ?hr ?_; (case hd => rfl); (case hg => rfl); (case hr => first | (go_simp; done) | (go_simp; rfl)); intro gb184 hg w6 hbox hb; have n0_ := ak.mk (aX (by repeat (first | (with_reducible first | exact HB.out | apply au | apply ah | apply aj) | exact HB.out)) hb); have n1_ := ak.mk (hbox); have n2_ := ak.mk ((by rw [hg]; exact (aW (by repeat (first | (with_reducible first | exact HB.out | apply au | apply ah | apply aj) | exact HB.out))) : w.heap.size ≤ gb184)); have n3_ := ak.mk ((by rw [hg]; exact (aW (by repeat (first | (with_reducible first | exact HB.out | apply au | apply ah | apply aj) | exact HB.out))) : w.heap.size ≤ gb184)); clear HB; have HB := n0_; have BK184 := n1_; have GW184 := n2_; have GE184 := n3_; clear n0_ n1_ n2_ n3_; clear hb hbox hg; have hcz7_0 : w6.cell? ⟨gb184, 0, none⟩ = some (.string pG) := (aM BK184.out 0).trans rfl; have hcz7_1 : w6.cell? ⟨gb184, 1, none⟩ = some (.int .i64 pI) := (aM BK184.out 1).trans rfl; have hfz7_0 := bB BK184.out 0; have hfz7_1 := bB BK184.out 1) | ((with_reducible refine bG (f := 54) rfl ?_); refine dz (some 10) rfl rfl Try.func54 (by kernel_rfl) rfl #[.slice A0 l0.length c0, .agg #[.string pG, .int .i64 pI]] rfl (by (try simp only [List.map_toArray, List.map_cons, List.map_nil]); first | done | rfl | (simp only [List.length_drop, List.length_take]; rfl)) ?_; (with_reducible refine (dW.calls k _ _ l0 pG pI true _ ?side1 ?side2 A3.out).mono ?_); (case side1 => repeat (first | exact (Kd.dB HR0.out HB.out) | (with_reducible refine Kd.bK ?_ _) | (with_reducible refine Kd.bL ?_ _) | (with_reducible refine Kd.bW ?_))); (case side2 => exact HC0.out); rintro e w8 ⟨rfl, hb⟩; refine ⟨_, rfl, ?_⟩; have n0_ := ak.mk (bD (g := gb184) (o := .cells #[.string pG, .int .i64 pI] 31 (0, 0)) (by (with_reducible repeat (first | refine aG ?_ _ | refine aK ?_ | refine aD ?_ _)); exact BK184.out) hb); have n1_ := ak.mk (aX (by repeat (first | (with_reducible first | exact HB.out | apply au | apply ah | apply aj | refine ay ?_ GE184.out) | exact HB.out)) hb); clear BK184; clear HB; have BK184 := n0_; have HB := n1_; clear n0_ n1_; (try clear hb); (try clear hb2); (try clear hk); (try clear hi)) | ((with_reducible refine bG (f := 55) rfl ?_); refine dz (some 12) rfl rfl Try.func55 (by kernel_rfl) rfl #[.slice A0 l0.length c0] rfl (by (try simp only [List.map_toArray, List.map_cons, List.map_nil]); first | done | rfl | (simp only [List.length_drop, List.length_take]; rfl)) ?_; (with_reducible refine (aN.calls _ _ l0 t186 _ ?side1 ?side2 A5.out).mono ?_); (case side1 => repeat (first | exact (Kd.dB HR0.out HB.out) | (with_reducible refine Kd.bK ?_ _) | (with_reducible refine Kd.bL ?_ _) | (with_reducible refine Kd.bW ?_))); (case side2 => exact HC0.out); rintro e w9 ⟨v187, rfl, ho0, hb⟩; refine ⟨_, rfl, ?_⟩; have n0_ := ak.mk (Kd.dD (Kd.dX ho0 (g := gb184) (o := .cells #[.string pG, .int .i64 pI] 31 (0, 0)) (by (with_reducible repeat (first | refine aG ?_ _ | refine aK ?_ | refine aD ?_ _)); exact BK184.out)) (aW (by repeat (first | (with_reducible first | exact HB.out | apply au | apply ah | apply aj | refine ay ?_ GE184.out) | exact HB.out)))); have n1_ := ak.mk (bD (g := gb184) (o := .cells #[.string pG, .int .i64 pI] 31 (0, 0)) (by (with_reducible repeat (first | refine aG ?_ _ | refine aK ?_ | refine aD ?_ _)); exact BK184.out) hb); have n2_ := ak.mk (aX (by repeat (first | (with_reducible first | exact HB.out | apply au | apply ah | apply aj | refine ay ?_ GE184.out) | exact HB.out)) hb); clear BK184; clear HB; have HO188 := n0_; have BK184 := n1_; have HB := n2_; clear n0_ n1_ n2_; (try clear hb); (try clear hb2); (try clear hk); (try clear hi); (try clear ho0)))
  go_ret2
  exact ⟨_, by first | rfl | (simp [bn, bq] <;> rfl) | (simp [*, bn, bq] <;> rfl), by (with_reducible repeat (first | apply Kd.aT | apply Kd.aU | apply Kd.aY)); exact Kd.bM HO188.out (fun _ hk => trivial), by repeat (first | (with_reducible first | exact HB.out | apply au | apply ah | apply aj | refine ay ?_ GE184.out) | exact HB.out)⟩
 ·replace c4 := Bool.eq_false_iff.mpr c4
  subst c4
  have H1 : (aV.l0 k l0 0 pG pI) = some (r1, r2) := by rw [if_neg (show ¬ (false = true) by decide)] at H; exact H
  clear H
  have H := H1
  clear H1
  have HC10 := ak.mk H
  clear H
  go_enter Try.func15, Try.ntmps15
  go_upto_block 0 with (first | ((with_reducible refine bX (N := 3) rfl ?_); refine bV ?hg (N := 3) ?hd (cs := #[.string pG, .int .i64 pI]) (t := 31) ?hr ?_; (case hd => rfl); (case hg => rfl); (case hr => first | (go_simp; done) | (go_simp; rfl)); intro gb184 hg w11 hbox hb; have n0_ := ak.mk (aX (by repeat (first | (with_reducible first | exact HB.out | apply au | apply ah | apply aj) | exact HB.out)) hb); have n1_ := ak.mk (hbox); have n2_ := ak.mk ((by rw [hg]; exact (aW (by repeat (first | (with_reducible first | exact HB.out | apply au | apply ah | apply aj) | exact HB.out))) : w.heap.size ≤ gb184)); have n3_ := ak.mk ((by rw [hg]; exact (aW (by repeat (first | (with_reducible first | exact HB.out | apply au | apply ah | apply aj) | exact HB.out))) : w.heap.size ≤ gb184)); clear HB; have HB := n0_; have BK184 := n1_; have GW184 := n2_; have GE184 := n3_; clear n0_ n1_ n2_ n3_; clear hb hbox hg; have hcz12_0 : w11.cell? ⟨gb184, 0, none⟩ = some (.string pG) := (aM BK184.out 0).trans rfl; have hcz12_1 : w11.cell? ⟨gb184, 1, none⟩ = some (.int .i64 pI) := (aM BK184.out 1).trans rfl; have hfz12_0 := bB BK184.out 0; have hfz12_1 := bB BK184.out 1) | ((with_reducible refine bG (f := 54) rfl ?_); refine dz (some 10) rfl rfl Try.func54 (by kernel_rfl) rfl #[.slice A0 l0.length c0, .agg #[.string pG, .int .i64 pI]] rfl (by (try simp only [List.map_toArray, List.map_cons, List.map_nil]); first | done | rfl | (simp only [List.length_drop, List.length_take]; rfl)) ?_; (with_reducible refine (dW.calls k _ _ l0 pG pI false _ ?side1 ?side2 A3.out).mono ?_); (case side1 => repeat (first | exact (Kd.dB HR0.out HB.out) | (with_reducible refine Kd.bK ?_ _) | (with_reducible refine Kd.bL ?_ _) | (with_reducible refine Kd.bW ?_))); (case side2 => exact HC0.out); rintro e w13 ⟨rfl, hb⟩; refine ⟨_, rfl, ?_⟩; have n0_ := ak.mk (bD (g := gb184) (o := .cells #[.string pG, .int .i64 pI] 31 (0, 0)) (by (with_reducible repeat (first | refine aG ?_ _ | refine aK ?_ | refine aD ?_ _)); exact BK184.out) hb); have n1_ := ak.mk (aX (by repeat (first | (with_reducible first | exact HB.out | apply au | apply ah | apply aj | refine ay ?_ GE184.out) | exact HB.out)) hb); clear BK184; clear HB; have BK184 := n0_; have HB := n1_; clear n0_ n1_; (try clear hb); (try clear hb2); (try clear hk); (try clear hi)))
  (try simp only [Act.put, List.setIfInBounds_toArray, List.set_cons_zero, List.set_cons_succ])
  go_cut [6] (fun v6 wc => ∃ (kq : Nat) (x6_9 : Int), v6 = .int .i64 x6_9 ∧ ak (aV.j1 kq l0 x6_9 pG pI = some (r1, r2)) ∧ ak (kq ≤ k) ∧ ak (wc.heap[gb184]? = some (.cells #[.string pG, .int .i64 pI] 31 (0, 0))) ∧ ak (Below w.heap.size w wc))
  case first =>
   have H := HC10.out
   clear HC10
   have H' := ak.mk H
   clear H
   go_wp2
   go_loopg [6] k (fun kq v6 w' => ∃ (x6_1 : Int), v6 = .int .i64 x6_1 ∧ ak (aV.l0 kq l0 x6_1 pG pI = some (r1, r2)) ∧ ak (kq ≤ k) ∧ ak (w'.heap[gb184]? = some (.cells #[.string pG, .int .i64 pI] 31 (0, 0))) ∧ ak (Below w.heap.size w w'))
   case atStart => exact ⟨(0), (by first | rfl | (simp; done) | (simp [*]; done)), H', ⟨Nat.le_refl _⟩, ⟨by (with_reducible repeat (first | refine aG ?_ _ | refine aK ?_ | refine aD ?_ _)); exact BK184.out⟩, ⟨by repeat (first | (with_reducible first | exact HB.out | apply au | apply ah | apply aj | refine ay ?_ GE184.out) | exact HB.out)⟩⟩
   case round =>
    clear H'
    try clear c4
    try clear hcz12_0
    try clear hcz12_1
    try clear hfz12_0
    try clear hfz12_1
    obtain ⟨x6_1, rfl, HA, HK1, BK184, HB⟩ := hrel
    cases gk with
    | zero => exact absurd HA.out (by simp [aV.l0])
    | succ k1 =>
     have H := HA.out
     clear HA
     simp only [aV.l0] at H
     by_cases c14 : x6_1 < (l0.length : Int)
     ·rw [if_pos c14] at H
      have c14b0 : decide (x6_1 < (l0.length : Int)) = true := decide_eq_true c14
      clear c14
      (first | rw [c14b0] | (simp only [aA, aC]; rw [c14b0]) | skip)
      by_cases c15 : 0 ≤ x6_1
      ·rw [if_pos c15] at H
       have c15b0 : decide (0 ≤ x6_1) = true := decide_eq_true c15
       clear c15
       replace H := Option.bind_eq_some_iff.mp H
       obtain ⟨t190, A160, H⟩ := H
       replace H : (if t190 = true then (aV.l0 k1 l0 (wrap64 (x6_1 + 1)) pG pI) else (aV.j1 k1 l0 x6_1 pG pI)) = some (r1, r2) := H
       have A16 := ak.mk A160
       clear A160
       by_cases c17 : t190 = true
       ·subst c17
        have H1 : (aV.l0 k1 l0 (wrap64 (x6_1 + 1)) pG pI) = some (r1, r2) := by rw [if_pos rfl] at H; exact H
        clear H
        have H := H1
        clear H1
        have H' := ak.mk H
        clear H
        try go_wp2
        have n0_ := ak.mk (aK BK184.out)
        have n1_ := ak.mk (aj HB.out)
        clear BK184
        clear HB
        have BK184 := n0_
        have HB := n1_
        clear n0_ n1_
        have p189 : 0 ≤ (x6_1 : Int) := of_decide_eq_true (by first | (with_reducible assumption) | assumption)
        have q189 : x6_1 < (l0.length : Int) := of_decide_eq_true (by first | (with_reducible assumption) | assumption)
        obtain ⟨ad189, e189, hx189_0, hx189_1⟩ := dG HR0.out x6_1 p189 q189
        have hw189_1 := hx189_1
        have hw189_0 := hx189_0
        cases e189
        try replace hx189_0 := (HB.out.cell (World.block_lt_of_cell? w _ hx189_0)).trans hx189_0
        try replace hx189_1 := (HB.out.cell (World.block_lt_of_cell? w _ hx189_1)).trans hx189_1
        replace p189 := eq_true p189
        replace q189 := eq_true q189
        refine dU (n := 12) (S := fun w' => w'.cell? ⟨gb184, 0, none⟩ = some (.string pG) ∧ w'.cell? ⟨gb184, 1, none⟩ = some (.int .i64 pI) ∧ w'.cell? (ad189.add ((x6_1).toNat * 2)) = some (.string ((aJ l0 x6_1).f0)) ∧ w'.cell? ⟨(ad189.add ((x6_1).toNat * 2)).block, (ad189.add ((x6_1).toNat * 2)).off + 1, none⟩ = some (.int .i64 ((aJ l0 x6_1).f1))) (ds := []) #[false, false, false, false, false, false, false, false, false, false, false, false] (by kernel_rfl) rfl rfl ⟨(aM BK184.out 0).trans rfl, (aM BK184.out 1).trans rfl, ((HB.out.cell (World.block_lt_of_cell? w _ hw189_0)).trans hw189_0), ((HB.out.cell (World.block_lt_of_cell? w _ hw189_1)).trans hw189_1)⟩ (fun hHeld => ?_); refine dA aV.iB aV.gD (fun HT_ HW_ => ?_)
        generalize wr.drew = w18 at BK184 HB hx189_0 hx189_1 hHeld ⊢
        refine aP (i := 0) (N := some 13) (v := ?_) (a' := ?_) #[true, false, false, false, false, false, false, false, false, false, false, false] rfl rfl (aH HT_.out (by kernel_rfl)) (fun _ _ _ h => h) (Or.inl ⟨by rfl, ?_⟩) ?_ ?_
        rotate_left
        ·intro w'
         go_simp
         with_reducible rfl
        rotate_left
        ·simp only [Act.put, List.setIfInBounds_toArray, List.set_cons_zero, List.set_cons_succ, aA, aC]
         rfl
        refine aP (i := 1) (N := some 14) (v := ?_) (a' := ?_) #[true, true, false, false, false, false, false, false, false, false, false, false] rfl rfl (aH HT_.out (by kernel_rfl)) (fun _ _ _ h => h) (Or.inl ⟨by rfl, ?_⟩) ?_ ?_
        rotate_left
        ·intro w'
         go_simp
         with_reducible rfl
        rotate_left
        ·simp only [Act.put, List.setIfInBounds_toArray, List.set_cons_zero, List.set_cons_succ, aA, aC]
         rfl
        refine aP (i := 2) (N := some 15) (v := ?_) (a' := ?_) #[true, true, true, false, false, false, false, false, false, false, false, false] rfl rfl (aH HT_.out (by kernel_rfl)) (fun _ _ _ h => h) (Or.inl ⟨by rfl, ?_⟩) ?_ ?_
        rotate_left
        ·intro w'
         go_simp
         with_reducible rfl
        rotate_left
        ·simp only [Act.put, List.setIfInBounds_toArray, List.set_cons_zero, List.set_cons_succ, aA, aC]
         rfl
        refine aP (i := 3) (N := some 16) (v := ?_) (a' := ?_) #[true, true, true, true, false, false, false, false, false, false, false, false] rfl rfl (aH HT_.out (by kernel_rfl)) (fun _ _ _ h => h) (Or.inl ⟨by rfl, ?_⟩) ?_ ?_
        rotate_left
        ·intro w'
         go_simp
         with_reducible rfl
        rotate_left
        ·simp only [Act.put, List.setIfInBounds_toArray, List.set_cons_zero, List.set_cons_succ, aA, aC]
         rfl
        refine aP (i := 4) (N := some 17) (v := ?_) (a' := ?_) #[true, true, true, true, true, false, false, false, false, false, false, false] rfl rfl (aH HT_.out (by kernel_rfl)) (fun _ _ _ h => h) (Or.inl ⟨by rfl, ?_⟩) ?_ ?_
        rotate_left
        ·intro w'
         go_simp
         with_reducible rfl
        rotate_left
        ·simp only [Act.put, List.setIfInBounds_toArray, List.set_cons_zero, List.set_cons_succ, aA, aC]
         rfl
        refine aP (i := 5) (N := some 18) (v := ?_) (a' := ?_) #[true, true, true, true, true, true, false, false, false, false, false, false] rfl rfl (aH HT_.out (by kernel_rfl)) (fun _ _ _ h => h) (Or.inl ⟨by rfl, ?_⟩) ?_ ?_
        rotate_left
        ·intro w'
         go_simp
         with_reducible rfl
        rotate_left
        ·simp only [Act.put, List.setIfInBounds_toArray, List.set_cons_zero, List.set_cons_succ, aA, aC]
         rfl
        refine aP (i := 6) (N := some 19) (v := ?_) (a' := ?_) #[true, true, true, true, true, true, true, false, false, false, false, false] rfl rfl (aH HT_.out (by kernel_rfl)) (fun _ _ _ h => h) (Or.inl ⟨by rfl, ?_⟩) ?_ ?_
        rotate_left
        ·intro w'
         go_simp
         with_reducible rfl
        rotate_left
        ·simp only [Act.put, List.setIfInBounds_toArray, List.set_cons_zero, List.set_cons_succ, aA, aC]
         rfl
        refine aP (i := 7) (N := some 20) (v := ?_) (a' := ?_) #[true, true, true, true, true, true, true, true, false, false, false, false] rfl rfl (aH HT_.out (by kernel_rfl)) (fun _ _ _ h => h) (Or.inl ⟨by rfl, ?_⟩) ?_ ?_
        rotate_left
        ·intro w'
         go_simp
         with_reducible rfl
        rotate_left
        ·simp only [Act.put, List.setIfInBounds_toArray, List.set_cons_zero, List.set_cons_succ, aA, aC]
         rfl
        refine dI (i := 8) (N := some 21) (v := ?_) (a' := ?_) #[true, true, true, true, true, true, true, true, true, false, false, false] rfl rfl (bN HT_.out HW_.out (by kernel_rfl)) (fun _ _ _ h => h) (Or.inl ⟨by rfl, ?_⟩) hHeld ?_ ?_
        rotate_left
        ·rintro w' ⟨s0, s1, s2, s3⟩
         go_simp
         with_reducible rfl
        rotate_left
        ·simp only [Act.put, List.setIfInBounds_toArray, List.set_cons_zero, List.set_cons_succ, aA, aC]
         rfl
        refine dI (i := 9) (N := some 22) (v := ?_) (a' := ?_) #[true, true, true, true, true, true, true, true, true, true, false, false] rfl rfl (bN HT_.out HW_.out (by kernel_rfl)) (fun _ _ _ h => h) (Or.inl ⟨by rfl, ?_⟩) hHeld ?_ ?_
        rotate_left
        ·rintro w' ⟨s0, s1, s2, s3⟩
         go_simp
         with_reducible rfl
        rotate_left
        ·simp only [Act.put, List.setIfInBounds_toArray, List.set_cons_zero, List.set_cons_succ, aA, aC]
         rfl
        refine dS (i := 10) (N := some 23) #[true, true, true, true, true, true, true, true, true, true, true, false] rfl rfl (cK HT_.out (by kernel_rfl)) (by decide) (fun K hK => ?_)
        refine dP Try.func56 (by kernel_rfl) rfl #[.agg #[.string ((aJ l0 x6_1).f0), .int .i64 ((aJ l0 x6_1).f1)], .agg #[.string pG, .int .i64 pI]] (by rfl) rfl rfl (by (try simp only [List.map_toArray, List.map_cons, List.map_nil]); first | done | rfl | (simp only [List.length_drop, List.length_take]; rfl)) ?_
        with_reducible refine (cO.calls ((aJ l0 x6_1).f0) ((aJ l0 x6_1).f1) pG pI true _ A16.out).mono ?_
        rintro e w19 ⟨rfl, hb⟩
        refine ⟨_, rfl, ?_⟩
        have n0_ := ak.mk (bD (g := gb184) (o := .cells #[.string pG, .int .i64 pI] 31 (0, 0)) (by (with_reducible repeat (first | refine aG ?_ _ | refine aK ?_ | refine aD ?_ _)); exact BK184.out) hb)
        have n1_ := ak.mk (aX (by repeat (first | (with_reducible first | exact HB.out | apply au | apply ah | apply aj | refine ay ?_ GE184.out) | exact HB.out)) hb)
        clear BK184
        clear HB
        have BK184 := n0_
        have HB := n1_
        clear n0_ n1_
        (try clear hb)
        (try clear hb2)
        (try clear hk)
        (try clear hi)
        refine hK.out _ _ ⟨(aM BK184.out 0).trans rfl, (aM BK184.out 1).trans rfl, ((HB.out.cell (World.block_lt_of_cell? w _ hw189_0)).trans hw189_0), ((HB.out.cell (World.block_lt_of_cell? w _ hw189_1)).trans hw189_1)⟩ (fun hHeld => ?_)
        clear hK K
        refine bQ (a' := ?_) ?_ ?_
        rotate_left
        ·show Act.put _ (some 23) _ = _
         simp only [Act.put, List.setIfInBounds_toArray, List.set_cons_zero, List.set_cons_succ, aA, aC]
         rfl
        refine aP (i := 11) (N := some 24) (v := ?_) (a' := ?_) #[true, true, true, true, true, true, true, true, true, true, true, true] rfl rfl (aH HT_.out (by kernel_rfl)) (fun _ _ _ h => h) (Or.inl ⟨by rfl, ?_⟩) ?_ ?_
        rotate_left
        ·intro w'
         go_simp
         with_reducible rfl
        rotate_left
        ·simp only [Act.put, List.setIfInBounds_toArray, List.set_cons_zero, List.set_cons_succ, aA, aC]
         rfl
        refine eG (dO HT_.out (by kernel_rfl)) ?_
        try go_wp2
        go_roundg k1
        case measure => have := HK1.out; omega
        case rel => exact ⟨(wrap64 (x6_1 + 1)), (by first | rfl | (simp; done) | (simp [*]; done)), H', ⟨by have := HK1.out; omega⟩, ⟨by (with_reducible repeat (first | refine aG ?_ _ | refine aK ?_ | refine aD ?_ _)); exact BK184.out⟩, ⟨by repeat (first | (with_reducible first | exact HB.out | apply au | apply ah | apply aj | refine ay ?_ GE184.out) | exact HB.out)⟩⟩
       ·replace c17 := Bool.eq_false_iff.mpr c17
        subst c17
        have H1 : (aV.j1 k1 l0 x6_1 pG pI) = some (r1, r2) := by rw [if_neg (show ¬ (false = true) by decide)] at H; exact H
        clear H
        have H := H1
        clear H1
        have H' := ak.mk H
        clear H
        try go_wp2
        have n0_ := ak.mk (aK BK184.out)
        have n1_ := ak.mk (aj HB.out)
        clear BK184
        clear HB
        have BK184 := n0_
        have HB := n1_
        clear n0_ n1_
        have p189 : 0 ≤ (x6_1 : Int) := of_decide_eq_true (by first | (with_reducible assumption) | assumption)
        have q189 : x6_1 < (l0.length : Int) := of_decide_eq_true (by first | (with_reducible assumption) | assumption)
        obtain ⟨ad189, e189, hx189_0, hx189_1⟩ := dG HR0.out x6_1 p189 q189
        have hw189_1 := hx189_1
        have hw189_0 := hx189_0
        cases e189
        try replace hx189_0 := (HB.out.cell (World.block_lt_of_cell? w _ hx189_0)).trans hx189_0
        try replace hx189_1 := (HB.out.cell (World.block_lt_of_cell? w _ hx189_1)).trans hx189_1
        replace p189 := eq_true p189
        replace q189 := eq_true q189
        refine dU (n := 12) (S := fun w' => w'.cell? ⟨gb184, 0, none⟩ = some (.string pG) ∧ w'.cell? ⟨gb184, 1, none⟩ = some (.int .i64 pI) ∧ w'.cell? (ad189.add ((x6_1).toNat * 2)) = some (.string ((aJ l0 x6_1).f0)) ∧ w'.cell? ⟨(ad189.add ((x6_1).toNat * 2)).block, (ad189.add ((x6_1).toNat * 2)).off + 1, none⟩ = some (.int .i64 ((aJ l0 x6_1).f1))) (ds := []) #[false, false, false, false, false, false, false, false, false, false, false, false] (by kernel_rfl) rfl rfl ⟨(aM BK184.out 0).trans rfl, (aM BK184.out 1).trans rfl, ((HB.out.cell (World.block_lt_of_cell? w _ hw189_0)).trans hw189_0), ((HB.out.cell (World.block_lt_of_cell? w _ hw189_1)).trans hw189_1)⟩ (fun hHeld => ?_); refine dA aV.iB aV.gD (fun HT_ HW_ => ?_)
        generalize wr.drew = w20 at BK184 HB hx189_0 hx189_1 hHeld ⊢
        refine aP (i := 0) (N := some 13) (v := ?_) (a' := ?_) #[true, false, false, false, false, false, false, false, false, false, false, false] rfl rfl (aH HT_.out (by kernel_rfl)) (fun _ _ _ h => h) (Or.inl ⟨by rfl, ?_⟩) ?_ ?_
        rotate_left
        ·intro w'
         go_simp
         with_reducible rfl
        rotate_left
        ·simp only [Act.put, List.setIfInBounds_toArray, List.set_cons_zero, List.set_cons_succ, aA, aC]
         rfl
        refine aP (i := 1) (N := some 14) (v := ?_) (a' := ?_) #[true, true, false, false, false, false, false, false, false, false, false, false] rfl rfl (aH HT_.out (by kernel_rfl)) (fun _ _ _ h => h) (Or.inl ⟨by rfl, ?_⟩) ?_ ?_
        rotate_left
        ·intro w'
         go_simp
         with_reducible rfl
        rotate_left
        ·simp only [Act.put, List.setIfInBounds_toArray, List.set_cons_zero, List.set_cons_succ, aA, aC]
         rfl
        refine aP (i := 2) (N := some 15) (v := ?_) (a' := ?_) #[true, true, true, false, false, false, false, false, false, false, false, false] rfl rfl (aH HT_.out (by kernel_rfl)) (fun _ _ _ h => h) (Or.inl ⟨by rfl, ?_⟩) ?_ ?_
        rotate_left
        ·intro w'
         go_simp
         with_reducible rfl
        rotate_left
        ·simp only [Act.put, List.setIfInBounds_toArray, List.set_cons_zero, List.set_cons_succ, aA, aC]
         rfl
        refine aP (i := 3) (N := some 16) (v := ?_) (a' := ?_) #[true, true, true, true, false, false, false, false, false, false, false, false] rfl rfl (aH HT_.out (by kernel_rfl)) (fun _ _ _ h => h) (Or.inl ⟨by rfl, ?_⟩) ?_ ?_
        rotate_left
        ·intro w'
         go_simp
         with_reducible rfl
        rotate_left
        ·simp only [Act.put, List.setIfInBounds_toArray, List.set_cons_zero, List.set_cons_succ, aA, aC]
         rfl
        refine aP (i := 4) (N := some 17) (v := ?_) (a' := ?_) #[true, true, true, true, true, false, false, false, false, false, false, false] rfl rfl (aH HT_.out (by kernel_rfl)) (fun _ _ _ h => h) (Or.inl ⟨by rfl, ?_⟩) ?_ ?_
        rotate_left
        ·intro w'
         go_simp
         with_reducible rfl
        rotate_left
        ·simp only [Act.put, List.setIfInBounds_toArray, List.set_cons_zero, List.set_cons_succ, aA, aC]
         rfl
        refine aP (i := 5) (N := some 18) (v := ?_) (a' := ?_) #[true, true, true, true, true, true, false, false, false, false, false, false] rfl rfl (aH HT_.out (by kernel_rfl)) (fun _ _ _ h => h) (Or.inl ⟨by rfl, ?_⟩) ?_ ?_
        rotate_left
        ·intro w'
         go_simp
         with_reducible rfl
        rotate_left
        ·simp only [Act.put, List.setIfInBounds_toArray, List.set_cons_zero, List.set_cons_succ, aA, aC]
         rfl
        refine aP (i := 6) (N := some 19) (v := ?_) (a' := ?_) #[true, true, true, true, true, true, true, false, false, false, false, false] rfl rfl (aH HT_.out (by kernel_rfl)) (fun _ _ _ h => h) (Or.inl ⟨by rfl, ?_⟩) ?_ ?_
        rotate_left
        ·intro w'
         go_simp
         with_reducible rfl
        rotate_left
        ·simp only [Act.put, List.setIfInBounds_toArray, List.set_cons_zero, List.set_cons_succ, aA, aC]
         rfl
        refine aP (i := 7) (N := some 20) (v := ?_) (a' := ?_) #[true, true, true, true, true, true, true, true, false, false, false, false] rfl rfl (aH HT_.out (by kernel_rfl)) (fun _ _ _ h => h) (Or.inl ⟨by rfl, ?_⟩) ?_ ?_
        rotate_left
        ·intro w'
         go_simp
         with_reducible rfl
        rotate_left
        ·simp only [Act.put, List.setIfInBounds_toArray, List.set_cons_zero, List.set_cons_succ, aA, aC]
         rfl
        refine dI (i := 8) (N := some 21) (v := ?_) (a' := ?_) #[true, true, true, true, true, true, true, true, true, false, false, false] rfl rfl (bN HT_.out HW_.out (by kernel_rfl)) (fun _ _ _ h => h) (Or.inl ⟨by rfl, ?_⟩) hHeld ?_ ?_
        rotate_left
        ·rintro w' ⟨s0, s1, s2, s3⟩
         go_simp
         with_reducible rfl
        rotate_left
        ·simp only [Act.put, List.setIfInBounds_toArray, List.set_cons_zero, List.set_cons_succ, aA, aC]
         rfl
        refine dI (i := 9) (N := some 22) (v := ?_) (a' := ?_) #[true, true, true, true, true, true, true, true, true, true, false, false] rfl rfl (bN HT_.out HW_.out (by kernel_rfl)) (fun _ _ _ h => h) (Or.inl ⟨by rfl, ?_⟩) hHeld ?_ ?_
        rotate_left
        ·rintro w' ⟨s0, s1, s2, s3⟩
         go_simp
         with_reducible rfl
        rotate_left
        ·simp only [Act.put, List.setIfInBounds_toArray, List.set_cons_zero, List.set_cons_succ, aA, aC]
         rfl
        refine dS (i := 10) (N := some 23) #[true, true, true, true, true, true, true, true, true, true, true, false] rfl rfl (cK HT_.out (by kernel_rfl)) (by decide) (fun K hK => ?_)
        refine dP Try.func56 (by kernel_rfl) rfl #[.agg #[.string ((aJ l0 x6_1).f0), .int .i64 ((aJ l0 x6_1).f1)], .agg #[.string pG, .int .i64 pI]] (by rfl) rfl rfl (by (try simp only [List.map_toArray, List.map_cons, List.map_nil]); first | done | rfl | (simp only [List.length_drop, List.length_take]; rfl)) ?_
        with_reducible refine (cO.calls ((aJ l0 x6_1).f0) ((aJ l0 x6_1).f1) pG pI false _ A16.out).mono ?_
        rintro e w21 ⟨rfl, hb⟩
        refine ⟨_, rfl, ?_⟩
        have n0_ := ak.mk (bD (g := gb184) (o := .cells #[.string pG, .int .i64 pI] 31 (0, 0)) (by (with_reducible repeat (first | refine aG ?_ _ | refine aK ?_ | refine aD ?_ _)); exact BK184.out) hb)
        have n1_ := ak.mk (aX (by repeat (first | (with_reducible first | exact HB.out | apply au | apply ah | apply aj | refine ay ?_ GE184.out) | exact HB.out)) hb)
        clear BK184
        clear HB
        have BK184 := n0_
        have HB := n1_
        clear n0_ n1_
        (try clear hb)
        (try clear hb2)
        (try clear hk)
        (try clear hi)
        refine hK.out _ _ ⟨(aM BK184.out 0).trans rfl, (aM BK184.out 1).trans rfl, ((HB.out.cell (World.block_lt_of_cell? w _ hw189_0)).trans hw189_0), ((HB.out.cell (World.block_lt_of_cell? w _ hw189_1)).trans hw189_1)⟩ (fun hHeld => ?_)
        clear hK K
        refine bQ (a' := ?_) ?_ ?_
        rotate_left
        ·show Act.put _ (some 23) _ = _
         simp only [Act.put, List.setIfInBounds_toArray, List.set_cons_zero, List.set_cons_succ, aA, aC]
         rfl
        refine aP (i := 11) (N := some 24) (v := ?_) (a' := ?_) #[true, true, true, true, true, true, true, true, true, true, true, true] rfl rfl (aH HT_.out (by kernel_rfl)) (fun _ _ _ h => h) (Or.inl ⟨by rfl, ?_⟩) ?_ ?_
        rotate_left
        ·intro w'
         go_simp
         with_reducible rfl
        rotate_left
        ·simp only [Act.put, List.setIfInBounds_toArray, List.set_cons_zero, List.set_cons_succ, aA, aC]
         rfl
        refine eG (dO HT_.out (by kernel_rfl)) ?_
        try go_wp2
        go_meet
        case rel => exact ⟨_, (x6_1), (by first | rfl | (simp; done) | (simp [*]; done)), H', ⟨by have := HK1.out; first | omega | exact Nat.le_refl _⟩, ⟨by (with_reducible repeat (first | refine aG ?_ _ | refine aK ?_ | refine aD ?_ _)); exact BK184.out⟩, ⟨by repeat (first | (with_reducible first | exact HB.out | apply au | apply ah | apply aj | refine ay ?_ GE184.out) | exact HB.out)⟩⟩
      ·rw [if_neg c15] at H
       exact absurd H (by simp)
     ·rw [if_neg c14] at H
      have c14b0 : decide (x6_1 < (l0.length : Int)) = false := decide_eq_false c14
      clear c14
      (first | rw [c14b0] | (simp only [aA, aC]; rw [c14b0]) | skip)
      have H' := ak.mk H
      clear H
      try go_wp2
      have n0_ := ak.mk (aK BK184.out)
      have n1_ := ak.mk (aj HB.out)
      clear BK184
      clear HB
      have BK184 := n0_
      have HB := n1_
      clear n0_ n1_
      refine dU (n := 12) (S := fun w' => True) (ds := []) #[false, false, false, false, false, false, false, false, false, false, false, false] (by kernel_rfl) rfl rfl trivial (fun hHeld => ?_); refine dA aV.iB aV.gD (fun HT_ HW_ => ?_)
      generalize wr.drew = w22 at BK184 HB hHeld ⊢
      refine aP (i := 0) (N := some 13) (v := ?_) (a' := ?_) #[true, false, false, false, false, false, false, false, false, false, false, false] rfl rfl (aH HT_.out (by kernel_rfl)) (fun _ _ _ h => h) (Or.inl ⟨by rfl, ?_⟩) ?_ ?_
      rotate_left
      ·intro w'
       go_simp
       with_reducible rfl
      rotate_left
      ·simp only [Act.put, List.setIfInBounds_toArray, List.set_cons_zero, List.set_cons_succ, aA, aC]
       rfl
      refine aP (i := 1) (N := some 14) (v := ?_) (a' := ?_) #[true, true, false, false, false, false, false, false, false, false, false, false] rfl rfl (aH HT_.out (by kernel_rfl)) (fun _ _ _ h => h) (Or.inl ⟨by rfl, ?_⟩) ?_ ?_
      rotate_left
      ·intro w'
       go_simp
       with_reducible rfl
      rotate_left
      ·simp only [Act.put, List.setIfInBounds_toArray, List.set_cons_zero, List.set_cons_succ, aA, aC]
       rfl
      refine aP (i := 2) (N := some 15) (v := ?_) (a' := ?_) #[true, true, true, false, false, false, false, false, false, false, false, false] rfl rfl (aH HT_.out (by kernel_rfl)) (fun _ _ _ h => h) (Or.inl ⟨by rfl, ?_⟩) ?_ ?_
      rotate_left
      ·intro w'
       go_simp
       with_reducible rfl
      rotate_left
      ·simp only [Act.put, List.setIfInBounds_toArray, List.set_cons_zero, List.set_cons_succ, aA, aC]
       rfl
      refine aP (i := 3) (N := some 16) (v := ?_) (a' := ?_) #[true, true, true, true, false, false, false, false, false, false, false, false] rfl rfl (aH HT_.out (by kernel_rfl)) (fun _ _ _ h => h) (Or.inl ⟨by rfl, ?_⟩) ?_ ?_
      rotate_left
      ·intro w'
       go_simp
       with_reducible rfl
      rotate_left
      ·simp only [Act.put, List.setIfInBounds_toArray, List.set_cons_zero, List.set_cons_succ, aA, aC]
       rfl
      refine aP (i := 4) (N := some 17) (v := ?_) (a' := ?_) #[true, true, true, true, true, false, false, false, false, false, false, false] rfl rfl (aH HT_.out (by kernel_rfl)) (fun _ _ _ h => h) (Or.inl ⟨by rfl, ?_⟩) ?_ ?_
      rotate_left
      ·intro w'
       go_simp
       with_reducible rfl
      rotate_left
      ·simp only [Act.put, List.setIfInBounds_toArray, List.set_cons_zero, List.set_cons_succ, aA, aC]
       rfl
      refine aP (i := 5) (N := some 18) (v := undef) (a' := ?_) #[true, true, true, true, true, true, false, false, false, false, false, false] rfl rfl (aH HT_.out (by kernel_rfl)) (fun _ _ _ h => h) (Or.inr ⟨by rfl, rfl⟩) ?_ ?_
      rotate_left
      ·simp only [Act.put, List.setIfInBounds_toArray, List.set_cons_zero, List.set_cons_succ, aA, aC]
       rfl
      refine aP (i := 6) (N := some 19) (v := undef) (a' := ?_) #[true, true, true, true, true, true, true, false, false, false, false, false] rfl rfl (aH HT_.out (by kernel_rfl)) (fun _ _ _ h => h) (Or.inr ⟨by rfl, rfl⟩) ?_ ?_
      rotate_left
      ·simp only [Act.put, List.setIfInBounds_toArray, List.set_cons_zero, List.set_cons_succ, aA, aC]
       rfl
      refine aP (i := 7) (N := some 20) (v := undef) (a' := ?_) #[true, true, true, true, true, true, true, true, false, false, false, false] rfl rfl (aH HT_.out (by kernel_rfl)) (fun _ _ _ h => h) (Or.inr ⟨by rfl, rfl⟩) ?_ ?_
      rotate_left
      ·simp only [Act.put, List.setIfInBounds_toArray, List.set_cons_zero, List.set_cons_succ, aA, aC]
       rfl
      refine aP (i := 8) (N := some 21) (v := undef) (a' := ?_) #[true, true, true, true, true, true, true, true, true, false, false, false] rfl rfl (aH HT_.out (by kernel_rfl)) (fun _ _ _ h => h) (Or.inr ⟨by rfl, rfl⟩) ?_ ?_
      rotate_left
      ·simp only [Act.put, List.setIfInBounds_toArray, List.set_cons_zero, List.set_cons_succ, aA, aC]
       rfl
      refine aP (i := 9) (N := some 22) (v := undef) (a' := ?_) #[true, true, true, true, true, true, true, true, true, true, false, false] rfl rfl (aH HT_.out (by kernel_rfl)) (fun _ _ _ h => h) (Or.inr ⟨by rfl, rfl⟩) ?_ ?_
      rotate_left
      ·simp only [Act.put, List.setIfInBounds_toArray, List.set_cons_zero, List.set_cons_succ, aA, aC]
       rfl
      refine aP (i := 10) (N := some 23) (v := undef) (a' := ?_) #[true, true, true, true, true, true, true, true, true, true, true, false] rfl rfl (aH HT_.out (by kernel_rfl)) (fun _ _ _ h => h) (Or.inr ⟨by rfl, rfl⟩) ?_ ?_
      rotate_left
      ·simp only [Act.put, List.setIfInBounds_toArray, List.set_cons_zero, List.set_cons_succ, aA, aC]
       rfl
      refine aP (i := 11) (N := some 24) (v := ?_) (a' := ?_) #[true, true, true, true, true, true, true, true, true, true, true, true] rfl rfl (aH HT_.out (by kernel_rfl)) (fun _ _ _ h => h) (Or.inl ⟨by rfl, ?_⟩) ?_ ?_
      rotate_left
      ·intro w'
       go_simp
       with_reducible rfl
      rotate_left
      ·simp only [Act.put, List.setIfInBounds_toArray, List.set_cons_zero, List.set_cons_succ, aA, aC]
       rfl
      refine eG (dO HT_.out (by kernel_rfl)) ?_
      try go_wp2
      go_meet
      case rel => exact ⟨_, (x6_1), (by first | rfl | (simp; done) | (simp [*]; done)), H', ⟨by have := HK1.out; first | omega | exact Nat.le_refl _⟩, ⟨by (with_reducible repeat (first | refine aG ?_ _ | refine aK ?_ | refine aD ?_ _)); exact BK184.out⟩, ⟨by repeat (first | (with_reducible first | exact HB.out | apply au | apply ah | apply aj | refine ay ?_ GE184.out) | exact HB.out)⟩⟩
  case rest =>
   clear HC10
   try clear c4
   try clear hcz12_0
   try clear hcz12_1
   try clear hfz12_0
   try clear hfz12_1
   obtain ⟨kq, x6_9, rfl, HA, HJ9, BK184, HB⟩ := hcut
   cases kq with
   | zero => exact absurd HA.out (by simp [aV.j1])
   | succ kj9 =>
    have H := HA.out
    clear HA
    simp only [aV.j1] at H
    replace H := Option.bind_eq_some_iff.mp H
    obtain ⟨t191, A230, H⟩ := H
    replace H : ((some (([(⟨pG, pI⟩ : S31)] : List (S31)) : List (S31))).bind fun y194 => (if t191.length + y194.length < 5864062014805 then ((some (aV.ig t191 x6_9 y194 : List (S31))).bind fun y197 => ((bf.f kj9 y197).bind fun t200 => (if t200 = true then (some (y197, true)) else ((aN.f l0).bind fun t201 => (some (t201, false)))))) else (none))) = some (r1, r2) := H
    have A23 := ak.mk A230
    clear A230
    obtain ⟨y194, hy194⟩ : ∃ y_ : List (S31), y_ = (([(⟨pG, pI⟩ : S31)] : List (S31))) := ⟨_, rfl⟩
    replace H : (if t191.length + y194.length < 5864062014805 then ((some (aV.ig t191 x6_9 y194 : List (S31))).bind fun y197 => ((bf.f kj9 y197).bind fun t200 => (if t200 = true then (some (y197, true)) else ((aN.f l0).bind fun t201 => (some (t201, false)))))) else (none)) = some (r1, r2) := by first | (rw [hy194]; with_reducible exact H) | (have H2_ := (Option.bind_some _ _).symm.trans H; rw [hy194]; with_reducible exact H2_) | (have H2_ := (Option.bind_some _ _).symm.trans H; with_reducible exact H2_) | with_reducible exact H | (rw [hy194]; exact H) | exact H
    have Ny194 := ak.mk hy194
    clear hy194
    by_cases c24 : t191.length + y194.length < 5864062014805
    ·rw [if_pos c24] at H
     have LMc24 := ak.mk c24
     clear c24
     obtain ⟨y197, hy197⟩ : ∃ y_ : List (S31), y_ = (aV.ig t191 x6_9 y194) := ⟨_, rfl⟩
     replace H : ((bf.f kj9 y197).bind fun t200 => (if t200 = true then (some (y197, true)) else ((aN.f l0).bind fun t201 => (some (t201, false))))) = some (r1, r2) := by first | (rw [hy197]; with_reducible exact H) | (have H2_ := (Option.bind_some _ _).symm.trans H; rw [hy197]; with_reducible exact H2_) | (have H2_ := (Option.bind_some _ _).symm.trans H; with_reducible exact H2_) | with_reducible exact H | (rw [hy197]; exact H) | exact H
     have Ny197 := ak.mk hy197
     clear hy197
     replace H := Option.bind_eq_some_iff.mp H
     obtain ⟨t200, A250, H⟩ := H
     replace H : (if t200 = true then (some (y197, true)) else ((aN.f l0).bind fun t201 => (some (t201, false)))) = some (r1, r2) := H
     have A25 := ak.mk A250
     clear A250
     by_cases c26 : t200 = true
     ·subst c26
      have H1 : (some (y197, true)) = some (r1, r2) := by rw [if_pos rfl] at H; exact H
      clear H
      have H := H1
      clear H1
      simp only [Option.some.injEq, Prod.mk.injEq] at H
      obtain ⟨rfl, rfl⟩ := H
      try go_wp2
      have n0_ := ak.mk (aK BK184.out)
      have n1_ := ak.mk (aj HB.out)
      clear BK184
      clear HB
      have BK184 := n0_
      have HB := n1_
      clear n0_ n1_
      refine dU (n := 7) (S := fun w' => w'.cell? ⟨gb184, 0, none⟩ = some (.string pG) ∧ w'.cell? ⟨gb184, 1, none⟩ = some (.int .i64 pI)) (ds := []) #[false, false, false, false, false, false, false] (by kernel_rfl) rfl rfl ⟨(aM BK184.out 0).trans rfl, (aM BK184.out 1).trans rfl⟩ (fun hHeld => ?_)
      generalize wc.drew = w27 at BK184 HB hHeld ⊢
      refine aP (i := 0) (N := some 27) (v := ?_) (a' := ?_) #[true, false, false, false, false, false, false] rfl rfl (by kernel_rfl) (fun _ _ _ h => h) (Or.inl ⟨by rfl, ?_⟩) ?_ ?_
      rotate_left
      ·intro w'
       go_simp
       with_reducible rfl
      rotate_left
      ·simp only [Act.put, List.setIfInBounds_toArray, List.set_cons_zero, List.set_cons_succ, aA, aC]
       rfl
      refine aP (i := 2) (N := some 29) (v := ?_) (a' := ?_) #[true, false, true, false, false, false, false] rfl rfl (by kernel_rfl) (fun _ _ _ h => h) (Or.inl ⟨by rfl, ?_⟩) ?_ ?_
      rotate_left
      ·intro w'
       go_simp
       with_reducible rfl
      rotate_left
      ·simp only [Act.put, List.setIfInBounds_toArray, List.set_cons_zero, List.set_cons_succ, aA, aC]
       rfl
      refine dI (i := 3) (N := some 30) (v := ?_) (a' := ?_) #[true, false, true, true, false, false, false] rfl rfl (by kernel_rfl) (fun _ _ _ h => h) (Or.inl ⟨by rfl, ?_⟩) hHeld ?_ ?_
      rotate_left
      ·rintro w' ⟨s0, s1⟩
       go_simp
       with_reducible rfl
      rotate_left
      ·simp only [Act.put, List.setIfInBounds_toArray, List.set_cons_zero, List.set_cons_succ, aA, aC]
       rfl
      refine lT (σ := Value × Value) 2 #[true, true, true, true, true, false, false] (fun s_ => [(28, s_.1), (31, s_.2)]) (fun s_ w' => (w'.cell? ⟨gb184, 0, none⟩ = some (.string pG) ∧ w'.cell? ⟨gb184, 1, none⟩ = some (.int .i64 pI)) ∧ (Kd.R k31 31 w' w.heap.size (fun k_ => some k_ ≠ (s_.2 : Value).ownBlock ∧ k_ ≠ gb184) s_.1 t191) ∧ (Kd.R k31 31 w' w.heap.size (fun k_ => some k_ ≠ (s_.1 : Value).ownBlock ∧ k_ ≠ gb184) s_.2 y194) ∧ (w'.heap[gb184]? = some (.cells #[.string pG, .int .i64 pI] 31 (0, 0))) ∧ (Below w.heap.size w w')) ?_ ?_
      rotate_left
      ·intro hCont
       refine lD (i := 1) (j := 4) (Ni := some 28) (Nj := some 31) #[true, true, true, true, false, false, false] #[true, false, true, true, true, false, false] rfl rfl rfl rfl (by kernel_rfl) (by decide) (by decide) (fun K hK => ?_) (fun K hK => ?_)
       ·skip
        refine dP Try.func55 (by kernel_rfl) rfl #[.slice A0 l0.length c0] (by rfl) rfl rfl (by (try simp only [List.map_toArray, List.map_cons, List.map_nil]); first | done | rfl | (simp only [List.length_drop, List.length_take]; rfl)) ?_
        with_reducible refine (aV.iQ _ _ l0 x6_9 t191 _ ?side1 ?side2 A23.out).mono ?_
        (case side1 => repeat (first | exact (Kd.dB HR0.out HB.out) | (with_reducible refine Kd.bK ?_ _) | (with_reducible refine Kd.bL ?_ _) | (with_reducible refine Kd.bW ?_)))
        (case side2 => exact HC0.out)
        rintro e w28 ⟨v192, rfl, ho0, hb⟩
        refine ⟨_, rfl, ?_⟩
        have n0_ := ak.mk (Kd.dD (Kd.dX ho0 (g := gb184) (o := .cells #[.string pG, .int .i64 pI] 31 (0, 0)) (by (with_reducible repeat (first | refine aG ?_ _ | refine aK ?_ | refine aD ?_ _)); exact BK184.out)) (aW (by repeat (first | (with_reducible first | exact HB.out | apply au | apply ah | apply aj | refine ay ?_ GE184.out) | exact HB.out))))
        have n1_ := ak.mk (bD (g := gb184) (o := .cells #[.string pG, .int .i64 pI] 31 (0, 0)) (by (with_reducible repeat (first | refine aG ?_ _ | refine aK ?_ | refine aD ?_ _)); exact BK184.out) hb)
        have n2_ := ak.mk (aX (by repeat (first | (with_reducible first | exact HB.out | apply au | apply ah | apply aj | refine ay ?_ GE184.out) | exact HB.out)) hb)
        clear BK184
        clear HB
        have HO193 := n0_
        have BK184 := n1_
        have HB := n2_
        clear n0_ n1_ n2_
        (try clear hb)
        (try clear hb2)
        (try clear hk)
        (try clear hi)
        (try clear ho0)
        refine hK.out _ _ ⟨(aM BK184.out 0).trans rfl, (aM BK184.out 1).trans rfl⟩ (fun hHeld => ?_)
        clear hK K
        refine bQ (a' := ?_) ?_ ?_
        rotate_left
        ·show Act.put _ (some 28) _ = _
         simp only [Act.put, List.setIfInBounds_toArray, List.set_cons_zero, List.set_cons_succ, aA, aC]
         rfl
        refine dS (i := 4) (N := some 31) #[true, true, true, true, true, false, false] rfl rfl (by kernel_rfl) (by decide) (fun K hK => ?_)
        refine Kd.dK k31 _ 31 ?hg (N := 31) ?hd (xs := ([(⟨pG, pI⟩ : S31)] : List (S31))) (inner := [.string pG, .int .i64 pI]) (ok := fun _ => True) (okp := fun _ => True) ?hr ?hp (fun _ hk => hk) trivial (Below.refl _ _) (Nat.le_refl _) (by simp) ?_; (case hd => rfl); (case hg => rfl); (case hr => first | (go_simp; done) | (go_simp; rfl)); (case hp => exact (dx.c2 (show Kd.M k31 _ _ _ (⟨pG, pI⟩ : S31) [.string pG, .int .i64 pI] from (eD _ _ _ (⟨pG, pI⟩ : S31) )) (dx.none _ _)))
        intro v195 w29 ho30 hb hg_ hnew_
        clear hg_ hnew_
        (first | rw [← Ny194.out] at ho30 | (simp only [Int.reduceToNat] at ho30; rw [← Ny194.out] at ho30))
        have n0_ := ak.mk (Kd.cZ (by (with_reducible repeat (first | apply Kd.aT | apply Kd.aU | apply Kd.aY)); exact HO193.out) (Kd.dM ho30) hb)
        have n1_ := ak.mk (Kd.dD (Kd.dX (Kd.dN ho30 (Kd.dZ (by (with_reducible repeat (first | apply Kd.aT | apply Kd.aU | apply Kd.aY)); exact HO193.out))) (g := gb184) (o := .cells #[.string pG, .int .i64 pI] 31 (0, 0)) (by (with_reducible repeat (first | refine aG ?_ _ | refine aK ?_ | refine aD ?_ _)); exact BK184.out)) (aW (by repeat (first | (with_reducible first | exact HB.out | apply au | apply ah | apply aj | refine ay ?_ GE184.out) | exact HB.out))))
        have n2_ := ak.mk (bD (g := gb184) (o := .cells #[.string pG, .int .i64 pI] 31 (0, 0)) (by (with_reducible repeat (first | refine aG ?_ _ | refine aK ?_ | refine aD ?_ _)); exact BK184.out) hb)
        have n3_ := ak.mk (aX (by repeat (first | (with_reducible first | exact HB.out | apply au | apply ah | apply aj | refine ay ?_ GE184.out) | exact HB.out)) hb)
        clear HO193
        clear BK184
        clear HB
        have HO193 := n0_
        have HO196 := n1_
        have BK184 := n2_
        have HB := n3_
        clear n0_ n1_ n2_ n3_
        clear hb ho30
        refine hK.out _ _ ⟨(aM BK184.out 0).trans rfl, (aM BK184.out 1).trans rfl⟩ (fun hHeld => ?_)
        clear hK K
        refine bQ (a' := ?_) ?_ ?_
        rotate_left
        ·show Act.put _ (some 31) _ = _
         simp only [Act.put, List.setIfInBounds_toArray, List.set_cons_zero, List.set_cons_succ, aA, aC]
         rfl
        exact bQ (by simp only [eO, Act.put, List.setIfInBounds_toArray, List.set_cons_zero, List.set_cons_succ]) (hCont (v192, v195) _ ⟨hHeld, (by (with_reducible repeat (first | apply Kd.aT | apply Kd.aU | apply Kd.aY)); exact Kd.bM HO193.out (fun _ hk => ⟨hk.2, hk.1.2⟩)), (by (with_reducible repeat (first | apply Kd.aT | apply Kd.aU | apply Kd.aY)); exact Kd.bM HO196.out (fun _ hk => ⟨hk.1.2, hk.2⟩)), (by (with_reducible repeat (first | refine aG ?_ _ | refine aK ?_ | refine aD ?_ _)); exact BK184.out), (by repeat (first | (with_reducible first | exact HB.out | apply au | apply ah | apply aj | refine ay ?_ GE184.out) | exact HB.out))⟩)
       ·skip
        refine Kd.dK k31 _ 31 ?hg (N := 31) ?hd (xs := ([(⟨pG, pI⟩ : S31)] : List (S31))) (inner := [.string pG, .int .i64 pI]) (ok := fun _ => True) (okp := fun _ => True) ?hr ?hp (fun _ hk => hk) trivial (Below.refl _ _) (Nat.le_refl _) (by simp) ?_; (case hd => rfl); (case hg => rfl); (case hr => first | (go_simp; done) | (go_simp; rfl)); (case hp => exact (dx.c2 (show Kd.M k31 _ _ _ (⟨pG, pI⟩ : S31) [.string pG, .int .i64 pI] from (eD _ _ _ (⟨pG, pI⟩ : S31) )) (dx.none _ _)))
        intro v195 w28 ho29 hb hg_ hnew_
        clear hg_ hnew_
        (first | rw [← Ny194.out] at ho29 | (simp only [Int.reduceToNat] at ho29; rw [← Ny194.out] at ho29))
        have n0_ := ak.mk (Kd.dD (Kd.dX ho29 (g := gb184) (o := .cells #[.string pG, .int .i64 pI] 31 (0, 0)) (by (with_reducible repeat (first | refine aG ?_ _ | refine aK ?_ | refine aD ?_ _)); exact BK184.out)) (aW (by repeat (first | (with_reducible first | exact HB.out | apply au | apply ah | apply aj | refine ay ?_ GE184.out) | exact HB.out))))
        have n1_ := ak.mk (bD (g := gb184) (o := .cells #[.string pG, .int .i64 pI] 31 (0, 0)) (by (with_reducible repeat (first | refine aG ?_ _ | refine aK ?_ | refine aD ?_ _)); exact BK184.out) hb)
        have n2_ := ak.mk (aX (by repeat (first | (with_reducible first | exact HB.out | apply au | apply ah | apply aj | refine ay ?_ GE184.out) | exact HB.out)) hb)
        clear BK184
        clear HB
        have HO196 := n0_
        have BK184 := n1_
        have HB := n2_
        clear n0_ n1_ n2_
        clear hb ho29
        refine hK.out _ _ ⟨(aM BK184.out 0).trans rfl, (aM BK184.out 1).trans rfl⟩ (fun hHeld => ?_)
        clear hK K
        refine bQ (a' := ?_) ?_ ?_
        rotate_left
        ·show Act.put _ (some 31) _ = _
         simp only [Act.put, List.setIfInBounds_toArray, List.set_cons_zero, List.set_cons_succ, aA, aC]
         rfl
        refine dS (i := 1) (N := some 28) #[true, true, true, true, true, false, false] rfl rfl (by kernel_rfl) (by decide) (fun K hK => ?_)
        refine dP Try.func55 (by kernel_rfl) rfl #[.slice A0 l0.length c0] (by rfl) rfl rfl (by (try simp only [List.map_toArray, List.map_cons, List.map_nil]); first | done | rfl | (simp only [List.length_drop, List.length_take]; rfl)) ?_
        with_reducible refine (aV.iQ _ _ l0 x6_9 t191 _ ?side1 ?side2 A23.out).mono ?_
        (case side1 => repeat (first | exact (Kd.dB HR0.out HB.out) | (with_reducible refine Kd.bK ?_ _) | (with_reducible refine Kd.bL ?_ _) | (with_reducible refine Kd.bW ?_)))
        (case side2 => exact HC0.out)
        rintro e w30 ⟨v192, rfl, ho0, hb⟩
        refine ⟨_, rfl, ?_⟩
        have n0_ := ak.mk (Kd.cZ (by (with_reducible repeat (first | apply Kd.aT | apply Kd.aU | apply Kd.aY)); exact HO196.out) (Kd.dM ho0) hb)
        have n1_ := ak.mk (Kd.dD (Kd.dX (Kd.dN ho0 (Kd.dZ (by (with_reducible repeat (first | apply Kd.aT | apply Kd.aU | apply Kd.aY)); exact HO196.out))) (g := gb184) (o := .cells #[.string pG, .int .i64 pI] 31 (0, 0)) (by (with_reducible repeat (first | refine aG ?_ _ | refine aK ?_ | refine aD ?_ _)); exact BK184.out)) (aW (by repeat (first | (with_reducible first | exact HB.out | apply au | apply ah | apply aj | refine ay ?_ GE184.out) | exact HB.out))))
        have n2_ := ak.mk (bD (g := gb184) (o := .cells #[.string pG, .int .i64 pI] 31 (0, 0)) (by (with_reducible repeat (first | refine aG ?_ _ | refine aK ?_ | refine aD ?_ _)); exact BK184.out) hb)
        have n3_ := ak.mk (aX (by repeat (first | (with_reducible first | exact HB.out | apply au | apply ah | apply aj | refine ay ?_ GE184.out) | exact HB.out)) hb)
        clear HO196
        clear BK184
        clear HB
        have HO196 := n0_
        have HO193 := n1_
        have BK184 := n2_
        have HB := n3_
        clear n0_ n1_ n2_ n3_
        (try clear hb)
        (try clear hb2)
        (try clear hk)
        (try clear hi)
        (try clear ho0)
        refine hK.out _ _ ⟨(aM BK184.out 0).trans rfl, (aM BK184.out 1).trans rfl⟩ (fun hHeld => ?_)
        clear hK K
        refine bQ (a' := ?_) ?_ ?_
        rotate_left
        ·show Act.put _ (some 28) _ = _
         simp only [Act.put, List.setIfInBounds_toArray, List.set_cons_zero, List.set_cons_succ, aA, aC]
         rfl
        exact bQ (by simp only [eO, Act.put, List.setIfInBounds_toArray, List.set_cons_zero, List.set_cons_succ]) (hCont (v192, v195) _ ⟨hHeld, (by (with_reducible repeat (first | apply Kd.aT | apply Kd.aU | apply Kd.aY)); exact Kd.bM HO193.out (fun _ hk => ⟨hk.1.2, hk.2⟩)), (by (with_reducible repeat (first | apply Kd.aT | apply Kd.aU | apply Kd.aY)); exact Kd.bM HO196.out (fun _ hk => ⟨hk.2, hk.1.2⟩)), (by (with_reducible repeat (first | refine aG ?_ _ | refine aK ?_ | refine aD ?_ _)); exact BK184.out), (by repeat (first | (with_reducible first | exact HB.out | apply au | apply ah | apply aj | refine ay ?_ GE184.out) | exact HB.out))⟩)
      rintro ⟨v192, v195⟩ w31 ⟨hS_, h0_, h1_, h2_, h3_⟩
      have n0_ : ak (Kd.R k31 31 w31 w.heap.size (fun k_ => some k_ ≠ (v195 : Value).ownBlock ∧ k_ ≠ gb184) v192 t191) := ⟨h0_⟩
      have n1_ : ak (Kd.R k31 31 w31 w.heap.size (fun k_ => some k_ ≠ (v192 : Value).ownBlock ∧ k_ ≠ gb184) v195 y194) := ⟨h1_⟩
      have n2_ : ak (w31.heap[gb184]? = some (.cells #[.string pG, .int .i64 pI] 31 (0, 0))) := ⟨h2_⟩
      have n3_ : ak (Below w.heap.size w w31) := ⟨h3_⟩
      clear BK184
      clear HB
      clear h0_ h1_ h2_ h3_
      have HO193 := n0_
      have HO196 := n1_
      have BK184 := n2_
      have HB := n3_
      clear n0_ n1_ n2_ n3_
      have hHeld : w31.cell? ⟨gb184, 0, none⟩ = some (.string pG) ∧ w31.cell? ⟨gb184, 1, none⟩ = some (.int .i64 pI) := hS_
      obtain ⟨Ao33, co33, eo33⟩ := Kd.dJ HO196.out
      (first | subst eo33 | (injection eo33 with f1_ f2_ f3_; have f4_ := f1_.symm; have f5_ := f3_.symm; clear f1_ f2_ f3_; subst f4_; subst f5_))
      refine bQ (a' := ?_) ?_ ?_
      rotate_left
      ·simp only [eO, Act.put, List.setIfInBounds_toArray, List.set_cons_zero, List.set_cons_succ]
       rfl
      refine dS (i := 5) (N := some 32) #[true, true, true, true, true, true, false] rfl rfl (by kernel_rfl) (by decide) (fun K hK => ?_)
      refine dP Try.func57 (by kernel_rfl) rfl #[v192, .int .i64 x6_9, .slice Ao33 y194.length co33] (by rfl) rfl rfl (by (try simp only [List.map_toArray, List.map_cons, List.map_nil]); first | done | rfl | (simp only [List.length_drop, List.length_take]; rfl)) ?_
      refine (aV.ins (w0 := w) w.heap.size v192 (.slice Ao33 y194.length co33) t191 y194 x6_9 (fun k_ => some k_ ≠ (.slice Ao33 y194.length co33 : Value).ownBlock ∧ k_ ≠ gb184) ?ok718 ?aO ?aR ?aQ (fun _ hk => hk.1) ?aF ?aB ?aS ?aL ?aI).mono ?_
      (case aR => exact (by (with_reducible repeat (first | apply Kd.aT | apply Kd.aU | apply Kd.aY)); exact HO196.out))
      (case aB => exact (by repeat (first | (with_reducible first | exact HB.out | apply au | apply ah | apply aj | refine ay ?_ GE184.out) | exact HB.out)))
      (case aF => exact (fun k_ hk => ⟨Kd.fresh' (Kd.dZ (by (with_reducible repeat (first | apply Kd.aT | apply Kd.aU | apply Kd.aY)); exact HO196.out)) k_ hk, Kd.eZ (g := gb184) (o := .cells #[.string pG, .int .i64 pI] 31 (0, 0)) (by (with_reducible repeat (first | refine aG ?_ _ | refine aK ?_ | refine aD ?_ _)); exact BK184.out) k_ hk⟩))
      (case aO => exact (by (with_reducible repeat (first | apply Kd.aT | apply Kd.aU | apply Kd.aY)); exact HO193.out))
      (case aS => exact (aW (by repeat (first | (with_reducible first | exact HB.out | apply au | apply ah | apply aj | refine ay ?_ GE184.out) | exact HB.out))))
      (case aL => have := LMc24.out; omega)
      (case aQ => rw [Ny194.out]; rfl)
      (case aI => exact aV.nH A23.out)
      rintro e w32 ⟨v198, rfl, ho, hb, hg, hat⟩
      refine ⟨_, rfl, ?_⟩
      rw [← Ny197.out] at ho
      have n0_ := ak.mk (dQ (g := gb184) (o := .cells #[.string pG, .int .i64 pI] 31 (0, 0)) (by (with_reducible repeat (first | refine aG ?_ _ | refine aK ?_ | refine aD ?_ _)); exact BK184.out) hg (Kd.fq HO193.out (fun _ hk => hk.2)))
      have n1_ := ak.mk (Kd.eF (ok := (fun k_ => k_ ≠ gb184)) (by (with_reducible repeat (first | apply Kd.aT | apply Kd.aU | apply Kd.aY)); exact Kd.bM HO196.out (fun _ hk => ⟨hk.2, hk.1⟩)) hg hat)
      have n2_ := ak.mk (hb)
      have n3_ := ak.mk (ho)
      clear BK184
      clear HO196
      clear HB
      clear HO193
      have BK184 := n0_
      have HO196 := n1_
      have HB := n2_
      have HO199 := n3_
      clear n0_ n1_ n2_ n3_
      clear ho hb hg hat
      refine hK.out _ _ ⟨(aM BK184.out 0).trans rfl, (aM BK184.out 1).trans rfl⟩ (fun hHeld => ?_)
      clear hK K
      refine bQ (a' := ?_) ?_ ?_
      rotate_left
      ·show Act.put _ (some 32) _ = _
       simp only [Act.put, List.setIfInBounds_toArray, List.set_cons_zero, List.set_cons_succ, aA, aC]
       rfl
      refine aP (i := 6) (N := some 7) (v := ?_) (a' := ?_) #[true, true, true, true, true, true, true] rfl rfl (by kernel_rfl) (fun _ _ _ h => h) (Or.inl ⟨by rfl, ?_⟩) ?_ ?_
      rotate_left
      ·intro w'
       go_simp
       with_reducible rfl
      rotate_left
      ·simp only [Act.put, List.setIfInBounds_toArray, List.set_cons_zero, List.set_cons_succ, aA, aC]
       rfl
      refine eG (by kernel_rfl) ?_
      obtain ⟨Ao34, co34, eo34⟩ := Kd.dJ HO199.out
      subst eo34
      try go_wp2_with (first | ((with_reducible refine bG (f := 21) rfl ?_); refine dz (some 34) rfl rfl Try.func21 (by kernel_rfl) rfl #[.slice Ao34 y197.length co34] rfl (by (try simp only [List.map_toArray, List.map_cons, List.map_nil]); first | done | rfl | (simp only [List.length_drop, List.length_take]; rfl)) ?_; (with_reducible refine (bf.calls kj9 _ _ y197 true _ ?side1 ?side2 A25.out).mono ?_); (case side1 => repeat (first | exact (Kd.bF HO199.out).2.2 | (with_reducible refine Kd.bK ?_ _) | (with_reducible refine Kd.bL ?_ _) | (with_reducible refine Kd.bW ?_))); (case side2 => exact (Kd.bF HO199.out).2.1); rintro e w35 ⟨rfl, hb⟩; refine ⟨_, rfl, ?_⟩; have n0_ := ak.mk (Kd.bO (by (with_reducible repeat (first | apply Kd.aT | apply Kd.aU | apply Kd.aY)); exact HO196.out) hb); have n1_ := ak.mk (Kd.bO (by (with_reducible repeat (first | apply Kd.aT | apply Kd.aU | apply Kd.aY)); exact HO199.out) hb); have n2_ := ak.mk (bD (g := gb184) (o := .cells #[.string pG, .int .i64 pI] 31 (0, 0)) (by (with_reducible repeat (first | refine aG ?_ _ | refine aK ?_ | refine aD ?_ _)); exact BK184.out) hb); have n3_ := ak.mk (aX (by repeat (first | (with_reducible first | exact HB.out | apply au | apply ah | apply aj | refine ay ?_ GE184.out) | exact HB.out)) hb); clear HO196; clear HO199; clear BK184; clear HB; have HO196 := n0_; have HO199 := n1_; have BK184 := n2_; have HB := n3_; clear n0_ n1_ n2_ n3_; (try clear hb); (try clear hb2); (try clear hk); (try clear hi)))
      go_ret2
      exact ⟨_, by first | rfl | (simp [bn, bq] <;> rfl) | (simp [*, bn, bq] <;> rfl), by (with_reducible repeat (first | apply Kd.aT | apply Kd.aU | apply Kd.aY)); exact Kd.bM HO199.out (fun _ hk => trivial), by repeat (first | (with_reducible first | exact HB.out | apply au | apply ah | apply aj | refine ay ?_ GE184.out) | exact HB.out)⟩
     ·replace c26 := Bool.eq_false_iff.mpr c26
      subst c26
      have H1 : ((aN.f l0).bind fun t201 => (some (t201, false))) = some (r1, r2) := by rw [if_neg (show ¬ (false = true) by decide)] at H; exact H
      clear H
      have H := H1
      clear H1
      replace H := Option.bind_eq_some_iff.mp H
      obtain ⟨t201, A360, H⟩ := H
      replace H : (some (t201, false)) = some (r1, r2) := H
      have A36 := ak.mk A360
      clear A360
      simp only [Option.some.injEq, Prod.mk.injEq] at H
      obtain ⟨rfl, rfl⟩ := H
      try go_wp2
      have n0_ := ak.mk (aK BK184.out)
      have n1_ := ak.mk (aj HB.out)
      clear BK184
      clear HB
      have BK184 := n0_
      have HB := n1_
      clear n0_ n1_
      refine dU (n := 7) (S := fun w' => w'.cell? ⟨gb184, 0, none⟩ = some (.string pG) ∧ w'.cell? ⟨gb184, 1, none⟩ = some (.int .i64 pI)) (ds := []) #[false, false, false, false, false, false, false] (by kernel_rfl) rfl rfl ⟨(aM BK184.out 0).trans rfl, (aM BK184.out 1).trans rfl⟩ (fun hHeld => ?_)
      generalize wc.drew = w37 at BK184 HB hHeld ⊢
      refine aP (i := 0) (N := some 27) (v := ?_) (a' := ?_) #[true, false, false, false, false, false, false] rfl rfl (by kernel_rfl) (fun _ _ _ h => h) (Or.inl ⟨by rfl, ?_⟩) ?_ ?_
      rotate_left
      ·intro w'
       go_simp
       with_reducible rfl
      rotate_left
      ·simp only [Act.put, List.setIfInBounds_toArray, List.set_cons_zero, List.set_cons_succ, aA, aC]
       rfl
      refine aP (i := 2) (N := some 29) (v := ?_) (a' := ?_) #[true, false, true, false, false, false, false] rfl rfl (by kernel_rfl) (fun _ _ _ h => h) (Or.inl ⟨by rfl, ?_⟩) ?_ ?_
      rotate_left
      ·intro w'
       go_simp
       with_reducible rfl
      rotate_left
      ·simp only [Act.put, List.setIfInBounds_toArray, List.set_cons_zero, List.set_cons_succ, aA, aC]
       rfl
      refine dI (i := 3) (N := some 30) (v := ?_) (a' := ?_) #[true, false, true, true, false, false, false] rfl rfl (by kernel_rfl) (fun _ _ _ h => h) (Or.inl ⟨by rfl, ?_⟩) hHeld ?_ ?_
      rotate_left
      ·rintro w' ⟨s0, s1⟩
       go_simp
       with_reducible rfl
      rotate_left
      ·simp only [Act.put, List.setIfInBounds_toArray, List.set_cons_zero, List.set_cons_succ, aA, aC]
       rfl
      refine lT (σ := Value × Value) 2 #[true, true, true, true, true, false, false] (fun s_ => [(28, s_.1), (31, s_.2)]) (fun s_ w' => (w'.cell? ⟨gb184, 0, none⟩ = some (.string pG) ∧ w'.cell? ⟨gb184, 1, none⟩ = some (.int .i64 pI)) ∧ (Kd.R k31 31 w' w.heap.size (fun k_ => some k_ ≠ (s_.2 : Value).ownBlock ∧ k_ ≠ gb184) s_.1 t191) ∧ (Kd.R k31 31 w' w.heap.size (fun k_ => some k_ ≠ (s_.1 : Value).ownBlock ∧ k_ ≠ gb184) s_.2 y194) ∧ (w'.heap[gb184]? = some (.cells #[.string pG, .int .i64 pI] 31 (0, 0))) ∧ (Below w.heap.size w w')) ?_ ?_
      rotate_left
      ·intro hCont
       refine lD (i := 1) (j := 4) (Ni := some 28) (Nj := some 31) #[true, true, true, true, false, false, false] #[true, false, true, true, true, false, false] rfl rfl rfl rfl (by kernel_rfl) (by decide) (by decide) (fun K hK => ?_) (fun K hK => ?_)
       ·skip
        refine dP Try.func55 (by kernel_rfl) rfl #[.slice A0 l0.length c0] (by rfl) rfl rfl (by (try simp only [List.map_toArray, List.map_cons, List.map_nil]); first | done | rfl | (simp only [List.length_drop, List.length_take]; rfl)) ?_
        with_reducible refine (aV.iQ _ _ l0 x6_9 t191 _ ?side1 ?side2 A23.out).mono ?_
        (case side1 => repeat (first | exact (Kd.dB HR0.out HB.out) | (with_reducible refine Kd.bK ?_ _) | (with_reducible refine Kd.bL ?_ _) | (with_reducible refine Kd.bW ?_)))
        (case side2 => exact HC0.out)
        rintro e w38 ⟨v192, rfl, ho0, hb⟩
        refine ⟨_, rfl, ?_⟩
        have n0_ := ak.mk (Kd.dD (Kd.dX ho0 (g := gb184) (o := .cells #[.string pG, .int .i64 pI] 31 (0, 0)) (by (with_reducible repeat (first | refine aG ?_ _ | refine aK ?_ | refine aD ?_ _)); exact BK184.out)) (aW (by repeat (first | (with_reducible first | exact HB.out | apply au | apply ah | apply aj | refine ay ?_ GE184.out) | exact HB.out))))
        have n1_ := ak.mk (bD (g := gb184) (o := .cells #[.string pG, .int .i64 pI] 31 (0, 0)) (by (with_reducible repeat (first | refine aG ?_ _ | refine aK ?_ | refine aD ?_ _)); exact BK184.out) hb)
        have n2_ := ak.mk (aX (by repeat (first | (with_reducible first | exact HB.out | apply au | apply ah | apply aj | refine ay ?_ GE184.out) | exact HB.out)) hb)
        clear BK184
        clear HB
        have HO193 := n0_
        have BK184 := n1_
        have HB := n2_
        clear n0_ n1_ n2_
        (try clear hb)
        (try clear hb2)
        (try clear hk)
        (try clear hi)
        (try clear ho0)
        refine hK.out _ _ ⟨(aM BK184.out 0).trans rfl, (aM BK184.out 1).trans rfl⟩ (fun hHeld => ?_)
        clear hK K
        refine bQ (a' := ?_) ?_ ?_
        rotate_left
        ·show Act.put _ (some 28) _ = _
         simp only [Act.put, List.setIfInBounds_toArray, List.set_cons_zero, List.set_cons_succ, aA, aC]
         rfl
        refine dS (i := 4) (N := some 31) #[true, true, true, true, true, false, false] rfl rfl (by kernel_rfl) (by decide) (fun K hK => ?_)
        refine Kd.dK k31 _ 31 ?hg (N := 31) ?hd (xs := ([(⟨pG, pI⟩ : S31)] : List (S31))) (inner := [.string pG, .int .i64 pI]) (ok := fun _ => True) (okp := fun _ => True) ?hr ?hp (fun _ hk => hk) trivial (Below.refl _ _) (Nat.le_refl _) (by simp) ?_; (case hd => rfl); (case hg => rfl); (case hr => first | (go_simp; done) | (go_simp; rfl)); (case hp => exact (dx.c2 (show Kd.M k31 _ _ _ (⟨pG, pI⟩ : S31) [.string pG, .int .i64 pI] from (eD _ _ _ (⟨pG, pI⟩ : S31) )) (dx.none _ _)))
        intro v195 w39 ho40 hb hg_ hnew_
        clear hg_ hnew_
        (first | rw [← Ny194.out] at ho40 | (simp only [Int.reduceToNat] at ho40; rw [← Ny194.out] at ho40))
        have n0_ := ak.mk (Kd.cZ (by (with_reducible repeat (first | apply Kd.aT | apply Kd.aU | apply Kd.aY)); exact HO193.out) (Kd.dM ho40) hb)
        have n1_ := ak.mk (Kd.dD (Kd.dX (Kd.dN ho40 (Kd.dZ (by (with_reducible repeat (first | apply Kd.aT | apply Kd.aU | apply Kd.aY)); exact HO193.out))) (g := gb184) (o := .cells #[.string pG, .int .i64 pI] 31 (0, 0)) (by (with_reducible repeat (first | refine aG ?_ _ | refine aK ?_ | refine aD ?_ _)); exact BK184.out)) (aW (by repeat (first | (with_reducible first | exact HB.out | apply au | apply ah | apply aj | refine ay ?_ GE184.out) | exact HB.out))))
        have n2_ := ak.mk (bD (g := gb184) (o := .cells #[.string pG, .int .i64 pI] 31 (0, 0)) (by (with_reducible repeat (first | refine aG ?_ _ | refine aK ?_ | refine aD ?_ _)); exact BK184.out) hb)
        have n3_ := ak.mk (aX (by repeat (first | (with_reducible first | exact HB.out | apply au | apply ah | apply aj | refine ay ?_ GE184.out) | exact HB.out)) hb)
        clear HO193
        clear BK184
        clear HB
        have HO193 := n0_
        have HO196 := n1_
        have BK184 := n2_
        have HB := n3_
        clear n0_ n1_ n2_ n3_
        clear hb ho40
        refine hK.out _ _ ⟨(aM BK184.out 0).trans rfl, (aM BK184.out 1).trans rfl⟩ (fun hHeld => ?_)
        clear hK K
        refine bQ (a' := ?_) ?_ ?_
        rotate_left
        ·show Act.put _ (some 31) _ = _
         simp only [Act.put, List.setIfInBounds_toArray, List.set_cons_zero, List.set_cons_succ, aA, aC]
         rfl
        exact bQ (by simp only [eO, Act.put, List.setIfInBounds_toArray, List.set_cons_zero, List.set_cons_succ]) (hCont (v192, v195) _ ⟨hHeld, (by (with_reducible repeat (first | apply Kd.aT | apply Kd.aU | apply Kd.aY)); exact Kd.bM HO193.out (fun _ hk => ⟨hk.2, hk.1.2⟩)), (by (with_reducible repeat (first | apply Kd.aT | apply Kd.aU | apply Kd.aY)); exact Kd.bM HO196.out (fun _ hk => ⟨hk.1.2, hk.2⟩)), (by (with_reducible repeat (first | refine aG ?_ _ | refine aK ?_ | refine aD ?_ _)); exact BK184.out), (by repeat (first | (with_reducible first | exact HB.out | apply au | apply ah | apply aj | refine ay ?_ GE184.out) | exact HB.out))⟩)
       ·skip
        refine Kd.dK k31 _ 31 ?hg (N := 31) ?hd (xs := ([(⟨pG, pI⟩ : S31)] : List (S31))) (inner := [.string pG, .int .i64 pI]) (ok := fun _ => True) (okp := fun _ => True) ?hr ?hp (fun _ hk => hk) trivial (Below.refl _ _) (Nat.le_refl _) (by simp) ?_; (case hd => rfl); (case hg => rfl); (case hr => first | (go_simp; done) | (go_simp; rfl)); (case hp => exact (dx.c2 (show Kd.M k31 _ _ _ (⟨pG, pI⟩ : S31) [.string pG, .int .i64 pI] from (eD _ _ _ (⟨pG, pI⟩ : S31) )) (dx.none _ _)))
        intro v195 w38 ho39 hb hg_ hnew_
        clear hg_ hnew_
        (first | rw [← Ny194.out] at ho39 | (simp only [Int.reduceToNat] at ho39; rw [← Ny194.out] at ho39))
        have n0_ := ak.mk (Kd.dD (Kd.dX ho39 (g := gb184) (o := .cells #[.string pG, .int .i64 pI] 31 (0, 0)) (by (with_reducible repeat (first | refine aG ?_ _ | refine aK ?_ | refine aD ?_ _)); exact BK184.out)) (aW (by repeat (first | (with_reducible first | exact HB.out | apply au | apply ah | apply aj | refine ay ?_ GE184.out) | exact HB.out))))
        have n1_ := ak.mk (bD (g := gb184) (o := .cells #[.string pG, .int .i64 pI] 31 (0, 0)) (by (with_reducible repeat (first | refine aG ?_ _ | refine aK ?_ | refine aD ?_ _)); exact BK184.out) hb)
        have n2_ := ak.mk (aX (by repeat (first | (with_reducible first | exact HB.out | apply au | apply ah | apply aj | refine ay ?_ GE184.out) | exact HB.out)) hb)
        clear BK184
        clear HB
        have HO196 := n0_
        have BK184 := n1_
        have HB := n2_
        clear n0_ n1_ n2_
        clear hb ho39
        refine hK.out _ _ ⟨(aM BK184.out 0).trans rfl, (aM BK184.out 1).trans rfl⟩ (fun hHeld => ?_)
        clear hK K
        refine bQ (a' := ?_) ?_ ?_
        rotate_left
        ·show Act.put _ (some 31) _ = _
         simp only [Act.put, List.setIfInBounds_toArray, List.set_cons_zero, List.set_cons_succ, aA, aC]
         rfl
        refine dS (i := 1) (N := some 28) #[true, true, true, true, true, false, false] rfl rfl (by kernel_rfl) (by decide) (fun K hK => ?_)
        refine dP Try.func55 (by kernel_rfl) rfl #[.slice A0 l0.length c0] (by rfl) rfl rfl (by (try simp only [List.map_toArray, List.map_cons, List.map_nil]); first | done | rfl | (simp only [List.length_drop, List.length_take]; rfl)) ?_
        with_reducible refine (aV.iQ _ _ l0 x6_9 t191 _ ?side1 ?side2 A23.out).mono ?_
        (case side1 => repeat (first | exact (Kd.dB HR0.out HB.out) | (with_reducible refine Kd.bK ?_ _) | (with_reducible refine Kd.bL ?_ _) | (with_reducible refine Kd.bW ?_)))
        (case side2 => exact HC0.out)
        rintro e w40 ⟨v192, rfl, ho0, hb⟩
        refine ⟨_, rfl, ?_⟩
        have n0_ := ak.mk (Kd.cZ (by (with_reducible repeat (first | apply Kd.aT | apply Kd.aU | apply Kd.aY)); exact HO196.out) (Kd.dM ho0) hb)
        have n1_ := ak.mk (Kd.dD (Kd.dX (Kd.dN ho0 (Kd.dZ (by (with_reducible repeat (first | apply Kd.aT | apply Kd.aU | apply Kd.aY)); exact HO196.out))) (g := gb184) (o := .cells #[.string pG, .int .i64 pI] 31 (0, 0)) (by (with_reducible repeat (first | refine aG ?_ _ | refine aK ?_ | refine aD ?_ _)); exact BK184.out)) (aW (by repeat (first | (with_reducible first | exact HB.out | apply au | apply ah | apply aj | refine ay ?_ GE184.out) | exact HB.out))))
        have n2_ := ak.mk (bD (g := gb184) (o := .cells #[.string pG, .int .i64 pI] 31 (0, 0)) (by (with_reducible repeat (first | refine aG ?_ _ | refine aK ?_ | refine aD ?_ _)); exact BK184.out) hb)
        have n3_ := ak.mk (aX (by repeat (first | (with_reducible first | exact HB.out | apply au | apply ah | apply aj | refine ay ?_ GE184.out) | exact HB.out)) hb)
        clear HO196
        clear BK184
        clear HB
        have HO196 := n0_
        have HO193 := n1_
        have BK184 := n2_
        have HB := n3_
        clear n0_ n1_ n2_ n3_
        (try clear hb)
        (try clear hb2)
        (try clear hk)
        (try clear hi)
        (try clear ho0)
        refine hK.out _ _ ⟨(aM BK184.out 0).trans rfl, (aM BK184.out 1).trans rfl⟩ (fun hHeld => ?_)
        clear hK K
        refine bQ (a' := ?_) ?_ ?_
        rotate_left
        ·show Act.put _ (some 28) _ = _
         simp only [Act.put, List.setIfInBounds_toArray, List.set_cons_zero, List.set_cons_succ, aA, aC]
         rfl
        exact bQ (by simp only [eO, Act.put, List.setIfInBounds_toArray, List.set_cons_zero, List.set_cons_succ]) (hCont (v192, v195) _ ⟨hHeld, (by (with_reducible repeat (first | apply Kd.aT | apply Kd.aU | apply Kd.aY)); exact Kd.bM HO193.out (fun _ hk => ⟨hk.1.2, hk.2⟩)), (by (with_reducible repeat (first | apply Kd.aT | apply Kd.aU | apply Kd.aY)); exact Kd.bM HO196.out (fun _ hk => ⟨hk.2, hk.1.2⟩)), (by (with_reducible repeat (first | refine aG ?_ _ | refine aK ?_ | refine aD ?_ _)); exact BK184.out), (by repeat (first | (with_reducible first | exact HB.out | apply au | apply ah | apply aj | refine ay ?_ GE184.out) | exact HB.out))⟩)
      rintro ⟨v192, v195⟩ w41 ⟨hS_, h0_, h1_, h2_, h3_⟩
      have n0_ : ak (Kd.R k31 31 w41 w.heap.size (fun k_ => some k_ ≠ (v195 : Value).ownBlock ∧ k_ ≠ gb184) v192 t191) := ⟨h0_⟩
      have n1_ : ak (Kd.R k31 31 w41 w.heap.size (fun k_ => some k_ ≠ (v192 : Value).ownBlock ∧ k_ ≠ gb184) v195 y194) := ⟨h1_⟩
      have n2_ : ak (w41.heap[gb184]? = some (.cells #[.string pG, .int .i64 pI] 31 (0, 0))) := ⟨h2_⟩
      have n3_ : ak (Below w.heap.size w w41) := ⟨h3_⟩
      clear BK184
      clear HB
      clear h0_ h1_ h2_ h3_
      have HO193 := n0_
      have HO196 := n1_
      have BK184 := n2_
      have HB := n3_
      clear n0_ n1_ n2_ n3_
      have hHeld : w41.cell? ⟨gb184, 0, none⟩ = some (.string pG) ∧ w41.cell? ⟨gb184, 1, none⟩ = some (.int .i64 pI) := hS_
      obtain ⟨Ao43, co43, eo43⟩ := Kd.dJ HO196.out
      (first | subst eo43 | (injection eo43 with f1_ f2_ f3_; have f4_ := f1_.symm; have f5_ := f3_.symm; clear f1_ f2_ f3_; subst f4_; subst f5_))
      refine bQ (a' := ?_) ?_ ?_
      rotate_left
      ·simp only [eO, Act.put, List.setIfInBounds_toArray, List.set_cons_zero, List.set_cons_succ]
       rfl
      refine dS (i := 5) (N := some 32) #[true, true, true, true, true, true, false] rfl rfl (by kernel_rfl) (by decide) (fun K hK => ?_)
      refine dP Try.func57 (by kernel_rfl) rfl #[v192, .int .i64 x6_9, .slice Ao43 y194.length co43] (by rfl) rfl rfl (by (try simp only [List.map_toArray, List.map_cons, List.map_nil]); first | done | rfl | (simp only [List.length_drop, List.length_take]; rfl)) ?_
      refine (aV.ins (w0 := w) w.heap.size v192 (.slice Ao43 y194.length co43) t191 y194 x6_9 (fun k_ => some k_ ≠ (.slice Ao43 y194.length co43 : Value).ownBlock ∧ k_ ≠ gb184) ?ok942 ?aO ?aR ?aQ (fun _ hk => hk.1) ?aF ?aB ?aS ?aL ?aI).mono ?_
      (case aR => exact (by (with_reducible repeat (first | apply Kd.aT | apply Kd.aU | apply Kd.aY)); exact HO196.out))
      (case aB => exact (by repeat (first | (with_reducible first | exact HB.out | apply au | apply ah | apply aj | refine ay ?_ GE184.out) | exact HB.out)))
      (case aF => exact (fun k_ hk => ⟨Kd.fresh' (Kd.dZ (by (with_reducible repeat (first | apply Kd.aT | apply Kd.aU | apply Kd.aY)); exact HO196.out)) k_ hk, Kd.eZ (g := gb184) (o := .cells #[.string pG, .int .i64 pI] 31 (0, 0)) (by (with_reducible repeat (first | refine aG ?_ _ | refine aK ?_ | refine aD ?_ _)); exact BK184.out) k_ hk⟩))
      (case aO => exact (by (with_reducible repeat (first | apply Kd.aT | apply Kd.aU | apply Kd.aY)); exact HO193.out))
      (case aS => exact (aW (by repeat (first | (with_reducible first | exact HB.out | apply au | apply ah | apply aj | refine ay ?_ GE184.out) | exact HB.out))))
      (case aL => have := LMc24.out; omega)
      (case aQ => rw [Ny194.out]; rfl)
      (case aI => exact aV.nH A23.out)
      rintro e w42 ⟨v198, rfl, ho, hb, hg, hat⟩
      refine ⟨_, rfl, ?_⟩
      rw [← Ny197.out] at ho
      have n0_ := ak.mk (dQ (g := gb184) (o := .cells #[.string pG, .int .i64 pI] 31 (0, 0)) (by (with_reducible repeat (first | refine aG ?_ _ | refine aK ?_ | refine aD ?_ _)); exact BK184.out) hg (Kd.fq HO193.out (fun _ hk => hk.2)))
      have n1_ := ak.mk (Kd.eF (ok := (fun k_ => k_ ≠ gb184)) (by (with_reducible repeat (first | apply Kd.aT | apply Kd.aU | apply Kd.aY)); exact Kd.bM HO196.out (fun _ hk => ⟨hk.2, hk.1⟩)) hg hat)
      have n2_ := ak.mk (hb)
      have n3_ := ak.mk (ho)
      clear BK184
      clear HO196
      clear HB
      clear HO193
      have BK184 := n0_
      have HO196 := n1_
      have HB := n2_
      have HO199 := n3_
      clear n0_ n1_ n2_ n3_
      clear ho hb hg hat
      refine hK.out _ _ ⟨(aM BK184.out 0).trans rfl, (aM BK184.out 1).trans rfl⟩ (fun hHeld => ?_)
      clear hK K
      refine bQ (a' := ?_) ?_ ?_
      rotate_left
      ·show Act.put _ (some 32) _ = _
       simp only [Act.put, List.setIfInBounds_toArray, List.set_cons_zero, List.set_cons_succ, aA, aC]
       rfl
      refine aP (i := 6) (N := some 7) (v := ?_) (a' := ?_) #[true, true, true, true, true, true, true] rfl rfl (by kernel_rfl) (fun _ _ _ h => h) (Or.inl ⟨by rfl, ?_⟩) ?_ ?_
      rotate_left
      ·intro w'
       go_simp
       with_reducible rfl
      rotate_left
      ·simp only [Act.put, List.setIfInBounds_toArray, List.set_cons_zero, List.set_cons_succ, aA, aC]
       rfl
      refine eG (by kernel_rfl) ?_
      obtain ⟨Ao44, co44, eo44⟩ := Kd.dJ HO199.out
      subst eo44
      try go_wp2_with (first | ((with_reducible refine bG (f := 21) rfl ?_); refine dz (some 34) rfl rfl Try.func21 (by kernel_rfl) rfl #[.slice Ao44 y197.length co44] rfl (by (try simp only [List.map_toArray, List.map_cons, List.map_nil]); first | done | rfl | (simp only [List.length_drop, List.length_take]; rfl)) ?_; (with_reducible refine (bf.calls kj9 _ _ y197 false _ ?side1 ?side2 A25.out).mono ?_); (case side1 => repeat (first | exact (Kd.bF HO199.out).2.2 | (with_reducible refine Kd.bK ?_ _) | (with_reducible refine Kd.bL ?_ _) | (with_reducible refine Kd.bW ?_))); (case side2 => exact (Kd.bF HO199.out).2.1); rintro e w45 ⟨rfl, hb⟩; refine ⟨_, rfl, ?_⟩; have n0_ := ak.mk (Kd.bO (by (with_reducible repeat (first | apply Kd.aT | apply Kd.aU | apply Kd.aY)); exact HO196.out) hb); have n1_ := ak.mk (Kd.bO (by (with_reducible repeat (first | apply Kd.aT | apply Kd.aU | apply Kd.aY)); exact HO199.out) hb); have n2_ := ak.mk (bD (g := gb184) (o := .cells #[.string pG, .int .i64 pI] 31 (0, 0)) (by (with_reducible repeat (first | refine aG ?_ _ | refine aK ?_ | refine aD ?_ _)); exact BK184.out) hb); have n3_ := ak.mk (aX (by repeat (first | (with_reducible first | exact HB.out | apply au | apply ah | apply aj | refine ay ?_ GE184.out) | exact HB.out)) hb); clear HO196; clear HO199; clear BK184; clear HB; have HO196 := n0_; have HO199 := n1_; have BK184 := n2_; have HB := n3_; clear n0_ n1_ n2_ n3_; (try clear hb); (try clear hb2); (try clear hk); (try clear hi)) | ((with_reducible refine bG (f := 55) rfl ?_); refine dz (some 37) rfl rfl Try.func55 (by kernel_rfl) rfl #[.slice A0 l0.length c0] rfl (by (try simp only [List.map_toArray, List.map_cons, List.map_nil]); first | done | rfl | (simp only [List.length_drop, List.length_take]; rfl)) ?_; (with_reducible refine (aN.calls _ _ l0 t201 _ ?side1 ?side2 A36.out).mono ?_); (case side1 => repeat (first | exact (Kd.dB HR0.out HB.out) | (with_reducible refine Kd.bK ?_ _) | (with_reducible refine Kd.bL ?_ _) | (with_reducible refine Kd.bW ?_))); (case side2 => exact HC0.out); rintro e w46 ⟨v202, rfl, ho0, hb⟩; refine ⟨_, rfl, ?_⟩; have n0_ := ak.mk (Kd.cZ (by (with_reducible repeat (first | apply Kd.aT | apply Kd.aU | apply Kd.aY)); exact HO196.out) (Kd.dM ho0) hb); have n1_ := ak.mk (Kd.cZ (by (with_reducible repeat (first | apply Kd.aT | apply Kd.aU | apply Kd.aY)); exact HO199.out) (Kd.dM ho0) hb); have n2_ := ak.mk (Kd.dD (Kd.dX (Kd.dN (Kd.dN ho0 (Kd.dZ (by (with_reducible repeat (first | apply Kd.aT | apply Kd.aU | apply Kd.aY)); exact HO196.out))) (Kd.dZ (by (with_reducible repeat (first | apply Kd.aT | apply Kd.aU | apply Kd.aY)); exact HO199.out))) (g := gb184) (o := .cells #[.string pG, .int .i64 pI] 31 (0, 0)) (by (with_reducible repeat (first | refine aG ?_ _ | refine aK ?_ | refine aD ?_ _)); exact BK184.out)) (aW (by repeat (first | (with_reducible first | exact HB.out | apply au | apply ah | apply aj | refine ay ?_ GE184.out) | exact HB.out)))); have n3_ := ak.mk (bD (g := gb184) (o := .cells #[.string pG, .int .i64 pI] 31 (0, 0)) (by (with_reducible repeat (first | refine aG ?_ _ | refine aK ?_ | refine aD ?_ _)); exact BK184.out) hb); have n4_ := ak.mk (aX (by repeat (first | (with_reducible first | exact HB.out | apply au | apply ah | apply aj | refine ay ?_ GE184.out) | exact HB.out)) hb); clear HO196; clear HO199; clear BK184; clear HB; have HO196 := n0_; have HO199 := n1_; have HO203 := n2_; have BK184 := n3_; have HB := n4_; clear n0_ n1_ n2_ n3_ n4_; (try clear hb); (try clear hb2); (try clear hk); (try clear hi); (try clear ho0)))
      go_ret2
      exact ⟨_, by first | rfl | (simp [bn, bq] <;> rfl) | (simp [*, bn, bq] <;> rfl), by (with_reducible repeat (first | apply Kd.aT | apply Kd.aU | apply Kd.aY)); exact Kd.bM HO203.out (fun _ hk => trivial), by repeat (first | (with_reducible first | exact HB.out | apply au | apply ah | apply aj | refine ay ?_ GE184.out) | exact HB.out)⟩
    ·rw [if_neg c24] at H
     exact absurd H (by simp)
end Go.Proofs.Ythjcicmmbmagbaa.PFnExactAddMeaning
