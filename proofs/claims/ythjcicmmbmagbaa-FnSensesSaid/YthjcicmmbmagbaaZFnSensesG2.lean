/- Walks of functions: what each computes. -/
import Derived.Test.YthjcicmmbmagbaaZFnSensesG0
import Derived.Test.YthjcicmmbmagbaaZFnSensesG1
import Derived.Test.YthjcicmmbmagbaaZFnSensesW
import Derived.Test.YthjcicmmbmagbaaZFnSensesHandForm
import Derived.Test.YthjcicmmbmagbaaZFnSensesHandAlone
import Derived.Test.YthjcicmmbmagbaaZFnSensesHandIns
import Derived.Test.YthjcicmmbmagbaaZFnSensesHandRead
namespace Go.Proofs.Ythjcicmmbmagbaa.PFnSenses
open Go.RowKit Go.Proofs.YthjcicmmbmagbaaW.PrintWords Go.Proofs.YthjcicmmbmagbaaW.PrintLast Go.Proofs.YthjcicmmbmagbaaW.PrintMore
attribute [local go_sem] iF iG iR iQ ig gW iE iD
set_option linter.unusedVariables false
set_option linter.unusedSimpArgs false
theorem r9 (d : Nat) (w : World) (x0 y0 : ByteArray) (x1 y1 : Int) :
  (Op.equalIn (d + 2) 31 (.agg #[.string x0, .int .i64 x1]) (.agg #[.string y0, .int .i64 y1])).run Try.prog w = .ok (x0.toList == y0.toList && (x1 == y1)) w := by
 refine rU Try.underlying31 (by kernel_rfl) ?_
 refine qE (by rfl) (by go_simp; rfl) (by go_simp; rfl) (by go_simp) ?_
 exact qB (by rfl) (by go_simp; rfl) (by go_simp; rfl) (by go_simp)
attribute [local go_sem high] r9
def dB.l0 : Nat → List (S31) → Int → Int → ByteArray → Int → Option (Int)
 | 0, _, _, _, _, _ => none
 | k + 1, x0, x7, x8, x115000, x115001 => if x8 < x7 then (if 0 ≤ x8 then (if x8 < (x0.length : Int) then (if (x115000.toList == (((aJ x0 x8).f0).toList) && (x115001 == ((aJ x0 x8).f1))) = true then (some x8) else (dB.l0 k x0 x7 (wrap64 (x8 + 1)) x115000 x115001)) else (none)) else (none)) else (some (-1))
def dB.f (k : Nat) (l0 : List (S31)) (sU : ByteArray) (sV : Int) : Option (Int) := dB.l0 k l0 (l0.length : Int) 0 sU sV
set_option maxHeartbeats 8000000 in
set_option maxRecDepth 100000 in
theorem dB.calls (k : Nat) (A0 : Option Addr) (c0 : Nat) (l0 : List (S31)) (sU : ByteArray) (sV : Int) (r : Int) (w : World) (hr0 : Kd.C k31 w A0 l0.length l0) (hc0 : l0.length ≤ c0) (h : dB.f k l0 sU sV = some r) :
  Calls Try.prog 113 #[.slice A0 l0.length c0, .agg #[.string sU, .int .i64 sV]] w fun e w' => e = .returned (.int .i64 r) ∧ Below w.heap.size w w' := by
 have hu31 := Try.underlying31
 have HR0 := aj.mk hr0
 have HC0 := aj.mk hc0
 clear hr0 hc0
 have HB := aj.mk (Below.refl w.heap.size w)
 have H : (dB.l0 k l0 (l0.length : Int) 0 sU sV) = some r := h
 clear h
 have H' := aj.mk H
 clear H
 go_enter Try.func113, Try.ntmps113
 go_wp2_with (first | ((with_reducible refine dz (N := 3) rfl ?_); refine dD ?hg (N := 3) ?hd (cs := #[.string sU, .int .i64 sV]) (t := 31) ?hr ?_; (case hd => rfl); (case hg => rfl); (case hr => first | (go_simp; done) | (go_simp; rfl)); intro gb114 hg w3 hbox hb; have n0_ := aj.mk (aY (by repeat (first | (with_reducible first | exact HB.out | apply au | apply ah | apply ak) | exact HB.out)) hb); have n1_ := aj.mk (hbox); have n2_ := aj.mk ((by rw [hg]; exact (bf (by repeat (first | (with_reducible first | exact HB.out | apply au | apply ah | apply ak) | exact HB.out))) : w.heap.size ≤ gb114)); have n3_ := aj.mk ((by rw [hg]; exact (bf (by repeat (first | (with_reducible first | exact HB.out | apply au | apply ah | apply ak) | exact HB.out))) : w.heap.size ≤ gb114)); clear HB; have HB := n0_; have BK114 := n1_; have GW114 := n2_; have GE114 := n3_; clear n0_ n1_ n2_ n3_; clear hb hbox hg))
 repeat (go_quiet (first | ((with_reducible refine dz (N := 3) rfl ?_); refine dD ?hg (N := 3) ?hd (cs := #[.string sU, .int .i64 sV]) (t := 31) ?hr ?_; (case hd => rfl); (case hg => rfl); (case hr => first | (go_simp; done) | (go_simp; rfl)); intro gb114 hg w3 hbox hb; have n0_ := aj.mk (aY (by repeat (first | (with_reducible first | exact HB.out | apply au | apply ah | apply ak) | exact HB.out)) hb); have n1_ := aj.mk (hbox); have n2_ := aj.mk ((by rw [hg]; exact (bf (by repeat (first | (with_reducible first | exact HB.out | apply au | apply ah | apply ak) | exact HB.out))) : w.heap.size ≤ gb114)); have n3_ := aj.mk ((by rw [hg]; exact (bf (by repeat (first | (with_reducible first | exact HB.out | apply au | apply ah | apply ak) | exact HB.out))) : w.heap.size ≤ gb114)); clear HB; have HB := n0_; have BK114 := n1_; have GW114 := n2_; have GE114 := n3_; clear n0_ n1_ n2_ n3_; clear hb hbox hg)); try go_wp2_with (first | ((with_reducible refine dz (N := 3) rfl ?_); refine dD ?hg (N := 3) ?hd (cs := #[.string sU, .int .i64 sV]) (t := 31) ?hr ?_; (case hd => rfl); (case hg => rfl); (case hr => first | (go_simp; done) | (go_simp; rfl)); intro gb114 hg w3 hbox hb; have n0_ := aj.mk (aY (by repeat (first | (with_reducible first | exact HB.out | apply au | apply ah | apply ak) | exact HB.out)) hb); have n1_ := aj.mk (hbox); have n2_ := aj.mk ((by rw [hg]; exact (bf (by repeat (first | (with_reducible first | exact HB.out | apply au | apply ah | apply ak) | exact HB.out))) : w.heap.size ≤ gb114)); have n3_ := aj.mk ((by rw [hg]; exact (bf (by repeat (first | (with_reducible first | exact HB.out | apply au | apply ah | apply ak) | exact HB.out))) : w.heap.size ≤ gb114)); clear HB; have HB := n0_; have BK114 := n1_; have GW114 := n2_; have GE114 := n3_; clear n0_ n1_ n2_ n3_; clear hb hbox hg)))
 go_loopg [8] k (fun kq v8 w' => ∃ (x8_1 : Int), v8 = .int .i64 x8_1 ∧ aj (dB.l0 kq l0 (l0.length : Int) x8_1 sU sV = some r) ∧ aj (kq ≤ k) ∧ aj (w'.heap[gb114]? = some (.cells #[.string sU, .int .i64 sV] 31 (0, 0))) ∧ aj (Below w.heap.size w w'))
 case atStart => exact ⟨(0), (by first | rfl | (simp; done) | (simp [*]; done)), H', ⟨Nat.le_refl _⟩, ⟨by (with_reducible repeat (first | refine aA ?_ _ | refine aD ?_ | refine aC ?_ _)); exact BK114.out⟩, ⟨by repeat (first | (with_reducible first | exact HB.out | apply au | apply ah | apply ak | refine ay ?_ GE114.out) | exact HB.out)⟩⟩
 case round =>
  clear H'
  obtain ⟨x8_1, rfl, HA, HK1, BK114, HB⟩ := hrel
  cases gk with
  | zero => exact absurd HA.out (by simp [dB.l0])
  | succ k1 =>
   have H := HA.out
   clear HA
   simp only [dB.l0] at H
   by_cases c4 : x8_1 < (l0.length : Int)
   ·rw [if_pos c4] at H
    have c4b0 : decide (x8_1 < (l0.length : Int)) = true := decide_eq_true c4
    clear c4
    by_cases c5 : 0 ≤ x8_1
    ·rw [if_pos c5] at H
     have c5b0 : decide (0 ≤ x8_1) = true := decide_eq_true c5
     clear c5
     by_cases c6 : x8_1 < (l0.length : Int)
     ·rw [if_pos c6] at H
      have c6b0 : decide (x8_1 < (l0.length : Int)) = true := decide_eq_true c6
      clear c6
      by_cases c7 : (sU.toList == (((aJ l0 x8_1).f0).toList) && (sV == ((aJ l0 x8_1).f1))) = true
      ·rw [if_pos c7] at H
       have c7b0 : (sU.toList == (((aJ l0 x8_1).f0).toList) && (sV == ((aJ l0 x8_1).f1))) = true := c7
       (try (have c7b1 : decide (sU.toList = (((aJ l0 x8_1).f0).toList) && (sV == ((aJ l0 x8_1).f1))) = true := by simpa using c7))
       (try (have c7b2 : (sU.toList == (((aJ l0 x8_1).f0).toList) && (sV == ((aJ l0 x8_1).f1))) = true := by simpa using c7))
       clear c7
       obtain rfl := Option.some.inj H
       have hcz8_0 : wr.cell? ⟨gb114, 0, none⟩ = some (.string sU) := (aT BK114.out 0).trans rfl
       have hcz8_1 : wr.cell? ⟨gb114, 1, none⟩ = some (.int .i64 sV) := (aT BK114.out 1).trans rfl
       have hfz8_0 := bG BK114.out 0
       have hfz8_1 := bG BK114.out 1
       have p115 : 0 ≤ (x8_1 : Int) := of_decide_eq_true (by first | (with_reducible assumption) | assumption)
       have q115 : x8_1 < (l0.length : Int) := of_decide_eq_true (by first | (with_reducible assumption) | assumption)
       obtain ⟨ad115, e115, hx115_0, hx115_1⟩ := eD HR0.out x8_1 p115 q115
       cases e115
       try replace hx115_0 := (HB.out.cell (World.block_lt_of_cell? w _ hx115_0)).trans hx115_0
       try replace hx115_1 := (HB.out.cell (World.block_lt_of_cell? w _ hx115_1)).trans hx115_1
       replace p115 := eq_true p115
       replace q115 := eq_true q115
       go_wp2
       repeat (go_quiet (fail); try go_wp2)
       go_ret
       exact ⟨by first | rfl | (simp [bA, bB] <;> rfl) | (simp [*, bA, bB] <;> rfl), by repeat (first | (with_reducible first | exact HB.out | apply au | apply ah | apply ak | refine ay ?_ GE114.out) | exact HB.out)⟩
      ·rw [if_neg c7] at H
       have c7b0 : (sU.toList == (((aJ l0 x8_1).f0).toList) && (sV == ((aJ l0 x8_1).f1))) = false := by simpa using c7
       (try (have c7b1 : decide (sU.toList = (((aJ l0 x8_1).f0).toList) && (sV == ((aJ l0 x8_1).f1))) = false := by simpa using c7))
       (try (have c7b2 : (sU.toList == (((aJ l0 x8_1).f0).toList) && (sV == ((aJ l0 x8_1).f1))) = false := by simpa using c7))
       (try (have c7b3 : ¬ (sU.toList = (((aJ l0 x8_1).f0).toList) && (sV == ((aJ l0 x8_1).f1))) := by simpa using c7))
       clear c7
       have H' := aj.mk H
       clear H
       have hcz9_0 : wr.cell? ⟨gb114, 0, none⟩ = some (.string sU) := (aT BK114.out 0).trans rfl
       have hcz9_1 : wr.cell? ⟨gb114, 1, none⟩ = some (.int .i64 sV) := (aT BK114.out 1).trans rfl
       have hfz9_0 := bG BK114.out 0
       have hfz9_1 := bG BK114.out 1
       have p115 : 0 ≤ (x8_1 : Int) := of_decide_eq_true (by first | (with_reducible assumption) | assumption)
       have q115 : x8_1 < (l0.length : Int) := of_decide_eq_true (by first | (with_reducible assumption) | assumption)
       obtain ⟨ad115, e115, hx115_0, hx115_1⟩ := eD HR0.out x8_1 p115 q115
       cases e115
       try replace hx115_0 := (HB.out.cell (World.block_lt_of_cell? w _ hx115_0)).trans hx115_0
       try replace hx115_1 := (HB.out.cell (World.block_lt_of_cell? w _ hx115_1)).trans hx115_1
       replace p115 := eq_true p115
       replace q115 := eq_true q115
       go_wp2
       repeat (go_quiet (fail); try go_wp2)
       go_roundg k1
       case measure => have := HK1.out; omega
       case rel => exact ⟨(wrap64 (x8_1 + 1)), (by first | rfl | (simp; done) | (simp [*]; done)), H', ⟨by have := HK1.out; omega⟩, ⟨by (with_reducible repeat (first | refine aA ?_ _ | refine aD ?_ | refine aC ?_ _)); exact BK114.out⟩, ⟨by repeat (first | (with_reducible first | exact HB.out | apply au | apply ah | apply ak | refine ay ?_ GE114.out) | exact HB.out)⟩⟩
     ·rw [if_neg c6] at H
      exact absurd H (by simp)
    ·rw [if_neg c5] at H
     exact absurd H (by simp)
   ·rw [if_neg c4] at H
    have c4b0 : decide (x8_1 < (l0.length : Int)) = false := decide_eq_false c4
    clear c4
    obtain rfl := Option.some.inj H
    go_wp2
    repeat (go_quiet (fail); try go_wp2)
    go_ret
    exact ⟨by first | rfl | (simp [bA, bB] <;> rfl) | (simp [*, bA, bB] <;> rfl), by repeat (first | (with_reducible first | exact HB.out | apply au | apply ah | apply ak | refine ay ?_ GE114.out) | exact HB.out)⟩
def eF.f (k : Nat) (l0 : List (S31)) (sU : ByteArray) (sV : Int) : Option (Bool) := (dB.f k l0 sU sV).bind fun t117 => (some (decide (t117 ≥ 0)))
set_option maxHeartbeats 8000000 in
set_option maxRecDepth 100000 in
theorem eF.calls (k : Nat) (A0 : Option Addr) (c0 : Nat) (l0 : List (S31)) (sU : ByteArray) (sV : Int) (r : Bool) (w : World) (hr0 : Kd.C k31 w A0 l0.length l0) (hc0 : l0.length ≤ c0) (h : eF.f k l0 sU sV = some r) :
  Calls Try.prog 54 #[.slice A0 l0.length c0, .agg #[.string sU, .int .i64 sV]] w fun e w' => e = .returned (.bool r) ∧ Below w.heap.size w w' := by
 have hu31 := Try.underlying31
 have HR0 := aj.mk hr0
 have HC0 := aj.mk hc0
 clear hr0 hc0
 have HB := aj.mk (Below.refl w.heap.size w)
 have H : ((dB.f k l0 sU sV).bind fun t117 => (some (decide (t117 ≥ 0)))) = some r := h
 clear h
 replace H := Option.bind_eq_some_iff.mp H
 obtain ⟨t117, A30, H⟩ := H
 replace H : (some (decide (t117 ≥ 0))) = some r := H
 have A3 := aj.mk A30
 clear A30
 obtain rfl := Option.some.inj H
 go_enter Try.func54, Try.ntmps54
 go_wp2_with (first | ((with_reducible refine dz (N := 3) rfl ?_); refine dD ?hg (N := 3) ?hd (cs := #[.string sU, .int .i64 sV]) (t := 31) ?hr ?_; (case hd => rfl); (case hg => rfl); (case hr => first | (go_simp; done) | (go_simp; rfl)); intro gb116 hg w4 hbox hb; have n0_ := aj.mk (aY (by repeat (first | (with_reducible first | exact HB.out | apply au | apply ah | apply ak) | exact HB.out)) hb); have n1_ := aj.mk (hbox); have n2_ := aj.mk ((by rw [hg]; exact (bf (by repeat (first | (with_reducible first | exact HB.out | apply au | apply ah | apply ak) | exact HB.out))) : w.heap.size ≤ gb116)); have n3_ := aj.mk ((by rw [hg]; exact (bf (by repeat (first | (with_reducible first | exact HB.out | apply au | apply ah | apply ak) | exact HB.out))) : w.heap.size ≤ gb116)); clear HB; have HB := n0_; have BK116 := n1_; have GW116 := n2_; have GE116 := n3_; clear n0_ n1_ n2_ n3_; clear hb hbox hg; have hcz5_0 : w4.cell? ⟨gb116, 0, none⟩ = some (.string sU) := (aT BK116.out 0).trans rfl; have hcz5_1 : w4.cell? ⟨gb116, 1, none⟩ = some (.int .i64 sV) := (aT BK116.out 1).trans rfl; have hfz5_0 := bG BK116.out 0; have hfz5_1 := bG BK116.out 1) | ((with_reducible refine bq (f := 113) rfl ?_); refine bT (some 7) rfl rfl Try.func113 (by kernel_rfl) rfl #[.slice A0 l0.length c0, .agg #[.string sU, .int .i64 sV]] rfl (by (try simp only [List.map_toArray, List.map_cons, List.map_nil]); first | done | rfl | (simp only [List.length_drop, List.length_take]; rfl)) ?_; (with_reducible refine (dB.calls k _ _ l0 sU sV t117 _ ?side1 ?side2 A3.out).mono ?_); (case side1 => repeat (first | exact (Kd.dS HR0.out HB.out) | (with_reducible refine Kd.bU ?_ _) | (with_reducible refine Kd.bV ?_ _) | (with_reducible refine Kd.cB ?_))); (case side2 => exact HC0.out); rintro e w6 ⟨rfl, hb⟩; refine ⟨_, rfl, ?_⟩; have n0_ := aj.mk (bI (g := gb116) (o := .cells #[.string sU, .int .i64 sV] 31 (0, 0)) (by (with_reducible repeat (first | refine aA ?_ _ | refine aD ?_ | refine aC ?_ _)); exact BK116.out) hb); have n1_ := aj.mk (aY (by repeat (first | (with_reducible first | exact HB.out | apply au | apply ah | apply ak | refine ay ?_ GE116.out) | exact HB.out)) hb); clear BK116; clear HB; have BK116 := n0_; have HB := n1_; clear n0_ n1_; (try clear hb); (try clear hb2); (try clear hk); (try clear hi)))
 go_ret
 exact ⟨by first | rfl | (simp [bA, bB] <;> rfl) | (simp [*, bA, bB] <;> rfl), by repeat (first | (with_reducible first | exact HB.out | apply au | apply ah | apply ak | refine ay ?_ GE116.out) | exact HB.out)⟩
def aV.cs (x : S31) : List Value := [.string x.f0, .int .i64 x.f1]
theorem aV.get : ∀ (l : List (S31)) (j : Nat), (l.flatMap aV.cs)[j]? = (l[j / 2]?).bind fun p => (aV.cs p)[j % 2]?
 | [], j => by simp
 | x :: l, 0 => by simp [aV.cs]
 | x :: l, 1 => by simp [aV.cs]
 | x :: l, j + 2 => by
  have h1 : (j + 2) / 2 = j / 2 + 1 := by omega
  have h2 : (j + 2) % 2 = j % 2 := by omega
  rw [h1, h2, List.getElem?_cons_succ, ← aV.get l j]
  simp [aV.cs]
theorem aV.len (l : List (S31)) : (l.flatMap aV.cs).length = l.length * 2 := by
 induction l with
 | nil => rfl
 | cons x l ih =>
  simp only [List.flatMap_cons, List.length_append, ih, List.length_cons, aV.cs, List.length_nil]
  omega
theorem aV.one (l : List (S31)) : ∀ u ∈ l.flatMap aV.cs, u.oneCell' = true := by
 intro u hu
 obtain ⟨x, _, hx⟩ := List.mem_flatMap.1 hu
 simp only [aV.cs, List.mem_cons, List.not_mem_nil, or_false] at hx
 rcases hx with rfl | rfl <;> rfl
theorem aV.reads {w : World} {A : Option Addr} {n : Nat} {l : List (S31)} (h : Kd.C k31 w A n l) : ∀ a, A = some a → ∀ j v, (l.flatMap aV.cs)[j]? = some v → w.cell? (a.add j) = some v := by
 intro a ha j v hj
 rw [aV.get] at hj
 obtain ⟨p, hp, hv⟩ := Option.bind_eq_some_iff.1 hj
 have hlt : j / 2 < l.length := (List.getElem?_eq_some_iff.1 hp).1
 obtain ⟨ad, e, hc⟩ := h.2.2 (by have := h.1; omega)
 rw [ha] at e
 cases e
 obtain ⟨c, _, hk, hcell⟩ := hc (j / 2) p hp
 obtain rfl := nN hk
 have h5 := hcell (j % 2) v hv
 have h6 : j / 2 * k31.sz + j % 2 = j := by show j / 2 * 2 + j % 2 = j; omega
 rwa [h6] at h5
theorem aV.rJ (w : World) (base : Nat) (ok : Nat → Prop) (l : List (S31)) : bZ (k31.M w base ok) 2 l (l.flatMap aV.cs) := ⟨aV.len l, fun j p hj => by
 have h : ((l.flatMap aV.cs).drop (j * 2)).take 2 = aV.cs p := by
  apply List.ext_getElem?
  intro i
  rw [List.getElem?_take]
  split
  ·rw [List.getElem?_drop, aV.get, show (j * 2 + i) / 2 = j by omega, show (j * 2 + i) % 2 = i by omega, hj]
   rfl
  ·rw [List.getElem?_eq_none]
   simp [aV.cs]
   omega
 rw [h]
 exact gD w base ok p⟩
theorem aV.inner {w : World} {base : Nat} {ok : Nat → Prop} {l : List (S31)} {inner : List Value} (h : bZ (k31.M w base ok) 2 l inner) : inner = l.flatMap aV.cs := by
 apply List.ext_getElem?
 intro j
 rw [aV.get]
 by_cases hj : j / 2 < l.length
 ·have hp := List.getElem?_eq_getElem hj
  have hm := jv (h.2 (j / 2) _ hp)
  have h5 : ((inner.drop (j / 2 * 2)).take 2)[j % 2]? = inner[j]? := by rw [List.getElem?_take, if_pos (by omega), List.getElem?_drop, show j / 2 * 2 + j % 2 = j by omega]
  rw [← h5, hm, hp]
  rfl
 ·rw [List.getElem?_eq_none (by rw [h.1]; omega), List.getElem?_eq_none (by omega)]
  rfl
theorem aV.take : ∀ (l : List (S31)) (i : Nat), (l.flatMap aV.cs).take (i * 2) = (l.take i).flatMap aV.cs
 | [], i => by simp
 | x :: l, 0 => by simp
 | x :: l, i + 1 => by rw [List.take_succ_cons, List.flatMap_cons, List.flatMap_cons, ← aV.take l i, List.take_append, show (aV.cs x).length = 2 from rfl, show (i + 1) * 2 - 2 = i * 2 by omega, List.take_of_length_le (by show 2 ≤ (i + 1) * 2; omega)]
theorem aV.drop : ∀ (l : List (S31)) (i : Nat), (l.flatMap aV.cs).drop (i * 2) = (l.drop i).flatMap aV.cs
 | [], i => by simp
 | x :: l, 0 => by simp
 | x :: l, i + 1 => by rw [List.drop_succ_cons, List.flatMap_cons, ← aV.drop l i, List.drop_append, show (aV.cs x).length = 2 from rfl, show (i + 1) * 2 - 2 = i * 2 by omega, List.drop_eq_nil_of_le (by show 2 ≤ (i + 1) * 2; omega), List.nil_append]
def aV.f (l0 : List (S31)) : Option (List (S31)) := if l0.length ≤ 5864062014805 then (some l0) else (none)
theorem aV.calls (A0 : Option Addr) (c0 : Nat) (l0 : List (S31)) (r : List (S31)) (w : World) (hr0 : Kd.C k31 w A0 l0.length l0) (hc0 : l0.length ≤ c0) (h : aV.f l0 = some r) :
  Calls Try.prog 55 #[.slice A0 l0.length c0] w fun e w' => ∃ v0_ : Value, e = .returned (v0_) ∧ Kd.R k31 31 w' w.heap.size (fun _ => True) v0_ r ∧ Below w.heap.size w w' := by
 unfold aV.f at h
 split at h
 ·rename_i hc
  obtain rfl := Option.some.inj h
  refine (Go.Proofs.Ythjcicmmbmagbaa.HandIns.qI A0 l0.length c0 (l0.flatMap aV.cs) w (aV.len l0) (aV.reads hr0) (aV.one l0) ?_ (by omega)).mono ?_
  ·intro ha
   rcases Nat.eq_zero_or_pos l0.length with hn | hn
   ·exact hn
   ·obtain ⟨ad, e, _⟩ := hr0.2.2 hn
    rw [ha] at e
    cases e
  ·rintro e w' ⟨v, rfl, ho, hb⟩
   exact ⟨v, rfl, ⟨fun _ _ => trivial, l0.flatMap aV.cs, ho, aV.rJ _ _ _ l0⟩, hb⟩
 ·cases h
def aZ.jD (l : List (S31)) (i : Int) (ys : List (S31)) : List (S31) := l.take i.toNat ++ ys ++ l.drop i.toNat
def aZ.cli (l : List (S31)) (i : Int) : Option (List (S31)) := if 0 ≤ i ∧ i ≤ (l.length : Int) then aV.f l else none
theorem aZ.qD {l t : List (S31)} {i : Int} (h : aZ.cli l i = some t) : 0 ≤ i ∧ i ≤ (t.length : Int) := by
 unfold aZ.cli at h
 split at h
 ·rename_i hc
  unfold aV.f at h
  split at h
  ·obtain rfl := Option.some.inj h
   exact hc
  ·cases h
 ·cases h
theorem aZ.jN (A0 : Option Addr) (c0 : Nat) (l0 : List (S31)) (i : Int) (r : List (S31)) (w : World) (hr0 : Kd.C k31 w A0 l0.length l0) (hc0 : l0.length ≤ c0) (h : aZ.cli l0 i = some r) :
  Calls Try.prog 55 #[.slice A0 l0.length c0] w fun e w' => ∃ v0_ : Value, e = .returned (v0_) ∧ Kd.R k31 31 w' w.heap.size (fun _ => True) v0_ r ∧ Below w.heap.size w w' :=
 aV.calls A0 c0 l0 r w hr0 hc0 (by unfold aZ.cli at h; split at h; exact h; cases h)
theorem aZ.flat (xs ys : List (S31)) (i : Nat) : (aZ.jD xs (i : Int) ys).flatMap aV.cs = (xs.flatMap aV.cs).take (i * 2) ++ ys.flatMap aV.cs ++ (xs.flatMap aV.cs).drop (i * 2) := by
 rw [aZ.jD, Int.toNat_natCast, List.flatMap_append, List.flatMap_append, aV.take, aV.drop]
theorem aZ.ins {w0 W : World} (base : Nat) (v v2 : Value) (xs ys : List (S31)) (x6 : Int) (ok ok2 : Nat → Prop) (HO : Kd.R k31 31 W base ok v xs) (HO2 : Kd.R k31 31 W base ok2 v2 ys) (h1 : ys.length = 1) (hne : ∀ k, ok k → some k ≠ v2.ownBlock)
  (hfresh : ∀ k, W.heap.size ≤ k → ok k) (HB : Below base w0 W) (hbase : base ≤ W.heap.size) (hl : (xs.length + ys.length) * 24 ≤ 140737488355328) (hi : 0 ≤ x6 ∧ x6 ≤ (xs.length : Int)) :
  Calls Try.prog 57 #[v, .int .i64 x6, v2] W fun e w1 => ∃ v1 : Value, e = .returned v1 ∧ Kd.R k31 31 w1 base ok v1 (aZ.jD xs x6 ys) ∧ Below base w0 w1 ∧ W.grownBy w1 v.ownBlock ∧ (v1.ownBlock = v.ownBlock ∨ ∃ b, v1.ownBlock = some b ∧ W.heap.size ≤ b) := by
 obtain ⟨i, rfl⟩ : ∃ i : Nat, x6 = (i : Int) := ⟨x6.toNat, by omega⟩
 obtain ⟨hok, inner, ho, hr⟩ := HO
 obtain rfl := aV.inner hr
 obtain ⟨hok2, inner2, ho2, hr2⟩ := HO2
 obtain rfl := aV.inner hr2
 have hfl := aZ.flat xs ys i
 have hvl : (ys.flatMap aV.cs).length = 2 := by rw [aV.len, h1]
 have hln : (aZ.jD xs (i : Int) ys).length = xs.length + 1 := by
  simp only [aZ.jD, List.length_append, List.length_take, List.length_drop, h1, Int.toNat_natCast]
  omega
 replace ho : W.ownsRow base 31 2 v xs.length (xs.flatMap aV.cs) := ho
 replace ho2 : W.ownsRow base 31 2 v2 ys.length (ys.flatMap aV.cs) := ho2
 rcases ho2.2 with ⟨rfl, h0⟩ | ⟨vb, vc, vcur, rfl, hvbB, hvb, hvn, hvm, hvz, hvt⟩
 ·omega
 rw [h1] at hvn hvt
 rcases ho.2 with ⟨rfl, h0⟩ | ⟨b, c, cur, rfl, hbB, hb, hnc, hcm, hcur, htk⟩
 ·obtain rfl := List.length_eq_zero_iff.1 h0
  obtain rfl : i = 0 := by simp at hi; omega
  rw [h1]
  refine (Go.Proofs.Ythjcicmmbmagbaa.HandIns.insert_nil vb vc base (ys.flatMap aV.cs) vcur W hvb hvn hvt hvl hbase (aV.one ys)).mono ?_
  rintro e w1 ⟨v1, rfl, ho1, hg, g, hg1, hg2⟩
  refine ⟨v1, rfl, ⟨fun k hk => hfresh k ?_, _, ?_, aV.rJ _ _ _ _⟩, HB.grown hg hbase (fun k hk => by cases hk), hg, .inr ⟨g, hg1, hg2⟩⟩
  ·rw [hg1] at hk
   cases hk
   exact hg2
  ·rw [hfl, hln]
   show w1.ownsRow base 31 2 _ _ _
   simpa using ho1
 ·have hbv : vb ≠ b := by
   rintro rfl
   exact hne vb (hok vb rfl) rfl
  have hz : vcur.size ≠ 0 := by omega
  have fin : ∀ (w1 : World) (v1 : Value), w1.ownsRow base 31 2 v1 (xs.length + 1) ((xs.flatMap aV.cs).take (i * 2) ++ ys.flatMap aV.cs ++ (xs.flatMap aV.cs).drop (i * 2)) → W.grownBy w1 (some b) → (v1.ownBlock = some b ∨ ∃ g, v1.ownBlock = some g ∧ W.heap.size ≤ g) →
    ∃ v2 : Value, Ending.returned v1 = .returned v2 ∧ Kd.R k31 31 w1 base ok v2 (aZ.jD xs (i : Int) ys) ∧ Below base w0 w1 ∧ W.grownBy w1 (some b) ∧ (v2.ownBlock = some b ∨ ∃ b, v2.ownBlock = some b ∧ W.heap.size ≤ b) := by
   intro w1 v1 ho1 hg hv
   refine ⟨v1, rfl, ⟨fun k hk => ?_, _, ?_, aV.rJ _ _ _ _⟩, HB.grown hg hbase (fun k hk => by cases hk; exact hbB), hg, hv⟩
   ·rcases hv with hv | ⟨g, hv, hv2⟩
    ·rw [hv] at hk
     cases hk
     exact hok b rfl
    ·rw [hv] at hk
     cases hk
     exact hfresh _ hv2
   ·rw [hfl, hln]
    exact ho1
  rw [h1]
  by_cases he : i = xs.length
  ·subst he
   refine (Go.Proofs.Ythjcicmmbmagbaa.HandIns.oK b xs.length c vb vc base (xs.flatMap aV.cs) (ys.flatMap aV.cs) cur vcur W hb hcur hnc hcm htk hvb hvn hvt hvl hbB hbase (by omega) (aV.one xs) (aV.one ys)).mono ?_
   rintro e w1 ⟨v1, rfl, ho1, hg, hv⟩
   refine fin w1 v1 ?_ hg hv
   rw [← aV.len, List.take_length, List.drop_length, List.append_nil]
   exact ho1
  ·by_cases hroom : xs.length + 1 ≤ c
   ·refine (Go.Proofs.Ythjcicmmbmagbaa.HandIns.mY b xs.length c i vb vc base (xs.flatMap aV.cs) (ys.flatMap aV.cs) cur vcur W (by omega) hb hcur hnc hcm htk hvb hvn hz hbv hvt hvl hbB hbase (by omega) (aV.one xs) (aV.one ys) hroom).mono ?_
    rintro e w1 ⟨v1, rfl, ho1, hg, hv⟩
    exact fin w1 v1 ho1 hg hv
   ·refine (Go.Proofs.Ythjcicmmbmagbaa.HandIns.nK b xs.length c i vb vc base (xs.flatMap aV.cs) (ys.flatMap aV.cs) cur vcur W (by omega) hb hcur hnc hcm htk hvb hvn hz hbv hvt hvl hbB hbase (by omega) (aV.one xs) (aV.one ys) (by omega)).mono ?_
    rintro e w1 ⟨v1, rfl, ho1, hg, hv⟩
    exact fin w1 v1 ho1 hg hv
mutual
def aZ.j1 : Nat → List (S31) → Int → ByteArray → Int → Option ((List (S31)) × Bool)
 | 0, _, _, _, _ => none
 | k + 1, x0, x6, x119000, x119001 => (aZ.cli x0 x6).bind fun t125 => ((some (([(⟨x119000, x119001⟩ : S31)] : List (S31)) : List (S31))).bind fun y128 => (if t125.length + y128.length < 5864062014805 then ((some (aZ.jD t125 x6 y128 : List (S31))).bind fun y131 => ((bg.f k y131).bind fun t134 => (if t134 = true then (some (y131, true)) else ((aV.f x0).bind fun t135 => (some (t135, false)))))) else (none)))
def aZ.l0 : Nat → List (S31) → Int → ByteArray → Int → Option ((List (S31)) × Bool)
 | 0, _, _, _, _ => none
 | k + 1, x0, x6, x119000, x119001 => if x6 < (x0.length : Int) then (if 0 ≤ x6 then ((dK.f ((aJ x0 x6).f0) ((aJ x0 x6).f1) x119000 x119001).bind fun t124 => (if t124 = true then (aZ.l0 k x0 (wrap64 (x6 + 1)) x119000 x119001) else (aZ.j1 k x0 x6 x119000 x119001))) else (none)) else (aZ.j1 k x0 x6 x119000 x119001)
end
def aZ.f (k : Nat) (l0 : List (S31)) (sU : ByteArray) (sV : Int) : Option ((List (S31)) × Bool) := (eF.f k l0 sU sV).bind fun t119 => (if t119 = true then ((aV.f l0).bind fun t120 => (some (t120, false))) else (aZ.l0 k l0 0 sU sV))
def aZ.T4 : Bool × List (List Nat × List Nat) := (true, [([], []), ([], []), ([1], [1]), ([0, 2], [0, 2]), ([3], [3]), ([4], [4]), ([4], [4]), ([5, 6, 4], [4, 5, 6]), ([7, 4], [4, 7]), ([4], [4]), ([8, 9, 4, 4], [4, 8, 9]), ([4, 10], [4, 10])])
def aZ.B4 : List Nat := [0, 0, 2, 7, 15, 31, 31, 127, 255, 31, 1023, 2047]
theorem aZ.kS : iJ .any (opsOf Try.f15 4) = aZ.T4 := by kernel_rfl
theorem aZ.jl : iL aZ.T4.2 aZ.B4 = true := by kernel_rfl
set_option maxHeartbeats 8000000 in
set_option maxRecDepth 100000 in
theorem aZ.calls (k : Nat) (A0 : Option Addr) (c0 : Nat) (l0 : List (S31)) (sU : ByteArray) (sV : Int) (r1 : List (S31)) (r2 : Bool) (w : World) (hr0 : Kd.C k31 w A0 l0.length l0) (hc0 : l0.length ≤ c0) (h : aZ.f k l0 sU sV = some (r1, r2)) :
  Calls Try.prog 15 #[.slice A0 l0.length c0, .agg #[.string sU, .int .i64 sV]] w fun e w' => ∃ v0_ : Value, e = .returned (.tuple #[v0_, .bool r2]) ∧ Kd.R k31 31 w' w.heap.size (fun _ => True) v0_ r1 ∧ Below w.heap.size w w' := by
 have hu31 := Try.underlying31
 have HR0 := aj.mk hr0
 have HC0 := aj.mk hc0
 clear hr0 hc0
 have HB := aj.mk (Below.refl w.heap.size w)
 have H : ((eF.f k l0 sU sV).bind fun t119 => (if t119 = true then ((aV.f l0).bind fun t120 => (some (t120, false))) else (aZ.l0 k l0 0 sU sV))) = some (r1, r2) := h
 clear h
 replace H := Option.bind_eq_some_iff.mp H
 obtain ⟨t119, A30, H⟩ := H
 replace H : (if t119 = true then ((aV.f l0).bind fun t120 => (some (t120, false))) else (aZ.l0 k l0 0 sU sV)) = some (r1, r2) := H
 have A3 := aj.mk A30
 clear A30
 by_cases c4 : t119 = true
 ·subst c4
  have H1 : ((aV.f l0).bind fun t120 => (some (t120, false))) = some (r1, r2) := by rw [if_pos rfl] at H; exact H
  clear H
  have H := H1
  clear H1
  replace H := Option.bind_eq_some_iff.mp H
  obtain ⟨t120, A50, H⟩ := H
  replace H : (some (t120, false)) = some (r1, r2) := H
  have A5 := aj.mk A50
  clear A50
  simp only [Option.some.injEq, Prod.mk.injEq] at H
  obtain ⟨rfl, rfl⟩ := H
  go_enter Try.func15, Try.ntmps15
  go_wp2_with (first | ((with_reducible refine dz (N := 3) rfl ?_); refine dD ?hg (N := 3) ?hd (cs := #[.string sU, .int .i64 sV]) (t := 31) ?hr ?_; (case hd => rfl); (case hg => rfl); (case hr => first | (go_simp; done) | (go_simp; rfl)); intro gb118 hg w6 hbox hb; have n0_ := aj.mk (aY (by repeat (first | (with_reducible first | exact HB.out | apply au | apply ah | apply ak) | exact HB.out)) hb); have n1_ := aj.mk (hbox); have n2_ := aj.mk ((by rw [hg]; exact (bf (by repeat (first | (with_reducible first | exact HB.out | apply au | apply ah | apply ak) | exact HB.out))) : w.heap.size ≤ gb118)); have n3_ := aj.mk ((by rw [hg]; exact (bf (by repeat (first | (with_reducible first | exact HB.out | apply au | apply ah | apply ak) | exact HB.out))) : w.heap.size ≤ gb118)); clear HB; have HB := n0_; have BK118 := n1_; have GW118 := n2_; have GE118 := n3_; clear n0_ n1_ n2_ n3_; clear hb hbox hg; have hcz7_0 : w6.cell? ⟨gb118, 0, none⟩ = some (.string sU) := (aT BK118.out 0).trans rfl; have hcz7_1 : w6.cell? ⟨gb118, 1, none⟩ = some (.int .i64 sV) := (aT BK118.out 1).trans rfl; have hfz7_0 := bG BK118.out 0; have hfz7_1 := bG BK118.out 1) | ((with_reducible refine bq (f := 54) rfl ?_); refine bT (some 10) rfl rfl Try.func54 (by kernel_rfl) rfl #[.slice A0 l0.length c0, .agg #[.string sU, .int .i64 sV]] rfl (by (try simp only [List.map_toArray, List.map_cons, List.map_nil]); first | done | rfl | (simp only [List.length_drop, List.length_take]; rfl)) ?_; (with_reducible refine (eF.calls k _ _ l0 sU sV true _ ?side1 ?side2 A3.out).mono ?_); (case side1 => repeat (first | exact (Kd.dS HR0.out HB.out) | (with_reducible refine Kd.bU ?_ _) | (with_reducible refine Kd.bV ?_ _) | (with_reducible refine Kd.cB ?_))); (case side2 => exact HC0.out); rintro e w8 ⟨rfl, hb⟩; refine ⟨_, rfl, ?_⟩; have n0_ := aj.mk (bI (g := gb118) (o := .cells #[.string sU, .int .i64 sV] 31 (0, 0)) (by (with_reducible repeat (first | refine aA ?_ _ | refine aD ?_ | refine aC ?_ _)); exact BK118.out) hb); have n1_ := aj.mk (aY (by repeat (first | (with_reducible first | exact HB.out | apply au | apply ah | apply ak | refine ay ?_ GE118.out) | exact HB.out)) hb); clear BK118; clear HB; have BK118 := n0_; have HB := n1_; clear n0_ n1_; (try clear hb); (try clear hb2); (try clear hk); (try clear hi)) | ((with_reducible refine bq (f := 55) rfl ?_); refine bT (some 12) rfl rfl Try.func55 (by kernel_rfl) rfl #[.slice A0 l0.length c0] rfl (by (try simp only [List.map_toArray, List.map_cons, List.map_nil]); first | done | rfl | (simp only [List.length_drop, List.length_take]; rfl)) ?_; (with_reducible refine (aV.calls _ _ l0 t120 _ ?side1 ?side2 A5.out).mono ?_); (case side1 => repeat (first | exact (Kd.dS HR0.out HB.out) | (with_reducible refine Kd.bU ?_ _) | (with_reducible refine Kd.bV ?_ _) | (with_reducible refine Kd.cB ?_))); (case side2 => exact HC0.out); rintro e w9 ⟨v121, rfl, ho0, hb⟩; refine ⟨_, rfl, ?_⟩; have n0_ := aj.mk (Kd.cK (Kd.fq ho0 (g := gb118) (o := .cells #[.string sU, .int .i64 sV] 31 (0, 0)) (by (with_reducible repeat (first | refine aA ?_ _ | refine aD ?_ | refine aC ?_ _)); exact BK118.out)) (bf (by repeat (first | (with_reducible first | exact HB.out | apply au | apply ah | apply ak | refine ay ?_ GE118.out) | exact HB.out)))); have n1_ := aj.mk (bI (g := gb118) (o := .cells #[.string sU, .int .i64 sV] 31 (0, 0)) (by (with_reducible repeat (first | refine aA ?_ _ | refine aD ?_ | refine aC ?_ _)); exact BK118.out) hb); have n2_ := aj.mk (aY (by repeat (first | (with_reducible first | exact HB.out | apply au | apply ah | apply ak | refine ay ?_ GE118.out) | exact HB.out)) hb); clear BK118; clear HB; have HO122 := n0_; have BK118 := n1_; have HB := n2_; clear n0_ n1_ n2_; (try clear hb); (try clear hb2); (try clear hk); (try clear hi); (try clear ho0)))
  go_ret2
  exact ⟨_, by first | rfl | (simp [bA, bB] <;> rfl) | (simp [*, bA, bB] <;> rfl), by (with_reducible repeat (first | apply Kd.aN | apply Kd.aM | apply Kd.aW)); exact Kd.bO HO122.out (fun _ hk => trivial), by repeat (first | (with_reducible first | exact HB.out | apply au | apply ah | apply ak | refine ay ?_ GE118.out) | exact HB.out)⟩
 ·replace c4 := Bool.eq_false_iff.mpr c4
  subst c4
  have H1 : (aZ.l0 k l0 0 sU sV) = some (r1, r2) := by rw [if_neg (show ¬ (false = true) by decide)] at H; exact H
  clear H
  have H := H1
  clear H1
  have HC10 := aj.mk H
  clear H
  go_enter Try.func15, Try.ntmps15
  go_upto_block 0 with (first | ((with_reducible refine dz (N := 3) rfl ?_); refine dD ?hg (N := 3) ?hd (cs := #[.string sU, .int .i64 sV]) (t := 31) ?hr ?_; (case hd => rfl); (case hg => rfl); (case hr => first | (go_simp; done) | (go_simp; rfl)); intro gb118 hg w11 hbox hb; have n0_ := aj.mk (aY (by repeat (first | (with_reducible first | exact HB.out | apply au | apply ah | apply ak) | exact HB.out)) hb); have n1_ := aj.mk (hbox); have n2_ := aj.mk ((by rw [hg]; exact (bf (by repeat (first | (with_reducible first | exact HB.out | apply au | apply ah | apply ak) | exact HB.out))) : w.heap.size ≤ gb118)); have n3_ := aj.mk ((by rw [hg]; exact (bf (by repeat (first | (with_reducible first | exact HB.out | apply au | apply ah | apply ak) | exact HB.out))) : w.heap.size ≤ gb118)); clear HB; have HB := n0_; have BK118 := n1_; have GW118 := n2_; have GE118 := n3_; clear n0_ n1_ n2_ n3_; clear hb hbox hg; have hcz12_0 : w11.cell? ⟨gb118, 0, none⟩ = some (.string sU) := (aT BK118.out 0).trans rfl; have hcz12_1 : w11.cell? ⟨gb118, 1, none⟩ = some (.int .i64 sV) := (aT BK118.out 1).trans rfl; have hfz12_0 := bG BK118.out 0; have hfz12_1 := bG BK118.out 1) | ((with_reducible refine bq (f := 54) rfl ?_); refine bT (some 10) rfl rfl Try.func54 (by kernel_rfl) rfl #[.slice A0 l0.length c0, .agg #[.string sU, .int .i64 sV]] rfl (by (try simp only [List.map_toArray, List.map_cons, List.map_nil]); first | done | rfl | (simp only [List.length_drop, List.length_take]; rfl)) ?_; (with_reducible refine (eF.calls k _ _ l0 sU sV false _ ?side1 ?side2 A3.out).mono ?_); (case side1 => repeat (first | exact (Kd.dS HR0.out HB.out) | (with_reducible refine Kd.bU ?_ _) | (with_reducible refine Kd.bV ?_ _) | (with_reducible refine Kd.cB ?_))); (case side2 => exact HC0.out); rintro e w13 ⟨rfl, hb⟩; refine ⟨_, rfl, ?_⟩; have n0_ := aj.mk (bI (g := gb118) (o := .cells #[.string sU, .int .i64 sV] 31 (0, 0)) (by (with_reducible repeat (first | refine aA ?_ _ | refine aD ?_ | refine aC ?_ _)); exact BK118.out) hb); have n1_ := aj.mk (aY (by repeat (first | (with_reducible first | exact HB.out | apply au | apply ah | apply ak | refine ay ?_ GE118.out) | exact HB.out)) hb); clear BK118; clear HB; have BK118 := n0_; have HB := n1_; clear n0_ n1_; (try clear hb); (try clear hb2); (try clear hk); (try clear hi)))
  (try simp only [Act.put, List.setIfInBounds_toArray, List.set_cons_zero, List.set_cons_succ])
  go_cut [6] (fun v6 wc => ∃ (kq : Nat) (x6_9 : Int), v6 = .int .i64 x6_9 ∧ aj (aZ.j1 kq l0 x6_9 sU sV = some (r1, r2)) ∧ aj (kq ≤ k) ∧ aj (wc.heap[gb118]? = some (.cells #[.string sU, .int .i64 sV] 31 (0, 0))) ∧ aj (Below w.heap.size w wc))
  case first =>
   have H := HC10.out
   clear HC10
   have H' := aj.mk H
   clear H
   go_wp2
   go_loopg [6] k (fun kq v6 w' => ∃ (x6_1 : Int), v6 = .int .i64 x6_1 ∧ aj (aZ.l0 kq l0 x6_1 sU sV = some (r1, r2)) ∧ aj (kq ≤ k) ∧ aj (w'.heap[gb118]? = some (.cells #[.string sU, .int .i64 sV] 31 (0, 0))) ∧ aj (Below w.heap.size w w'))
   case atStart => exact ⟨(0), (by first | rfl | (simp; done) | (simp [*]; done)), H', ⟨Nat.le_refl _⟩, ⟨by (with_reducible repeat (first | refine aA ?_ _ | refine aD ?_ | refine aC ?_ _)); exact BK118.out⟩, ⟨by repeat (first | (with_reducible first | exact HB.out | apply au | apply ah | apply ak | refine ay ?_ GE118.out) | exact HB.out)⟩⟩
   case round =>
    clear H'
    try clear c4
    try clear hcz12_0
    try clear hcz12_1
    try clear hfz12_0
    try clear hfz12_1
    obtain ⟨x6_1, rfl, HA, HK1, BK118, HB⟩ := hrel
    cases gk with
    | zero => exact absurd HA.out (by simp [aZ.l0])
    | succ k1 =>
     have H := HA.out
     clear HA
     simp only [aZ.l0] at H
     by_cases c14 : x6_1 < (l0.length : Int)
     ·rw [if_pos c14] at H
      have c14b0 : decide (x6_1 < (l0.length : Int)) = true := decide_eq_true c14
      clear c14
      (first | rw [c14b0] | (simp only [aG, aH]; rw [c14b0]) | skip)
      by_cases c15 : 0 ≤ x6_1
      ·rw [if_pos c15] at H
       have c15b0 : decide (0 ≤ x6_1) = true := decide_eq_true c15
       clear c15
       replace H := Option.bind_eq_some_iff.mp H
       obtain ⟨t124, A160, H⟩ := H
       replace H : (if t124 = true then (aZ.l0 k1 l0 (wrap64 (x6_1 + 1)) sU sV) else (aZ.j1 k1 l0 x6_1 sU sV)) = some (r1, r2) := H
       have A16 := aj.mk A160
       clear A160
       by_cases c17 : t124 = true
       ·subst c17
        have H1 : (aZ.l0 k1 l0 (wrap64 (x6_1 + 1)) sU sV) = some (r1, r2) := by rw [if_pos rfl] at H; exact H
        clear H
        have H := H1
        clear H1
        have H' := aj.mk H
        clear H
        try go_wp2
        have n0_ := aj.mk (aD BK118.out)
        have n1_ := aj.mk (ak HB.out)
        clear BK118
        clear HB
        have BK118 := n0_
        have HB := n1_
        clear n0_ n1_
        have p123 : 0 ≤ (x6_1 : Int) := of_decide_eq_true (by first | (with_reducible assumption) | assumption)
        have q123 : x6_1 < (l0.length : Int) := of_decide_eq_true (by first | (with_reducible assumption) | assumption)
        obtain ⟨ad123, e123, hx123_0, hx123_1⟩ := eD HR0.out x6_1 p123 q123
        have hw123_1 := hx123_1
        have hw123_0 := hx123_0
        cases e123
        try replace hx123_0 := (HB.out.cell (World.block_lt_of_cell? w _ hx123_0)).trans hx123_0
        try replace hx123_1 := (HB.out.cell (World.block_lt_of_cell? w _ hx123_1)).trans hx123_1
        replace p123 := eq_true p123
        replace q123 := eq_true q123
        refine fK (n := 12) (S := fun w' => w'.cell? ⟨gb118, 0, none⟩ = some (.string sU) ∧ w'.cell? ⟨gb118, 1, none⟩ = some (.int .i64 sV) ∧ w'.cell? (ad123.add ((x6_1).toNat * 2)) = some (.string ((aJ l0 x6_1).f0)) ∧ w'.cell? ⟨(ad123.add ((x6_1).toNat * 2)).block, (ad123.add ((x6_1).toNat * 2)).off + 1, none⟩ = some (.int .i64 ((aJ l0 x6_1).f1))) (ds := []) #[false, false, false, false, false, false, false, false, false, false, false, false] (by kernel_rfl) rfl rfl ⟨(aT BK118.out 0).trans rfl, (aT BK118.out 1).trans rfl, ((HB.out.cell (World.block_lt_of_cell? w _ hw123_0)).trans hw123_0), ((HB.out.cell (World.block_lt_of_cell? w _ hw123_1)).trans hw123_1)⟩ (fun hHeld => ?_); refine eu aZ.kS aZ.jl (fun HT_ HW_ => ?_)
        generalize wr.drew = w18 at BK118 HB hx123_0 hx123_1 hHeld ⊢
        refine aX (i := 0) (N := some 13) (v := ?_) (a' := ?_) #[true, false, false, false, false, false, false, false, false, false, false, false] rfl rfl (aK HT_.out (by kernel_rfl)) (fun _ _ _ h => h) (Or.inl ⟨by rfl, ?_⟩) ?_ ?_
        rotate_left
        ·intro w'
         go_simp
         with_reducible rfl
        rotate_left
        ·simp only [Act.put, List.setIfInBounds_toArray, List.set_cons_zero, List.set_cons_succ, aG, aH]
         rfl
        refine aX (i := 1) (N := some 14) (v := ?_) (a' := ?_) #[true, true, false, false, false, false, false, false, false, false, false, false] rfl rfl (aK HT_.out (by kernel_rfl)) (fun _ _ _ h => h) (Or.inl ⟨by rfl, ?_⟩) ?_ ?_
        rotate_left
        ·intro w'
         go_simp
         with_reducible rfl
        rotate_left
        ·simp only [Act.put, List.setIfInBounds_toArray, List.set_cons_zero, List.set_cons_succ, aG, aH]
         rfl
        refine aX (i := 2) (N := some 15) (v := ?_) (a' := ?_) #[true, true, true, false, false, false, false, false, false, false, false, false] rfl rfl (aK HT_.out (by kernel_rfl)) (fun _ _ _ h => h) (Or.inl ⟨by rfl, ?_⟩) ?_ ?_
        rotate_left
        ·intro w'
         go_simp
         with_reducible rfl
        rotate_left
        ·simp only [Act.put, List.setIfInBounds_toArray, List.set_cons_zero, List.set_cons_succ, aG, aH]
         rfl
        refine aX (i := 3) (N := some 16) (v := ?_) (a' := ?_) #[true, true, true, true, false, false, false, false, false, false, false, false] rfl rfl (aK HT_.out (by kernel_rfl)) (fun _ _ _ h => h) (Or.inl ⟨by rfl, ?_⟩) ?_ ?_
        rotate_left
        ·intro w'
         go_simp
         with_reducible rfl
        rotate_left
        ·simp only [Act.put, List.setIfInBounds_toArray, List.set_cons_zero, List.set_cons_succ, aG, aH]
         rfl
        refine aX (i := 4) (N := some 17) (v := ?_) (a' := ?_) #[true, true, true, true, true, false, false, false, false, false, false, false] rfl rfl (aK HT_.out (by kernel_rfl)) (fun _ _ _ h => h) (Or.inl ⟨by rfl, ?_⟩) ?_ ?_
        rotate_left
        ·intro w'
         go_simp
         with_reducible rfl
        rotate_left
        ·simp only [Act.put, List.setIfInBounds_toArray, List.set_cons_zero, List.set_cons_succ, aG, aH]
         rfl
        refine aX (i := 5) (N := some 18) (v := ?_) (a' := ?_) #[true, true, true, true, true, true, false, false, false, false, false, false] rfl rfl (aK HT_.out (by kernel_rfl)) (fun _ _ _ h => h) (Or.inl ⟨by rfl, ?_⟩) ?_ ?_
        rotate_left
        ·intro w'
         go_simp
         with_reducible rfl
        rotate_left
        ·simp only [Act.put, List.setIfInBounds_toArray, List.set_cons_zero, List.set_cons_succ, aG, aH]
         rfl
        refine aX (i := 6) (N := some 19) (v := ?_) (a' := ?_) #[true, true, true, true, true, true, true, false, false, false, false, false] rfl rfl (aK HT_.out (by kernel_rfl)) (fun _ _ _ h => h) (Or.inl ⟨by rfl, ?_⟩) ?_ ?_
        rotate_left
        ·intro w'
         go_simp
         with_reducible rfl
        rotate_left
        ·simp only [Act.put, List.setIfInBounds_toArray, List.set_cons_zero, List.set_cons_succ, aG, aH]
         rfl
        refine aX (i := 7) (N := some 20) (v := ?_) (a' := ?_) #[true, true, true, true, true, true, true, true, false, false, false, false] rfl rfl (aK HT_.out (by kernel_rfl)) (fun _ _ _ h => h) (Or.inl ⟨by rfl, ?_⟩) ?_ ?_
        rotate_left
        ·intro w'
         go_simp
         with_reducible rfl
        rotate_left
        ·simp only [Act.put, List.setIfInBounds_toArray, List.set_cons_zero, List.set_cons_succ, aG, aH]
         rfl
        refine eO (i := 8) (N := some 21) (v := ?_) (a' := ?_) #[true, true, true, true, true, true, true, true, true, false, false, false] rfl rfl (dx HT_.out HW_.out (by kernel_rfl)) (fun _ _ _ h => h) (Or.inl ⟨by rfl, ?_⟩) hHeld ?_ ?_
        rotate_left
        ·rintro w' ⟨s0, s1, s2, s3⟩
         go_simp
         with_reducible rfl
        rotate_left
        ·simp only [Act.put, List.setIfInBounds_toArray, List.set_cons_zero, List.set_cons_succ, aG, aH]
         rfl
        refine eO (i := 9) (N := some 22) (v := ?_) (a' := ?_) #[true, true, true, true, true, true, true, true, true, true, false, false] rfl rfl (dx HT_.out HW_.out (by kernel_rfl)) (fun _ _ _ h => h) (Or.inl ⟨by rfl, ?_⟩) hHeld ?_ ?_
        rotate_left
        ·rintro w' ⟨s0, s1, s2, s3⟩
         go_simp
         with_reducible rfl
        rotate_left
        ·simp only [Act.put, List.setIfInBounds_toArray, List.set_cons_zero, List.set_cons_succ, aG, aH]
         rfl
        refine fE (i := 10) (N := some 23) #[true, true, true, true, true, true, true, true, true, true, true, false] rfl rfl (dP HT_.out (by kernel_rfl)) (by decide) (fun K hK => ?_)
        refine fF Try.func56 (by kernel_rfl) rfl #[.agg #[.string ((aJ l0 x6_1).f0), .int .i64 ((aJ l0 x6_1).f1)], .agg #[.string sU, .int .i64 sV]] (by rfl) rfl rfl (by (try simp only [List.map_toArray, List.map_cons, List.map_nil]); first | done | rfl | (simp only [List.length_drop, List.length_take]; rfl)) ?_
        with_reducible refine (dK.calls ((aJ l0 x6_1).f0) ((aJ l0 x6_1).f1) sU sV true _ A16.out).mono ?_
        rintro e w19 ⟨rfl, hb⟩
        refine ⟨_, rfl, ?_⟩
        have n0_ := aj.mk (bI (g := gb118) (o := .cells #[.string sU, .int .i64 sV] 31 (0, 0)) (by (with_reducible repeat (first | refine aA ?_ _ | refine aD ?_ | refine aC ?_ _)); exact BK118.out) hb)
        have n1_ := aj.mk (aY (by repeat (first | (with_reducible first | exact HB.out | apply au | apply ah | apply ak | refine ay ?_ GE118.out) | exact HB.out)) hb)
        clear BK118
        clear HB
        have BK118 := n0_
        have HB := n1_
        clear n0_ n1_
        (try clear hb)
        (try clear hb2)
        (try clear hk)
        (try clear hi)
        refine hK.out _ _ ⟨(aT BK118.out 0).trans rfl, (aT BK118.out 1).trans rfl, ((HB.out.cell (World.block_lt_of_cell? w _ hw123_0)).trans hw123_0), ((HB.out.cell (World.block_lt_of_cell? w _ hw123_1)).trans hw123_1)⟩ (fun hHeld => ?_)
        clear hK K
        refine dw (a' := ?_) ?_ ?_
        rotate_left
        ·show Act.put _ (some 23) _ = _
         simp only [Act.put, List.setIfInBounds_toArray, List.set_cons_zero, List.set_cons_succ, aG, aH]
         rfl
        refine aX (i := 11) (N := some 24) (v := ?_) (a' := ?_) #[true, true, true, true, true, true, true, true, true, true, true, true] rfl rfl (aK HT_.out (by kernel_rfl)) (fun _ _ _ h => h) (Or.inl ⟨by rfl, ?_⟩) ?_ ?_
        rotate_left
        ·intro w'
         go_simp
         with_reducible rfl
        rotate_left
        ·simp only [Act.put, List.setIfInBounds_toArray, List.set_cons_zero, List.set_cons_succ, aG, aH]
         rfl
        refine gU (fD HT_.out (by kernel_rfl)) ?_
        try go_wp2
        go_roundg k1
        case measure => have := HK1.out; omega
        case rel => exact ⟨(wrap64 (x6_1 + 1)), (by first | rfl | (simp; done) | (simp [*]; done)), H', ⟨by have := HK1.out; omega⟩, ⟨by (with_reducible repeat (first | refine aA ?_ _ | refine aD ?_ | refine aC ?_ _)); exact BK118.out⟩, ⟨by repeat (first | (with_reducible first | exact HB.out | apply au | apply ah | apply ak | refine ay ?_ GE118.out) | exact HB.out)⟩⟩
       ·replace c17 := Bool.eq_false_iff.mpr c17
        subst c17
        have H1 : (aZ.j1 k1 l0 x6_1 sU sV) = some (r1, r2) := by rw [if_neg (show ¬ (false = true) by decide)] at H; exact H
        clear H
        have H := H1
        clear H1
        have H' := aj.mk H
        clear H
        try go_wp2
        have n0_ := aj.mk (aD BK118.out)
        have n1_ := aj.mk (ak HB.out)
        clear BK118
        clear HB
        have BK118 := n0_
        have HB := n1_
        clear n0_ n1_
        have p123 : 0 ≤ (x6_1 : Int) := of_decide_eq_true (by first | (with_reducible assumption) | assumption)
        have q123 : x6_1 < (l0.length : Int) := of_decide_eq_true (by first | (with_reducible assumption) | assumption)
        obtain ⟨ad123, e123, hx123_0, hx123_1⟩ := eD HR0.out x6_1 p123 q123
        have hw123_1 := hx123_1
        have hw123_0 := hx123_0
        cases e123
        try replace hx123_0 := (HB.out.cell (World.block_lt_of_cell? w _ hx123_0)).trans hx123_0
        try replace hx123_1 := (HB.out.cell (World.block_lt_of_cell? w _ hx123_1)).trans hx123_1
        replace p123 := eq_true p123
        replace q123 := eq_true q123
        refine fK (n := 12) (S := fun w' => w'.cell? ⟨gb118, 0, none⟩ = some (.string sU) ∧ w'.cell? ⟨gb118, 1, none⟩ = some (.int .i64 sV) ∧ w'.cell? (ad123.add ((x6_1).toNat * 2)) = some (.string ((aJ l0 x6_1).f0)) ∧ w'.cell? ⟨(ad123.add ((x6_1).toNat * 2)).block, (ad123.add ((x6_1).toNat * 2)).off + 1, none⟩ = some (.int .i64 ((aJ l0 x6_1).f1))) (ds := []) #[false, false, false, false, false, false, false, false, false, false, false, false] (by kernel_rfl) rfl rfl ⟨(aT BK118.out 0).trans rfl, (aT BK118.out 1).trans rfl, ((HB.out.cell (World.block_lt_of_cell? w _ hw123_0)).trans hw123_0), ((HB.out.cell (World.block_lt_of_cell? w _ hw123_1)).trans hw123_1)⟩ (fun hHeld => ?_); refine eu aZ.kS aZ.jl (fun HT_ HW_ => ?_)
        generalize wr.drew = w20 at BK118 HB hx123_0 hx123_1 hHeld ⊢
        refine aX (i := 0) (N := some 13) (v := ?_) (a' := ?_) #[true, false, false, false, false, false, false, false, false, false, false, false] rfl rfl (aK HT_.out (by kernel_rfl)) (fun _ _ _ h => h) (Or.inl ⟨by rfl, ?_⟩) ?_ ?_
        rotate_left
        ·intro w'
         go_simp
         with_reducible rfl
        rotate_left
        ·simp only [Act.put, List.setIfInBounds_toArray, List.set_cons_zero, List.set_cons_succ, aG, aH]
         rfl
        refine aX (i := 1) (N := some 14) (v := ?_) (a' := ?_) #[true, true, false, false, false, false, false, false, false, false, false, false] rfl rfl (aK HT_.out (by kernel_rfl)) (fun _ _ _ h => h) (Or.inl ⟨by rfl, ?_⟩) ?_ ?_
        rotate_left
        ·intro w'
         go_simp
         with_reducible rfl
        rotate_left
        ·simp only [Act.put, List.setIfInBounds_toArray, List.set_cons_zero, List.set_cons_succ, aG, aH]
         rfl
        refine aX (i := 2) (N := some 15) (v := ?_) (a' := ?_) #[true, true, true, false, false, false, false, false, false, false, false, false] rfl rfl (aK HT_.out (by kernel_rfl)) (fun _ _ _ h => h) (Or.inl ⟨by rfl, ?_⟩) ?_ ?_
        rotate_left
        ·intro w'
         go_simp
         with_reducible rfl
        rotate_left
        ·simp only [Act.put, List.setIfInBounds_toArray, List.set_cons_zero, List.set_cons_succ, aG, aH]
         rfl
        refine aX (i := 3) (N := some 16) (v := ?_) (a' := ?_) #[true, true, true, true, false, false, false, false, false, false, false, false] rfl rfl (aK HT_.out (by kernel_rfl)) (fun _ _ _ h => h) (Or.inl ⟨by rfl, ?_⟩) ?_ ?_
        rotate_left
        ·intro w'
         go_simp
         with_reducible rfl
        rotate_left
        ·simp only [Act.put, List.setIfInBounds_toArray, List.set_cons_zero, List.set_cons_succ, aG, aH]
         rfl
        refine aX (i := 4) (N := some 17) (v := ?_) (a' := ?_) #[true, true, true, true, true, false, false, false, false, false, false, false] rfl rfl (aK HT_.out (by kernel_rfl)) (fun _ _ _ h => h) (Or.inl ⟨by rfl, ?_⟩) ?_ ?_
        rotate_left
        ·intro w'
         go_simp
         with_reducible rfl
        rotate_left
        ·simp only [Act.put, List.setIfInBounds_toArray, List.set_cons_zero, List.set_cons_succ, aG, aH]
         rfl
        refine aX (i := 5) (N := some 18) (v := ?_) (a' := ?_) #[true, true, true, true, true, true, false, false, false, false, false, false] rfl rfl (aK HT_.out (by kernel_rfl)) (fun _ _ _ h => h) (Or.inl ⟨by rfl, ?_⟩) ?_ ?_
        rotate_left
        ·intro w'
         go_simp
         with_reducible rfl
        rotate_left
        ·simp only [Act.put, List.setIfInBounds_toArray, List.set_cons_zero, List.set_cons_succ, aG, aH]
         rfl
        refine aX (i := 6) (N := some 19) (v := ?_) (a' := ?_) #[true, true, true, true, true, true, true, false, false, false, false, false] rfl rfl (aK HT_.out (by kernel_rfl)) (fun _ _ _ h => h) (Or.inl ⟨by rfl, ?_⟩) ?_ ?_
        rotate_left
        ·intro w'
         go_simp
         with_reducible rfl
        rotate_left
        ·simp only [Act.put, List.setIfInBounds_toArray, List.set_cons_zero, List.set_cons_succ, aG, aH]
         rfl
        refine aX (i := 7) (N := some 20) (v := ?_) (a' := ?_) #[true, true, true, true, true, true, true, true, false, false, false, false] rfl rfl (aK HT_.out (by kernel_rfl)) (fun _ _ _ h => h) (Or.inl ⟨by rfl, ?_⟩) ?_ ?_
        rotate_left
        ·intro w'
         go_simp
         with_reducible rfl
        rotate_left
        ·simp only [Act.put, List.setIfInBounds_toArray, List.set_cons_zero, List.set_cons_succ, aG, aH]
         rfl
        refine eO (i := 8) (N := some 21) (v := ?_) (a' := ?_) #[true, true, true, true, true, true, true, true, true, false, false, false] rfl rfl (dx HT_.out HW_.out (by kernel_rfl)) (fun _ _ _ h => h) (Or.inl ⟨by rfl, ?_⟩) hHeld ?_ ?_
        rotate_left
        ·rintro w' ⟨s0, s1, s2, s3⟩
         go_simp
         with_reducible rfl
        rotate_left
        ·simp only [Act.put, List.setIfInBounds_toArray, List.set_cons_zero, List.set_cons_succ, aG, aH]
         rfl
        refine eO (i := 9) (N := some 22) (v := ?_) (a' := ?_) #[true, true, true, true, true, true, true, true, true, true, false, false] rfl rfl (dx HT_.out HW_.out (by kernel_rfl)) (fun _ _ _ h => h) (Or.inl ⟨by rfl, ?_⟩) hHeld ?_ ?_
        rotate_left
        ·rintro w' ⟨s0, s1, s2, s3⟩
         go_simp
         with_reducible rfl
        rotate_left
        ·simp only [Act.put, List.setIfInBounds_toArray, List.set_cons_zero, List.set_cons_succ, aG, aH]
         rfl
        refine fE (i := 10) (N := some 23) #[true, true, true, true, true, true, true, true, true, true, true, false] rfl rfl (dP HT_.out (by kernel_rfl)) (by decide) (fun K hK => ?_)
        refine fF Try.func56 (by kernel_rfl) rfl #[.agg #[.string ((aJ l0 x6_1).f0), .int .i64 ((aJ l0 x6_1).f1)], .agg #[.string sU, .int .i64 sV]] (by rfl) rfl rfl (by (try simp only [List.map_toArray, List.map_cons, List.map_nil]); first | done | rfl | (simp only [List.length_drop, List.length_take]; rfl)) ?_
        with_reducible refine (dK.calls ((aJ l0 x6_1).f0) ((aJ l0 x6_1).f1) sU sV false _ A16.out).mono ?_
        rintro e w21 ⟨rfl, hb⟩
        refine ⟨_, rfl, ?_⟩
        have n0_ := aj.mk (bI (g := gb118) (o := .cells #[.string sU, .int .i64 sV] 31 (0, 0)) (by (with_reducible repeat (first | refine aA ?_ _ | refine aD ?_ | refine aC ?_ _)); exact BK118.out) hb)
        have n1_ := aj.mk (aY (by repeat (first | (with_reducible first | exact HB.out | apply au | apply ah | apply ak | refine ay ?_ GE118.out) | exact HB.out)) hb)
        clear BK118
        clear HB
        have BK118 := n0_
        have HB := n1_
        clear n0_ n1_
        (try clear hb)
        (try clear hb2)
        (try clear hk)
        (try clear hi)
        refine hK.out _ _ ⟨(aT BK118.out 0).trans rfl, (aT BK118.out 1).trans rfl, ((HB.out.cell (World.block_lt_of_cell? w _ hw123_0)).trans hw123_0), ((HB.out.cell (World.block_lt_of_cell? w _ hw123_1)).trans hw123_1)⟩ (fun hHeld => ?_)
        clear hK K
        refine dw (a' := ?_) ?_ ?_
        rotate_left
        ·show Act.put _ (some 23) _ = _
         simp only [Act.put, List.setIfInBounds_toArray, List.set_cons_zero, List.set_cons_succ, aG, aH]
         rfl
        refine aX (i := 11) (N := some 24) (v := ?_) (a' := ?_) #[true, true, true, true, true, true, true, true, true, true, true, true] rfl rfl (aK HT_.out (by kernel_rfl)) (fun _ _ _ h => h) (Or.inl ⟨by rfl, ?_⟩) ?_ ?_
        rotate_left
        ·intro w'
         go_simp
         with_reducible rfl
        rotate_left
        ·simp only [Act.put, List.setIfInBounds_toArray, List.set_cons_zero, List.set_cons_succ, aG, aH]
         rfl
        refine gU (fD HT_.out (by kernel_rfl)) ?_
        try go_wp2
        go_meet
        case rel => exact ⟨_, (x6_1), (by first | rfl | (simp; done) | (simp [*]; done)), H', ⟨by have := HK1.out; first | omega | exact Nat.le_refl _⟩, ⟨by (with_reducible repeat (first | refine aA ?_ _ | refine aD ?_ | refine aC ?_ _)); exact BK118.out⟩, ⟨by repeat (first | (with_reducible first | exact HB.out | apply au | apply ah | apply ak | refine ay ?_ GE118.out) | exact HB.out)⟩⟩
      ·rw [if_neg c15] at H
       exact absurd H (by simp)
     ·rw [if_neg c14] at H
      have c14b0 : decide (x6_1 < (l0.length : Int)) = false := decide_eq_false c14
      clear c14
      (first | rw [c14b0] | (simp only [aG, aH]; rw [c14b0]) | skip)
      have H' := aj.mk H
      clear H
      try go_wp2
      have n0_ := aj.mk (aD BK118.out)
      have n1_ := aj.mk (ak HB.out)
      clear BK118
      clear HB
      have BK118 := n0_
      have HB := n1_
      clear n0_ n1_
      refine fK (n := 12) (S := fun w' => True) (ds := []) #[false, false, false, false, false, false, false, false, false, false, false, false] (by kernel_rfl) rfl rfl trivial (fun hHeld => ?_); refine eu aZ.kS aZ.jl (fun HT_ HW_ => ?_)
      generalize wr.drew = w22 at BK118 HB hHeld ⊢
      refine aX (i := 0) (N := some 13) (v := ?_) (a' := ?_) #[true, false, false, false, false, false, false, false, false, false, false, false] rfl rfl (aK HT_.out (by kernel_rfl)) (fun _ _ _ h => h) (Or.inl ⟨by rfl, ?_⟩) ?_ ?_
      rotate_left
      ·intro w'
       go_simp
       with_reducible rfl
      rotate_left
      ·simp only [Act.put, List.setIfInBounds_toArray, List.set_cons_zero, List.set_cons_succ, aG, aH]
       rfl
      refine aX (i := 1) (N := some 14) (v := ?_) (a' := ?_) #[true, true, false, false, false, false, false, false, false, false, false, false] rfl rfl (aK HT_.out (by kernel_rfl)) (fun _ _ _ h => h) (Or.inl ⟨by rfl, ?_⟩) ?_ ?_
      rotate_left
      ·intro w'
       go_simp
       with_reducible rfl
      rotate_left
      ·simp only [Act.put, List.setIfInBounds_toArray, List.set_cons_zero, List.set_cons_succ, aG, aH]
       rfl
      refine aX (i := 2) (N := some 15) (v := ?_) (a' := ?_) #[true, true, true, false, false, false, false, false, false, false, false, false] rfl rfl (aK HT_.out (by kernel_rfl)) (fun _ _ _ h => h) (Or.inl ⟨by rfl, ?_⟩) ?_ ?_
      rotate_left
      ·intro w'
       go_simp
       with_reducible rfl
      rotate_left
      ·simp only [Act.put, List.setIfInBounds_toArray, List.set_cons_zero, List.set_cons_succ, aG, aH]
       rfl
      refine aX (i := 3) (N := some 16) (v := ?_) (a' := ?_) #[true, true, true, true, false, false, false, false, false, false, false, false] rfl rfl (aK HT_.out (by kernel_rfl)) (fun _ _ _ h => h) (Or.inl ⟨by rfl, ?_⟩) ?_ ?_
      rotate_left
      ·intro w'
       go_simp
       with_reducible rfl
      rotate_left
      ·simp only [Act.put, List.setIfInBounds_toArray, List.set_cons_zero, List.set_cons_succ, aG, aH]
       rfl
      refine aX (i := 4) (N := some 17) (v := ?_) (a' := ?_) #[true, true, true, true, true, false, false, false, false, false, false, false] rfl rfl (aK HT_.out (by kernel_rfl)) (fun _ _ _ h => h) (Or.inl ⟨by rfl, ?_⟩) ?_ ?_
      rotate_left
      ·intro w'
       go_simp
       with_reducible rfl
      rotate_left
      ·simp only [Act.put, List.setIfInBounds_toArray, List.set_cons_zero, List.set_cons_succ, aG, aH]
       rfl
      refine aX (i := 5) (N := some 18) (v := undef) (a' := ?_) #[true, true, true, true, true, true, false, false, false, false, false, false] rfl rfl (aK HT_.out (by kernel_rfl)) (fun _ _ _ h => h) (Or.inr ⟨by rfl, rfl⟩) ?_ ?_
      rotate_left
      ·simp only [Act.put, List.setIfInBounds_toArray, List.set_cons_zero, List.set_cons_succ, aG, aH]
       rfl
      refine aX (i := 6) (N := some 19) (v := undef) (a' := ?_) #[true, true, true, true, true, true, true, false, false, false, false, false] rfl rfl (aK HT_.out (by kernel_rfl)) (fun _ _ _ h => h) (Or.inr ⟨by rfl, rfl⟩) ?_ ?_
      rotate_left
      ·simp only [Act.put, List.setIfInBounds_toArray, List.set_cons_zero, List.set_cons_succ, aG, aH]
       rfl
      refine aX (i := 7) (N := some 20) (v := undef) (a' := ?_) #[true, true, true, true, true, true, true, true, false, false, false, false] rfl rfl (aK HT_.out (by kernel_rfl)) (fun _ _ _ h => h) (Or.inr ⟨by rfl, rfl⟩) ?_ ?_
      rotate_left
      ·simp only [Act.put, List.setIfInBounds_toArray, List.set_cons_zero, List.set_cons_succ, aG, aH]
       rfl
      refine aX (i := 8) (N := some 21) (v := undef) (a' := ?_) #[true, true, true, true, true, true, true, true, true, false, false, false] rfl rfl (aK HT_.out (by kernel_rfl)) (fun _ _ _ h => h) (Or.inr ⟨by rfl, rfl⟩) ?_ ?_
      rotate_left
      ·simp only [Act.put, List.setIfInBounds_toArray, List.set_cons_zero, List.set_cons_succ, aG, aH]
       rfl
      refine aX (i := 9) (N := some 22) (v := undef) (a' := ?_) #[true, true, true, true, true, true, true, true, true, true, false, false] rfl rfl (aK HT_.out (by kernel_rfl)) (fun _ _ _ h => h) (Or.inr ⟨by rfl, rfl⟩) ?_ ?_
      rotate_left
      ·simp only [Act.put, List.setIfInBounds_toArray, List.set_cons_zero, List.set_cons_succ, aG, aH]
       rfl
      refine aX (i := 10) (N := some 23) (v := undef) (a' := ?_) #[true, true, true, true, true, true, true, true, true, true, true, false] rfl rfl (aK HT_.out (by kernel_rfl)) (fun _ _ _ h => h) (Or.inr ⟨by rfl, rfl⟩) ?_ ?_
      rotate_left
      ·simp only [Act.put, List.setIfInBounds_toArray, List.set_cons_zero, List.set_cons_succ, aG, aH]
       rfl
      refine aX (i := 11) (N := some 24) (v := ?_) (a' := ?_) #[true, true, true, true, true, true, true, true, true, true, true, true] rfl rfl (aK HT_.out (by kernel_rfl)) (fun _ _ _ h => h) (Or.inl ⟨by rfl, ?_⟩) ?_ ?_
      rotate_left
      ·intro w'
       go_simp
       with_reducible rfl
      rotate_left
      ·simp only [Act.put, List.setIfInBounds_toArray, List.set_cons_zero, List.set_cons_succ, aG, aH]
       rfl
      refine gU (fD HT_.out (by kernel_rfl)) ?_
      try go_wp2
      go_meet
      case rel => exact ⟨_, (x6_1), (by first | rfl | (simp; done) | (simp [*]; done)), H', ⟨by have := HK1.out; first | omega | exact Nat.le_refl _⟩, ⟨by (with_reducible repeat (first | refine aA ?_ _ | refine aD ?_ | refine aC ?_ _)); exact BK118.out⟩, ⟨by repeat (first | (with_reducible first | exact HB.out | apply au | apply ah | apply ak | refine ay ?_ GE118.out) | exact HB.out)⟩⟩
  case rest =>
   clear HC10
   try clear c4
   try clear hcz12_0
   try clear hcz12_1
   try clear hfz12_0
   try clear hfz12_1
   obtain ⟨kq, x6_9, rfl, HA, HJ9, BK118, HB⟩ := hcut
   cases kq with
   | zero => exact absurd HA.out (by simp [aZ.j1])
   | succ kj9 =>
    have H := HA.out
    clear HA
    simp only [aZ.j1] at H
    replace H := Option.bind_eq_some_iff.mp H
    obtain ⟨t125, A230, H⟩ := H
    replace H : ((some (([(⟨sU, sV⟩ : S31)] : List (S31)) : List (S31))).bind fun y128 => (if t125.length + y128.length < 5864062014805 then ((some (aZ.jD t125 x6_9 y128 : List (S31))).bind fun y131 => ((bg.f kj9 y131).bind fun t134 => (if t134 = true then (some (y131, true)) else ((aV.f l0).bind fun t135 => (some (t135, false)))))) else (none))) = some (r1, r2) := H
    have A23 := aj.mk A230
    clear A230
    obtain ⟨y128, hy128⟩ : ∃ y_ : List (S31), y_ = (([(⟨sU, sV⟩ : S31)] : List (S31))) := ⟨_, rfl⟩
    replace H : (if t125.length + y128.length < 5864062014805 then ((some (aZ.jD t125 x6_9 y128 : List (S31))).bind fun y131 => ((bg.f kj9 y131).bind fun t134 => (if t134 = true then (some (y131, true)) else ((aV.f l0).bind fun t135 => (some (t135, false)))))) else (none)) = some (r1, r2) := by first | (rw [hy128]; with_reducible exact H) | (have H2_ := (Option.bind_some _ _).symm.trans H; rw [hy128]; with_reducible exact H2_) | (have H2_ := (Option.bind_some _ _).symm.trans H; with_reducible exact H2_) | with_reducible exact H | (rw [hy128]; exact H) | exact H
    have Ny128 := aj.mk hy128
    clear hy128
    by_cases c24 : t125.length + y128.length < 5864062014805
    ·rw [if_pos c24] at H
     have LMc24 := aj.mk c24
     clear c24
     obtain ⟨y131, hy131⟩ : ∃ y_ : List (S31), y_ = (aZ.jD t125 x6_9 y128) := ⟨_, rfl⟩
     replace H : ((bg.f kj9 y131).bind fun t134 => (if t134 = true then (some (y131, true)) else ((aV.f l0).bind fun t135 => (some (t135, false))))) = some (r1, r2) := by first | (rw [hy131]; with_reducible exact H) | (have H2_ := (Option.bind_some _ _).symm.trans H; rw [hy131]; with_reducible exact H2_) | (have H2_ := (Option.bind_some _ _).symm.trans H; with_reducible exact H2_) | with_reducible exact H | (rw [hy131]; exact H) | exact H
     have Ny131 := aj.mk hy131
     clear hy131
     replace H := Option.bind_eq_some_iff.mp H
     obtain ⟨t134, A250, H⟩ := H
     replace H : (if t134 = true then (some (y131, true)) else ((aV.f l0).bind fun t135 => (some (t135, false)))) = some (r1, r2) := H
     have A25 := aj.mk A250
     clear A250
     by_cases c26 : t134 = true
     ·subst c26
      have H1 : (some (y131, true)) = some (r1, r2) := by rw [if_pos rfl] at H; exact H
      clear H
      have H := H1
      clear H1
      simp only [Option.some.injEq, Prod.mk.injEq] at H
      obtain ⟨rfl, rfl⟩ := H
      try go_wp2
      have n0_ := aj.mk (aD BK118.out)
      have n1_ := aj.mk (ak HB.out)
      clear BK118
      clear HB
      have BK118 := n0_
      have HB := n1_
      clear n0_ n1_
      refine fK (n := 7) (S := fun w' => w'.cell? ⟨gb118, 0, none⟩ = some (.string sU) ∧ w'.cell? ⟨gb118, 1, none⟩ = some (.int .i64 sV)) (ds := []) #[false, false, false, false, false, false, false] (by kernel_rfl) rfl rfl ⟨(aT BK118.out 0).trans rfl, (aT BK118.out 1).trans rfl⟩ (fun hHeld => ?_)
      generalize wc.drew = w27 at BK118 HB hHeld ⊢
      refine aX (i := 0) (N := some 27) (v := ?_) (a' := ?_) #[true, false, false, false, false, false, false] rfl rfl (by kernel_rfl) (fun _ _ _ h => h) (Or.inl ⟨by rfl, ?_⟩) ?_ ?_
      rotate_left
      ·intro w'
       go_simp
       with_reducible rfl
      rotate_left
      ·simp only [Act.put, List.setIfInBounds_toArray, List.set_cons_zero, List.set_cons_succ, aG, aH]
       rfl
      refine aX (i := 2) (N := some 29) (v := ?_) (a' := ?_) #[true, false, true, false, false, false, false] rfl rfl (by kernel_rfl) (fun _ _ _ h => h) (Or.inl ⟨by rfl, ?_⟩) ?_ ?_
      rotate_left
      ·intro w'
       go_simp
       with_reducible rfl
      rotate_left
      ·simp only [Act.put, List.setIfInBounds_toArray, List.set_cons_zero, List.set_cons_succ, aG, aH]
       rfl
      refine eO (i := 3) (N := some 30) (v := ?_) (a' := ?_) #[true, false, true, true, false, false, false] rfl rfl (by kernel_rfl) (fun _ _ _ h => h) (Or.inl ⟨by rfl, ?_⟩) hHeld ?_ ?_
      rotate_left
      ·rintro w' ⟨s0, s1⟩
       go_simp
       with_reducible rfl
      rotate_left
      ·simp only [Act.put, List.setIfInBounds_toArray, List.set_cons_zero, List.set_cons_succ, aG, aH]
       rfl
      refine nI (σ := Value × Value) 2 #[true, true, true, true, true, false, false] (fun s_ => [(28, s_.1), (31, s_.2)]) (fun s_ w' => (w'.cell? ⟨gb118, 0, none⟩ = some (.string sU) ∧ w'.cell? ⟨gb118, 1, none⟩ = some (.int .i64 sV)) ∧ (Kd.R k31 31 w' w.heap.size (fun k_ => some k_ ≠ (s_.2 : Value).ownBlock ∧ k_ ≠ gb118) s_.1 t125) ∧ (Kd.R k31 31 w' w.heap.size (fun k_ => some k_ ≠ (s_.1 : Value).ownBlock ∧ k_ ≠ gb118) s_.2 y128) ∧ (w'.heap[gb118]? = some (.cells #[.string sU, .int .i64 sV] 31 (0, 0))) ∧ (Below w.heap.size w w')) ?_ ?_
      rotate_left
      ·intro hCont
       refine nX (i := 1) (j := 4) (Ni := some 28) (Nj := some 31) #[true, true, true, true, false, false, false] #[true, false, true, true, true, false, false] rfl rfl rfl rfl (by kernel_rfl) (by decide) (by decide) (fun K hK => ?_) (fun K hK => ?_)
       ·skip
        refine fF Try.func55 (by kernel_rfl) rfl #[.slice A0 l0.length c0] (by rfl) rfl rfl (by (try simp only [List.map_toArray, List.map_cons, List.map_nil]); first | done | rfl | (simp only [List.length_drop, List.length_take]; rfl)) ?_
        with_reducible refine (aZ.jN _ _ l0 x6_9 t125 _ ?side1 ?side2 A23.out).mono ?_
        (case side1 => repeat (first | exact (Kd.dS HR0.out HB.out) | (with_reducible refine Kd.bU ?_ _) | (with_reducible refine Kd.bV ?_ _) | (with_reducible refine Kd.cB ?_)))
        (case side2 => exact HC0.out)
        rintro e w28 ⟨v126, rfl, ho0, hb⟩
        refine ⟨_, rfl, ?_⟩
        have n0_ := aj.mk (Kd.cK (Kd.fq ho0 (g := gb118) (o := .cells #[.string sU, .int .i64 sV] 31 (0, 0)) (by (with_reducible repeat (first | refine aA ?_ _ | refine aD ?_ | refine aC ?_ _)); exact BK118.out)) (bf (by repeat (first | (with_reducible first | exact HB.out | apply au | apply ah | apply ak | refine ay ?_ GE118.out) | exact HB.out))))
        have n1_ := aj.mk (bI (g := gb118) (o := .cells #[.string sU, .int .i64 sV] 31 (0, 0)) (by (with_reducible repeat (first | refine aA ?_ _ | refine aD ?_ | refine aC ?_ _)); exact BK118.out) hb)
        have n2_ := aj.mk (aY (by repeat (first | (with_reducible first | exact HB.out | apply au | apply ah | apply ak | refine ay ?_ GE118.out) | exact HB.out)) hb)
        clear BK118
        clear HB
        have HO127 := n0_
        have BK118 := n1_
        have HB := n2_
        clear n0_ n1_ n2_
        (try clear hb)
        (try clear hb2)
        (try clear hk)
        (try clear hi)
        (try clear ho0)
        refine hK.out _ _ ⟨(aT BK118.out 0).trans rfl, (aT BK118.out 1).trans rfl⟩ (fun hHeld => ?_)
        clear hK K
        refine dw (a' := ?_) ?_ ?_
        rotate_left
        ·show Act.put _ (some 28) _ = _
         simp only [Act.put, List.setIfInBounds_toArray, List.set_cons_zero, List.set_cons_succ, aG, aH]
         rfl
        refine fE (i := 4) (N := some 31) #[true, true, true, true, true, false, false] rfl rfl (by kernel_rfl) (by decide) (fun K hK => ?_)
        refine Kd.eB k31 _ 31 ?hg (N := 31) ?hd (xs := ([(⟨sU, sV⟩ : S31)] : List (S31))) (inner := [.string sU, .int .i64 sV]) (ok := fun _ => True) (okp := fun _ => True) ?hr ?hp (fun _ hk => hk) trivial (Below.refl _ _) (Nat.le_refl _) (by simp) ?_; (case hd => rfl); (case hg => rfl); (case hr => first | (go_simp; done) | (go_simp; rfl)); (case hp => exact (bZ.c2 (show Kd.M k31 _ _ _ (⟨sU, sV⟩ : S31) [.string sU, .int .i64 sV] from (gD _ _ _ (⟨sU, sV⟩ : S31) )) (bZ.none _ _)))
        intro v129 w29 ho30 hb hg_ hnew_
        clear hg_ hnew_
        (first | rw [← Ny128.out] at ho30 | (simp only [Int.reduceToNat] at ho30; rw [← Ny128.out] at ho30))
        have n0_ := aj.mk (Kd.eT (by (with_reducible repeat (first | apply Kd.aN | apply Kd.aM | apply Kd.aW)); exact HO127.out) (Kd.fZ ho30) hb)
        have n1_ := aj.mk (Kd.cK (Kd.fq (Kd.gq ho30 (Kd.gM (by (with_reducible repeat (first | apply Kd.aN | apply Kd.aM | apply Kd.aW)); exact HO127.out))) (g := gb118) (o := .cells #[.string sU, .int .i64 sV] 31 (0, 0)) (by (with_reducible repeat (first | refine aA ?_ _ | refine aD ?_ | refine aC ?_ _)); exact BK118.out)) (bf (by repeat (first | (with_reducible first | exact HB.out | apply au | apply ah | apply ak | refine ay ?_ GE118.out) | exact HB.out))))
        have n2_ := aj.mk (bI (g := gb118) (o := .cells #[.string sU, .int .i64 sV] 31 (0, 0)) (by (with_reducible repeat (first | refine aA ?_ _ | refine aD ?_ | refine aC ?_ _)); exact BK118.out) hb)
        have n3_ := aj.mk (aY (by repeat (first | (with_reducible first | exact HB.out | apply au | apply ah | apply ak | refine ay ?_ GE118.out) | exact HB.out)) hb)
        clear HO127
        clear BK118
        clear HB
        have HO127 := n0_
        have HO130 := n1_
        have BK118 := n2_
        have HB := n3_
        clear n0_ n1_ n2_ n3_
        clear hb ho30
        refine hK.out _ _ ⟨(aT BK118.out 0).trans rfl, (aT BK118.out 1).trans rfl⟩ (fun hHeld => ?_)
        clear hK K
        refine dw (a' := ?_) ?_ ?_
        rotate_left
        ·show Act.put _ (some 31) _ = _
         simp only [Act.put, List.setIfInBounds_toArray, List.set_cons_zero, List.set_cons_succ, aG, aH]
         rfl
        exact dw (by simp only [gG, Act.put, List.setIfInBounds_toArray, List.set_cons_zero, List.set_cons_succ]) (hCont (v126, v129) _ ⟨hHeld, (by (with_reducible repeat (first | apply Kd.aN | apply Kd.aM | apply Kd.aW)); exact Kd.bO HO127.out (fun _ hk => ⟨hk.2, hk.1.2⟩)), (by (with_reducible repeat (first | apply Kd.aN | apply Kd.aM | apply Kd.aW)); exact Kd.bO HO130.out (fun _ hk => ⟨hk.1.2, hk.2⟩)), (by (with_reducible repeat (first | refine aA ?_ _ | refine aD ?_ | refine aC ?_ _)); exact BK118.out), (by repeat (first | (with_reducible first | exact HB.out | apply au | apply ah | apply ak | refine ay ?_ GE118.out) | exact HB.out))⟩)
       ·skip
        refine Kd.eB k31 _ 31 ?hg (N := 31) ?hd (xs := ([(⟨sU, sV⟩ : S31)] : List (S31))) (inner := [.string sU, .int .i64 sV]) (ok := fun _ => True) (okp := fun _ => True) ?hr ?hp (fun _ hk => hk) trivial (Below.refl _ _) (Nat.le_refl _) (by simp) ?_; (case hd => rfl); (case hg => rfl); (case hr => first | (go_simp; done) | (go_simp; rfl)); (case hp => exact (bZ.c2 (show Kd.M k31 _ _ _ (⟨sU, sV⟩ : S31) [.string sU, .int .i64 sV] from (gD _ _ _ (⟨sU, sV⟩ : S31) )) (bZ.none _ _)))
        intro v129 w28 ho29 hb hg_ hnew_
        clear hg_ hnew_
        (first | rw [← Ny128.out] at ho29 | (simp only [Int.reduceToNat] at ho29; rw [← Ny128.out] at ho29))
        have n0_ := aj.mk (Kd.cK (Kd.fq ho29 (g := gb118) (o := .cells #[.string sU, .int .i64 sV] 31 (0, 0)) (by (with_reducible repeat (first | refine aA ?_ _ | refine aD ?_ | refine aC ?_ _)); exact BK118.out)) (bf (by repeat (first | (with_reducible first | exact HB.out | apply au | apply ah | apply ak | refine ay ?_ GE118.out) | exact HB.out))))
        have n1_ := aj.mk (bI (g := gb118) (o := .cells #[.string sU, .int .i64 sV] 31 (0, 0)) (by (with_reducible repeat (first | refine aA ?_ _ | refine aD ?_ | refine aC ?_ _)); exact BK118.out) hb)
        have n2_ := aj.mk (aY (by repeat (first | (with_reducible first | exact HB.out | apply au | apply ah | apply ak | refine ay ?_ GE118.out) | exact HB.out)) hb)
        clear BK118
        clear HB
        have HO130 := n0_
        have BK118 := n1_
        have HB := n2_
        clear n0_ n1_ n2_
        clear hb ho29
        refine hK.out _ _ ⟨(aT BK118.out 0).trans rfl, (aT BK118.out 1).trans rfl⟩ (fun hHeld => ?_)
        clear hK K
        refine dw (a' := ?_) ?_ ?_
        rotate_left
        ·show Act.put _ (some 31) _ = _
         simp only [Act.put, List.setIfInBounds_toArray, List.set_cons_zero, List.set_cons_succ, aG, aH]
         rfl
        refine fE (i := 1) (N := some 28) #[true, true, true, true, true, false, false] rfl rfl (by kernel_rfl) (by decide) (fun K hK => ?_)
        refine fF Try.func55 (by kernel_rfl) rfl #[.slice A0 l0.length c0] (by rfl) rfl rfl (by (try simp only [List.map_toArray, List.map_cons, List.map_nil]); first | done | rfl | (simp only [List.length_drop, List.length_take]; rfl)) ?_
        with_reducible refine (aZ.jN _ _ l0 x6_9 t125 _ ?side1 ?side2 A23.out).mono ?_
        (case side1 => repeat (first | exact (Kd.dS HR0.out HB.out) | (with_reducible refine Kd.bU ?_ _) | (with_reducible refine Kd.bV ?_ _) | (with_reducible refine Kd.cB ?_)))
        (case side2 => exact HC0.out)
        rintro e w30 ⟨v126, rfl, ho0, hb⟩
        refine ⟨_, rfl, ?_⟩
        have n0_ := aj.mk (Kd.eT (by (with_reducible repeat (first | apply Kd.aN | apply Kd.aM | apply Kd.aW)); exact HO130.out) (Kd.fZ ho0) hb)
        have n1_ := aj.mk (Kd.cK (Kd.fq (Kd.gq ho0 (Kd.gM (by (with_reducible repeat (first | apply Kd.aN | apply Kd.aM | apply Kd.aW)); exact HO130.out))) (g := gb118) (o := .cells #[.string sU, .int .i64 sV] 31 (0, 0)) (by (with_reducible repeat (first | refine aA ?_ _ | refine aD ?_ | refine aC ?_ _)); exact BK118.out)) (bf (by repeat (first | (with_reducible first | exact HB.out | apply au | apply ah | apply ak | refine ay ?_ GE118.out) | exact HB.out))))
        have n2_ := aj.mk (bI (g := gb118) (o := .cells #[.string sU, .int .i64 sV] 31 (0, 0)) (by (with_reducible repeat (first | refine aA ?_ _ | refine aD ?_ | refine aC ?_ _)); exact BK118.out) hb)
        have n3_ := aj.mk (aY (by repeat (first | (with_reducible first | exact HB.out | apply au | apply ah | apply ak | refine ay ?_ GE118.out) | exact HB.out)) hb)
        clear HO130
        clear BK118
        clear HB
        have HO130 := n0_
        have HO127 := n1_
        have BK118 := n2_
        have HB := n3_
        clear n0_ n1_ n2_ n3_
        (try clear hb)
        (try clear hb2)
        (try clear hk)
        (try clear hi)
        (try clear ho0)
        refine hK.out _ _ ⟨(aT BK118.out 0).trans rfl, (aT BK118.out 1).trans rfl⟩ (fun hHeld => ?_)
        clear hK K
        refine dw (a' := ?_) ?_ ?_
        rotate_left
        ·show Act.put _ (some 28) _ = _
         simp only [Act.put, List.setIfInBounds_toArray, List.set_cons_zero, List.set_cons_succ, aG, aH]
         rfl
        exact dw (by simp only [gG, Act.put, List.setIfInBounds_toArray, List.set_cons_zero, List.set_cons_succ]) (hCont (v126, v129) _ ⟨hHeld, (by (with_reducible repeat (first | apply Kd.aN | apply Kd.aM | apply Kd.aW)); exact Kd.bO HO127.out (fun _ hk => ⟨hk.1.2, hk.2⟩)), (by (with_reducible repeat (first | apply Kd.aN | apply Kd.aM | apply Kd.aW)); exact Kd.bO HO130.out (fun _ hk => ⟨hk.2, hk.1.2⟩)), (by (with_reducible repeat (first | refine aA ?_ _ | refine aD ?_ | refine aC ?_ _)); exact BK118.out), (by repeat (first | (with_reducible first | exact HB.out | apply au | apply ah | apply ak | refine ay ?_ GE118.out) | exact HB.out))⟩)
      rintro ⟨v126, v129⟩ w31 ⟨hS_, h0_, h1_, h2_, h3_⟩
      have n0_ : aj (Kd.R k31 31 w31 w.heap.size (fun k_ => some k_ ≠ (v129 : Value).ownBlock ∧ k_ ≠ gb118) v126 t125) := ⟨h0_⟩
      have n1_ : aj (Kd.R k31 31 w31 w.heap.size (fun k_ => some k_ ≠ (v126 : Value).ownBlock ∧ k_ ≠ gb118) v129 y128) := ⟨h1_⟩
      have n2_ : aj (w31.heap[gb118]? = some (.cells #[.string sU, .int .i64 sV] 31 (0, 0))) := ⟨h2_⟩
      have n3_ : aj (Below w.heap.size w w31) := ⟨h3_⟩
      clear BK118
      clear HB
      clear h0_ h1_ h2_ h3_
      have HO127 := n0_
      have HO130 := n1_
      have BK118 := n2_
      have HB := n3_
      clear n0_ n1_ n2_ n3_
      have hHeld : w31.cell? ⟨gb118, 0, none⟩ = some (.string sU) ∧ w31.cell? ⟨gb118, 1, none⟩ = some (.int .i64 sV) := hS_
      obtain ⟨Ao33, co33, eo33⟩ := Kd.dO HO130.out
      (first | subst eo33 | (injection eo33 with f1_ f2_ f3_; have f4_ := f1_.symm; have f5_ := f3_.symm; clear f1_ f2_ f3_; subst f4_; subst f5_))
      refine dw (a' := ?_) ?_ ?_
      rotate_left
      ·simp only [gG, Act.put, List.setIfInBounds_toArray, List.set_cons_zero, List.set_cons_succ]
       rfl
      refine fE (i := 5) (N := some 32) #[true, true, true, true, true, true, false] rfl rfl (by kernel_rfl) (by decide) (fun K hK => ?_)
      refine fF Try.func57 (by kernel_rfl) rfl #[v126, .int .i64 x6_9, .slice Ao33 y128.length co33] (by rfl) rfl rfl (by (try simp only [List.map_toArray, List.map_cons, List.map_nil]); first | done | rfl | (simp only [List.length_drop, List.length_take]; rfl)) ?_
      refine (aZ.ins (w0 := w) w.heap.size v126 (.slice Ao33 y128.length co33) t125 y128 x6_9 (fun k_ => some k_ ≠ (.slice Ao33 y128.length co33 : Value).ownBlock ∧ k_ ≠ gb118) ?ok718 ?aO ?aR ?aQ (fun _ hk => hk.1) ?aF ?aB ?aS ?aL ?aI).mono ?_
      (case aR => exact (by (with_reducible repeat (first | apply Kd.aN | apply Kd.aM | apply Kd.aW)); exact HO130.out))
      (case aB => exact (by repeat (first | (with_reducible first | exact HB.out | apply au | apply ah | apply ak | refine ay ?_ GE118.out) | exact HB.out)))
      (case aF => exact (fun k_ hk => ⟨Kd.fresh' (Kd.gM (by (with_reducible repeat (first | apply Kd.aN | apply Kd.aM | apply Kd.aW)); exact HO130.out)) k_ hk, Kd.gJ (g := gb118) (o := .cells #[.string sU, .int .i64 sV] 31 (0, 0)) (by (with_reducible repeat (first | refine aA ?_ _ | refine aD ?_ | refine aC ?_ _)); exact BK118.out) k_ hk⟩))
      (case aO => exact (by (with_reducible repeat (first | apply Kd.aN | apply Kd.aM | apply Kd.aW)); exact HO127.out))
      (case aS => exact (bf (by repeat (first | (with_reducible first | exact HB.out | apply au | apply ah | apply ak | refine ay ?_ GE118.out) | exact HB.out))))
      (case aL => have := LMc24.out; omega)
      (case aQ => rw [Ny128.out]; rfl)
      (case aI => exact aZ.qD A23.out)
      rintro e w32 ⟨v132, rfl, ho, hb, hg, hat⟩
      refine ⟨_, rfl, ?_⟩
      rw [← Ny131.out] at ho
      have n0_ := aj.mk (eG (g := gb118) (o := .cells #[.string sU, .int .i64 sV] 31 (0, 0)) (by (with_reducible repeat (first | refine aA ?_ _ | refine aD ?_ | refine aC ?_ _)); exact BK118.out) hg (Kd.gT HO127.out (fun _ hk => hk.2)))
      have n1_ := aj.mk (Kd.gu (ok := (fun k_ => k_ ≠ gb118)) (by (with_reducible repeat (first | apply Kd.aN | apply Kd.aM | apply Kd.aW)); exact Kd.bO HO130.out (fun _ hk => ⟨hk.2, hk.1⟩)) hg hat)
      have n2_ := aj.mk (hb)
      have n3_ := aj.mk (ho)
      clear BK118
      clear HO130
      clear HB
      clear HO127
      have BK118 := n0_
      have HO130 := n1_
      have HB := n2_
      have HO133 := n3_
      clear n0_ n1_ n2_ n3_
      clear ho hb hg hat
      refine hK.out _ _ ⟨(aT BK118.out 0).trans rfl, (aT BK118.out 1).trans rfl⟩ (fun hHeld => ?_)
      clear hK K
      refine dw (a' := ?_) ?_ ?_
      rotate_left
      ·show Act.put _ (some 32) _ = _
       simp only [Act.put, List.setIfInBounds_toArray, List.set_cons_zero, List.set_cons_succ, aG, aH]
       rfl
      refine aX (i := 6) (N := some 7) (v := ?_) (a' := ?_) #[true, true, true, true, true, true, true] rfl rfl (by kernel_rfl) (fun _ _ _ h => h) (Or.inl ⟨by rfl, ?_⟩) ?_ ?_
      rotate_left
      ·intro w'
       go_simp
       with_reducible rfl
      rotate_left
      ·simp only [Act.put, List.setIfInBounds_toArray, List.set_cons_zero, List.set_cons_succ, aG, aH]
       rfl
      refine gU (by kernel_rfl) ?_
      obtain ⟨Ao34, co34, eo34⟩ := Kd.dO HO133.out
      subst eo34
      try go_wp2_with (first | ((with_reducible refine bq (f := 21) rfl ?_); refine bT (some 34) rfl rfl Try.func21 (by kernel_rfl) rfl #[.slice Ao34 y131.length co34] rfl (by (try simp only [List.map_toArray, List.map_cons, List.map_nil]); first | done | rfl | (simp only [List.length_drop, List.length_take]; rfl)) ?_; (with_reducible refine (bg.calls kj9 _ _ y131 true _ ?side1 ?side2 A25.out).mono ?_); (case side1 => repeat (first | exact (Kd.bJ HO133.out).2.2 | (with_reducible refine Kd.bU ?_ _) | (with_reducible refine Kd.bV ?_ _) | (with_reducible refine Kd.cB ?_))); (case side2 => exact (Kd.bJ HO133.out).2.1); rintro e w35 ⟨rfl, hb⟩; refine ⟨_, rfl, ?_⟩; have n0_ := aj.mk (Kd.bY (by (with_reducible repeat (first | apply Kd.aN | apply Kd.aM | apply Kd.aW)); exact HO130.out) hb); have n1_ := aj.mk (Kd.bY (by (with_reducible repeat (first | apply Kd.aN | apply Kd.aM | apply Kd.aW)); exact HO133.out) hb); have n2_ := aj.mk (bI (g := gb118) (o := .cells #[.string sU, .int .i64 sV] 31 (0, 0)) (by (with_reducible repeat (first | refine aA ?_ _ | refine aD ?_ | refine aC ?_ _)); exact BK118.out) hb); have n3_ := aj.mk (aY (by repeat (first | (with_reducible first | exact HB.out | apply au | apply ah | apply ak | refine ay ?_ GE118.out) | exact HB.out)) hb); clear HO130; clear HO133; clear BK118; clear HB; have HO130 := n0_; have HO133 := n1_; have BK118 := n2_; have HB := n3_; clear n0_ n1_ n2_ n3_; (try clear hb); (try clear hb2); (try clear hk); (try clear hi)))
      go_ret2
      exact ⟨_, by first | rfl | (simp [bA, bB] <;> rfl) | (simp [*, bA, bB] <;> rfl), by (with_reducible repeat (first | apply Kd.aN | apply Kd.aM | apply Kd.aW)); exact Kd.bO HO133.out (fun _ hk => trivial), by repeat (first | (with_reducible first | exact HB.out | apply au | apply ah | apply ak | refine ay ?_ GE118.out) | exact HB.out)⟩
     ·replace c26 := Bool.eq_false_iff.mpr c26
      subst c26
      have H1 : ((aV.f l0).bind fun t135 => (some (t135, false))) = some (r1, r2) := by rw [if_neg (show ¬ (false = true) by decide)] at H; exact H
      clear H
      have H := H1
      clear H1
      replace H := Option.bind_eq_some_iff.mp H
      obtain ⟨t135, A360, H⟩ := H
      replace H : (some (t135, false)) = some (r1, r2) := H
      have A36 := aj.mk A360
      clear A360
      simp only [Option.some.injEq, Prod.mk.injEq] at H
      obtain ⟨rfl, rfl⟩ := H
      try go_wp2
      have n0_ := aj.mk (aD BK118.out)
      have n1_ := aj.mk (ak HB.out)
      clear BK118
      clear HB
      have BK118 := n0_
      have HB := n1_
      clear n0_ n1_
      refine fK (n := 7) (S := fun w' => w'.cell? ⟨gb118, 0, none⟩ = some (.string sU) ∧ w'.cell? ⟨gb118, 1, none⟩ = some (.int .i64 sV)) (ds := []) #[false, false, false, false, false, false, false] (by kernel_rfl) rfl rfl ⟨(aT BK118.out 0).trans rfl, (aT BK118.out 1).trans rfl⟩ (fun hHeld => ?_)
      generalize wc.drew = w37 at BK118 HB hHeld ⊢
      refine aX (i := 0) (N := some 27) (v := ?_) (a' := ?_) #[true, false, false, false, false, false, false] rfl rfl (by kernel_rfl) (fun _ _ _ h => h) (Or.inl ⟨by rfl, ?_⟩) ?_ ?_
      rotate_left
      ·intro w'
       go_simp
       with_reducible rfl
      rotate_left
      ·simp only [Act.put, List.setIfInBounds_toArray, List.set_cons_zero, List.set_cons_succ, aG, aH]
       rfl
      refine aX (i := 2) (N := some 29) (v := ?_) (a' := ?_) #[true, false, true, false, false, false, false] rfl rfl (by kernel_rfl) (fun _ _ _ h => h) (Or.inl ⟨by rfl, ?_⟩) ?_ ?_
      rotate_left
      ·intro w'
       go_simp
       with_reducible rfl
      rotate_left
      ·simp only [Act.put, List.setIfInBounds_toArray, List.set_cons_zero, List.set_cons_succ, aG, aH]
       rfl
      refine eO (i := 3) (N := some 30) (v := ?_) (a' := ?_) #[true, false, true, true, false, false, false] rfl rfl (by kernel_rfl) (fun _ _ _ h => h) (Or.inl ⟨by rfl, ?_⟩) hHeld ?_ ?_
      rotate_left
      ·rintro w' ⟨s0, s1⟩
       go_simp
       with_reducible rfl
      rotate_left
      ·simp only [Act.put, List.setIfInBounds_toArray, List.set_cons_zero, List.set_cons_succ, aG, aH]
       rfl
      refine nI (σ := Value × Value) 2 #[true, true, true, true, true, false, false] (fun s_ => [(28, s_.1), (31, s_.2)]) (fun s_ w' => (w'.cell? ⟨gb118, 0, none⟩ = some (.string sU) ∧ w'.cell? ⟨gb118, 1, none⟩ = some (.int .i64 sV)) ∧ (Kd.R k31 31 w' w.heap.size (fun k_ => some k_ ≠ (s_.2 : Value).ownBlock ∧ k_ ≠ gb118) s_.1 t125) ∧ (Kd.R k31 31 w' w.heap.size (fun k_ => some k_ ≠ (s_.1 : Value).ownBlock ∧ k_ ≠ gb118) s_.2 y128) ∧ (w'.heap[gb118]? = some (.cells #[.string sU, .int .i64 sV] 31 (0, 0))) ∧ (Below w.heap.size w w')) ?_ ?_
      rotate_left
      ·intro hCont
       refine nX (i := 1) (j := 4) (Ni := some 28) (Nj := some 31) #[true, true, true, true, false, false, false] #[true, false, true, true, true, false, false] rfl rfl rfl rfl (by kernel_rfl) (by decide) (by decide) (fun K hK => ?_) (fun K hK => ?_)
       ·skip
        refine fF Try.func55 (by kernel_rfl) rfl #[.slice A0 l0.length c0] (by rfl) rfl rfl (by (try simp only [List.map_toArray, List.map_cons, List.map_nil]); first | done | rfl | (simp only [List.length_drop, List.length_take]; rfl)) ?_
        with_reducible refine (aZ.jN _ _ l0 x6_9 t125 _ ?side1 ?side2 A23.out).mono ?_
        (case side1 => repeat (first | exact (Kd.dS HR0.out HB.out) | (with_reducible refine Kd.bU ?_ _) | (with_reducible refine Kd.bV ?_ _) | (with_reducible refine Kd.cB ?_)))
        (case side2 => exact HC0.out)
        rintro e w38 ⟨v126, rfl, ho0, hb⟩
        refine ⟨_, rfl, ?_⟩
        have n0_ := aj.mk (Kd.cK (Kd.fq ho0 (g := gb118) (o := .cells #[.string sU, .int .i64 sV] 31 (0, 0)) (by (with_reducible repeat (first | refine aA ?_ _ | refine aD ?_ | refine aC ?_ _)); exact BK118.out)) (bf (by repeat (first | (with_reducible first | exact HB.out | apply au | apply ah | apply ak | refine ay ?_ GE118.out) | exact HB.out))))
        have n1_ := aj.mk (bI (g := gb118) (o := .cells #[.string sU, .int .i64 sV] 31 (0, 0)) (by (with_reducible repeat (first | refine aA ?_ _ | refine aD ?_ | refine aC ?_ _)); exact BK118.out) hb)
        have n2_ := aj.mk (aY (by repeat (first | (with_reducible first | exact HB.out | apply au | apply ah | apply ak | refine ay ?_ GE118.out) | exact HB.out)) hb)
        clear BK118
        clear HB
        have HO127 := n0_
        have BK118 := n1_
        have HB := n2_
        clear n0_ n1_ n2_
        (try clear hb)
        (try clear hb2)
        (try clear hk)
        (try clear hi)
        (try clear ho0)
        refine hK.out _ _ ⟨(aT BK118.out 0).trans rfl, (aT BK118.out 1).trans rfl⟩ (fun hHeld => ?_)
        clear hK K
        refine dw (a' := ?_) ?_ ?_
        rotate_left
        ·show Act.put _ (some 28) _ = _
         simp only [Act.put, List.setIfInBounds_toArray, List.set_cons_zero, List.set_cons_succ, aG, aH]
         rfl
        refine fE (i := 4) (N := some 31) #[true, true, true, true, true, false, false] rfl rfl (by kernel_rfl) (by decide) (fun K hK => ?_)
        refine Kd.eB k31 _ 31 ?hg (N := 31) ?hd (xs := ([(⟨sU, sV⟩ : S31)] : List (S31))) (inner := [.string sU, .int .i64 sV]) (ok := fun _ => True) (okp := fun _ => True) ?hr ?hp (fun _ hk => hk) trivial (Below.refl _ _) (Nat.le_refl _) (by simp) ?_; (case hd => rfl); (case hg => rfl); (case hr => first | (go_simp; done) | (go_simp; rfl)); (case hp => exact (bZ.c2 (show Kd.M k31 _ _ _ (⟨sU, sV⟩ : S31) [.string sU, .int .i64 sV] from (gD _ _ _ (⟨sU, sV⟩ : S31) )) (bZ.none _ _)))
        intro v129 w39 ho40 hb hg_ hnew_
        clear hg_ hnew_
        (first | rw [← Ny128.out] at ho40 | (simp only [Int.reduceToNat] at ho40; rw [← Ny128.out] at ho40))
        have n0_ := aj.mk (Kd.eT (by (with_reducible repeat (first | apply Kd.aN | apply Kd.aM | apply Kd.aW)); exact HO127.out) (Kd.fZ ho40) hb)
        have n1_ := aj.mk (Kd.cK (Kd.fq (Kd.gq ho40 (Kd.gM (by (with_reducible repeat (first | apply Kd.aN | apply Kd.aM | apply Kd.aW)); exact HO127.out))) (g := gb118) (o := .cells #[.string sU, .int .i64 sV] 31 (0, 0)) (by (with_reducible repeat (first | refine aA ?_ _ | refine aD ?_ | refine aC ?_ _)); exact BK118.out)) (bf (by repeat (first | (with_reducible first | exact HB.out | apply au | apply ah | apply ak | refine ay ?_ GE118.out) | exact HB.out))))
        have n2_ := aj.mk (bI (g := gb118) (o := .cells #[.string sU, .int .i64 sV] 31 (0, 0)) (by (with_reducible repeat (first | refine aA ?_ _ | refine aD ?_ | refine aC ?_ _)); exact BK118.out) hb)
        have n3_ := aj.mk (aY (by repeat (first | (with_reducible first | exact HB.out | apply au | apply ah | apply ak | refine ay ?_ GE118.out) | exact HB.out)) hb)
        clear HO127
        clear BK118
        clear HB
        have HO127 := n0_
        have HO130 := n1_
        have BK118 := n2_
        have HB := n3_
        clear n0_ n1_ n2_ n3_
        clear hb ho40
        refine hK.out _ _ ⟨(aT BK118.out 0).trans rfl, (aT BK118.out 1).trans rfl⟩ (fun hHeld => ?_)
        clear hK K
        refine dw (a' := ?_) ?_ ?_
        rotate_left
        ·show Act.put _ (some 31) _ = _
         simp only [Act.put, List.setIfInBounds_toArray, List.set_cons_zero, List.set_cons_succ, aG, aH]
         rfl
        exact dw (by simp only [gG, Act.put, List.setIfInBounds_toArray, List.set_cons_zero, List.set_cons_succ]) (hCont (v126, v129) _ ⟨hHeld, (by (with_reducible repeat (first | apply Kd.aN | apply Kd.aM | apply Kd.aW)); exact Kd.bO HO127.out (fun _ hk => ⟨hk.2, hk.1.2⟩)), (by (with_reducible repeat (first | apply Kd.aN | apply Kd.aM | apply Kd.aW)); exact Kd.bO HO130.out (fun _ hk => ⟨hk.1.2, hk.2⟩)), (by (with_reducible repeat (first | refine aA ?_ _ | refine aD ?_ | refine aC ?_ _)); exact BK118.out), (by repeat (first | (with_reducible first | exact HB.out | apply au | apply ah | apply ak | refine ay ?_ GE118.out) | exact HB.out))⟩)
       ·skip
        refine Kd.eB k31 _ 31 ?hg (N := 31) ?hd (xs := ([(⟨sU, sV⟩ : S31)] : List (S31))) (inner := [.string sU, .int .i64 sV]) (ok := fun _ => True) (okp := fun _ => True) ?hr ?hp (fun _ hk => hk) trivial (Below.refl _ _) (Nat.le_refl _) (by simp) ?_; (case hd => rfl); (case hg => rfl); (case hr => first | (go_simp; done) | (go_simp; rfl)); (case hp => exact (bZ.c2 (show Kd.M k31 _ _ _ (⟨sU, sV⟩ : S31) [.string sU, .int .i64 sV] from (gD _ _ _ (⟨sU, sV⟩ : S31) )) (bZ.none _ _)))
        intro v129 w38 ho39 hb hg_ hnew_
        clear hg_ hnew_
        (first | rw [← Ny128.out] at ho39 | (simp only [Int.reduceToNat] at ho39; rw [← Ny128.out] at ho39))
        have n0_ := aj.mk (Kd.cK (Kd.fq ho39 (g := gb118) (o := .cells #[.string sU, .int .i64 sV] 31 (0, 0)) (by (with_reducible repeat (first | refine aA ?_ _ | refine aD ?_ | refine aC ?_ _)); exact BK118.out)) (bf (by repeat (first | (with_reducible first | exact HB.out | apply au | apply ah | apply ak | refine ay ?_ GE118.out) | exact HB.out))))
        have n1_ := aj.mk (bI (g := gb118) (o := .cells #[.string sU, .int .i64 sV] 31 (0, 0)) (by (with_reducible repeat (first | refine aA ?_ _ | refine aD ?_ | refine aC ?_ _)); exact BK118.out) hb)
        have n2_ := aj.mk (aY (by repeat (first | (with_reducible first | exact HB.out | apply au | apply ah | apply ak | refine ay ?_ GE118.out) | exact HB.out)) hb)
        clear BK118
        clear HB
        have HO130 := n0_
        have BK118 := n1_
        have HB := n2_
        clear n0_ n1_ n2_
        clear hb ho39
        refine hK.out _ _ ⟨(aT BK118.out 0).trans rfl, (aT BK118.out 1).trans rfl⟩ (fun hHeld => ?_)
        clear hK K
        refine dw (a' := ?_) ?_ ?_
        rotate_left
        ·show Act.put _ (some 31) _ = _
         simp only [Act.put, List.setIfInBounds_toArray, List.set_cons_zero, List.set_cons_succ, aG, aH]
         rfl
        refine fE (i := 1) (N := some 28) #[true, true, true, true, true, false, false] rfl rfl (by kernel_rfl) (by decide) (fun K hK => ?_)
        refine fF Try.func55 (by kernel_rfl) rfl #[.slice A0 l0.length c0] (by rfl) rfl rfl (by (try simp only [List.map_toArray, List.map_cons, List.map_nil]); first | done | rfl | (simp only [List.length_drop, List.length_take]; rfl)) ?_
        with_reducible refine (aZ.jN _ _ l0 x6_9 t125 _ ?side1 ?side2 A23.out).mono ?_
        (case side1 => repeat (first | exact (Kd.dS HR0.out HB.out) | (with_reducible refine Kd.bU ?_ _) | (with_reducible refine Kd.bV ?_ _) | (with_reducible refine Kd.cB ?_)))
        (case side2 => exact HC0.out)
        rintro e w40 ⟨v126, rfl, ho0, hb⟩
        refine ⟨_, rfl, ?_⟩
        have n0_ := aj.mk (Kd.eT (by (with_reducible repeat (first | apply Kd.aN | apply Kd.aM | apply Kd.aW)); exact HO130.out) (Kd.fZ ho0) hb)
        have n1_ := aj.mk (Kd.cK (Kd.fq (Kd.gq ho0 (Kd.gM (by (with_reducible repeat (first | apply Kd.aN | apply Kd.aM | apply Kd.aW)); exact HO130.out))) (g := gb118) (o := .cells #[.string sU, .int .i64 sV] 31 (0, 0)) (by (with_reducible repeat (first | refine aA ?_ _ | refine aD ?_ | refine aC ?_ _)); exact BK118.out)) (bf (by repeat (first | (with_reducible first | exact HB.out | apply au | apply ah | apply ak | refine ay ?_ GE118.out) | exact HB.out))))
        have n2_ := aj.mk (bI (g := gb118) (o := .cells #[.string sU, .int .i64 sV] 31 (0, 0)) (by (with_reducible repeat (first | refine aA ?_ _ | refine aD ?_ | refine aC ?_ _)); exact BK118.out) hb)
        have n3_ := aj.mk (aY (by repeat (first | (with_reducible first | exact HB.out | apply au | apply ah | apply ak | refine ay ?_ GE118.out) | exact HB.out)) hb)
        clear HO130
        clear BK118
        clear HB
        have HO130 := n0_
        have HO127 := n1_
        have BK118 := n2_
        have HB := n3_
        clear n0_ n1_ n2_ n3_
        (try clear hb)
        (try clear hb2)
        (try clear hk)
        (try clear hi)
        (try clear ho0)
        refine hK.out _ _ ⟨(aT BK118.out 0).trans rfl, (aT BK118.out 1).trans rfl⟩ (fun hHeld => ?_)
        clear hK K
        refine dw (a' := ?_) ?_ ?_
        rotate_left
        ·show Act.put _ (some 28) _ = _
         simp only [Act.put, List.setIfInBounds_toArray, List.set_cons_zero, List.set_cons_succ, aG, aH]
         rfl
        exact dw (by simp only [gG, Act.put, List.setIfInBounds_toArray, List.set_cons_zero, List.set_cons_succ]) (hCont (v126, v129) _ ⟨hHeld, (by (with_reducible repeat (first | apply Kd.aN | apply Kd.aM | apply Kd.aW)); exact Kd.bO HO127.out (fun _ hk => ⟨hk.1.2, hk.2⟩)), (by (with_reducible repeat (first | apply Kd.aN | apply Kd.aM | apply Kd.aW)); exact Kd.bO HO130.out (fun _ hk => ⟨hk.2, hk.1.2⟩)), (by (with_reducible repeat (first | refine aA ?_ _ | refine aD ?_ | refine aC ?_ _)); exact BK118.out), (by repeat (first | (with_reducible first | exact HB.out | apply au | apply ah | apply ak | refine ay ?_ GE118.out) | exact HB.out))⟩)
      rintro ⟨v126, v129⟩ w41 ⟨hS_, h0_, h1_, h2_, h3_⟩
      have n0_ : aj (Kd.R k31 31 w41 w.heap.size (fun k_ => some k_ ≠ (v129 : Value).ownBlock ∧ k_ ≠ gb118) v126 t125) := ⟨h0_⟩
      have n1_ : aj (Kd.R k31 31 w41 w.heap.size (fun k_ => some k_ ≠ (v126 : Value).ownBlock ∧ k_ ≠ gb118) v129 y128) := ⟨h1_⟩
      have n2_ : aj (w41.heap[gb118]? = some (.cells #[.string sU, .int .i64 sV] 31 (0, 0))) := ⟨h2_⟩
      have n3_ : aj (Below w.heap.size w w41) := ⟨h3_⟩
      clear BK118
      clear HB
      clear h0_ h1_ h2_ h3_
      have HO127 := n0_
      have HO130 := n1_
      have BK118 := n2_
      have HB := n3_
      clear n0_ n1_ n2_ n3_
      have hHeld : w41.cell? ⟨gb118, 0, none⟩ = some (.string sU) ∧ w41.cell? ⟨gb118, 1, none⟩ = some (.int .i64 sV) := hS_
      obtain ⟨Ao43, co43, eo43⟩ := Kd.dO HO130.out
      (first | subst eo43 | (injection eo43 with f1_ f2_ f3_; have f4_ := f1_.symm; have f5_ := f3_.symm; clear f1_ f2_ f3_; subst f4_; subst f5_))
      refine dw (a' := ?_) ?_ ?_
      rotate_left
      ·simp only [gG, Act.put, List.setIfInBounds_toArray, List.set_cons_zero, List.set_cons_succ]
       rfl
      refine fE (i := 5) (N := some 32) #[true, true, true, true, true, true, false] rfl rfl (by kernel_rfl) (by decide) (fun K hK => ?_)
      refine fF Try.func57 (by kernel_rfl) rfl #[v126, .int .i64 x6_9, .slice Ao43 y128.length co43] (by rfl) rfl rfl (by (try simp only [List.map_toArray, List.map_cons, List.map_nil]); first | done | rfl | (simp only [List.length_drop, List.length_take]; rfl)) ?_
      refine (aZ.ins (w0 := w) w.heap.size v126 (.slice Ao43 y128.length co43) t125 y128 x6_9 (fun k_ => some k_ ≠ (.slice Ao43 y128.length co43 : Value).ownBlock ∧ k_ ≠ gb118) ?ok942 ?aO ?aR ?aQ (fun _ hk => hk.1) ?aF ?aB ?aS ?aL ?aI).mono ?_
      (case aR => exact (by (with_reducible repeat (first | apply Kd.aN | apply Kd.aM | apply Kd.aW)); exact HO130.out))
      (case aB => exact (by repeat (first | (with_reducible first | exact HB.out | apply au | apply ah | apply ak | refine ay ?_ GE118.out) | exact HB.out)))
      (case aF => exact (fun k_ hk => ⟨Kd.fresh' (Kd.gM (by (with_reducible repeat (first | apply Kd.aN | apply Kd.aM | apply Kd.aW)); exact HO130.out)) k_ hk, Kd.gJ (g := gb118) (o := .cells #[.string sU, .int .i64 sV] 31 (0, 0)) (by (with_reducible repeat (first | refine aA ?_ _ | refine aD ?_ | refine aC ?_ _)); exact BK118.out) k_ hk⟩))
      (case aO => exact (by (with_reducible repeat (first | apply Kd.aN | apply Kd.aM | apply Kd.aW)); exact HO127.out))
      (case aS => exact (bf (by repeat (first | (with_reducible first | exact HB.out | apply au | apply ah | apply ak | refine ay ?_ GE118.out) | exact HB.out))))
      (case aL => have := LMc24.out; omega)
      (case aQ => rw [Ny128.out]; rfl)
      (case aI => exact aZ.qD A23.out)
      rintro e w42 ⟨v132, rfl, ho, hb, hg, hat⟩
      refine ⟨_, rfl, ?_⟩
      rw [← Ny131.out] at ho
      have n0_ := aj.mk (eG (g := gb118) (o := .cells #[.string sU, .int .i64 sV] 31 (0, 0)) (by (with_reducible repeat (first | refine aA ?_ _ | refine aD ?_ | refine aC ?_ _)); exact BK118.out) hg (Kd.gT HO127.out (fun _ hk => hk.2)))
      have n1_ := aj.mk (Kd.gu (ok := (fun k_ => k_ ≠ gb118)) (by (with_reducible repeat (first | apply Kd.aN | apply Kd.aM | apply Kd.aW)); exact Kd.bO HO130.out (fun _ hk => ⟨hk.2, hk.1⟩)) hg hat)
      have n2_ := aj.mk (hb)
      have n3_ := aj.mk (ho)
      clear BK118
      clear HO130
      clear HB
      clear HO127
      have BK118 := n0_
      have HO130 := n1_
      have HB := n2_
      have HO133 := n3_
      clear n0_ n1_ n2_ n3_
      clear ho hb hg hat
      refine hK.out _ _ ⟨(aT BK118.out 0).trans rfl, (aT BK118.out 1).trans rfl⟩ (fun hHeld => ?_)
      clear hK K
      refine dw (a' := ?_) ?_ ?_
      rotate_left
      ·show Act.put _ (some 32) _ = _
       simp only [Act.put, List.setIfInBounds_toArray, List.set_cons_zero, List.set_cons_succ, aG, aH]
       rfl
      refine aX (i := 6) (N := some 7) (v := ?_) (a' := ?_) #[true, true, true, true, true, true, true] rfl rfl (by kernel_rfl) (fun _ _ _ h => h) (Or.inl ⟨by rfl, ?_⟩) ?_ ?_
      rotate_left
      ·intro w'
       go_simp
       with_reducible rfl
      rotate_left
      ·simp only [Act.put, List.setIfInBounds_toArray, List.set_cons_zero, List.set_cons_succ, aG, aH]
       rfl
      refine gU (by kernel_rfl) ?_
      obtain ⟨Ao44, co44, eo44⟩ := Kd.dO HO133.out
      subst eo44
      try go_wp2_with (first | ((with_reducible refine bq (f := 21) rfl ?_); refine bT (some 34) rfl rfl Try.func21 (by kernel_rfl) rfl #[.slice Ao44 y131.length co44] rfl (by (try simp only [List.map_toArray, List.map_cons, List.map_nil]); first | done | rfl | (simp only [List.length_drop, List.length_take]; rfl)) ?_; (with_reducible refine (bg.calls kj9 _ _ y131 false _ ?side1 ?side2 A25.out).mono ?_); (case side1 => repeat (first | exact (Kd.bJ HO133.out).2.2 | (with_reducible refine Kd.bU ?_ _) | (with_reducible refine Kd.bV ?_ _) | (with_reducible refine Kd.cB ?_))); (case side2 => exact (Kd.bJ HO133.out).2.1); rintro e w45 ⟨rfl, hb⟩; refine ⟨_, rfl, ?_⟩; have n0_ := aj.mk (Kd.bY (by (with_reducible repeat (first | apply Kd.aN | apply Kd.aM | apply Kd.aW)); exact HO130.out) hb); have n1_ := aj.mk (Kd.bY (by (with_reducible repeat (first | apply Kd.aN | apply Kd.aM | apply Kd.aW)); exact HO133.out) hb); have n2_ := aj.mk (bI (g := gb118) (o := .cells #[.string sU, .int .i64 sV] 31 (0, 0)) (by (with_reducible repeat (first | refine aA ?_ _ | refine aD ?_ | refine aC ?_ _)); exact BK118.out) hb); have n3_ := aj.mk (aY (by repeat (first | (with_reducible first | exact HB.out | apply au | apply ah | apply ak | refine ay ?_ GE118.out) | exact HB.out)) hb); clear HO130; clear HO133; clear BK118; clear HB; have HO130 := n0_; have HO133 := n1_; have BK118 := n2_; have HB := n3_; clear n0_ n1_ n2_ n3_; (try clear hb); (try clear hb2); (try clear hk); (try clear hi)) | ((with_reducible refine bq (f := 55) rfl ?_); refine bT (some 37) rfl rfl Try.func55 (by kernel_rfl) rfl #[.slice A0 l0.length c0] rfl (by (try simp only [List.map_toArray, List.map_cons, List.map_nil]); first | done | rfl | (simp only [List.length_drop, List.length_take]; rfl)) ?_; (with_reducible refine (aV.calls _ _ l0 t135 _ ?side1 ?side2 A36.out).mono ?_); (case side1 => repeat (first | exact (Kd.dS HR0.out HB.out) | (with_reducible refine Kd.bU ?_ _) | (with_reducible refine Kd.bV ?_ _) | (with_reducible refine Kd.cB ?_))); (case side2 => exact HC0.out); rintro e w46 ⟨v136, rfl, ho0, hb⟩; refine ⟨_, rfl, ?_⟩; have n0_ := aj.mk (Kd.eT (by (with_reducible repeat (first | apply Kd.aN | apply Kd.aM | apply Kd.aW)); exact HO130.out) (Kd.fZ ho0) hb); have n1_ := aj.mk (Kd.eT (by (with_reducible repeat (first | apply Kd.aN | apply Kd.aM | apply Kd.aW)); exact HO133.out) (Kd.fZ ho0) hb); have n2_ := aj.mk (Kd.cK (Kd.fq (Kd.gq (Kd.gq ho0 (Kd.gM (by (with_reducible repeat (first | apply Kd.aN | apply Kd.aM | apply Kd.aW)); exact HO130.out))) (Kd.gM (by (with_reducible repeat (first | apply Kd.aN | apply Kd.aM | apply Kd.aW)); exact HO133.out))) (g := gb118) (o := .cells #[.string sU, .int .i64 sV] 31 (0, 0)) (by (with_reducible repeat (first | refine aA ?_ _ | refine aD ?_ | refine aC ?_ _)); exact BK118.out)) (bf (by repeat (first | (with_reducible first | exact HB.out | apply au | apply ah | apply ak | refine ay ?_ GE118.out) | exact HB.out)))); have n3_ := aj.mk (bI (g := gb118) (o := .cells #[.string sU, .int .i64 sV] 31 (0, 0)) (by (with_reducible repeat (first | refine aA ?_ _ | refine aD ?_ | refine aC ?_ _)); exact BK118.out) hb); have n4_ := aj.mk (aY (by repeat (first | (with_reducible first | exact HB.out | apply au | apply ah | apply ak | refine ay ?_ GE118.out) | exact HB.out)) hb); clear HO130; clear HO133; clear BK118; clear HB; have HO130 := n0_; have HO133 := n1_; have HO137 := n2_; have BK118 := n3_; have HB := n4_; clear n0_ n1_ n2_ n3_ n4_; (try clear hb); (try clear hb2); (try clear hk); (try clear hi); (try clear ho0)))
      go_ret2
      exact ⟨_, by first | rfl | (simp [bA, bB] <;> rfl) | (simp [*, bA, bB] <;> rfl), by (with_reducible repeat (first | apply Kd.aN | apply Kd.aM | apply Kd.aW)); exact Kd.bO HO137.out (fun _ hk => trivial), by repeat (first | (with_reducible first | exact HB.out | apply au | apply ah | apply ak | refine ay ?_ GE118.out) | exact HB.out)⟩
    ·rw [if_neg c24] at H
     exact absurd H (by simp)
end Go.Proofs.Ythjcicmmbmagbaa.PFnSenses
