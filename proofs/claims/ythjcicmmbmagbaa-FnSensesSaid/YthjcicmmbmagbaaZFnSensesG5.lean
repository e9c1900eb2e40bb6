/- Walks of functions: what each computes. -/
import Derived.Test.YthjcicmmbmagbaaZFnSensesG0
import Derived.Test.YthjcicmmbmagbaaZFnSensesG3
import Derived.Test.YthjcicmmbmagbaaZFnSensesG4
import Derived.Test.YthjcicmmbmagbaaZFnSensesW
import Derived.Test.YthjcicmmbmagbaaZFnSensesHandForm
import Derived.Test.YthjcicmmbmagbaaZFnSensesHandAlone
import Derived.Test.YthjcicmmbmagbaaZFnSensesHandIns
import Derived.Test.YthjcicmmbmagbaaZFnSensesHandRead
namespace Go.Proofs.Ythjcicmmbmagbaa.PFnSenses
open Go.RowKit Go.Proofs.YthjcicmmbmagbaaW.PrintWords Go.Proofs.YthjcicmmbmagbaaW.PrintLast Go.Proofs.YthjcicmmbmagbaaW.PrintMore
attribute [local go_sem] iF iG iR iQ ig gW iE iD
set_option linter.unusedVariables false
set_option linter.unusedSimpArgs false
mutual
def bD.j1 : Nat → List (S31) → Int → ByteArray → Int → Option ((List (S31)) × Bool)
 | 0, _, _, _, _ => none
 | k + 1, x0, x6, x190000, x190001 => (some (([] : List (S31)) : List (S31))).bind fun y192 => (if 0 ≤ x6 then (if x6 ≤ (x0.length : Int) then ((some (x0.take (x6 : Int).toNat : List (S31))).bind fun y195 => (if y192.length + y195.length < 5864062014805 then ((some (y192 ++ y195 : List (S31))).bind fun y199 => ((some (([(⟨x190000, x190001⟩ : S31)] : List (S31)) : List (S31))).bind fun y202 => (if y199.length + y202.length < 5864062014805 then ((some (y199 ++ y202 : List (S31))).bind fun y205 => ((some (x0.drop (x6 : Int).toNat : List (S31))).bind fun y208 => (if y205.length + y208.length < 5864062014805 then ((some (y205 ++ y208 : List (S31))).bind fun y212 => ((cZ.f k x0 x190000 x190001).bind fun t215 => (if t215 = true then ((some (([] : List (S31)) : List (S31))).bind fun y216 => (if y216.length + x0.length < 5864062014805 then (some ((y216 ++ x0), false)) else (none))) else ((bC.f k y212).bind fun t222 => (if t222 = true then (some (y212, true)) else ((some (([] : List (S31)) : List (S31))).bind fun y223 => (if y223.length + x0.length < 5864062014805 then (some ((y223 ++ x0), false)) else (none)))))))) else (none)))) else (none)))) else (none))) else (none)) else (none))
def bD.l0 : Nat → List (S31) → Int → ByteArray → Int → Option ((List (S31)) × Bool)
 | 0, _, _, _, _ => none
 | k + 1, x0, x6, x190000, x190001 => if x6 < (x0.length : Int) then (if 0 ≤ x6 then ((dQ.f ((aJ x0 x6).f0) ((aJ x0 x6).f1) x190000 x190001).bind fun t191 => (if t191 = true then (bD.l0 k x0 (wrap64 (x6 + 1)) x190000 x190001) else (bD.j1 k x0 x6 x190000 x190001))) else (none)) else (bD.j1 k x0 x6 x190000 x190001)
end
def bD.f (k : Nat) (l0 : List (S31)) (sU : ByteArray) (sV : Int) : Option ((List (S31)) × Bool) := bD.l0 k l0 0 sU sV
def bD.T2 : Bool × List (List Nat × List Nat) := (true, [([], []), ([], []), ([1], [1]), ([0, 2], [0, 2]), ([3], [3]), ([4], [4]), ([4], [4]), ([5, 6, 4], [4, 5, 6]), ([7, 4], [4, 7]), ([4], [4]), ([8, 9, 4, 4], [4, 8, 9]), ([4, 10], [4, 10])])
def bD.B2 : List Nat := [0, 0, 2, 7, 15, 31, 31, 127, 255, 31, 1023, 2047]
theorem bD.rM : iJ .any (opsOf Try.f12 2) = bD.T2 := by kernel_rfl
theorem bD.qd : iL bD.T2.2 bD.B2 = true := by kernel_rfl
def bD.T4 : Bool × List (List Nat × List Nat) := (true, [([], []), ([], []), ([], []), ([1, 2], [1, 2]), ([0, 3], [0, 3]), ([], []), ([5], [5]), ([4, 6, 4], [4, 6]), ([], []), ([], []), ([8, 9], [8, 9]), ([7, 10, 7], [7, 10]), ([11, 11, 0, 1, 2, 3, 4, 5, 6, 7, 8, 9, 10, 11], [11])])
def bD.B4 : List Nat := [0, 0, 0, 6, 15, 0, 32, 127, 0, 0, 768, 2047, 4095]
theorem bD.kS : iJ .any (opsOf Try.f12 4) = bD.T4 := by kernel_rfl
theorem bD.jl : iL bD.T4.2 bD.B4 = true := by kernel_rfl
set_option maxHeartbeats 8000000 in
set_option maxRecDepth 100000 in
theorem bD.calls (k : Nat) (A0 : Option Addr) (c0 : Nat) (l0 : List (S31)) (sU : ByteArray) (sV : Int) (r1 : List (S31)) (r2 : Bool) (w : World) (hr0 : Kd.C k31 w A0 l0.length l0) (hc0 : l0.length ≤ c0) (h : bD.f k l0 sU sV = some (r1, r2)) :
  Calls Try.prog 12 #[.slice A0 l0.length c0, .agg #[.string sU, .int .i64 sV]] w fun e w' => ∃ v0_ : Value, e = .returned (.tuple #[v0_, .bool r2]) ∧ Kd.R k31 31 w' w.heap.size (fun _ => True) v0_ r1 ∧ Below w.heap.size w w' := by
 have hu31 := Try.underlying31
 have HR0 := aj.mk hr0
 have HC0 := aj.mk hc0
 clear hr0 hc0
 have HB := aj.mk (Below.refl w.heap.size w)
 have H : (bD.l0 k l0 0 sU sV) = some (r1, r2) := h
 clear h
 have HC3 := aj.mk H
 clear H
 go_enter Try.func12, Try.ntmps12
 go_upto_block 0 with (first | ((with_reducible refine dz (N := 3) rfl ?_); refine dD ?hg (N := 3) ?hd (cs := #[.string sU, .int .i64 sV]) (t := 31) ?hr ?_; (case hd => rfl); (case hg => rfl); (case hr => first | (go_simp; done) | (go_simp; rfl)); intro gb189 hg w4 hbox hb; have n0_ := aj.mk (aY (by repeat (first | (with_reducible first | exact HB.out | apply au | apply ah | apply ak) | exact HB.out)) hb); have n1_ := aj.mk (hbox); have n2_ := aj.mk ((by rw [hg]; exact (bf (by repeat (first | (with_reducible first | exact HB.out | apply au | apply ah | apply ak) | exact HB.out))) : w.heap.size ≤ gb189)); have n3_ := aj.mk ((by rw [hg]; exact (bf (by repeat (first | (with_reducible first | exact HB.out | apply au | apply ah | apply ak) | exact HB.out))) : w.heap.size ≤ gb189)); clear HB; have HB := n0_; have BK189 := n1_; have GW189 := n2_; have GE189 := n3_; clear n0_ n1_ n2_ n3_; clear hb hbox hg))
 (try simp only [Act.put, List.setIfInBounds_toArray, List.set_cons_zero, List.set_cons_succ])
 go_cut [6] (fun v6 wc => ∃ (kq : Nat) (x6_2 : Int), v6 = .int .i64 x6_2 ∧ aj (bD.j1 kq l0 x6_2 sU sV = some (r1, r2)) ∧ aj (kq ≤ k) ∧ aj (wc.heap[gb189]? = some (.cells #[.string sU, .int .i64 sV] 31 (0, 0))) ∧ aj (Below w.heap.size w wc))
 case first =>
  have H := HC3.out
  clear HC3
  have H' := aj.mk H
  clear H
  go_wp2
  go_loopg [6] k (fun kq v6 w' => ∃ (x6_1 : Int), v6 = .int .i64 x6_1 ∧ aj (bD.l0 kq l0 x6_1 sU sV = some (r1, r2)) ∧ aj (kq ≤ k) ∧ aj (w'.heap[gb189]? = some (.cells #[.string sU, .int .i64 sV] 31 (0, 0))) ∧ aj (Below w.heap.size w w'))
  case atStart => exact ⟨(0), (by first | rfl | (simp; done) | (simp [*]; done)), H', ⟨Nat.le_refl _⟩, ⟨by (with_reducible repeat (first | refine aA ?_ _ | refine aD ?_ | refine aC ?_ _)); exact BK189.out⟩, ⟨by repeat (first | (with_reducible first | exact HB.out | apply au | apply ah | apply ak | refine ay ?_ GE189.out) | exact HB.out)⟩⟩
  case round =>
   clear H'
   obtain ⟨x6_1, rfl, HA, HK1, BK189, HB⟩ := hrel
   cases gk with
   | zero => exact absurd HA.out (by simp [bD.l0])
   | succ k1 =>
    have H := HA.out
    clear HA
    simp only [bD.l0] at H
    by_cases c5 : x6_1 < (l0.length : Int)
    ·rw [if_pos c5] at H
     have c5b0 : decide (x6_1 < (l0.length : Int)) = true := decide_eq_true c5
     clear c5
     (first | rw [c5b0] | (simp only [aG, aH]; rw [c5b0]) | skip)
     by_cases c6 : 0 ≤ x6_1
     ·rw [if_pos c6] at H
      have c6b0 : decide (0 ≤ x6_1) = true := decide_eq_true c6
      clear c6
      replace H := Option.bind_eq_some_iff.mp H
      obtain ⟨t191, A70, H⟩ := H
      replace H : (if t191 = true then (bD.l0 k1 l0 (wrap64 (x6_1 + 1)) sU sV) else (bD.j1 k1 l0 x6_1 sU sV)) = some (r1, r2) := H
      have A7 := aj.mk A70
      clear A70
      by_cases c8 : t191 = true
      ·subst c8
       have H1 : (bD.l0 k1 l0 (wrap64 (x6_1 + 1)) sU sV) = some (r1, r2) := by rw [if_pos rfl] at H; exact H
       clear H
       have H := H1
       clear H1
       have H' := aj.mk H
       clear H
       try go_wp2
       have n0_ := aj.mk (aD BK189.out)
       have n1_ := aj.mk (ak HB.out)
       clear BK189
       clear HB
       have BK189 := n0_
       have HB := n1_
       clear n0_ n1_
       have p190 : 0 ≤ (x6_1 : Int) := of_decide_eq_true (by first | (with_reducible assumption) | assumption)
       have q190 : x6_1 < (l0.length : Int) := of_decide_eq_true (by first | (with_reducible assumption) | assumption)
       obtain ⟨ad190, e190, hx190_0, hx190_1⟩ := eD HR0.out x6_1 p190 q190
       have hw190_1 := hx190_1
       have hw190_0 := hx190_0
       cases e190
       try replace hx190_0 := (HB.out.cell (World.block_lt_of_cell? w _ hx190_0)).trans hx190_0
       try replace hx190_1 := (HB.out.cell (World.block_lt_of_cell? w _ hx190_1)).trans hx190_1
       replace p190 := eq_true p190
       replace q190 := eq_true q190
       refine fK (n := 12) (S := fun w' => w'.cell? ⟨gb189, 0, none⟩ = some (.string sU) ∧ w'.cell? ⟨gb189, 1, none⟩ = some (.int .i64 sV) ∧ w'.cell? (ad190.add ((x6_1).toNat * 2)) = some (.string ((aJ l0 x6_1).f0)) ∧ w'.cell? ⟨(ad190.add ((x6_1).toNat * 2)).block, (ad190.add ((x6_1).toNat * 2)).off + 1, none⟩ = some (.int .i64 ((aJ l0 x6_1).f1))) (ds := []) #[false, false, false, false, false, false, false, false, false, false, false, false] (by kernel_rfl) rfl rfl ⟨(aT BK189.out 0).trans rfl, (aT BK189.out 1).trans rfl, ((HB.out.cell (World.block_lt_of_cell? w _ hw190_0)).trans hw190_0), ((HB.out.cell (World.block_lt_of_cell? w _ hw190_1)).trans hw190_1)⟩ (fun hHeld => ?_); refine eu bD.rM bD.qd (fun HT_ HW_ => ?_)
       generalize wr.drew = w9 at BK189 HB hx190_0 hx190_1 hHeld ⊢
       refine aX (i := 0) (N := some 8) (v := ?_) (a' := ?_) #[true, false, false, false, false, false, false, false, false, false, false, false] rfl rfl (aK HT_.out (by kernel_rfl)) (fun _ _ _ h => h) (Or.inl ⟨by rfl, ?_⟩) ?_ ?_
       rotate_left
       ·intro w'
        go_simp
        with_reducible rfl
       rotate_left
       ·simp only [Act.put, List.setIfInBounds_toArray, List.set_cons_zero, List.set_cons_succ, aG, aH]
        rfl
       refine aX (i := 1) (N := some 9) (v := ?_) (a' := ?_) #[true, true, false, false, false, false, false, false, false, false, false, false] rfl rfl (aK HT_.out (by kernel_rfl)) (fun _ _ _ h => h) (Or.inl ⟨by rfl, ?_⟩) ?_ ?_
       rotate_left
       ·intro w'
        go_simp
        with_reducible rfl
       rotate_left
       ·simp only [Act.put, List.setIfInBounds_toArray, List.set_cons_zero, List.set_cons_succ, aG, aH]
        rfl
       refine aX (i := 2) (N := some 10) (v := ?_) (a' := ?_) #[true, true, true, false, false, false, false, false, false, false, false, false] rfl rfl (aK HT_.out (by kernel_rfl)) (fun _ _ _ h => h) (Or.inl ⟨by rfl, ?_⟩) ?_ ?_
       rotate_left
       ·intro w'
        go_simp
        with_reducible rfl
       rotate_left
       ·simp only [Act.put, List.setIfInBounds_toArray, List.set_cons_zero, List.set_cons_succ, aG, aH]
        rfl
       refine aX (i := 3) (N := some 11) (v := ?_) (a' := ?_) #[true, true, true, true, false, false, false, false, false, false, false, false] rfl rfl (aK HT_.out (by kernel_rfl)) (fun _ _ _ h => h) (Or.inl ⟨by rfl, ?_⟩) ?_ ?_
       rotate_left
       ·intro w'
        go_simp
        with_reducible rfl
       rotate_left
       ·simp only [Act.put, List.setIfInBounds_toArray, List.set_cons_zero, List.set_cons_succ, aG, aH]
        rfl
       refine aX (i := 4) (N := some 12) (v := ?_) (a' := ?_) #[true, true, true, true, true, false, false, false, false, false, false, false] rfl rfl (aK HT_.out (by kernel_rfl)) (fun _ _ _ h => h) (Or.inl ⟨by rfl, ?_⟩) ?_ ?_
       rotate_left
       ·intro w'
        go_simp
        with_reducible rfl
       rotate_left
       ·simp only [Act.put, List.setIfInBounds_toArray, List.set_cons_zero, List.set_cons_succ, aG, aH]
        rfl
       refine aX (i := 5) (N := some 13) (v := ?_) (a' := ?_) #[true, true, true, true, true, true, false, false, false, false, false, false] rfl rfl (aK HT_.out (by kernel_rfl)) (fun _ _ _ h => h) (Or.inl ⟨by rfl, ?_⟩) ?_ ?_
       rotate_left
       ·intro w'
        go_simp
        with_reducible rfl
       rotate_left
       ·simp only [Act.put, List.setIfInBounds_toArray, List.set_cons_zero, List.set_cons_succ, aG, aH]
        rfl
       refine aX (i := 6) (N := some 14) (v := ?_) (a' := ?_) #[true, true, true, true, true, true, true, false, false, false, false, false] rfl rfl (aK HT_.out (by kernel_rfl)) (fun _ _ _ h => h) (Or.inl ⟨by rfl, ?_⟩) ?_ ?_
       rotate_left
       ·intro w'
        go_simp
        with_reducible rfl
       rotate_left
       ·simp only [Act.put, List.setIfInBounds_toArray, List.set_cons_zero, List.set_cons_succ, aG, aH]
        rfl
       refine aX (i := 7) (N := some 15) (v := ?_) (a' := ?_) #[true, true, true, true, true, true, true, true, false, false, false, false] rfl rfl (aK HT_.out (by kernel_rfl)) (fun _ _ _ h => h) (Or.inl ⟨by rfl, ?_⟩) ?_ ?_
       rotate_left
       ·intro w'
        go_simp
        with_reducible rfl
       rotate_left
       ·simp only [Act.put, List.setIfInBounds_toArray, List.set_cons_zero, List.set_cons_succ, aG, aH]
        rfl
       refine eO (i := 8) (N := some 16) (v := ?_) (a' := ?_) #[true, true, true, true, true, true, true, true, true, false, false, false] rfl rfl (dx HT_.out HW_.out (by kernel_rfl)) (fun _ _ _ h => h) (Or.inl ⟨by rfl, ?_⟩) hHeld ?_ ?_
       rotate_left
       ·rintro w' ⟨s0, s1, s2, s3⟩
        go_simp
        with_reducible rfl
       rotate_left
       ·simp only [Act.put, List.setIfInBounds_toArray, List.set_cons_zero, List.set_cons_succ, aG, aH]
        rfl
       refine eO (i := 9) (N := some 17) (v := ?_) (a' := ?_) #[true, true, true, true, true, true, true, true, true, true, false, false] rfl rfl (dx HT_.out HW_.out (by kernel_rfl)) (fun _ _ _ h => h) (Or.inl ⟨by rfl, ?_⟩) hHeld ?_ ?_
       rotate_left
       ·rintro w' ⟨s0, s1, s2, s3⟩
        go_simp
        with_reducible rfl
       rotate_left
       ·simp only [Act.put, List.setIfInBounds_toArray, List.set_cons_zero, List.set_cons_succ, aG, aH]
        rfl
       refine fE (i := 10) (N := some 18) #[true, true, true, true, true, true, true, true, true, true, true, false] rfl rfl (dP HT_.out (by kernel_rfl)) (by decide) (fun K hK => ?_)
       refine fF Try.func51 (by kernel_rfl) rfl #[.agg #[.string ((aJ l0 x6_1).f0), .int .i64 ((aJ l0 x6_1).f1)], .agg #[.string sU, .int .i64 sV]] (by rfl) rfl rfl (by (try simp only [List.map_toArray, List.map_cons, List.map_nil]); first | done | rfl | (simp only [List.length_drop, List.length_take]; rfl)) ?_
       with_reducible refine (dQ.calls ((aJ l0 x6_1).f0) ((aJ l0 x6_1).f1) sU sV true _ A7.out).mono ?_
       rintro e w10 ⟨rfl, hb⟩
       refine ⟨_, rfl, ?_⟩
       have n0_ := aj.mk (bI (g := gb189) (o := .cells #[.string sU, .int .i64 sV] 31 (0, 0)) (by (with_reducible repeat (first | refine aA ?_ _ | refine aD ?_ | refine aC ?_ _)); exact BK189.out) hb)
       have n1_ := aj.mk (aY (by repeat (first | (with_reducible first | exact HB.out | apply au | apply ah | apply ak | refine ay ?_ GE189.out) | exact HB.out)) hb)
       clear BK189
       clear HB
       have BK189 := n0_
       have HB := n1_
       clear n0_ n1_
       (try clear hb)
       (try clear hb2)
       (try clear hk)
       (try clear hi)
       refine hK.out _ _ ⟨(aT BK189.out 0).trans rfl, (aT BK189.out 1).trans rfl, ((HB.out.cell (World.block_lt_of_cell? w _ hw190_0)).trans hw190_0), ((HB.out.cell (World.block_lt_of_cell? w _ hw190_1)).trans hw190_1)⟩ (fun hHeld => ?_)
       clear hK K
       refine dw (a' := ?_) ?_ ?_
       rotate_left
       ·show Act.put _ (some 18) _ = _
        simp only [Act.put, List.setIfInBounds_toArray, List.set_cons_zero, List.set_cons_succ, aG, aH]
        rfl
       refine aX (i := 11) (N := some 19) (v := ?_) (a' := ?_) #[true, true, true, true, true, true, true, true, true, true, true, true] rfl rfl (aK HT_.out (by kernel_rfl)) (fun _ _ _ h => h) (Or.inl ⟨by rfl, ?_⟩) ?_ ?_
       rotate_left
       ·intro w'
        go_simp
        with_reducible rfl
       rotate_left
       ·simp only [Act.put, List.setIfInBounds_toArray, List.set_cons_zero, List.set_cons_succ, aG, aH]
        rfl
       refine gU (fD HT_.out (by kernel_rfl)) ?_
       try go_wp2
       go_roundg k1
       case measure => have := HK1.out; omega
       case rel => exact ⟨(wrap64 (x6_1 + 1)), (by first | rfl | (simp; done) | (simp [*]; done)), H', ⟨by have := HK1.out; omega⟩, ⟨by (with_reducible repeat (first | refine aA ?_ _ | refine aD ?_ | refine aC ?_ _)); exact BK189.out⟩, ⟨by repeat (first | (with_reducible first | exact HB.out | apply au | apply ah | apply ak | refine ay ?_ GE189.out) | exact HB.out)⟩⟩
      ·replace c8 := Bool.eq_false_iff.mpr c8
       subst c8
       have H1 : (bD.j1 k1 l0 x6_1 sU sV) = some (r1, r2) := by rw [if_neg (show ¬ (false = true) by decide)] at H; exact H
       clear H
       have H := H1
       clear H1
       have H' := aj.mk H
       clear H
       try go_wp2
       have n0_ := aj.mk (aD BK189.out)
       have n1_ := aj.mk (ak HB.out)
       clear BK189
       clear HB
       have BK189 := n0_
       have HB := n1_
       clear n0_ n1_
       have p190 : 0 ≤ (x6_1 : Int) := of_decide_eq_true (by first | (with_reducible assumption) | assumption)
       have q190 : x6_1 < (l0.length : Int) := of_decide_eq_true (by first | (with_reducible assumption) | assumption)
       obtain ⟨ad190, e190, hx190_0, hx190_1⟩ := eD HR0.out x6_1 p190 q190
       have hw190_1 := hx190_1
       have hw190_0 := hx190_0
       cases e190
       try replace hx190_0 := (HB.out.cell (World.block_lt_of_cell? w _ hx190_0)).trans hx190_0
       try replace hx190_1 := (HB.out.cell (World.block_lt_of_cell? w _ hx190_1)).trans hx190_1
       replace p190 := eq_true p190
       replace q190 := eq_true q190
       refine fK (n := 12) (S := fun w' => w'.cell? ⟨gb189, 0, none⟩ = some (.string sU) ∧ w'.cell? ⟨gb189, 1, none⟩ = some (.int .i64 sV) ∧ w'.cell? (ad190.add ((x6_1).toNat * 2)) = some (.string ((aJ l0 x6_1).f0)) ∧ w'.cell? ⟨(ad190.add ((x6_1).toNat * 2)).block, (ad190.add ((x6_1).toNat * 2)).off + 1, none⟩ = some (.int .i64 ((aJ l0 x6_1).f1))) (ds := []) #[false, false, false, false, false, false, false, false, false, false, false, false] (by kernel_rfl) rfl rfl ⟨(aT BK189.out 0).trans rfl, (aT BK189.out 1).trans rfl, ((HB.out.cell (World.block_lt_of_cell? w _ hw190_0)).trans hw190_0), ((HB.out.cell (World.block_lt_of_cell? w _ hw190_1)).trans hw190_1)⟩ (fun hHeld => ?_); refine eu bD.rM bD.qd (fun HT_ HW_ => ?_)
       generalize wr.drew = w11 at BK189 HB hx190_0 hx190_1 hHeld ⊢
       refine aX (i := 0) (N := some 8) (v := ?_) (a' := ?_) #[true, false, false, false, false, false, false, false, false, false, false, false] rfl rfl (aK HT_.out (by kernel_rfl)) (fun _ _ _ h => h) (Or.inl ⟨by rfl, ?_⟩) ?_ ?_
       rotate_left
       ·intro w'
        go_simp
        with_reducible rfl
       rotate_left
       ·simp only [Act.put, List.setIfInBounds_toArray, List.set_cons_zero, List.set_cons_succ, aG, aH]
        rfl
       refine aX (i := 1) (N := some 9) (v := ?_) (a' := ?_) #[true, true, false, false, false, false, false, false, false, false, false, false] rfl rfl (aK HT_.out (by kernel_rfl)) (fun _ _ _ h => h) (Or.inl ⟨by rfl, ?_⟩) ?_ ?_
       rotate_left
       ·intro w'
        go_simp
        with_reducible rfl
       rotate_left
       ·simp only [Act.put, List.setIfInBounds_toArray, List.set_cons_zero, List.set_cons_succ, aG, aH]
        rfl
       refine aX (i := 2) (N := some 10) (v := ?_) (a' := ?_) #[true, true, true, false, false, false, false, false, false, false, false, false] rfl rfl (aK HT_.out (by kernel_rfl)) (fun _ _ _ h => h) (Or.inl ⟨by rfl, ?_⟩) ?_ ?_
       rotate_left
       ·intro w'
        go_simp
        with_reducible rfl
       rotate_left
       ·simp only [Act.put, List.setIfInBounds_toArray, List.set_cons_zero, List.set_cons_succ, aG, aH]
        rfl
       refine aX (i := 3) (N := some 11) (v := ?_) (a' := ?_) #[true, true, true, true, false, false, false, false, false, false, false, false] rfl rfl (aK HT_.out (by kernel_rfl)) (fun _ _ _ h => h) (Or.inl ⟨by rfl, ?_⟩) ?_ ?_
       rotate_left
       ·intro w'
        go_simp
        with_reducible rfl
       rotate_left
       ·simp only [Act.put, List.setIfInBounds_toArray, List.set_cons_zero, List.set_cons_succ, aG, aH]
        rfl
       refine aX (i := 4) (N := some 12) (v := ?_) (a' := ?_) #[true, true, true, true, true, false, false, false, false, false, false, false] rfl rfl (aK HT_.out (by kernel_rfl)) (fun _ _ _ h => h) (Or.inl ⟨by rfl, ?_⟩) ?_ ?_
       rotate_left
       ·intro w'
        go_simp
        with_reducible rfl
       rotate_left
       ·simp only [Act.put, List.setIfInBounds_toArray, List.set_cons_zero, List.set_cons_succ, aG, aH]
        rfl
       refine aX (i := 5) (N := some 13) (v := ?_) (a' := ?_) #[true, true, true, true, true, true, false, false, false, false, false, false] rfl rfl (aK HT_.out (by kernel_rfl)) (fun _ _ _ h => h) (Or.inl ⟨by rfl, ?_⟩) ?_ ?_
       rotate_left
       ·intro w'
        go_simp
        with_reducible rfl
       rotate_left
       ·simp only [Act.put, List.setIfInBounds_toArray, List.set_cons_zero, List.set_cons_succ, aG, aH]
        rfl
       refine aX (i := 6) (N := some 14) (v := ?_) (a' := ?_) #[true, true, true, true, true, true, true, false, false, false, false, false] rfl rfl (aK HT_.out (by kernel_rfl)) (fun _ _ _ h => h) (Or.inl ⟨by rfl, ?_⟩) ?_ ?_
       rotate_left
       ·intro w'
        go_simp
        with_reducible rfl
       rotate_left
       ·simp only [Act.put, List.setIfInBounds_toArray, List.set_cons_zero, List.set_cons_succ, aG, aH]
        rfl
       refine aX (i := 7) (N := some 15) (v := ?_) (a' := ?_) #[true, true, true, true, true, true, true, true, false, false, false, false] rfl rfl (aK HT_.out (by kernel_rfl)) (fun _ _ _ h => h) (Or.inl ⟨by rfl, ?_⟩) ?_ ?_
       rotate_left
       ·intro w'
        go_simp
        with_reducible rfl
       rotate_left
       ·simp only [Act.put, List.setIfInBounds_toArray, List.set_cons_zero, List.set_cons_succ, aG, aH]
        rfl
       refine eO (i := 8) (N := some 16) (v := ?_) (a' := ?_) #[true, true, true, true, true, true, true, true, true, false, false, false] rfl rfl (dx HT_.out HW_.out (by kernel_rfl)) (fun _ _ _ h => h) (Or.inl ⟨by rfl, ?_⟩) hHeld ?_ ?_
       rotate_left
       ·rintro w' ⟨s0, s1, s2, s3⟩
        go_simp
        with_reducible rfl
       rotate_left
       ·simp only [Act.put, List.setIfInBounds_toArray, List.set_cons_zero, List.set_cons_succ, aG, aH]
        rfl
       refine eO (i := 9) (N := some 17) (v := ?_) (a' := ?_) #[true, true, true, true, true, true, true, true, true, true, false, false] rfl rfl (dx HT_.out HW_.out (by kernel_rfl)) (fun _ _ _ h => h) (Or.inl ⟨by rfl, ?_⟩) hHeld ?_ ?_
       rotate_left
       ·rintro w' ⟨s0, s1, s2, s3⟩
        go_simp
        with_reducible rfl
       rotate_left
       ·simp only [Act.put, List.setIfInBounds_toArray, List.set_cons_zero, List.set_cons_succ, aG, aH]
        rfl
       refine fE (i := 10) (N := some 18) #[true, true, true, true, true, true, true, true, true, true, true, false] rfl rfl (dP HT_.out (by kernel_rfl)) (by decide) (fun K hK => ?_)
       refine fF Try.func51 (by kernel_rfl) rfl #[.agg #[.string ((aJ l0 x6_1).f0), .int .i64 ((aJ l0 x6_1).f1)], .agg #[.string sU, .int .i64 sV]] (by rfl) rfl rfl (by (try simp only [List.map_toArray, List.map_cons, List.map_nil]); first | done | rfl | (simp only [List.length_drop, List.length_take]; rfl)) ?_
       with_reducible refine (dQ.calls ((aJ l0 x6_1).f0) ((aJ l0 x6_1).f1) sU sV false _ A7.out).mono ?_
       rintro e w12 ⟨rfl, hb⟩
       refine ⟨_, rfl, ?_⟩
       have n0_ := aj.mk (bI (g := gb189) (o := .cells #[.string sU, .int .i64 sV] 31 (0, 0)) (by (with_reducible repeat (first | refine aA ?_ _ | refine aD ?_ | refine aC ?_ _)); exact BK189.out) hb)
       have n1_ := aj.mk (aY (by repeat (first | (with_reducible first | exact HB.out | apply au | apply ah | apply ak | refine ay ?_ GE189.out) | exact HB.out)) hb)
       clear BK189
       clear HB
       have BK189 := n0_
       have HB := n1_
       clear n0_ n1_
       (try clear hb)
       (try clear hb2)
       (try clear hk)
       (try clear hi)
       refine hK.out _ _ ⟨(aT BK189.out 0).trans rfl, (aT BK189.out 1).trans rfl, ((HB.out.cell (World.block_lt_of_cell? w _ hw190_0)).trans hw190_0), ((HB.out.cell (World.block_lt_of_cell? w _ hw190_1)).trans hw190_1)⟩ (fun hHeld => ?_)
       clear hK K
       refine dw (a' := ?_) ?_ ?_
       rotate_left
       ·show Act.put _ (some 18) _ = _
        simp only [Act.put, List.setIfInBounds_toArray, List.set_cons_zero, List.set_cons_succ, aG, aH]
        rfl
       refine aX (i := 11) (N := some 19) (v := ?_) (a' := ?_) #[true, true, true, true, true, true, true, true, true, true, true, true] rfl rfl (aK HT_.out (by kernel_rfl)) (fun _ _ _ h => h) (Or.inl ⟨by rfl, ?_⟩) ?_ ?_
       rotate_left
       ·intro w'
        go_simp
        with_reducible rfl
       rotate_left
       ·simp only [Act.put, List.setIfInBounds_toArray, List.set_cons_zero, List.set_cons_succ, aG, aH]
        rfl
       refine gU (fD HT_.out (by kernel_rfl)) ?_
       try go_wp2
       go_meet
       case rel => exact ⟨_, (x6_1), (by first | rfl | (simp; done) | (simp [*]; done)), H', ⟨by have := HK1.out; first | omega | exact Nat.le_refl _⟩, ⟨by (with_reducible repeat (first | refine aA ?_ _ | refine aD ?_ | refine aC ?_ _)); exact BK189.out⟩, ⟨by repeat (first | (with_reducible first | exact HB.out | apply au | apply ah | apply ak | refine ay ?_ GE189.out) | exact HB.out)⟩⟩
     ·rw [if_neg c6] at H
      exact absurd H (by simp)
    ·rw [if_neg c5] at H
     have c5b0 : decide (x6_1 < (l0.length : Int)) = false := decide_eq_false c5
     clear c5
     (first | rw [c5b0] | (simp only [aG, aH]; rw [c5b0]) | skip)
     have H' := aj.mk H
     clear H
     try go_wp2
     have n0_ := aj.mk (aD BK189.out)
     have n1_ := aj.mk (ak HB.out)
     clear BK189
     clear HB
     have BK189 := n0_
     have HB := n1_
     clear n0_ n1_
     refine fK (n := 12) (S := fun w' => True) (ds := []) #[false, false, false, false, false, false, false, false, false, false, false, false] (by kernel_rfl) rfl rfl trivial (fun hHeld => ?_); refine eu bD.rM bD.qd (fun HT_ HW_ => ?_)
     generalize wr.drew = w13 at BK189 HB hHeld ⊢
     refine aX (i := 0) (N := some 8) (v := ?_) (a' := ?_) #[true, false, false, false, false, false, false, false, false, false, false, false] rfl rfl (aK HT_.out (by kernel_rfl)) (fun _ _ _ h => h) (Or.inl ⟨by rfl, ?_⟩) ?_ ?_
     rotate_left
     ·intro w'
      go_simp
      with_reducible rfl
     rotate_left
     ·simp only [Act.put, List.setIfInBounds_toArray, List.set_cons_zero, List.set_cons_succ, aG, aH]
      rfl
     refine aX (i := 1) (N := some 9) (v := ?_) (a' := ?_) #[true, true, false, false, false, false, false, false, false, false, false, false] rfl rfl (aK HT_.out (by kernel_rfl)) (fun _ _ _ h => h) (Or.inl ⟨by rfl, ?_⟩) ?_ ?_
     rotate_left
     ·intro w'
      go_simp
      with_reducible rfl
     rotate_left
     ·simp only [Act.put, List.setIfInBounds_toArray, List.set_cons_zero, List.set_cons_succ, aG, aH]
      rfl
     refine aX (i := 2) (N := some 10) (v := ?_) (a' := ?_) #[true, true, true, false, false, false, false, false, false, false, false, false] rfl rfl (aK HT_.out (by kernel_rfl)) (fun _ _ _ h => h) (Or.inl ⟨by rfl, ?_⟩) ?_ ?_
     rotate_left
     ·intro w'
      go_simp
      with_reducible rfl
     rotate_left
     ·simp only [Act.put, List.setIfInBounds_toArray, List.set_cons_zero, List.set_cons_succ, aG, aH]
      rfl
     refine aX (i := 3) (N := some 11) (v := ?_) (a' := ?_) #[true, true, true, true, false, false, false, false, false, false, false, false] rfl rfl (aK HT_.out (by kernel_rfl)) (fun _ _ _ h => h) (Or.inl ⟨by rfl, ?_⟩) ?_ ?_
     rotate_left
     ·intro w'
      go_simp
      with_reducible rfl
     rotate_left
     ·simp only [Act.put, List.setIfInBounds_toArray, List.set_cons_zero, List.set_cons_succ, aG, aH]
      rfl
     refine aX (i := 4) (N := some 12) (v := ?_) (a' := ?_) #[true, true, true, true, true, false, false, false, false, false, false, false] rfl rfl (aK HT_.out (by kernel_rfl)) (fun _ _ _ h => h) (Or.inl ⟨by rfl, ?_⟩) ?_ ?_
     rotate_left
     ·intro w'
      go_simp
      with_reducible rfl
     rotate_left
     ·simp only [Act.put, List.setIfInBounds_toArray, List.set_cons_zero, List.set_cons_succ, aG, aH]
      rfl
     refine aX (i := 5) (N := some 13) (v := undef) (a' := ?_) #[true, true, true, true, true, true, false, false, false, false, false, false] rfl rfl (aK HT_.out (by kernel_rfl)) (fun _ _ _ h => h) (Or.inr ⟨by rfl, rfl⟩) ?_ ?_
     rotate_left
     ·simp only [Act.put, List.setIfInBounds_toArray, List.set_cons_zero, List.set_cons_succ, aG, aH]
      rfl
     refine aX (i := 6) (N := some 14) (v := undef) (a' := ?_) #[true, true, true, true, true, true, true, false, false, false, false, false] rfl rfl (aK HT_.out (by kernel_rfl)) (fun _ _ _ h => h) (Or.inr ⟨by rfl, rfl⟩) ?_ ?_
     rotate_left
     ·simp only [Act.put, List.setIfInBounds_toArray, List.set_cons_zero, List.set_cons_succ, aG, aH]
      rfl
     refine aX (i := 7) (N := some 15) (v := undef) (a' := ?_) #[true, true, true, true, true, true, true, true, false, false, false, false] rfl rfl (aK HT_.out (by kernel_rfl)) (fun _ _ _ h => h) (Or.inr ⟨by rfl, rfl⟩) ?_ ?_
     rotate_left
     ·simp only [Act.put, List.setIfInBounds_toArray, List.set_cons_zero, List.set_cons_succ, aG, aH]
      rfl
     refine aX (i := 8) (N := some 16) (v := undef) (a' := ?_) #[true, true, true, true, true, true, true, true, true, false, false, false] rfl rfl (aK HT_.out (by kernel_rfl)) (fun _ _ _ h => h) (Or.inr ⟨by rfl, rfl⟩) ?_ ?_
     rotate_left
     ·simp only [Act.put, List.setIfInBounds_toArray, List.set_cons_zero, List.set_cons_succ, aG, aH]
      rfl
     refine aX (i := 9) (N := some 17) (v := undef) (a' := ?_) #[true, true, true, true, true, true, true, true, true, true, false, false] rfl rfl (aK HT_.out (by kernel_rfl)) (fun _ _ _ h => h) (Or.inr ⟨by rfl, rfl⟩) ?_ ?_
     rotate_left
     ·simp only [Act.put, List.setIfInBounds_toArray, List.set_cons_zero, List.set_cons_succ, aG, aH]
      rfl
     refine aX (i := 10) (N := some 18) (v := undef) (a' := ?_) #[true, true, true, true, true, true, true, true, true, true, true, false] rfl rfl (aK HT_.out (by kernel_rfl)) (fun _ _ _ h => h) (Or.inr ⟨by rfl, rfl⟩) ?_ ?_
     rotate_left
     ·simp only [Act.put, List.setIfInBounds_toArray, List.set_cons_zero, List.set_cons_succ, aG, aH]
      rfl
     refine aX (i := 11) (N := some 19) (v := ?_) (a' := ?_) #[true, true, true, true, true, true, true, true, true, true, true, true] rfl rfl (aK HT_.out (by kernel_rfl)) (fun _ _ _ h => h) (Or.inl ⟨by rfl, ?_⟩) ?_ ?_
     rotate_left
     ·intro w'
      go_simp
      with_reducible rfl
     rotate_left
     ·simp only [Act.put, List.setIfInBounds_toArray, List.set_cons_zero, List.set_cons_succ, aG, aH]
      rfl
     refine gU (fD HT_.out (by kernel_rfl)) ?_
     try go_wp2
     go_meet
     case rel => exact ⟨_, (x6_1), (by first | rfl | (simp; done) | (simp [*]; done)), H', ⟨by have := HK1.out; first | omega | exact Nat.le_refl _⟩, ⟨by (with_reducible repeat (first | refine aA ?_ _ | refine aD ?_ | refine aC ?_ _)); exact BK189.out⟩, ⟨by repeat (first | (with_reducible first | exact HB.out | apply au | apply ah | apply ak | refine ay ?_ GE189.out) | exact HB.out)⟩⟩
 case rest =>
  clear HC3
  obtain ⟨kq, x6_2, rfl, HA, HJ2, BK189, HB⟩ := hcut
  cases kq with
  | zero => exact absurd HA.out (by simp [bD.j1])
  | succ kj2 =>
   have H := HA.out
   clear HA
   simp only [bD.j1] at H
   obtain ⟨y192, hy192⟩ : ∃ y_ : List (S31), y_ = (([] : List (S31))) := ⟨_, rfl⟩
   replace H : (if 0 ≤ x6_2 then (if x6_2 ≤ (l0.length : Int) then ((some (l0.take (x6_2 : Int).toNat : List (S31))).bind fun y195 => (if y192.length + y195.length < 5864062014805 then ((some (y192 ++ y195 : List (S31))).bind fun y199 => ((some (([(⟨sU, sV⟩ : S31)] : List (S31)) : List (S31))).bind fun y202 => (if y199.length + y202.length < 5864062014805 then ((some (y199 ++ y202 : List (S31))).bind fun y205 => ((some (l0.drop (x6_2 : Int).toNat : List (S31))).bind fun y208 => (if y205.length + y208.length < 5864062014805 then ((some (y205 ++ y208 : List (S31))).bind fun y212 => ((cZ.f kj2 l0 sU sV).bind fun t215 => (if t215 = true then ((some (([] : List (S31)) : List (S31))).bind fun y216 => (if y216.length + l0.length < 5864062014805 then (some ((y216 ++ l0), false)) else (none))) else ((bC.f kj2 y212).bind fun t222 => (if t222 = true then (some (y212, true)) else ((some (([] : List (S31)) : List (S31))).bind fun y223 => (if y223.length + l0.length < 5864062014805 then (some ((y223 ++ l0), false)) else (none)))))))) else (none)))) else (none)))) else (none))) else (none)) else (none)) = some (r1, r2) := by first | (rw [hy192]; with_reducible exact H) | (have H2_ := (Option.bind_some _ _).symm.trans H; rw [hy192]; with_reducible exact H2_) | (have H2_ := (Option.bind_some _ _).symm.trans H; with_reducible exact H2_) | with_reducible exact H | (rw [hy192]; exact H) | exact H
   have Ny192 := aj.mk hy192
   clear hy192
   by_cases c14 : 0 ≤ x6_2
   ·rw [if_pos c14] at H
    have c14b0 := eq_true c14
    have c14b1 : decide (0 ≤ x6_2) = true := decide_eq_true c14
    clear c14
    by_cases c15 : x6_2 ≤ (l0.length : Int)
    ·rw [if_pos c15] at H
     have c15b0 := eq_true c15
     have c15b1 : decide (x6_2 ≤ (l0.length : Int)) = true := decide_eq_true c15
     clear c15
     obtain ⟨y195, hy195⟩ : ∃ y_ : List (S31), y_ = (l0.take (x6_2 : Int).toNat) := ⟨_, rfl⟩
     replace H : (if y192.length + y195.length < 5864062014805 then ((some (y192 ++ y195 : List (S31))).bind fun y199 => ((some (([(⟨sU, sV⟩ : S31)] : List (S31)) : List (S31))).bind fun y202 => (if y199.length + y202.length < 5864062014805 then ((some (y199 ++ y202 : List (S31))).bind fun y205 => ((some (l0.drop (x6_2 : Int).toNat : List (S31))).bind fun y208 => (if y205.length + y208.length < 5864062014805 then ((some (y205 ++ y208 : List (S31))).bind fun y212 => ((cZ.f kj2 l0 sU sV).bind fun t215 => (if t215 = true then ((some (([] : List (S31)) : List (S31))).bind fun y216 => (if y216.length + l0.length < 5864062014805 then (some ((y216 ++ l0), false)) else (none))) else ((bC.f kj2 y212).bind fun t222 => (if t222 = true then (some (y212, true)) else ((some (([] : List (S31)) : List (S31))).bind fun y223 => (if y223.length + l0.length < 5864062014805 then (some ((y223 ++ l0), false)) else (none)))))))) else (none)))) else (none)))) else (none)) = some (r1, r2) := by first | (rw [hy195]; with_reducible exact H) | (have H2_ := (Option.bind_some _ _).symm.trans H; rw [hy195]; with_reducible exact H2_) | (have H2_ := (Option.bind_some _ _).symm.trans H; with_reducible exact H2_) | with_reducible exact H | (rw [hy195]; exact H) | exact H
     have Ny195 := aj.mk hy195
     clear hy195
     by_cases c16 : y192.length + y195.length < 5864062014805
     ·rw [if_pos c16] at H
      have LMc16 := aj.mk c16
      clear c16
      obtain ⟨y199, hy199⟩ : ∃ y_ : List (S31), y_ = (y192 ++ y195) := ⟨_, rfl⟩
      replace H : ((some (([(⟨sU, sV⟩ : S31)] : List (S31)) : List (S31))).bind fun y202 => (if y199.length + y202.length < 5864062014805 then ((some (y199 ++ y202 : List (S31))).bind fun y205 => ((some (l0.drop (x6_2 : Int).toNat : List (S31))).bind fun y208 => (if y205.length + y208.length < 5864062014805 then ((some (y205 ++ y208 : List (S31))).bind fun y212 => ((cZ.f kj2 l0 sU sV).bind fun t215 => (if t215 = true then ((some (([] : List (S31)) : List (S31))).bind fun y216 => (if y216.length + l0.length < 5864062014805 then (some ((y216 ++ l0), false)) else (none))) else ((bC.f kj2 y212).bind fun t222 => (if t222 = true then (some (y212, true)) else ((some (([] : List (S31)) : List (S31))).bind fun y223 => (if y223.length + l0.length < 5864062014805 then (some ((y223 ++ l0), false)) else (none)))))))) else (none)))) else (none))) = some (r1, r2) := by first | (rw [hy199]; with_reducible exact H) | (have H2_ := (Option.bind_some _ _).symm.trans H; rw [hy199]; with_reducible exact H2_) | (have H2_ := (Option.bind_some _ _).symm.trans H; with_reducible exact H2_) | with_reducible exact H | (rw [hy199]; exact H) | exact H
      have Ny199 := aj.mk hy199
      clear hy199
      obtain ⟨y202, hy202⟩ : ∃ y_ : List (S31), y_ = (([(⟨sU, sV⟩ : S31)] : List (S31))) := ⟨_, rfl⟩
      replace H : (if y199.length + y202.length < 5864062014805 then ((some (y199 ++ y202 : List (S31))).bind fun y205 => ((some (l0.drop (x6_2 : Int).toNat : List (S31))).bind fun y208 => (if y205.length + y208.length < 5864062014805 then ((some (y205 ++ y208 : List (S31))).bind fun y212 => ((cZ.f kj2 l0 sU sV).bind fun t215 => (if t215 = true then ((some (([] : List (S31)) : List (S31))).bind fun y216 => (if y216.length + l0.length < 5864062014805 then (some ((y216 ++ l0), false)) else (none))) else ((bC.f kj2 y212).bind fun t222 => (if t222 = true then (some (y212, true)) else ((some (([] : List (S31)) : List (S31))).bind fun y223 => (if y223.length + l0.length < 5864062014805 then (some ((y223 ++ l0), false)) else (none)))))))) else (none)))) else (none)) = some (r1, r2) := by first | (rw [hy202]; with_reducible exact H) | (have H2_ := (Option.bind_some _ _).symm.trans H; rw [hy202]; with_reducible exact H2_) | (have H2_ := (Option.bind_some _ _).symm.trans H; with_reducible exact H2_) | with_reducible exact H | (rw [hy202]; exact H) | exact H
      have Ny202 := aj.mk hy202
      clear hy202
      by_cases c17 : y199.length + y202.length < 5864062014805
      ·rw [if_pos c17] at H
       have LMc17 := aj.mk c17
       clear c17
       obtain ⟨y205, hy205⟩ : ∃ y_ : List (S31), y_ = (y199 ++ y202) := ⟨_, rfl⟩
       replace H : ((some (l0.drop (x6_2 : Int).toNat : List (S31))).bind fun y208 => (if y205.length + y208.length < 5864062014805 then ((some (y205 ++ y208 : List (S31))).bind fun y212 => ((cZ.f kj2 l0 sU sV).bind fun t215 => (if t215 = true then ((some (([] : List (S31)) : List (S31))).bind fun y216 => (if y216.length + l0.length < 5864062014805 then (some ((y216 ++ l0), false)) else (none))) else ((bC.f kj2 y212).bind fun t222 => (if t222 = true then (some (y212, true)) else ((some (([] : List (S31)) : List (S31))).bind fun y223 => (if y223.length + l0.length < 5864062014805 then (some ((y223 ++ l0), false)) else (none)))))))) else (none))) = some (r1, r2) := by first | (rw [hy205]; with_reducible exact H) | (have H2_ := (Option.bind_some _ _).symm.trans H; rw [hy205]; with_reducible exact H2_) | (have H2_ := (Option.bind_some _ _).symm.trans H; with_reducible exact H2_) | with_reducible exact H | (rw [hy205]; exact H) | exact H
       have Ny205 := aj.mk hy205
       clear hy205
       have c18b0 := eq_true (of_decide_eq_true (by first | (with_reducible assumption) | assumption) : 0 ≤ x6_2)
       have c19b0 := eq_true (of_decide_eq_true (by first | (with_reducible assumption) | assumption) : x6_2 ≤ (l0.length : Int))
       obtain ⟨y208, hy208⟩ : ∃ y_ : List (S31), y_ = (l0.drop (x6_2 : Int).toNat) := ⟨_, rfl⟩
       replace H : (if y205.length + y208.length < 5864062014805 then ((some (y205 ++ y208 : List (S31))).bind fun y212 => ((cZ.f kj2 l0 sU sV).bind fun t215 => (if t215 = true then ((some (([] : List (S31)) : List (S31))).bind fun y216 => (if y216.length + l0.length < 5864062014805 then (some ((y216 ++ l0), false)) else (none))) else ((bC.f kj2 y212).bind fun t222 => (if t222 = true then (some (y212, true)) else ((some (([] : List (S31)) : List (S31))).bind fun y223 => (if y223.length + l0.length < 5864062014805 then (some ((y223 ++ l0), false)) else (none)))))))) else (none)) = some (r1, r2) := by first | (rw [hy208]; with_reducible exact H) | (have H2_ := (Option.bind_some _ _).symm.trans H; rw [hy208]; with_reducible exact H2_) | (have H2_ := (Option.bind_some _ _).symm.trans H; with_reducible exact H2_) | with_reducible exact H | (rw [hy208]; exact H) | exact H
       have Ny208 := aj.mk hy208
       clear hy208
       by_cases c20 : y205.length + y208.length < 5864062014805
       ·rw [if_pos c20] at H
        have LMc20 := aj.mk c20
        clear c20
        obtain ⟨y212, hy212⟩ : ∃ y_ : List (S31), y_ = (y205 ++ y208) := ⟨_, rfl⟩
        replace H : ((cZ.f kj2 l0 sU sV).bind fun t215 => (if t215 = true then ((some (([] : List (S31)) : List (S31))).bind fun y216 => (if y216.length + l0.length < 5864062014805 then (some ((y216 ++ l0), false)) else (none))) else ((bC.f kj2 y212).bind fun t222 => (if t222 = true then (some (y212, true)) else ((some (([] : List (S31)) : List (S31))).bind fun y223 => (if y223.length + l0.length < 5864062014805 then (some ((y223 ++ l0), false)) else (none))))))) = some (r1, r2) := by first | (rw [hy212]; with_reducible exact H) | (have H2_ := (Option.bind_some _ _).symm.trans H; rw [hy212]; with_reducible exact H2_) | (have H2_ := (Option.bind_some _ _).symm.trans H; with_reducible exact H2_) | with_reducible exact H | (rw [hy212]; exact H) | exact H
        have Ny212 := aj.mk hy212
        clear hy212
        replace H := Option.bind_eq_some_iff.mp H
        obtain ⟨t215, A210, H⟩ := H
        replace H : (if t215 = true then ((some (([] : List (S31)) : List (S31))).bind fun y216 => (if y216.length + l0.length < 5864062014805 then (some ((y216 ++ l0), false)) else (none))) else ((bC.f kj2 y212).bind fun t222 => (if t222 = true then (some (y212, true)) else ((some (([] : List (S31)) : List (S31))).bind fun y223 => (if y223.length + l0.length < 5864062014805 then (some ((y223 ++ l0), false)) else (none)))))) = some (r1, r2) := H
        have A21 := aj.mk A210
        clear A210
        by_cases c22 : t215 = true
        ·subst c22
         have H1 : ((some (([] : List (S31)) : List (S31))).bind fun y216 => (if y216.length + l0.length < 5864062014805 then (some ((y216 ++ l0), false)) else (none))) = some (r1, r2) := by rw [if_pos rfl] at H; exact H
         clear H
         have H := H1
         clear H1
         obtain ⟨y216, hy216⟩ : ∃ y_ : List (S31), y_ = (([] : List (S31))) := ⟨_, rfl⟩
         replace H : (if y216.length + l0.length < 5864062014805 then (some ((y216 ++ l0), false)) else (none)) = some (r1, r2) := by first | (rw [hy216]; with_reducible exact H) | (have H2_ := (Option.bind_some _ _).symm.trans H; rw [hy216]; with_reducible exact H2_) | (have H2_ := (Option.bind_some _ _).symm.trans H; with_reducible exact H2_) | with_reducible exact H | (rw [hy216]; exact H) | exact H
         have Ny216 := aj.mk hy216
         clear hy216
         by_cases c23 : y216.length + l0.length < 5864062014805
         ·rw [if_pos c23] at H
          have LMc23 := aj.mk c23
          clear c23
          obtain ⟨y219, hy219⟩ : ∃ y_ : List (S31), y_ = (y216 ++ l0) := ⟨_, rfl⟩
          replace H : (some (y219, false)) = some (r1, r2) := by first | (rw [hy219]; with_reducible exact H) | (have H2_ := (Option.bind_some _ _).symm.trans H; rw [hy219]; with_reducible exact H2_) | (have H2_ := (Option.bind_some _ _).symm.trans H; with_reducible exact H2_) | with_reducible exact H | (rw [hy219]; exact H) | exact H
          have Ny219 := aj.mk hy219
          clear hy219
          simp only [Option.some.injEq, Prod.mk.injEq] at H
          obtain ⟨rfl, rfl⟩ := H
          try go_wp2
          have n0_ := aj.mk (aD BK189.out)
          have n1_ := aj.mk (ak HB.out)
          clear BK189
          clear HB
          have BK189 := n0_
          have HB := n1_
          clear n0_ n1_
          have q25 : (x6_2 : Int) ≤ ((l0.length : Int) : Int) := of_decide_eq_true (by first | (with_reducible assumption) | assumption)
          obtain ⟨i025, hi025, _, hsz25, _⟩ := info_parts fT
          have hroom25 : l0.length ≤ c0 := HC0.out
          have hC25 : Kd.C k31 _ A0 l0.length l0 := HR0.out
          have hcut25 := ow (P := Try.prog) 27 31 .i64 Try.underlying27 hi025 A0 l0.length c0 x6_2 (of_decide_eq_true (by first | (with_reducible assumption) | assumption)) q25 hroom25
          have hr25 := Kd.oM (m := (x6_2 : Int).toNat) hC25 (by omega)
          have hy25 : y195.length = (x6_2 : Int).toNat := (by rw [Ny195.out, List.length_take]; omega)
          rw [← Ny195.out] at hr25
          rw [← hy25] at hcut25
          have HR198 := aj.mk hr25
          have HC198 := aj.mk (show y195.length ≤ c0 from by omega)
          clear hr25 hC25 hroom25 hi025 hsz25
          have KY25 := aj.mk hy25
          clear hy25
          replace q25 := eq_true q25
          have q26 : (x6_2 : Int) ≤ ((l0.length : Int) : Int) := of_decide_eq_true (by first | (with_reducible assumption) | assumption)
          obtain ⟨i026, hi026, _, hsz26, _⟩ := info_parts fT
          have hroom26 : l0.length ≤ c0 := HC0.out
          have hC26 : Kd.C k31 _ A0 l0.length l0 := HR0.out
          have q026 : (0 : Int) ≤ (x6_2 : Int) := of_decide_eq_true (by first | (with_reducible assumption) | assumption)
          have hcut26 := lX (P := Try.prog) 27 31 .i64 Try.underlying27 hi026 2 hsz26 A0 l0.length c0 x6_2 q026 q26
          have hr26 := Kd.oJ (m := (x6_2 : Int).toNat) (c := c0) hC26 (by omega) hroom26
          obtain ⟨A26, hA26⟩ : ∃ A1, A1 = (if c0 = (x6_2 : Int).toNat then A0 else (A0 : Option Addr).map (·.add ((x6_2 : Int).toNat * 2))) := ⟨_, rfl⟩
          obtain ⟨c26, hc26⟩ : ∃ c1, c1 = c0 - (x6_2 : Int).toNat := ⟨_, rfl⟩
          have hy26 : y208.length = l0.length - (x6_2 : Int).toNat := (by rw [Ny208.out, List.length_drop] <;> omega)
          rw [show (l0).drop (x6_2 : Int).toNat = y208 from Ny208.out.symm] at hr26
          replace hr26 : Kd.C k31 _ A26 y208.length y208 := (by rw [hA26]; exact hr26)
          rw [← hy26, ← hA26, ← hc26] at hcut26
          have HR211 := aj.mk hr26
          have HC211 := aj.mk (show y208.length ≤ c26 from by rw [hy26, hc26]; exact Nat.sub_le_sub_right hroom26 _)
          clear hr26 hC26 hroom26 hi026 hsz26 hc26
          have KY26 := aj.mk hy26
          have KA26 := aj.mk hA26
          clear hy26 hA26
          replace q26 := eq_true q26
          refine fK (n := 13) (S := fun w' => w'.cell? ⟨gb189, 0, none⟩ = some (.string sU) ∧ w'.cell? ⟨gb189, 1, none⟩ = some (.int .i64 sV)) (ds := []) #[false, false, false, false, false, false, false, false, false, false, false, false, false] (by kernel_rfl) rfl rfl ⟨(aT BK189.out 0).trans rfl, (aT BK189.out 1).trans rfl⟩ (fun hHeld => ?_); refine eu bD.kS bD.jl (fun HT_ HW_ => ?_)
          generalize wc.drew = w24 at BK189 HB HR198 HR211 hHeld ⊢
          refine aX (i := 1) (N := some 23) (v := ?_) (a' := ?_) #[false, true, false, false, false, false, false, false, false, false, false, false, false] rfl rfl (aK HT_.out (by kernel_rfl)) (fun _ _ _ h => h) (Or.inl ⟨by rfl, ?_⟩) ?_ ?_
          rotate_left
          ·intro w'
           go_simp
           with_reducible rfl
          rotate_left
          ·simp only [Act.put, List.setIfInBounds_toArray, List.set_cons_zero, List.set_cons_succ, aG, aH]
           rfl
          refine aX (i := 2) (N := some 24) (v := ?_) (a' := ?_) #[false, true, true, false, false, false, false, false, false, false, false, false, false] rfl rfl (aK HT_.out (by kernel_rfl)) (fun _ _ _ h => h) (Or.inl ⟨by rfl, ?_⟩) ?_ ?_
          rotate_left
          ·intro w'
           go_simp
           with_reducible rfl
          rotate_left
          ·simp only [Act.put, List.setIfInBounds_toArray, List.set_cons_zero, List.set_cons_succ, aG, aH]
           rfl
          refine aX (i := 3) (N := some 25) (v := ?_) (a' := ?_) #[false, true, true, true, false, false, false, false, false, false, false, false, false] rfl rfl (aK HT_.out (by kernel_rfl)) (fun _ _ _ h => h) (Or.inl ⟨by rfl, ?_⟩) ?_ ?_
          rotate_left
          ·intro w'
           go_simp
           with_reducible rfl
          rotate_left
          ·simp only [Act.put, List.setIfInBounds_toArray, List.set_cons_zero, List.set_cons_succ, aG, aH]
           rfl
          refine aX (i := 8) (N := some 30) (v := ?_) (a' := ?_) #[false, true, true, true, false, false, false, false, true, false, false, false, false] rfl rfl (aK HT_.out (by kernel_rfl)) (fun _ _ _ h => h) (Or.inl ⟨by rfl, ?_⟩) ?_ ?_
          rotate_left
          ·intro w'
           go_simp
           with_reducible rfl
          rotate_left
          ·simp only [Act.put, List.setIfInBounds_toArray, List.set_cons_zero, List.set_cons_succ, aG, aH]
           rfl
          refine aX (i := 9) (N := some 31) (v := ?_) (a' := ?_) #[false, true, true, true, false, false, false, false, true, true, false, false, false] rfl rfl (aK HT_.out (by kernel_rfl)) (fun _ _ _ h => h) (Or.inl ⟨by rfl, ?_⟩) ?_ ?_
          rotate_left
          ·intro w'
           go_simp
           with_reducible rfl
          rotate_left
          ·simp only [Act.put, List.setIfInBounds_toArray, List.set_cons_zero, List.set_cons_succ, aG, aH]
           rfl
          refine aX (i := 10) (N := some 32) (v := ?_) (a' := ?_) #[false, true, true, true, false, false, false, false, true, true, true, false, false] rfl rfl (aK HT_.out (by kernel_rfl)) (fun _ _ _ h => h) (Or.inl ⟨by rfl, ?_⟩) ?_ ?_
          rotate_left
          ·intro w'
           go_simp
           with_reducible rfl
          rotate_left
          ·simp only [Act.put, List.setIfInBounds_toArray, List.set_cons_zero, List.set_cons_succ, aG, aH]
           rfl
          refine eO (i := 5) (N := some 27) (v := ?_) (a' := ?_) #[false, true, true, true, false, true, false, false, true, true, true, false, false] rfl rfl (dx HT_.out HW_.out (by kernel_rfl)) (fun _ _ _ h => h) (Or.inl ⟨by rfl, ?_⟩) hHeld ?_ ?_
          rotate_left
          ·rintro w' ⟨s0, s1⟩
           go_simp
           with_reducible rfl
          rotate_left
          ·simp only [Act.put, List.setIfInBounds_toArray, List.set_cons_zero, List.set_cons_succ, aG, aH]
           rfl
          refine nI (σ := Value × Value × Value) 3 #[true, true, true, true, true, true, true, false, true, true, true, false, false] (fun s_ => [(22, s_.1), (26, s_.2.1), (28, s_.2.2)]) (fun s_ w' => (w'.cell? ⟨gb189, 0, none⟩ = some (.string sU) ∧ w'.cell? ⟨gb189, 1, none⟩ = some (.int .i64 sV)) ∧ (Kd.R k31 31 w' w.heap.size (fun k_ => some k_ ≠ (s_.2.2 : Value).ownBlock ∧ k_ ≠ gb189) s_.2.1 y199) ∧ (Kd.R k31 31 w' w.heap.size (fun k_ => some k_ ≠ (s_.2.1 : Value).ownBlock ∧ k_ ≠ gb189) s_.2.2 y202) ∧ (w'.heap[gb189]? = some (.cells #[.string sU, .int .i64 sV] 31 (0, 0))) ∧ (Below w.heap.size w w')) ?_ ?_
          rotate_left
          ·intro hCont
           refine nX (i := 0) (j := 6) (Ni := some 22) (Nj := some 28) #[true, true, true, true, false, true, false, false, true, true, true, false, false] #[false, true, true, true, false, true, true, false, true, true, true, false, false] rfl rfl rfl rfl (kR HT_.out (by kernel_rfl)) (by decide) (by decide) (fun K hK => ?_) (fun K hK => ?_)
           ·skip
            refine Kd.eB k31 _ 31 ?hg (N := 22) ?hd (xs := ([] : List (S31))) (inner := []) (ok := fun _ => True) (okp := fun _ => True) ?hr ?hp (fun _ hk => hk) trivial (Below.refl _ _) (Nat.le_refl _) (by simp) ?_; (case hd => rfl); (case hg => rfl); (case hr => first | (go_simp; done) | (go_simp; rfl)); (case hp => exact (bZ.none _ _))
            intro v193 w27 ho28 hb hg_ hnew_
            clear hg_ hnew_
            (first | rw [← Ny192.out] at ho28 | (simp only [Int.reduceToNat] at ho28; rw [← Ny192.out] at ho28))
            have n0_ := aj.mk (Kd.cK (Kd.fq ho28 (g := gb189) (o := .cells #[.string sU, .int .i64 sV] 31 (0, 0)) (by (with_reducible repeat (first | refine aA ?_ _ | refine aD ?_ | refine aC ?_ _)); exact BK189.out)) (bf (by repeat (first | (with_reducible first | exact HB.out | apply au | apply ah | apply ak | refine ay ?_ GE189.out) | exact HB.out))))
            have n1_ := aj.mk (bI (g := gb189) (o := .cells #[.string sU, .int .i64 sV] 31 (0, 0)) (by (with_reducible repeat (first | refine aA ?_ _ | refine aD ?_ | refine aC ?_ _)); exact BK189.out) hb)
            have n2_ := aj.mk (aY (by repeat (first | (with_reducible first | exact HB.out | apply au | apply ah | apply ak | refine ay ?_ GE189.out) | exact HB.out)) hb)
            clear BK189
            clear HB
            have HO194 := n0_
            have BK189 := n1_
            have HB := n2_
            clear n0_ n1_ n2_
            clear hb ho28
            refine hK.out _ _ ⟨(aT BK189.out 0).trans rfl, (aT BK189.out 1).trans rfl⟩ (fun hHeld => ?_)
            clear hK K
            refine dw (a' := ?_) ?_ ?_
            rotate_left
            ·show Act.put _ (some 22) _ = _
             simp only [Act.put, List.setIfInBounds_toArray, List.set_cons_zero, List.set_cons_succ, aG, aH]
             rfl
            refine nX (i := 4) (j := 6) (Ni := some 26) (Nj := some 28) #[true, true, true, true, true, true, false, false, true, true, true, false, false] #[true, true, true, true, false, true, true, false, true, true, true, false, false] rfl rfl rfl rfl (kR HT_.out (by kernel_rfl)) (by decide) (by decide) (fun K hK => ?_) (fun K hK => ?_)
            ·skip
             refine Kd.dA k31 (w0 := w) w.heap.size (by rfl) (.tmp 22) (.tmp 25) 27 31 (.agg #[(.string ⟨#[]⟩), (.int .i64 0)]) 24 rfl Try.underlying27 fT rfl (by decide) (by omega) v193 y192 y195 _ _ _ (fun k_ => k_ ≠ gb189) (fun _ => False) rfl rfl ?aO ?aR (fun _ _ h => h) (fun _ h => h.elim) ?aF ?aB ?aS ?aL ?_
             (case aR => repeat (first | exact (Kd.dS HR198.out HB.out) | (with_reducible refine Kd.bU ?_ _) | (with_reducible refine Kd.bV ?_ _) | (with_reducible refine Kd.cB ?_)))
             (case aB => exact (by repeat (first | (with_reducible first | exact HB.out | apply au | apply ah | apply ak | refine ay ?_ GE189.out) | exact HB.out)))
             (case aF => exact (fun k_ hk => Kd.gJ (g := gb189) (o := .cells #[.string sU, .int .i64 sV] 31 (0, 0)) (by (with_reducible repeat (first | refine aA ?_ _ | refine aD ?_ | refine aC ?_ _)); exact BK189.out) k_ hk))
             (case aO => exact (by (with_reducible repeat (first | apply Kd.aN | apply Kd.aM | apply Kd.aW)); exact Kd.bO HO194.out (fun _ hk => hk.2)))
             (case aS => exact (bf (by repeat (first | (with_reducible first | exact HB.out | apply au | apply ah | apply ak | refine ay ?_ GE189.out) | exact HB.out))))
             (case aL => have := LMc16.out; omega)
             intro v200 w29 ho hb hg hat
             rw [← Ny199.out] at ho
             have n0_ := aj.mk (eG (g := gb189) (o := .cells #[.string sU, .int .i64 sV] 31 (0, 0)) (by (with_reducible repeat (first | refine aA ?_ _ | refine aD ?_ | refine aC ?_ _)); exact BK189.out) hg (Kd.gT HO194.out (fun _ hk => hk.2)))
             have n1_ := aj.mk (hb)
             have n2_ := aj.mk (ho)
             clear BK189
             clear HB
             clear HO194
             have BK189 := n0_
             have HB := n1_
             have HO201 := n2_
             clear n0_ n1_ n2_
             clear ho hb hg hat
             refine hK.out _ _ ⟨(aT BK189.out 0).trans rfl, (aT BK189.out 1).trans rfl⟩ (fun hHeld => ?_)
             clear hK K
             refine dw (a' := ?_) ?_ ?_
             rotate_left
             ·show Act.put _ (some 26) _ = _
              simp only [Act.put, List.setIfInBounds_toArray, List.set_cons_zero, List.set_cons_succ, aG, aH]
              rfl
             refine fE (i := 6) (N := some 28) #[true, true, true, true, true, true, true, false, true, true, true, false, false] rfl rfl (dP HT_.out (by kernel_rfl)) (by decide) (fun K hK => ?_)
             refine Kd.eB k31 _ 31 ?hg (N := 28) ?hd (xs := ([(⟨sU, sV⟩ : S31)] : List (S31))) (inner := [.string sU, .int .i64 sV]) (ok := fun _ => True) (okp := fun _ => True) ?hr ?hp (fun _ hk => hk) trivial (Below.refl _ _) (Nat.le_refl _) (by simp) ?_; (case hd => rfl); (case hg => rfl); (case hr => first | (go_simp; done) | (go_simp; rfl)); (case hp => exact (bZ.c2 (show Kd.M k31 _ _ _ (⟨sU, sV⟩ : S31) [.string sU, .int .i64 sV] from (gD _ _ _ (⟨sU, sV⟩ : S31) )) (bZ.none _ _)))
             intro v203 w30 ho31 hb hg_ hnew_
             clear hg_ hnew_
             (first | rw [← Ny202.out] at ho31 | (simp only [Int.reduceToNat] at ho31; rw [← Ny202.out] at ho31))
             have n0_ := aj.mk (Kd.eT (by (with_reducible repeat (first | apply Kd.aN | apply Kd.aM | apply Kd.aW)); exact HO201.out) (Kd.fZ ho31) hb)
             have n1_ := aj.mk (Kd.cK (Kd.fq (Kd.gq ho31 (Kd.gM (by (with_reducible repeat (first | apply Kd.aN | apply Kd.aM | apply Kd.aW)); exact HO201.out))) (g := gb189) (o := .cells #[.string sU, .int .i64 sV] 31 (0, 0)) (by (with_reducible repeat (first | refine aA ?_ _ | refine aD ?_ | refine aC ?_ _)); exact BK189.out)) (bf (by repeat (first | (with_reducible first | exact HB.out | apply au | apply ah | apply ak | refine ay ?_ GE189.out) | exact HB.out))))
             have n2_ := aj.mk (bI (g := gb189) (o := .cells #[.string sU, .int .i64 sV] 31 (0, 0)) (by (with_reducible repeat (first | refine aA ?_ _ | refine aD ?_ | refine aC ?_ _)); exact BK189.out) hb)
             have n3_ := aj.mk (aY (by repeat (first | (with_reducible first | exact HB.out | apply au | apply ah | apply ak | refine ay ?_ GE189.out) | exact HB.out)) hb)
             clear HO201
             clear BK189
             clear HB
             have HO201 := n0_
             have HO204 := n1_
             have BK189 := n2_
             have HB := n3_
             clear n0_ n1_ n2_ n3_
             clear hb ho31
             refine hK.out _ _ ⟨(aT BK189.out 0).trans rfl, (aT BK189.out 1).trans rfl⟩ (fun hHeld => ?_)
             clear hK K
             refine dw (a' := ?_) ?_ ?_
             rotate_left
             ·show Act.put _ (some 28) _ = _
              simp only [Act.put, List.setIfInBounds_toArray, List.set_cons_zero, List.set_cons_succ, aG, aH]
              rfl
             exact dw (by simp only [gG, Act.put, List.setIfInBounds_toArray, List.set_cons_zero, List.set_cons_succ]) (hCont (v193, v200, v203) _ ⟨hHeld, (by (with_reducible repeat (first | apply Kd.aN | apply Kd.aM | apply Kd.aW)); exact Kd.bO HO201.out (fun _ hk => ⟨hk.2, hk.1⟩)), (by (with_reducible repeat (first | apply Kd.aN | apply Kd.aM | apply Kd.aW)); exact Kd.bO HO204.out (fun _ hk => ⟨hk.1.2, hk.2⟩)), (by (with_reducible repeat (first | refine aA ?_ _ | refine aD ?_ | refine aC ?_ _)); exact BK189.out), (by repeat (first | (with_reducible first | exact HB.out | apply au | apply ah | apply ak | refine ay ?_ GE189.out) | exact HB.out))⟩)
            ·skip
             refine Kd.eB k31 _ 31 ?hg (N := 28) ?hd (xs := ([(⟨sU, sV⟩ : S31)] : List (S31))) (inner := [.string sU, .int .i64 sV]) (ok := fun _ => True) (okp := fun _ => True) ?hr ?hp (fun _ hk => hk) trivial (Below.refl _ _) (Nat.le_refl _) (by simp) ?_; (case hd => rfl); (case hg => rfl); (case hr => first | (go_simp; done) | (go_simp; rfl)); (case hp => exact (bZ.c2 (show Kd.M k31 _ _ _ (⟨sU, sV⟩ : S31) [.string sU, .int .i64 sV] from (gD _ _ _ (⟨sU, sV⟩ : S31) )) (bZ.none _ _)))
             intro v203 w29 ho30 hb hg_ hnew_
             clear hg_ hnew_
             (first | rw [← Ny202.out] at ho30 | (simp only [Int.reduceToNat] at ho30; rw [← Ny202.out] at ho30))
             have n0_ := aj.mk (Kd.eT (by (with_reducible repeat (first | apply Kd.aN | apply Kd.aM | apply Kd.aW)); exact HO194.out) (Kd.fZ ho30) hb)
             have n1_ := aj.mk (Kd.cK (Kd.fq (Kd.gq ho30 (Kd.gM (by (with_reducible repeat (first | apply Kd.aN | apply Kd.aM | apply Kd.aW)); exact HO194.out))) (g := gb189) (o := .cells #[.string sU, .int .i64 sV] 31 (0, 0)) (by (with_reducible repeat (first | refine aA ?_ _ | refine aD ?_ | refine aC ?_ _)); exact BK189.out)) (bf (by repeat (first | (with_reducible first | exact HB.out | apply au | apply ah | apply ak | refine ay ?_ GE189.out) | exact HB.out))))
             have n2_ := aj.mk (bI (g := gb189) (o := .cells #[.string sU, .int .i64 sV] 31 (0, 0)) (by (with_reducible repeat (first | refine aA ?_ _ | refine aD ?_ | refine aC ?_ _)); exact BK189.out) hb)
             have n3_ := aj.mk (aY (by repeat (first | (with_reducible first | exact HB.out | apply au | apply ah | apply ak | refine ay ?_ GE189.out) | exact HB.out)) hb)
             clear HO194
             clear BK189
             clear HB
             have HO194 := n0_
             have HO204 := n1_
             have BK189 := n2_
             have HB := n3_
             clear n0_ n1_ n2_ n3_
             clear hb ho30
             refine hK.out _ _ ⟨(aT BK189.out 0).trans rfl, (aT BK189.out 1).trans rfl⟩ (fun hHeld => ?_)
             clear hK K
             refine dw (a' := ?_) ?_ ?_
             rotate_left
             ·show Act.put _ (some 28) _ = _
              simp only [Act.put, List.setIfInBounds_toArray, List.set_cons_zero, List.set_cons_succ, aG, aH]
              rfl
             refine fE (i := 4) (N := some 26) #[true, true, true, true, true, true, true, false, true, true, true, false, false] rfl rfl (dP HT_.out (by kernel_rfl)) (by decide) (fun K hK => ?_)
             refine Kd.dA k31 (w0 := w) w.heap.size (by rfl) (.tmp 22) (.tmp 25) 27 31 (.agg #[(.string ⟨#[]⟩), (.int .i64 0)]) 24 rfl Try.underlying27 fT rfl (by decide) (by omega) v193 y192 y195 _ _ _ (fun k_ => some k_ ≠ (v203 : Value).ownBlock ∧ k_ ≠ gb189) (fun _ => False) rfl rfl ?aO ?aR (fun _ _ h => h) (fun _ h => h.elim) ?aF ?aB ?aS ?aL ?_
             (case aR => repeat (first | exact (Kd.dS HR198.out HB.out) | (with_reducible refine Kd.bU ?_ _) | (with_reducible refine Kd.bV ?_ _) | (with_reducible refine Kd.cB ?_)))
             (case aB => exact (by repeat (first | (with_reducible first | exact HB.out | apply au | apply ah | apply ak | refine ay ?_ GE189.out) | exact HB.out)))
             (case aF => exact (fun k_ hk => ⟨Kd.fresh' (Kd.gM (by (with_reducible repeat (first | apply Kd.aN | apply Kd.aM | apply Kd.aW)); exact HO204.out)) k_ hk, Kd.gJ (g := gb189) (o := .cells #[.string sU, .int .i64 sV] 31 (0, 0)) (by (with_reducible repeat (first | refine aA ?_ _ | refine aD ?_ | refine aC ?_ _)); exact BK189.out) k_ hk⟩))
             (case aO => exact (by (with_reducible repeat (first | apply Kd.aN | apply Kd.aM | apply Kd.aW)); exact Kd.bO HO194.out (fun _ hk => ⟨hk.2, hk.1.2⟩)))
             (case aS => exact (bf (by repeat (first | (with_reducible first | exact HB.out | apply au | apply ah | apply ak | refine ay ?_ GE189.out) | exact HB.out))))
             (case aL => have := LMc16.out; omega)
             intro v200 w31 ho hb hg hat
             rw [← Ny199.out] at ho
             have n0_ := aj.mk (eG (g := gb189) (o := .cells #[.string sU, .int .i64 sV] 31 (0, 0)) (by (with_reducible repeat (first | refine aA ?_ _ | refine aD ?_ | refine aC ?_ _)); exact BK189.out) hg (Kd.gT HO194.out (fun _ hk => hk.1.2)))
             have n1_ := aj.mk (Kd.gu (ok := (fun k_ => k_ ≠ gb189)) (by (with_reducible repeat (first | apply Kd.aN | apply Kd.aM | apply Kd.aW)); exact Kd.bO HO204.out (fun _ hk => ⟨hk.2, hk.1.2⟩)) hg hat)
             have n2_ := aj.mk (hb)
             have n3_ := aj.mk (ho)
             clear BK189
             clear HO204
             clear HB
             clear HO194
             have BK189 := n0_
             have HO204 := n1_
             have HB := n2_
             have HO201 := n3_
             clear n0_ n1_ n2_ n3_
             clear ho hb hg hat
             refine hK.out _ _ ⟨(aT BK189.out 0).trans rfl, (aT BK189.out 1).trans rfl⟩ (fun hHeld => ?_)
             clear hK K
             refine dw (a' := ?_) ?_ ?_
             rotate_left
             ·show Act.put _ (some 26) _ = _
              simp only [Act.put, List.setIfInBounds_toArray, List.set_cons_zero, List.set_cons_succ, aG, aH]
              rfl
             exact dw (by simp only [gG, Act.put, List.setIfInBounds_toArray, List.set_cons_zero, List.set_cons_succ]) (hCont (v193, v200, v203) _ ⟨hHeld, (by (with_reducible repeat (first | apply Kd.aN | apply Kd.aM | apply Kd.aW)); exact HO201.out), (by (with_reducible repeat (first | apply Kd.aN | apply Kd.aM | apply Kd.aW)); exact Kd.bO HO204.out (fun _ hk => ⟨hk.2, hk.1⟩)), (by (with_reducible repeat (first | refine aA ?_ _ | refine aD ?_ | refine aC ?_ _)); exact BK189.out), (by repeat (first | (with_reducible first | exact HB.out | apply au | apply ah | apply ak | refine ay ?_ GE189.out) | exact HB.out))⟩)
           ·skip
            refine Kd.eB k31 _ 31 ?hg (N := 28) ?hd (xs := ([(⟨sU, sV⟩ : S31)] : List (S31))) (inner := [.string sU, .int .i64 sV]) (ok := fun _ => True) (okp := fun _ => True) ?hr ?hp (fun _ hk => hk) trivial (Below.refl _ _) (Nat.le_refl _) (by simp) ?_; (case hd => rfl); (case hg => rfl); (case hr => first | (go_simp; done) | (go_simp; rfl)); (case hp => exact (bZ.c2 (show Kd.M k31 _ _ _ (⟨sU, sV⟩ : S31) [.string sU, .int .i64 sV] from (gD _ _ _ (⟨sU, sV⟩ : S31) )) (bZ.none _ _)))
            intro v203 w27 ho28 hb hg_ hnew_
            clear hg_ hnew_
            (first | rw [← Ny202.out] at ho28 | (simp only [Int.reduceToNat] at ho28; rw [← Ny202.out] at ho28))
            have n0_ := aj.mk (Kd.cK (Kd.fq ho28 (g := gb189) (o := .cells #[.string sU, .int .i64 sV] 31 (0, 0)) (by (with_reducible repeat (first | refine aA ?_ _ | refine aD ?_ | refine aC ?_ _)); exact BK189.out)) (bf (by repeat (first | (with_reducible first | exact HB.out | apply au | apply ah | apply ak | refine ay ?_ GE189.out) | exact HB.out))))
            have n1_ := aj.mk (bI (g := gb189) (o := .cells #[.string sU, .int .i64 sV] 31 (0, 0)) (by (with_reducible repeat (first | refine aA ?_ _ | refine aD ?_ | refine aC ?_ _)); exact BK189.out) hb)
            have n2_ := aj.mk (aY (by repeat (first | (with_reducible first | exact HB.out | apply au | apply ah | apply ak | refine ay ?_ GE189.out) | exact HB.out)) hb)
            clear BK189
            clear HB
            have HO204 := n0_
            have BK189 := n1_
            have HB := n2_
            clear n0_ n1_ n2_
            clear hb ho28
            refine hK.out _ _ ⟨(aT BK189.out 0).trans rfl, (aT BK189.out 1).trans rfl⟩ (fun hHeld => ?_)
            clear hK K
            refine dw (a' := ?_) ?_ ?_
            rotate_left
            ·show Act.put _ (some 28) _ = _
             simp only [Act.put, List.setIfInBounds_toArray, List.set_cons_zero, List.set_cons_succ, aG, aH]
             rfl
            refine fE (i := 0) (N := some 22) #[true, true, true, true, false, true, true, false, true, true, true, false, false] rfl rfl (dP HT_.out (by kernel_rfl)) (by decide) (fun K hK => ?_)
            refine Kd.eB k31 _ 31 ?hg (N := 22) ?hd (xs := ([] : List (S31))) (inner := []) (ok := fun _ => True) (okp := fun _ => True) ?hr ?hp (fun _ hk => hk) trivial (Below.refl _ _) (Nat.le_refl _) (by simp) ?_; (case hd => rfl); (case hg => rfl); (case hr => first | (go_simp; done) | (go_simp; rfl)); (case hp => exact (bZ.none _ _))
            intro v193 w29 ho30 hb hg_ hnew_
            clear hg_ hnew_
            (first | rw [← Ny192.out] at ho30 | (simp only [Int.reduceToNat] at ho30; rw [← Ny192.out] at ho30))
            have n0_ := aj.mk (Kd.eT (by (with_reducible repeat (first | apply Kd.aN | apply Kd.aM | apply Kd.aW)); exact HO204.out) (Kd.fZ ho30) hb)
            have n1_ := aj.mk (Kd.cK (Kd.fq (Kd.gq ho30 (Kd.gM (by (with_reducible repeat (first | apply Kd.aN | apply Kd.aM | apply Kd.aW)); exact HO204.out))) (g := gb189) (o := .cells #[.string sU, .int .i64 sV] 31 (0, 0)) (by (with_reducible repeat (first | refine aA ?_ _ | refine aD ?_ | refine aC ?_ _)); exact BK189.out)) (bf (by repeat (first | (with_reducible first | exact HB.out | apply au | apply ah | apply ak | refine ay ?_ GE189.out) | exact HB.out))))
            have n2_ := aj.mk (bI (g := gb189) (o := .cells #[.string sU, .int .i64 sV] 31 (0, 0)) (by (with_reducible repeat (first | refine aA ?_ _ | refine aD ?_ | refine aC ?_ _)); exact BK189.out) hb)
            have n3_ := aj.mk (aY (by repeat (first | (with_reducible first | exact HB.out | apply au | apply ah | apply ak | refine ay ?_ GE189.out) | exact HB.out)) hb)
            clear HO204
            clear BK189
            clear HB
            have HO204 := n0_
            have HO194 := n1_
            have BK189 := n2_
            have HB := n3_
            clear n0_ n1_ n2_ n3_
            clear hb ho30
            refine hK.out _ _ ⟨(aT BK189.out 0).trans rfl, (aT BK189.out 1).trans rfl⟩ (fun hHeld => ?_)
            clear hK K
            refine dw (a' := ?_) ?_ ?_
            rotate_left
            ·show Act.put _ (some 22) _ = _
             simp only [Act.put, List.setIfInBounds_toArray, List.set_cons_zero, List.set_cons_succ, aG, aH]
             rfl
            refine fE (i := 4) (N := some 26) #[true, true, true, true, true, true, true, false, true, true, true, false, false] rfl rfl (dP HT_.out (by kernel_rfl)) (by decide) (fun K hK => ?_)
            refine Kd.dA k31 (w0 := w) w.heap.size (by rfl) (.tmp 22) (.tmp 25) 27 31 (.agg #[(.string ⟨#[]⟩), (.int .i64 0)]) 24 rfl Try.underlying27 fT rfl (by decide) (by omega) v193 y192 y195 _ _ _ (fun k_ => some k_ ≠ (v203 : Value).ownBlock ∧ k_ ≠ gb189) (fun _ => False) rfl rfl ?aO ?aR (fun _ _ h => h) (fun _ h => h.elim) ?aF ?aB ?aS ?aL ?_
            (case aR => repeat (first | exact (Kd.dS HR198.out HB.out) | (with_reducible refine Kd.bU ?_ _) | (with_reducible refine Kd.bV ?_ _) | (with_reducible refine Kd.cB ?_)))
            (case aB => exact (by repeat (first | (with_reducible first | exact HB.out | apply au | apply ah | apply ak | refine ay ?_ GE189.out) | exact HB.out)))
            (case aF => exact (fun k_ hk => ⟨Kd.fresh' (Kd.gM (by (with_reducible repeat (first | apply Kd.aN | apply Kd.aM | apply Kd.aW)); exact HO204.out)) k_ hk, Kd.gJ (g := gb189) (o := .cells #[.string sU, .int .i64 sV] 31 (0, 0)) (by (with_reducible repeat (first | refine aA ?_ _ | refine aD ?_ | refine aC ?_ _)); exact BK189.out) k_ hk⟩))
            (case aO => exact (by (with_reducible repeat (first | apply Kd.aN | apply Kd.aM | apply Kd.aW)); exact Kd.bO HO194.out (fun _ hk => ⟨hk.1.2, hk.2⟩)))
            (case aS => exact (bf (by repeat (first | (with_reducible first | exact HB.out | apply au | apply ah | apply ak | refine ay ?_ GE189.out) | exact HB.out))))
            (case aL => have := LMc16.out; omega)
            intro v200 w31 ho hb hg hat
            rw [← Ny199.out] at ho
            have n0_ := aj.mk (eG (g := gb189) (o := .cells #[.string sU, .int .i64 sV] 31 (0, 0)) (by (with_reducible repeat (first | refine aA ?_ _ | refine aD ?_ | refine aC ?_ _)); exact BK189.out) hg (Kd.gT HO194.out (fun _ hk => hk.2)))
            have n1_ := aj.mk (Kd.gu (ok := (fun k_ => k_ ≠ gb189)) (by (with_reducible repeat (first | apply Kd.aN | apply Kd.aM | apply Kd.aW)); exact Kd.bO HO204.out (fun _ hk => ⟨hk.1.2, hk.2⟩)) hg hat)
            have n2_ := aj.mk (hb)
            have n3_ := aj.mk (ho)
            clear BK189
            clear HO204
            clear HB
            clear HO194
            have BK189 := n0_
            have HO204 := n1_
            have HB := n2_
            have HO201 := n3_
            clear n0_ n1_ n2_ n3_
            clear ho hb hg hat
            refine hK.out _ _ ⟨(aT BK189.out 0).trans rfl, (aT BK189.out 1).trans rfl⟩ (fun hHeld => ?_)
            clear hK K
            refine dw (a' := ?_) ?_ ?_
            rotate_left
            ·show Act.put _ (some 26) _ = _
             simp only [Act.put, List.setIfInBounds_toArray, List.set_cons_zero, List.set_cons_succ, aG, aH]
             rfl
            exact dw (by simp only [gG, Act.put, List.setIfInBounds_toArray, List.set_cons_zero, List.set_cons_succ]) (hCont (v193, v200, v203) _ ⟨hHeld, (by (with_reducible repeat (first | apply Kd.aN | apply Kd.aM | apply Kd.aW)); exact HO201.out), (by (with_reducible repeat (first | apply Kd.aN | apply Kd.aM | apply Kd.aW)); exact Kd.bO HO204.out (fun _ hk => ⟨hk.2, hk.1⟩)), (by (with_reducible repeat (first | refine aA ?_ _ | refine aD ?_ | refine aC ?_ _)); exact BK189.out), (by repeat (first | (with_reducible first | exact HB.out | apply au | apply ah | apply ak | refine ay ?_ GE189.out) | exact HB.out))⟩)
          rintro ⟨v193, v200, v203⟩ w32 ⟨hS_, h0_, h1_, h2_, h3_⟩
          have n0_ : aj (Kd.R k31 31 w32 w.heap.size (fun k_ => some k_ ≠ (v203 : Value).ownBlock ∧ k_ ≠ gb189) v200 y199) := ⟨h0_⟩
          have n1_ : aj (Kd.R k31 31 w32 w.heap.size (fun k_ => some k_ ≠ (v200 : Value).ownBlock ∧ k_ ≠ gb189) v203 y202) := ⟨h1_⟩
          have n2_ : aj (w32.heap[gb189]? = some (.cells #[.string sU, .int .i64 sV] 31 (0, 0))) := ⟨h2_⟩
          have n3_ : aj (Below w.heap.size w w32) := ⟨h3_⟩
          clear BK189
          clear HB
          clear h0_ h1_ h2_ h3_
          have HO201 := n0_
          have HO204 := n1_
          have BK189 := n2_
          have HB := n3_
          clear n0_ n1_ n2_ n3_
          have hHeld : w32.cell? ⟨gb189, 0, none⟩ = some (.string sU) ∧ w32.cell? ⟨gb189, 1, none⟩ = some (.int .i64 sV) := hS_
          obtain ⟨Ao34, co34, eo34⟩ := Kd.dO HO204.out
          (first | subst eo34 | (injection eo34 with f1_ f2_ f3_; have f4_ := f1_.symm; have f5_ := f3_.symm; clear f1_ f2_ f3_; subst f4_; subst f5_))
          refine dw (a' := ?_) ?_ ?_
          rotate_left
          ·simp only [gG, Act.put, List.setIfInBounds_toArray, List.set_cons_zero, List.set_cons_succ]
           rfl
          refine fE (i := 7) (N := some 29) #[true, true, true, true, true, true, true, true, true, true, true, false, false] rfl rfl (dP HT_.out (by kernel_rfl)) (by decide) (fun K hK => ?_)
          refine Kd.dA k31 (w0 := w) w.heap.size (by rfl) (.tmp 26) (.tmp 28) 27 31 (.agg #[(.string ⟨#[]⟩), (.int .i64 0)]) 24 rfl Try.underlying27 fT rfl (by decide) (by omega) v200 y199 y202 _ _ _ (fun k_ => some k_ ≠ (.slice Ao34 y202.length co34 : Value).ownBlock ∧ k_ ≠ gb189) (fun _ => False) rfl rfl ?aO ?aR (fun _ _ h => h) (fun _ h => h.elim) ?aF ?aB ?aS ?aL ?_
          (case aR => repeat (first | exact (Kd.bJ HO204.out).2.2 | (with_reducible refine Kd.bU ?_ _) | (with_reducible refine Kd.bV ?_ _) | (with_reducible refine Kd.cB ?_)))
          (case aB => exact (by repeat (first | (with_reducible first | exact HB.out | apply au | apply ah | apply ak | refine ay ?_ GE189.out) | exact HB.out)))
          (case aF => exact (fun k_ hk => ⟨Kd.fresh' (Kd.gM (by (with_reducible repeat (first | apply Kd.aN | apply Kd.aM | apply Kd.aW)); exact HO204.out)) k_ hk, Kd.gJ (g := gb189) (o := .cells #[.string sU, .int .i64 sV] 31 (0, 0)) (by (with_reducible repeat (first | refine aA ?_ _ | refine aD ?_ | refine aC ?_ _)); exact BK189.out) k_ hk⟩))
          (case aO => exact (by (with_reducible repeat (first | apply Kd.aN | apply Kd.aM | apply Kd.aW)); exact HO201.out))
          (case aS => exact (bf (by repeat (first | (with_reducible first | exact HB.out | apply au | apply ah | apply ak | refine ay ?_ GE189.out) | exact HB.out))))
          (case aL => have := LMc17.out; omega)
          intro v206 w33 ho hb hg hat
          rw [← Ny205.out] at ho
          have n0_ := aj.mk (eG (g := gb189) (o := .cells #[.string sU, .int .i64 sV] 31 (0, 0)) (by (with_reducible repeat (first | refine aA ?_ _ | refine aD ?_ | refine aC ?_ _)); exact BK189.out) hg (Kd.gT HO201.out (fun _ hk => hk.2)))
          have n1_ := aj.mk (Kd.gu (ok := (fun k_ => k_ ≠ gb189)) (by (with_reducible repeat (first | apply Kd.aN | apply Kd.aM | apply Kd.aW)); exact Kd.bO HO204.out (fun _ hk => ⟨hk.2, hk.1⟩)) hg hat)
          have n2_ := aj.mk (hb)
          have n3_ := aj.mk (ho)
          clear BK189
          clear HO204
          clear HB
          clear HO201
          have BK189 := n0_
          have HO204 := n1_
          have HB := n2_
          have HO207 := n3_
          clear n0_ n1_ n2_ n3_
          clear ho hb hg hat
          refine hK.out _ _ ⟨(aT BK189.out 0).trans rfl, (aT BK189.out 1).trans rfl⟩ (fun hHeld => ?_)
          clear hK K
          refine dw (a' := ?_) ?_ ?_
          rotate_left
          ·show Act.put _ (some 29) _ = _
           simp only [Act.put, List.setIfInBounds_toArray, List.set_cons_zero, List.set_cons_succ, aG, aH]
           rfl
          refine fE (i := 11) (N := some 33) #[true, true, true, true, true, true, true, true, true, true, true, true, false] rfl rfl (dP HT_.out (by kernel_rfl)) (by decide) (fun K hK => ?_)
          refine Kd.dA k31 (w0 := w) w.heap.size (by rfl) (.tmp 29) (.tmp 32) 27 31 (.agg #[(.string ⟨#[]⟩), (.int .i64 0)]) 24 rfl Try.underlying27 fT rfl (by decide) (by omega) v206 y205 y208 _ _ _ (fun k_ => some k_ ≠ (.slice Ao34 y202.length co34 : Value).ownBlock ∧ k_ ≠ gb189) (fun _ => False) rfl rfl ?aO ?aR (fun _ _ h => h) (fun _ h => h.elim) ?aF ?aB ?aS ?aL ?_
          (case aR => repeat (first | exact (Kd.dS HR211.out HB.out) | (with_reducible refine Kd.bU ?_ _) | (with_reducible refine Kd.bV ?_ _) | (with_reducible refine Kd.cB ?_)))
          (case aB => exact (by repeat (first | (with_reducible first | exact HB.out | apply au | apply ah | apply ak | refine ay ?_ GE189.out) | exact HB.out)))
          (case aF => exact (fun k_ hk => ⟨Kd.fresh' (Kd.gM (by (with_reducible repeat (first | apply Kd.aN | apply Kd.aM | apply Kd.aW)); exact HO204.out)) k_ hk, Kd.gJ (g := gb189) (o := .cells #[.string sU, .int .i64 sV] 31 (0, 0)) (by (with_reducible repeat (first | refine aA ?_ _ | refine aD ?_ | refine aC ?_ _)); exact BK189.out) k_ hk⟩))
          (case aO => exact (by (with_reducible repeat (first | apply Kd.aN | apply Kd.aM | apply Kd.aW)); exact HO207.out))
          (case aS => exact (bf (by repeat (first | (with_reducible first | exact HB.out | apply au | apply ah | apply ak | refine ay ?_ GE189.out) | exact HB.out))))
          (case aL => have := LMc20.out; omega)
          intro v213 w35 ho hb hg hat
          rw [← Ny212.out] at ho
          have n0_ := aj.mk (eG (g := gb189) (o := .cells #[.string sU, .int .i64 sV] 31 (0, 0)) (by (with_reducible repeat (first | refine aA ?_ _ | refine aD ?_ | refine aC ?_ _)); exact BK189.out) hg (Kd.gT HO207.out (fun _ hk => hk.2)))
          have n1_ := aj.mk (Kd.gu (ok := (fun k_ => k_ ≠ gb189)) (by (with_reducible repeat (first | apply Kd.aN | apply Kd.aM | apply Kd.aW)); exact HO204.out) hg hat)
          have n2_ := aj.mk (hb)
          have n3_ := aj.mk (ho)
          clear BK189
          clear HO204
          clear HB
          clear HO207
          have BK189 := n0_
          have HO204 := n1_
          have HB := n2_
          have HO214 := n3_
          clear n0_ n1_ n2_ n3_
          clear ho hb hg hat
          refine hK.out _ _ ⟨(aT BK189.out 0).trans rfl, (aT BK189.out 1).trans rfl⟩ (fun hHeld => ?_)
          clear hK K
          refine dw (a' := ?_) ?_ ?_
          rotate_left
          ·show Act.put _ (some 33) _ = _
           simp only [Act.put, List.setIfInBounds_toArray, List.set_cons_zero, List.set_cons_succ, aG, aH]
           rfl
          refine aX (i := 12) (N := some 7) (v := ?_) (a' := ?_) #[true, true, true, true, true, true, true, true, true, true, true, true, true] rfl rfl (aK HT_.out (by kernel_rfl)) (fun _ _ _ h => h) (Or.inl ⟨by rfl, ?_⟩) ?_ ?_
          rotate_left
          ·intro w'
           go_simp
           with_reducible rfl
          rotate_left
          ·simp only [Act.put, List.setIfInBounds_toArray, List.set_cons_zero, List.set_cons_succ, aG, aH]
           rfl
          refine gU (fD HT_.out (by kernel_rfl)) ?_
          have hcz36_0 : w35.cell? ⟨gb189, 0, none⟩ = some (.string sU) := (aT BK189.out 0).trans rfl
          have hcz36_1 : w35.cell? ⟨gb189, 1, none⟩ = some (.int .i64 sV) := (aT BK189.out 1).trans rfl
          have hfz36_0 := bG BK189.out 0
          have hfz36_1 := bG BK189.out 1
          try go_wp2_with (first | ((with_reducible refine bq (f := 52) rfl ?_); refine bT (some 39) rfl rfl Try.func52 (by kernel_rfl) rfl #[.slice A0 l0.length c0, .string sU, .int .i64 sV] rfl (by (try simp only [List.map_toArray, List.map_cons, List.map_nil]); first | done | rfl | (simp only [List.length_drop, List.length_take]; rfl)) ?_; (with_reducible refine (cZ.calls kj2 _ _ l0 sU sV true _ ?side1 ?side2 A21.out).mono ?_); (case side1 => repeat (first | exact (Kd.dS HR0.out HB.out) | (with_reducible refine Kd.bU ?_ _) | (with_reducible refine Kd.bV ?_ _) | (with_reducible refine Kd.cB ?_))); (case side2 => exact HC0.out); rintro e w' ⟨rfl, ⟨nd, rfl⟩⟩; refine ⟨_, rfl, ?_⟩) | ((with_reducible refine dz (N := 45) rfl ?_); refine Kd.kY k31 _ 31 ?hg (N := 45) ?hd (xs := ([] : List (S31))) (inner := []) (ok := fun _ => True) (okp := fun _ => True) ?hr ?hp (fun _ hk => hk) trivial (Below.refl _ _) (Nat.le_refl _) (by simp) ?_; (case hd => rfl); (case hg => rfl); (case hr => first | (go_simp; done) | (go_simp; rfl)); (case hp => exact (bZ.none _ _)); intro v217 w37 ho38 hb hg_ hnew_; clear hg_ hnew_; (first | rw [← Ny216.out] at ho38 | (simp only [Int.reduceToNat] at ho38; rw [← Ny216.out] at ho38)); have n0_ := aj.mk (Kd.eT (by (with_reducible repeat (first | apply Kd.aN | apply Kd.aM | apply Kd.aW)); exact HO204.out) (Kd.fZ ho38) hb); have n1_ := aj.mk (Kd.eT (by (with_reducible repeat (first | apply Kd.aN | apply Kd.aM | apply Kd.aW)); exact HO214.out) (Kd.fZ ho38) hb); have n2_ := aj.mk (Kd.cK (Kd.fq (Kd.gq (Kd.gq ho38 (Kd.gM (by (with_reducible repeat (first | apply Kd.aN | apply Kd.aM | apply Kd.aW)); exact HO204.out))) (Kd.gM (by (with_reducible repeat (first | apply Kd.aN | apply Kd.aM | apply Kd.aW)); exact HO214.out))) (g := gb189) (o := .cells #[.string sU, .int .i64 sV] 31 (0, 0)) (by (with_reducible repeat (first | refine aA ?_ _ | refine aD ?_ | refine aC ?_ _)); exact BK189.out)) (bf (by repeat (first | (with_reducible first | exact HB.out | apply au | apply ah | apply ak | refine ay ?_ GE189.out) | exact HB.out)))); have n3_ := aj.mk (bI (g := gb189) (o := .cells #[.string sU, .int .i64 sV] 31 (0, 0)) (by (with_reducible repeat (first | refine aA ?_ _ | refine aD ?_ | refine aC ?_ _)); exact BK189.out) hb); have n4_ := aj.mk (aY (by repeat (first | (with_reducible first | exact HB.out | apply au | apply ah | apply ak | refine ay ?_ GE189.out) | exact HB.out)) hb); clear HO204; clear HO214; clear BK189; clear HB; have HO204 := n0_; have HO214 := n1_; have HO218 := n2_; have BK189 := n3_; have HB := n4_; clear n0_ n1_ n2_ n3_ n4_; clear hb ho38) | ((with_reducible refine gX (b := .append) (xs := #[.tmp 45, .tmp 46]) rfl ?_); at_builtin; refine Kd.jS k31 (w0 := w) w.heap.size rfl (.tmp 45) (.tmp 46) 27 31 (.agg #[(.string ⟨#[]⟩), (.int .i64 0)]) 24 rfl Try.underlying27 fT rfl (by decide) (by omega) v217 y216 l0 _ _ _ (fun k_ => some k_ ≠ (.slice Ao34 y202.length co34 : Value).ownBlock ∧ some k_ ≠ (v213 : Value).ownBlock ∧ k_ ≠ gb189) (fun _ => False) rfl rfl ?aO ?aR (fun _ _ h => h) (fun _ h => h.elim) ?aF ?aB ?aS ?aL ?_; (case aR => repeat (first | exact (Kd.dS HR0.out HB.out) | (with_reducible refine Kd.bU ?_ _) | (with_reducible refine Kd.bV ?_ _) | (with_reducible refine Kd.cB ?_))); (case aB => exact (by repeat (first | (with_reducible first | exact HB.out | apply au | apply ah | apply ak | refine ay ?_ GE189.out) | exact HB.out))); (case aF => exact (fun k_ hk => ⟨Kd.fresh' (Kd.gM (by (with_reducible repeat (first | apply Kd.aN | apply Kd.aM | apply Kd.aW)); exact HO204.out)) k_ hk, Kd.fresh' (Kd.gM (by (with_reducible repeat (first | apply Kd.aN | apply Kd.aM | apply Kd.aW)); exact HO214.out)) k_ hk, Kd.gJ (g := gb189) (o := .cells #[.string sU, .int .i64 sV] 31 (0, 0)) (by (with_reducible repeat (first | refine aA ?_ _ | refine aD ?_ | refine aC ?_ _)); exact BK189.out) k_ hk⟩)); (case aO => exact (by (with_reducible repeat (first | apply Kd.aN | apply Kd.aM | apply Kd.aW)); exact Kd.bO HO218.out (fun _ hk => ⟨hk.1.1.2, ⟨hk.1.2, hk.2⟩⟩))); (case aS => exact (bf (by repeat (first | (with_reducible first | exact HB.out | apply au | apply ah | apply ak | refine ay ?_ GE189.out) | exact HB.out)))); (case aL => have := LMc23.out; omega); intro v220 w39 ho hb hg hat; rw [← Ny219.out] at ho; have n0_ := aj.mk (eG (g := gb189) (o := .cells #[.string sU, .int .i64 sV] 31 (0, 0)) (by (with_reducible repeat (first | refine aA ?_ _ | refine aD ?_ | refine aC ?_ _)); exact BK189.out) hg (Kd.gT HO218.out (fun _ hk => hk.2))); have n1_ := aj.mk (Kd.gu (ok := (fun k_ => some k_ ≠ (v213 : Value).ownBlock ∧ k_ ≠ gb189)) (by (with_reducible repeat (first | apply Kd.aN | apply Kd.aM | apply Kd.aW)); exact Kd.bO HO204.out (fun _ hk => ⟨⟨hk.1.2, hk.1.1⟩, hk.2⟩)) hg hat); have n2_ := aj.mk (Kd.gu (ok := (fun k_ => some k_ ≠ (.slice Ao34 y202.length co34 : Value).ownBlock ∧ k_ ≠ gb189)) (by (with_reducible repeat (first | apply Kd.aN | apply Kd.aM | apply Kd.aW)); exact HO214.out) hg hat); have n3_ := aj.mk (hb); have n4_ := aj.mk (ho); clear BK189; clear HO204; clear HO214; clear HB; clear HO218; have BK189 := n0_; have HO204 := n1_; have HO214 := n2_; have HB := n3_; have HO221 := n4_; clear n0_ n1_ n2_ n3_ n4_; clear ho hb hg hat))
          go_ret2
          exact ⟨_, by first | rfl | (simp [bA, bB] <;> rfl) | (simp [*, bA, bB] <;> rfl), by (with_reducible repeat (first | apply Kd.aN | apply Kd.aM | apply Kd.aW)); exact Kd.bO HO221.out (fun _ hk => trivial), by repeat (first | (with_reducible first | exact HB.out | apply au | apply ah | apply ak | refine ay ?_ GE189.out) | exact HB.out)⟩
         ·rw [if_neg c23] at H
          exact absurd H (by simp)
        ·replace c22 := Bool.eq_false_iff.mpr c22
         subst c22
         have H1 : ((bC.f kj2 y212).bind fun t222 => (if t222 = true then (some (y212, true)) else ((some (([] : List (S31)) : List (S31))).bind fun y223 => (if y223.length + l0.length < 5864062014805 then (some ((y223 ++ l0), false)) else (none))))) = some (r1, r2) := by rw [if_neg (show ¬ (false = true) by decide)] at H; exact H
         clear H
         have H := H1
         clear H1
         replace H := Option.bind_eq_some_iff.mp H
         obtain ⟨t222, A400, H⟩ := H
         replace H : (if t222 = true then (some (y212, true)) else ((some (([] : List (S31)) : List (S31))).bind fun y223 => (if y223.length + l0.length < 5864062014805 then (some ((y223 ++ l0), false)) else (none)))) = some (r1, r2) := H
         have A40 := aj.mk A400
         clear A400
         by_cases c41 : t222 = true
         ·subst c41
          have H1 : (some (y212, true)) = some (r1, r2) := by rw [if_pos rfl] at H; exact H
          clear H
          have H := H1
          clear H1
          simp only [Option.some.injEq, Prod.mk.injEq] at H
          obtain ⟨rfl, rfl⟩ := H
          try go_wp2
          have n0_ := aj.mk (aD BK189.out)
          have n1_ := aj.mk (ak HB.out)
          clear BK189
          clear HB
          have BK189 := n0_
          have HB := n1_
          clear n0_ n1_
          have q43 : (x6_2 : Int) ≤ ((l0.length : Int) : Int) := of_decide_eq_true (by first | (with_reducible assumption) | assumption)
          obtain ⟨i043, hi043, _, hsz43, _⟩ := info_parts fT
          have hroom43 : l0.length ≤ c0 := HC0.out
          have hC43 : Kd.C k31 _ A0 l0.length l0 := HR0.out
          have hcut43 := ow (P := Try.prog) 27 31 .i64 Try.underlying27 hi043 A0 l0.length c0 x6_2 (of_decide_eq_true (by first | (with_reducible assumption) | assumption)) q43 hroom43
          have hr43 := Kd.oM (m := (x6_2 : Int).toNat) hC43 (by omega)
          have hy43 : y195.length = (x6_2 : Int).toNat := (by rw [Ny195.out, List.length_take]; omega)
          rw [← Ny195.out] at hr43
          rw [← hy43] at hcut43
          have HR198 := aj.mk hr43
          have HC198 := aj.mk (show y195.length ≤ c0 from by omega)
          clear hr43 hC43 hroom43 hi043 hsz43
          have KY43 := aj.mk hy43
          clear hy43
          replace q43 := eq_true q43
          have q44 : (x6_2 : Int) ≤ ((l0.length : Int) : Int) := of_decide_eq_true (by first | (with_reducible assumption) | assumption)
          obtain ⟨i044, hi044, _, hsz44, _⟩ := info_parts fT
          have hroom44 : l0.length ≤ c0 := HC0.out
          have hC44 : Kd.C k31 _ A0 l0.length l0 := HR0.out
          have q044 : (0 : Int) ≤ (x6_2 : Int) := of_decide_eq_true (by first | (with_reducible assumption) | assumption)
          have hcut44 := lX (P := Try.prog) 27 31 .i64 Try.underlying27 hi044 2 hsz44 A0 l0.length c0 x6_2 q044 q44
          have hr44 := Kd.oJ (m := (x6_2 : Int).toNat) (c := c0) hC44 (by omega) hroom44
          obtain ⟨A44, hA44⟩ : ∃ A1, A1 = (if c0 = (x6_2 : Int).toNat then A0 else (A0 : Option Addr).map (·.add ((x6_2 : Int).toNat * 2))) := ⟨_, rfl⟩
          obtain ⟨c44, hc44⟩ : ∃ c1, c1 = c0 - (x6_2 : Int).toNat := ⟨_, rfl⟩
          have hy44 : y208.length = l0.length - (x6_2 : Int).toNat := (by rw [Ny208.out, List.length_drop] <;> omega)
          rw [show (l0).drop (x6_2 : Int).toNat = y208 from Ny208.out.symm] at hr44
          replace hr44 : Kd.C k31 _ A44 y208.length y208 := (by rw [hA44]; exact hr44)
          rw [← hy44, ← hA44, ← hc44] at hcut44
          have HR211 := aj.mk hr44
          have HC211 := aj.mk (show y208.length ≤ c44 from by rw [hy44, hc44]; exact Nat.sub_le_sub_right hroom44 _)
          clear hr44 hC44 hroom44 hi044 hsz44 hc44
          have KY44 := aj.mk hy44
          have KA44 := aj.mk hA44
          clear hy44 hA44
          replace q44 := eq_true q44
          refine fK (n := 13) (S := fun w' => w'.cell? ⟨gb189, 0, none⟩ = some (.string sU) ∧ w'.cell? ⟨gb189, 1, none⟩ = some (.int .i64 sV)) (ds := []) #[false, false, false, false, false, false, false, false, false, false, false, false, false] (by kernel_rfl) rfl rfl ⟨(aT BK189.out 0).trans rfl, (aT BK189.out 1).trans rfl⟩ (fun hHeld => ?_); refine eu bD.kS bD.jl (fun HT_ HW_ => ?_)
          generalize wc.drew = w42 at BK189 HB HR198 HR211 hHeld ⊢
          refine aX (i := 1) (N := some 23) (v := ?_) (a' := ?_) #[false, true, false, false, false, false, false, false, false, false, false, false, false] rfl rfl (aK HT_.out (by kernel_rfl)) (fun _ _ _ h => h) (Or.inl ⟨by rfl, ?_⟩) ?_ ?_
          rotate_left
          ·intro w'
           go_simp
           with_reducible rfl
          rotate_left
          ·simp only [Act.put, List.setIfInBounds_toArray, List.set_cons_zero, List.set_cons_succ, aG, aH]
           rfl
          refine aX (i := 2) (N := some 24) (v := ?_) (a' := ?_) #[false, true, true, false, false, false, false, false, false, false, false, false, false] rfl rfl (aK HT_.out (by kernel_rfl)) (fun _ _ _ h => h) (Or.inl ⟨by rfl, ?_⟩) ?_ ?_
          rotate_left
          ·intro w'
           go_simp
           with_reducible rfl
          rotate_left
          ·simp only [Act.put, List.setIfInBounds_toArray, List.set_cons_zero, List.set_cons_succ, aG, aH]
           rfl
          refine aX (i := 3) (N := some 25) (v := ?_) (a' := ?_) #[false, true, true, true, false, false, false, false, false, false, false, false, false] rfl rfl (aK HT_.out (by kernel_rfl)) (fun _ _ _ h => h) (Or.inl ⟨by rfl, ?_⟩) ?_ ?_
          rotate_left
          ·intro w'
           go_simp
           with_reducible rfl
          rotate_left
          ·simp only [Act.put, List.setIfInBounds_toArray, List.set_cons_zero, List.set_cons_succ, aG, aH]
           rfl
          refine aX (i := 8) (N := some 30) (v := ?_) (a' := ?_) #[false, true, true, true, false, false, false, false, true, false, false, false, false] rfl rfl (aK HT_.out (by kernel_rfl)) (fun _ _ _ h => h) (Or.inl ⟨by rfl, ?_⟩) ?_ ?_
          rotate_left
          ·intro w'
           go_simp
           with_reducible rfl
          rotate_left
          ·simp only [Act.put, List.setIfInBounds_toArray, List.set_cons_zero, List.set_cons_succ, aG, aH]
           rfl
          refine aX (i := 9) (N := some 31) (v := ?_) (a' := ?_) #[false, true, true, true, false, false, false, false, true, true, false, false, false] rfl rfl (aK HT_.out (by kernel_rfl)) (fun _ _ _ h => h) (Or.inl ⟨by rfl, ?_⟩) ?_ ?_
          rotate_left
          ·intro w'
           go_simp
           with_reducible rfl
          rotate_left
          ·simp only [Act.put, List.setIfInBounds_toArray, List.set_cons_zero, List.set_cons_succ, aG, aH]
           rfl
          refine aX (i := 10) (N := some 32) (v := ?_) (a' := ?_) #[false, true, true, true, false, false, false, false, true, true, true, false, false] rfl rfl (aK HT_.out (by kernel_rfl)) (fun _ _ _ h => h) (Or.inl ⟨by rfl, ?_⟩) ?_ ?_
          rotate_left
          ·intro w'
           go_simp
           with_reducible rfl
          rotate_left
          ·simp only [Act.put, List.setIfInBounds_toArray, List.set_cons_zero, List.set_cons_succ, aG, aH]
           rfl
          refine eO (i := 5) (N := some 27) (v := ?_) (a' := ?_) #[false, true, true, true, false, true, false, false, true, true, true, false, false] rfl rfl (dx HT_.out HW_.out (by kernel_rfl)) (fun _ _ _ h => h) (Or.inl ⟨by rfl, ?_⟩) hHeld ?_ ?_
          rotate_left
          ·rintro w' ⟨s0, s1⟩
           go_simp
           with_reducible rfl
          rotate_left
          ·simp only [Act.put, List.setIfInBounds_toArray, List.set_cons_zero, List.set_cons_succ, aG, aH]
           rfl
          refine nI (σ := Value × Value × Value) 3 #[true, true, true, true, true, true, true, false, true, true, true, false, false] (fun s_ => [(22, s_.1), (26, s_.2.1), (28, s_.2.2)]) (fun s_ w' => (w'.cell? ⟨gb189, 0, none⟩ = some (.string sU) ∧ w'.cell? ⟨gb189, 1, none⟩ = some (.int .i64 sV)) ∧ (Kd.R k31 31 w' w.heap.size (fun k_ => some k_ ≠ (s_.2.2 : Value).ownBlock ∧ k_ ≠ gb189) s_.2.1 y199) ∧ (Kd.R k31 31 w' w.heap.size (fun k_ => some k_ ≠ (s_.2.1 : Value).ownBlock ∧ k_ ≠ gb189) s_.2.2 y202) ∧ (w'.heap[gb189]? = some (.cells #[.string sU, .int .i64 sV] 31 (0, 0))) ∧ (Below w.heap.size w w')) ?_ ?_
          rotate_left
          ·intro hCont
           refine nX (i := 0) (j := 6) (Ni := some 22) (Nj := some 28) #[true, true, true, true, false, true, false, false, true, true, true, false, false] #[false, true, true, true, false, true, true, false, true, true, true, false, false] rfl rfl rfl rfl (kR HT_.out (by kernel_rfl)) (by decide) (by decide) (fun K hK => ?_) (fun K hK => ?_)
           ·skip
            refine Kd.eB k31 _ 31 ?hg (N := 22) ?hd (xs := ([] : List (S31))) (inner := []) (ok := fun _ => True) (okp := fun _ => True) ?hr ?hp (fun _ hk => hk) trivial (Below.refl _ _) (Nat.le_refl _) (by simp) ?_; (case hd => rfl); (case hg => rfl); (case hr => first | (go_simp; done) | (go_simp; rfl)); (case hp => exact (bZ.none _ _))
            intro v193 w45 ho46 hb hg_ hnew_
            clear hg_ hnew_
            (first | rw [← Ny192.out] at ho46 | (simp only [Int.reduceToNat] at ho46; rw [← Ny192.out] at ho46))
            have n0_ := aj.mk (Kd.cK (Kd.fq ho46 (g := gb189) (o := .cells #[.string sU, .int .i64 sV] 31 (0, 0)) (by (with_reducible repeat (first | refine aA ?_ _ | refine aD ?_ | refine aC ?_ _)); exact BK189.out)) (bf (by repeat (first | (with_reducible first | exact HB.out | apply au | apply ah | apply ak | refine ay ?_ GE189.out) | exact HB.out))))
            have n1_ := aj.mk (bI (g := gb189) (o := .cells #[.string sU, .int .i64 sV] 31 (0, 0)) (by (with_reducible repeat (first | refine aA ?_ _ | refine aD ?_ | refine aC ?_ _)); exact BK189.out) hb)
            have n2_ := aj.mk (aY (by repeat (first | (with_reducible first | exact HB.out | apply au | apply ah | apply ak | refine ay ?_ GE189.out) | exact HB.out)) hb)
            clear BK189
            clear HB
            have HO194 := n0_
            have BK189 := n1_
            have HB := n2_
            clear n0_ n1_ n2_
            clear hb ho46
            refine hK.out _ _ ⟨(aT BK189.out 0).trans rfl, (aT BK189.out 1).trans rfl⟩ (fun hHeld => ?_)
            clear hK K
            refine dw (a' := ?_) ?_ ?_
            rotate_left
            ·show Act.put _ (some 22) _ = _
             simp only [Act.put, List.setIfInBounds_toArray, List.set_cons_zero, List.set_cons_succ, aG, aH]
             rfl
            refine nX (i := 4) (j := 6) (Ni := some 26) (Nj := some 28) #[true, true, true, true, true, true, false, false, true, true, true, false, false] #[true, true, true, true, false, true, true, false, true, true, true, false, false] rfl rfl rfl rfl (kR HT_.out (by kernel_rfl)) (by decide) (by decide) (fun K hK => ?_) (fun K hK => ?_)
            ·skip
             refine Kd.dA k31 (w0 := w) w.heap.size (by rfl) (.tmp 22) (.tmp 25) 27 31 (.agg #[(.string ⟨#[]⟩), (.int .i64 0)]) 24 rfl Try.underlying27 fT rfl (by decide) (by omega) v193 y192 y195 _ _ _ (fun k_ => k_ ≠ gb189) (fun _ => False) rfl rfl ?aO ?aR (fun _ _ h => h) (fun _ h => h.elim) ?aF ?aB ?aS ?aL ?_
             (case aR => repeat (first | exact (Kd.dS HR198.out HB.out) | (with_reducible refine Kd.bU ?_ _) | (with_reducible refine Kd.bV ?_ _) | (with_reducible refine Kd.cB ?_)))
             (case aB => exact (by repeat (first | (with_reducible first | exact HB.out | apply au | apply ah | apply ak | refine ay ?_ GE189.out) | exact HB.out)))
             (case aF => exact (fun k_ hk => Kd.gJ (g := gb189) (o := .cells #[.string sU, .int .i64 sV] 31 (0, 0)) (by (with_reducible repeat (first | refine aA ?_ _ | refine aD ?_ | refine aC ?_ _)); exact BK189.out) k_ hk))
             (case aO => exact (by (with_reducible repeat (first | apply Kd.aN | apply Kd.aM | apply Kd.aW)); exact Kd.bO HO194.out (fun _ hk => hk.2)))
             (case aS => exact (bf (by repeat (first | (with_reducible first | exact HB.out | apply au | apply ah | apply ak | refine ay ?_ GE189.out) | exact HB.out))))
             (case aL => have := LMc16.out; omega)
             intro v200 w47 ho hb hg hat
             rw [← Ny199.out] at ho
             have n0_ := aj.mk (eG (g := gb189) (o := .cells #[.string sU, .int .i64 sV] 31 (0, 0)) (by (with_reducible repeat (first | refine aA ?_ _ | refine aD ?_ | refine aC ?_ _)); exact BK189.out) hg (Kd.gT HO194.out (fun _ hk => hk.2)))
             have n1_ := aj.mk (hb)
             have n2_ := aj.mk (ho)
             clear BK189
             clear HB
             clear HO194
             have BK189 := n0_
             have HB := n1_
             have HO201 := n2_
             clear n0_ n1_ n2_
             clear ho hb hg hat
             refine hK.out _ _ ⟨(aT BK189.out 0).trans rfl, (aT BK189.out 1).trans rfl⟩ (fun hHeld => ?_)
             clear hK K
             refine dw (a' := ?_) ?_ ?_
             rotate_left
             ·show Act.put _ (some 26) _ = _
              simp only [Act.put, List.setIfInBounds_toArray, List.set_cons_zero, List.set_cons_succ, aG, aH]
              rfl
             refine fE (i := 6) (N := some 28) #[true, true, true, true, true, true, true, false, true, true, true, false, false] rfl rfl (dP HT_.out (by kernel_rfl)) (by decide) (fun K hK => ?_)
             refine Kd.eB k31 _ 31 ?hg (N := 28) ?hd (xs := ([(⟨sU, sV⟩ : S31)] : List (S31))) (inner := [.string sU, .int .i64 sV]) (ok := fun _ => True) (okp := fun _ => True) ?hr ?hp (fun _ hk => hk) trivial (Below.refl _ _) (Nat.le_refl _) (by simp) ?_; (case hd => rfl); (case hg => rfl); (case hr => first | (go_simp; done) | (go_simp; rfl)); (case hp => exact (bZ.c2 (show Kd.M k31 _ _ _ (⟨sU, sV⟩ : S31) [.string sU, .int .i64 sV] from (gD _ _ _ (⟨sU, sV⟩ : S31) )) (bZ.none _ _)))
             intro v203 w48 ho49 hb hg_ hnew_
             clear hg_ hnew_
             (first | rw [← Ny202.out] at ho49 | (simp only [Int.reduceToNat] at ho49; rw [← Ny202.out] at ho49))
             have n0_ := aj.mk (Kd.eT (by (with_reducible repeat (first | apply Kd.aN | apply Kd.aM | apply Kd.aW)); exact HO201.out) (Kd.fZ ho49) hb)
             have n1_ := aj.mk (Kd.cK (Kd.fq (Kd.gq ho49 (Kd.gM (by (with_reducible repeat (first | apply Kd.aN | apply Kd.aM | apply Kd.aW)); exact HO201.out))) (g := gb189) (o := .cells #[.string sU, .int .i64 sV] 31 (0, 0)) (by (with_reducible repeat (first | refine aA ?_ _ | refine aD ?_ | refine aC ?_ _)); exact BK189.out)) (bf (by repeat (first | (with_reducible first | exact HB.out | apply au | apply ah | apply ak | refine ay ?_ GE189.out) | exact HB.out))))
             have n2_ := aj.mk (bI (g := gb189) (o := .cells #[.string sU, .int .i64 sV] 31 (0, 0)) (by (with_reducible repeat (first | refine aA ?_ _ | refine aD ?_ | refine aC ?_ _)); exact BK189.out) hb)
             have n3_ := aj.mk (aY (by repeat (first | (with_reducible first | exact HB.out | apply au | apply ah | apply ak | refine ay ?_ GE189.out) | exact HB.out)) hb)
             clear HO201
             clear BK189
             clear HB
             have HO201 := n0_
             have HO204 := n1_
             have BK189 := n2_
             have HB := n3_
             clear n0_ n1_ n2_ n3_
             clear hb ho49
             refine hK.out _ _ ⟨(aT BK189.out 0).trans rfl, (aT BK189.out 1).trans rfl⟩ (fun hHeld => ?_)
             clear hK K
             refine dw (a' := ?_) ?_ ?_
             rotate_left
             ·show Act.put _ (some 28) _ = _
              simp only [Act.put, List.setIfInBounds_toArray, List.set_cons_zero, List.set_cons_succ, aG, aH]
              rfl
             exact dw (by simp only [gG, Act.put, List.setIfInBounds_toArray, List.set_cons_zero, List.set_cons_succ]) (hCont (v193, v200, v203) _ ⟨hHeld, (by (with_reducible repeat (first | apply Kd.aN | apply Kd.aM | apply Kd.aW)); exact Kd.bO HO201.out (fun _ hk => ⟨hk.2, hk.1⟩)), (by (with_reducible repeat (first | apply Kd.aN | apply Kd.aM | apply Kd.aW)); exact Kd.bO HO204.out (fun _ hk => ⟨hk.1.2, hk.2⟩)), (by (with_reducible repeat (first | refine aA ?_ _ | refine aD ?_ | refine aC ?_ _)); exact BK189.out), (by repeat (first | (with_reducible first | exact HB.out | apply au | apply ah | apply ak | refine ay ?_ GE189.out) | exact HB.out))⟩)
            ·skip
             refine Kd.eB k31 _ 31 ?hg (N := 28) ?hd (xs := ([(⟨sU, sV⟩ : S31)] : List (S31))) (inner := [.string sU, .int .i64 sV]) (ok := fun _ => True) (okp := fun _ => True) ?hr ?hp (fun _ hk => hk) trivial (Below.refl _ _) (Nat.le_refl _) (by simp) ?_; (case hd => rfl); (case hg => rfl); (case hr => first | (go_simp; done) | (go_simp; rfl)); (case hp => exact (bZ.c2 (show Kd.M k31 _ _ _ (⟨sU, sV⟩ : S31) [.string sU, .int .i64 sV] from (gD _ _ _ (⟨sU, sV⟩ : S31) )) (bZ.none _ _)))
             intro v203 w47 ho48 hb hg_ hnew_
             clear hg_ hnew_
             (first | rw [← Ny202.out] at ho48 | (simp only [Int.reduceToNat] at ho48; rw [← Ny202.out] at ho48))
             have n0_ := aj.mk (Kd.eT (by (with_reducible repeat (first | apply Kd.aN | apply Kd.aM | apply Kd.aW)); exact HO194.out) (Kd.fZ ho48) hb)
             have n1_ := aj.mk (Kd.cK (Kd.fq (Kd.gq ho48 (Kd.gM (by (with_reducible repeat (first | apply Kd.aN | apply Kd.aM | apply Kd.aW)); exact HO194.out))) (g := gb189) (o := .cells #[.string sU, .int .i64 sV] 31 (0, 0)) (by (with_reducible repeat (first | refine aA ?_ _ | refine aD ?_ | refine aC ?_ _)); exact BK189.out)) (bf (by repeat (first | (with_reducible first | exact HB.out | apply au | apply ah | apply ak | refine ay ?_ GE189.out) | exact HB.out))))
             have n2_ := aj.mk (bI (g := gb189) (o := .cells #[.string sU, .int .i64 sV] 31 (0, 0)) (by (with_reducible repeat (first | refine aA ?_ _ | refine aD ?_ | refine aC ?_ _)); exact BK189.out) hb)
             have n3_ := aj.mk (aY (by repeat (first | (with_reducible first | exact HB.out | apply au | apply ah | apply ak | refine ay ?_ GE189.out) | exact HB.out)) hb)
             clear HO194
             clear BK189
             clear HB
             have HO194 := n0_
             have HO204 := n1_
             have BK189 := n2_
             have HB := n3_
             clear n0_ n1_ n2_ n3_
             clear hb ho48
             refine hK.out _ _ ⟨(aT BK189.out 0).trans rfl, (aT BK189.out 1).trans rfl⟩ (fun hHeld => ?_)
             clear hK K
             refine dw (a' := ?_) ?_ ?_
             rotate_left
             ·show Act.put _ (some 28) _ = _
              simp only [Act.put, List.setIfInBounds_toArray, List.set_cons_zero, List.set_cons_succ, aG, aH]
              rfl
             refine fE (i := 4) (N := some 26) #[true, true, true, true, true, true, true, false, true, true, true, false, false] rfl rfl (dP HT_.out (by kernel_rfl)) (by decide) (fun K hK => ?_)
             refine Kd.dA k31 (w0 := w) w.heap.size (by rfl) (.tmp 22) (.tmp 25) 27 31 (.agg #[(.string ⟨#[]⟩), (.int .i64 0)]) 24 rfl Try.underlying27 fT rfl (by decide) (by omega) v193 y192 y195 _ _ _ (fun k_ => some k_ ≠ (v203 : Value).ownBlock ∧ k_ ≠ gb189) (fun _ => False) rfl rfl ?aO ?aR (fun _ _ h => h) (fun _ h => h.elim) ?aF ?aB ?aS ?aL ?_
             (case aR => repeat (first | exact (Kd.dS HR198.out HB.out) | (with_reducible refine Kd.bU ?_ _) | (with_reducible refine Kd.bV ?_ _) | (with_reducible refine Kd.cB ?_)))
             (case aB => exact (by repeat (first | (with_reducible first | exact HB.out | apply au | apply ah | apply ak | refine ay ?_ GE189.out) | exact HB.out)))
             (case aF => exact (fun k_ hk => ⟨Kd.fresh' (Kd.gM (by (with_reducible repeat (first | apply Kd.aN | apply Kd.aM | apply Kd.aW)); exact HO204.out)) k_ hk, Kd.gJ (g := gb189) (o := .cells #[.string sU, .int .i64 sV] 31 (0, 0)) (by (with_reducible repeat (first | refine aA ?_ _ | refine aD ?_ | refine aC ?_ _)); exact BK189.out) k_ hk⟩))
             (case aO => exact (by (with_reducible repeat (first | apply Kd.aN | apply Kd.aM | apply Kd.aW)); exact Kd.bO HO194.out (fun _ hk => ⟨hk.2, hk.1.2⟩)))
             (case aS => exact (bf (by repeat (first | (with_reducible first | exact HB.out | apply au | apply ah | apply ak | refine ay ?_ GE189.out) | exact HB.out))))
             (case aL => have := LMc16.out; omega)
             intro v200 w49 ho hb hg hat
             rw [← Ny199.out] at ho
             have n0_ := aj.mk (eG (g := gb189) (o := .cells #[.string sU, .int .i64 sV] 31 (0, 0)) (by (with_reducible repeat (first | refine aA ?_ _ | refine aD ?_ | refine aC ?_ _)); exact BK189.out) hg (Kd.gT HO194.out (fun _ hk => hk.1.2)))
             have n1_ := aj.mk (Kd.gu (ok := (fun k_ => k_ ≠ gb189)) (by (with_reducible repeat (first | apply Kd.aN | apply Kd.aM | apply Kd.aW)); exact Kd.bO HO204.out (fun _ hk => ⟨hk.2, hk.1.2⟩)) hg hat)
             have n2_ := aj.mk (hb)
             have n3_ := aj.mk (ho)
             clear BK189
             clear HO204
             clear HB
             clear HO194
             have BK189 := n0_
             have HO204 := n1_
             have HB := n2_
             have HO201 := n3_
             clear n0_ n1_ n2_ n3_
             clear ho hb hg hat
             refine hK.out _ _ ⟨(aT BK189.out 0).trans rfl, (aT BK189.out 1).trans rfl⟩ (fun hHeld => ?_)
             clear hK K
             refine dw (a' := ?_) ?_ ?_
             rotate_left
             ·show Act.put _ (some 26) _ = _
              simp only [Act.put, List.setIfInBounds_toArray, List.set_cons_zero, List.set_cons_succ, aG, aH]
              rfl
             exact dw (by simp only [gG, Act.put, List.setIfInBounds_toArray, List.set_cons_zero, List.set_cons_succ]) (hCont (v193, v200, v203) _ ⟨hHeld, (by (with_reducible repeat (first | apply Kd.aN | apply Kd.aM | apply Kd.aW)); exact HO201.out), (by (with_reducible repeat (first | apply Kd.aN | apply Kd.aM | apply Kd.aW)); exact Kd.bO HO204.out (fun _ hk => ⟨hk.2, hk.1⟩)), (by (with_reducible repeat (first | refine aA ?_ _ | refine aD ?_ | refine aC ?_ _)); exact BK189.out), (by repeat (first | (with_reducible first | exact HB.out | apply au | apply ah | apply ak | refine ay ?_ GE189.out) | exact HB.out))⟩)
           ·skip
            refine Kd.eB k31 _ 31 ?hg (N := 28) ?hd (xs := ([(⟨sU, sV⟩ : S31)] : List (S31))) (inner := [.string sU, .int .i64 sV]) (ok := fun _ => True) (okp := fun _ => True) ?hr ?hp (fun _ hk => hk) trivial (Below.refl _ _) (Nat.le_refl _) (by simp) ?_; (case hd => rfl); (case hg => rfl); (case hr => first | (go_simp; done) | (go_simp; rfl)); (case hp => exact (bZ.c2 (show Kd.M k31 _ _ _ (⟨sU, sV⟩ : S31) [.string sU, .int .i64 sV] from (gD _ _ _ (⟨sU, sV⟩ : S31) )) (bZ.none _ _)))
            intro v203 w45 ho46 hb hg_ hnew_
            clear hg_ hnew_
            (first | rw [← Ny202.out] at ho46 | (simp only [Int.reduceToNat] at ho46; rw [← Ny202.out] at ho46))
            have n0_ := aj.mk (Kd.cK (Kd.fq ho46 (g := gb189) (o := .cells #[.string sU, .int .i64 sV] 31 (0, 0)) (by (with_reducible repeat (first | refine aA ?_ _ | refine aD ?_ | refine aC ?_ _)); exact BK189.out)) (bf (by repeat (first | (with_reducible first | exact HB.out | apply au | apply ah | apply ak | refine ay ?_ GE189.out) | exact HB.out))))
            have n1_ := aj.mk (bI (g := gb189) (o := .cells #[.string sU, .int .i64 sV] 31 (0, 0)) (by (with_reducible repeat (first | refine aA ?_ _ | refine aD ?_ | refine aC ?_ _)); exact BK189.out) hb)
            have n2_ := aj.mk (aY (by repeat (first | (with_reducible first | exact HB.out | apply au | apply ah | apply ak | refine ay ?_ GE189.out) | exact HB.out)) hb)
            clear BK189
            clear HB
            have HO204 := n0_
            have BK189 := n1_
            have HB := n2_
            clear n0_ n1_ n2_
            clear hb ho46
            refine hK.out _ _ ⟨(aT BK189.out 0).trans rfl, (aT BK189.out 1).trans rfl⟩ (fun hHeld => ?_)
            clear hK K
            refine dw (a' := ?_) ?_ ?_
            rotate_left
            ·show Act.put _ (some 28) _ = _
             simp only [Act.put, List.setIfInBounds_toArray, List.set_cons_zero, List.set_cons_succ, aG, aH]
             rfl
            refine fE (i := 0) (N := some 22) #[true, true, true, true, false, true, true, false, true, true, true, false, false] rfl rfl (dP HT_.out (by kernel_rfl)) (by decide) (fun K hK => ?_)
            refine Kd.eB k31 _ 31 ?hg (N := 22) ?hd (xs := ([] : List (S31))) (inner := []) (ok := fun _ => True) (okp := fun _ => True) ?hr ?hp (fun _ hk => hk) trivial (Below.refl _ _) (Nat.le_refl _) (by simp) ?_; (case hd => rfl); (case hg => rfl); (case hr => first | (go_simp; done) | (go_simp; rfl)); (case hp => exact (bZ.none _ _))
            intro v193 w47 ho48 hb hg_ hnew_
            clear hg_ hnew_
            (first | rw [← Ny192.out] at ho48 | (simp only [Int.reduceToNat] at ho48; rw [← Ny192.out] at ho48))
            have n0_ := aj.mk (Kd.eT (by (with_reducible repeat (first | apply Kd.aN | apply Kd.aM | apply Kd.aW)); exact HO204.out) (Kd.fZ ho48) hb)
            have n1_ := aj.mk (Kd.cK (Kd.fq (Kd.gq ho48 (Kd.gM (by (with_reducible repeat (first | apply Kd.aN | apply Kd.aM | apply Kd.aW)); exact HO204.out))) (g := gb189) (o := .cells #[.string sU, .int .i64 sV] 31 (0, 0)) (by (with_reducible repeat (first | refine aA ?_ _ | refine aD ?_ | refine aC ?_ _)); exact BK189.out)) (bf (by repeat (first | (with_reducible first | exact HB.out | apply au | apply ah | apply ak | refine ay ?_ GE189.out) | exact HB.out))))
            have n2_ := aj.mk (bI (g := gb189) (o := .cells #[.string sU, .int .i64 sV] 31 (0, 0)) (by (with_reducible repeat (first | refine aA ?_ _ | refine aD ?_ | refine aC ?_ _)); exact BK189.out) hb)
            have n3_ := aj.mk (aY (by repeat (first | (with_reducible first | exact HB.out | apply au | apply ah | apply ak | refine ay ?_ GE189.out) | exact HB.out)) hb)
            clear HO204
            clear BK189
            clear HB
            have HO204 := n0_
            have HO194 := n1_
            have BK189 := n2_
            have HB := n3_
            clear n0_ n1_ n2_ n3_
            clear hb ho48
            refine hK.out _ _ ⟨(aT BK189.out 0).trans rfl, (aT BK189.out 1).trans rfl⟩ (fun hHeld => ?_)
            clear hK K
            refine dw (a' := ?_) ?_ ?_
            rotate_left
            ·show Act.put _ (some 22) _ = _
             simp only [Act.put, List.setIfInBounds_toArray, List.set_cons_zero, List.set_cons_succ, aG, aH]
             rfl
            refine fE (i := 4) (N := some 26) #[true, true, true, true, true, true, true, false, true, true, true, false, false] rfl rfl (dP HT_.out (by kernel_rfl)) (by decide) (fun K hK => ?_)
            refine Kd.dA k31 (w0 := w) w.heap.size (by rfl) (.tmp 22) (.tmp 25) 27 31 (.agg #[(.string ⟨#[]⟩), (.int .i64 0)]) 24 rfl Try.underlying27 fT rfl (by decide) (by omega) v193 y192 y195 _ _ _ (fun k_ => some k_ ≠ (v203 : Value).ownBlock ∧ k_ ≠ gb189) (fun _ => False) rfl rfl ?aO ?aR (fun _ _ h => h) (fun _ h => h.elim) ?aF ?aB ?aS ?aL ?_
            (case aR => repeat (first | exact (Kd.dS HR198.out HB.out) | (with_reducible refine Kd.bU ?_ _) | (with_reducible refine Kd.bV ?_ _) | (with_reducible refine Kd.cB ?_)))
            (case aB => exact (by repeat (first | (with_reducible first | exact HB.out | apply au | apply ah | apply ak | refine ay ?_ GE189.out) | exact HB.out)))
            (case aF => exact (fun k_ hk => ⟨Kd.fresh' (Kd.gM (by (with_reducible repeat (first | apply Kd.aN | apply Kd.aM | apply Kd.aW)); exact HO204.out)) k_ hk, Kd.gJ (g := gb189) (o := .cells #[.string sU, .int .i64 sV] 31 (0, 0)) (by (with_reducible repeat (first | refine aA ?_ _ | refine aD ?_ | refine aC ?_ _)); exact BK189.out) k_ hk⟩))
            (case aO => exact (by (with_reducible repeat (first | apply Kd.aN | apply Kd.aM | apply Kd.aW)); exact Kd.bO HO194.out (fun _ hk => ⟨hk.1.2, hk.2⟩)))
            (case aS => exact (bf (by repeat (first | (with_reducible first | exact HB.out | apply au | apply ah | apply ak | refine ay ?_ GE189.out) | exact HB.out))))
            (case aL => have := LMc16.out; omega)
            intro v200 w49 ho hb hg hat
            rw [← Ny199.out] at ho
            have n0_ := aj.mk (eG (g := gb189) (o := .cells #[.string sU, .int .i64 sV] 31 (0, 0)) (by (with_reducible repeat (first | refine aA ?_ _ | refine aD ?_ | refine aC ?_ _)); exact BK189.out) hg (Kd.gT HO194.out (fun _ hk => hk.2)))
            have n1_ := aj.mk (Kd.gu (ok := (fun k_ => k_ ≠ gb189)) (by (with_reducible repeat (first | apply Kd.aN | apply Kd.aM | apply Kd.aW)); exact Kd.bO HO204.out (fun _ hk => ⟨hk.1.2, hk.2⟩)) hg hat)
            have n2_ := aj.mk (hb)
            have n3_ := aj.mk (ho)
            clear BK189
            clear HO204
            clear HB
            clear HO194
            have BK189 := n0_
            have HO204 := n1_
            have HB := n2_
            have HO201 := n3_
            clear n0_ n1_ n2_ n3_
            clear ho hb hg hat
            refine hK.out _ _ ⟨(aT BK189.out 0).trans rfl, (aT BK189.out 1).trans rfl⟩ (fun hHeld => ?_)
            clear hK K
            refine dw (a' := ?_) ?_ ?_
            rotate_left
            ·show Act.put _ (some 26) _ = _
             simp only [Act.put, List.setIfInBounds_toArray, List.set_cons_zero, List.set_cons_succ, aG, aH]
             rfl
            exact dw (by simp only [gG, Act.put, List.setIfInBounds_toArray, List.set_cons_zero, List.set_cons_succ]) (hCont (v193, v200, v203) _ ⟨hHeld, (by (with_reducible repeat (first | apply Kd.aN | apply Kd.aM | apply Kd.aW)); exact HO201.out), (by (with_reducible repeat (first | apply Kd.aN | apply Kd.aM | apply Kd.aW)); exact Kd.bO HO204.out (fun _ hk => ⟨hk.2, hk.1⟩)), (by (with_reducible repeat (first | refine aA ?_ _ | refine aD ?_ | refine aC ?_ _)); exact BK189.out), (by repeat (first | (with_reducible first | exact HB.out | apply au | apply ah | apply ak | refine ay ?_ GE189.out) | exact HB.out))⟩)
          rintro ⟨v193, v200, v203⟩ w50 ⟨hS_, h0_, h1_, h2_, h3_⟩
          have n0_ : aj (Kd.R k31 31 w50 w.heap.size (fun k_ => some k_ ≠ (v203 : Value).ownBlock ∧ k_ ≠ gb189) v200 y199) := ⟨h0_⟩
          have n1_ : aj (Kd.R k31 31 w50 w.heap.size (fun k_ => some k_ ≠ (v200 : Value).ownBlock ∧ k_ ≠ gb189) v203 y202) := ⟨h1_⟩
          have n2_ : aj (w50.heap[gb189]? = some (.cells #[.string sU, .int .i64 sV] 31 (0, 0))) := ⟨h2_⟩
          have n3_ : aj (Below w.heap.size w w50) := ⟨h3_⟩
          clear BK189
          clear HB
          clear h0_ h1_ h2_ h3_
          have HO201 := n0_
          have HO204 := n1_
          have BK189 := n2_
          have HB := n3_
          clear n0_ n1_ n2_ n3_
          have hHeld : w50.cell? ⟨gb189, 0, none⟩ = some (.string sU) ∧ w50.cell? ⟨gb189, 1, none⟩ = some (.int .i64 sV) := hS_
          obtain ⟨Ao52, co52, eo52⟩ := Kd.dO HO204.out
          (first | subst eo52 | (injection eo52 with f1_ f2_ f3_; have f4_ := f1_.symm; have f5_ := f3_.symm; clear f1_ f2_ f3_; subst f4_; subst f5_))
          refine dw (a' := ?_) ?_ ?_
          rotate_left
          ·simp only [gG, Act.put, List.setIfInBounds_toArray, List.set_cons_zero, List.set_cons_succ]
           rfl
          refine fE (i := 7) (N := some 29) #[true, true, true, true, true, true, true, true, true, true, true, false, false] rfl rfl (dP HT_.out (by kernel_rfl)) (by decide) (fun K hK => ?_)
          refine Kd.dA k31 (w0 := w) w.heap.size (by rfl) (.tmp 26) (.tmp 28) 27 31 (.agg #[(.string ⟨#[]⟩), (.int .i64 0)]) 24 rfl Try.underlying27 fT rfl (by decide) (by omega) v200 y199 y202 _ _ _ (fun k_ => some k_ ≠ (.slice Ao52 y202.length co52 : Value).ownBlock ∧ k_ ≠ gb189) (fun _ => False) rfl rfl ?aO ?aR (fun _ _ h => h) (fun _ h => h.elim) ?aF ?aB ?aS ?aL ?_
          (case aR => repeat (first | exact (Kd.bJ HO204.out).2.2 | (with_reducible refine Kd.bU ?_ _) | (with_reducible refine Kd.bV ?_ _) | (with_reducible refine Kd.cB ?_)))
          (case aB => exact (by repeat (first | (with_reducible first | exact HB.out | apply au | apply ah | apply ak | refine ay ?_ GE189.out) | exact HB.out)))
          (case aF => exact (fun k_ hk => ⟨Kd.fresh' (Kd.gM (by (with_reducible repeat (first | apply Kd.aN | apply Kd.aM | apply Kd.aW)); exact HO204.out)) k_ hk, Kd.gJ (g := gb189) (o := .cells #[.string sU, .int .i64 sV] 31 (0, 0)) (by (with_reducible repeat (first | refine aA ?_ _ | refine aD ?_ | refine aC ?_ _)); exact BK189.out) k_ hk⟩))
          (case aO => exact (by (with_reducible repeat (first | apply Kd.aN | apply Kd.aM | apply Kd.aW)); exact HO201.out))
          (case aS => exact (bf (by repeat (first | (with_reducible first | exact HB.out | apply au | apply ah | apply ak | refine ay ?_ GE189.out) | exact HB.out))))
          (case aL => have := LMc17.out; omega)
          intro v206 w51 ho hb hg hat
          rw [← Ny205.out] at ho
          have n0_ := aj.mk (eG (g := gb189) (o := .cells #[.string sU, .int .i64 sV] 31 (0, 0)) (by (with_reducible repeat (first | refine aA ?_ _ | refine aD ?_ | refine aC ?_ _)); exact BK189.out) hg (Kd.gT HO201.out (fun _ hk => hk.2)))
          have n1_ := aj.mk (Kd.gu (ok := (fun k_ => k_ ≠ gb189)) (by (with_reducible repeat (first | apply Kd.aN | apply Kd.aM | apply Kd.aW)); exact Kd.bO HO204.out (fun _ hk => ⟨hk.2, hk.1⟩)) hg hat)
          have n2_ := aj.mk (hb)
          have n3_ := aj.mk (ho)
          clear BK189
          clear HO204
          clear HB
          clear HO201
          have BK189 := n0_
          have HO204 := n1_
          have HB := n2_
          have HO207 := n3_
          clear n0_ n1_ n2_ n3_
          clear ho hb hg hat
          refine hK.out _ _ ⟨(aT BK189.out 0).trans rfl, (aT BK189.out 1).trans rfl⟩ (fun hHeld => ?_)
          clear hK K
          refine dw (a' := ?_) ?_ ?_
          rotate_left
          ·show Act.put _ (some 29) _ = _
           simp only [Act.put, List.setIfInBounds_toArray, List.set_cons_zero, List.set_cons_succ, aG, aH]
           rfl
          refine fE (i := 11) (N := some 33) #[true, true, true, true, true, true, true, true, true, true, true, true, false] rfl rfl (dP HT_.out (by kernel_rfl)) (by decide) (fun K hK => ?_)
          refine Kd.dA k31 (w0 := w) w.heap.size (by rfl) (.tmp 29) (.tmp 32) 27 31 (.agg #[(.string ⟨#[]⟩), (.int .i64 0)]) 24 rfl Try.underlying27 fT rfl (by decide) (by omega) v206 y205 y208 _ _ _ (fun k_ => some k_ ≠ (.slice Ao52 y202.length co52 : Value).ownBlock ∧ k_ ≠ gb189) (fun _ => False) rfl rfl ?aO ?aR (fun _ _ h => h) (fun _ h => h.elim) ?aF ?aB ?aS ?aL ?_
          (case aR => repeat (first | exact (Kd.dS HR211.out HB.out) | (with_reducible refine Kd.bU ?_ _) | (with_reducible refine Kd.bV ?_ _) | (with_reducible refine Kd.cB ?_)))
          (case aB => exact (by repeat (first | (with_reducible first | exact HB.out | apply au | apply ah | apply ak | refine ay ?_ GE189.out) | exact HB.out)))
          (case aF => exact (fun k_ hk => ⟨Kd.fresh' (Kd.gM (by (with_reducible repeat (first | apply Kd.aN | apply Kd.aM | apply Kd.aW)); exact HO204.out)) k_ hk, Kd.gJ (g := gb189) (o := .cells #[.string sU, .int .i64 sV] 31 (0, 0)) (by (with_reducible repeat (first | refine aA ?_ _ | refine aD ?_ | refine aC ?_ _)); exact BK189.out) k_ hk⟩))
          (case aO => exact (by (with_reducible repeat (first | apply Kd.aN | apply Kd.aM | apply Kd.aW)); exact HO207.out))
          (case aS => exact (bf (by repeat (first | (with_reducible first | exact HB.out | apply au | apply ah | apply ak | refine ay ?_ GE189.out) | exact HB.out))))
          (case aL => have := LMc20.out; omega)
          intro v213 w53 ho hb hg hat
          rw [← Ny212.out] at ho
          have n0_ := aj.mk (eG (g := gb189) (o := .cells #[.string sU, .int .i64 sV] 31 (0, 0)) (by (with_reducible repeat (first | refine aA ?_ _ | refine aD ?_ | refine aC ?_ _)); exact BK189.out) hg (Kd.gT HO207.out (fun _ hk => hk.2)))
          have n1_ := aj.mk (Kd.gu (ok := (fun k_ => k_ ≠ gb189)) (by (with_reducible repeat (first | apply Kd.aN | apply Kd.aM | apply Kd.aW)); exact HO204.out) hg hat)
          have n2_ := aj.mk (hb)
          have n3_ := aj.mk (ho)
          clear BK189
          clear HO204
          clear HB
          clear HO207
          have BK189 := n0_
          have HO204 := n1_
          have HB := n2_
          have HO214 := n3_
          clear n0_ n1_ n2_ n3_
          clear ho hb hg hat
          refine hK.out _ _ ⟨(aT BK189.out 0).trans rfl, (aT BK189.out 1).trans rfl⟩ (fun hHeld => ?_)
          clear hK K
          refine dw (a' := ?_) ?_ ?_
          rotate_left
          ·show Act.put _ (some 33) _ = _
           simp only [Act.put, List.setIfInBounds_toArray, List.set_cons_zero, List.set_cons_succ, aG, aH]
           rfl
          refine aX (i := 12) (N := some 7) (v := ?_) (a' := ?_) #[true, true, true, true, true, true, true, true, true, true, true, true, true] rfl rfl (aK HT_.out (by kernel_rfl)) (fun _ _ _ h => h) (Or.inl ⟨by rfl, ?_⟩) ?_ ?_
          rotate_left
          ·intro w'
           go_simp
           with_reducible rfl
          rotate_left
          ·simp only [Act.put, List.setIfInBounds_toArray, List.set_cons_zero, List.set_cons_succ, aG, aH]
           rfl
          refine gU (fD HT_.out (by kernel_rfl)) ?_
          have hcz54_0 : w53.cell? ⟨gb189, 0, none⟩ = some (.string sU) := (aT BK189.out 0).trans rfl
          have hcz54_1 : w53.cell? ⟨gb189, 1, none⟩ = some (.int .i64 sV) := (aT BK189.out 1).trans rfl
          have hfz54_0 := bG BK189.out 0
          have hfz54_1 := bG BK189.out 1
          try go_wp2_with (first | ((with_reducible refine bq (f := 52) rfl ?_); refine bT (some 39) rfl rfl Try.func52 (by kernel_rfl) rfl #[.slice A0 l0.length c0, .string sU, .int .i64 sV] rfl (by (try simp only [List.map_toArray, List.map_cons, List.map_nil]); first | done | rfl | (simp only [List.length_drop, List.length_take]; rfl)) ?_; (with_reducible refine (cZ.calls kj2 _ _ l0 sU sV false _ ?side1 ?side2 A21.out).mono ?_); (case side1 => repeat (first | exact (Kd.dS HR0.out HB.out) | (with_reducible refine Kd.bU ?_ _) | (with_reducible refine Kd.bV ?_ _) | (with_reducible refine Kd.cB ?_))); (case side2 => exact HC0.out); rintro e w' ⟨rfl, ⟨nd, rfl⟩⟩; refine ⟨_, rfl, ?_⟩; obtain ⟨Ao55, co55, eo55⟩ := Kd.dO HO214.out; subst eo55) | (go_at_call 53; (with_reducible refine (bC.calls kj2 _ _ y212 true _ ?side1 ?side2 A40.out).mono ?_); (case side1 => repeat (first | exact (Kd.bJ HO214.out).2.2 | (with_reducible refine Kd.bU ?_ _) | (with_reducible refine Kd.bV ?_ _) | (with_reducible refine Kd.cB ?_))); (case side2 => exact (Kd.bJ HO214.out).2.1); rintro e w56 ⟨rfl, hb⟩; have n0_ := aj.mk (Kd.bY (by (with_reducible repeat (first | apply Kd.aN | apply Kd.aM | apply Kd.aW)); exact HO204.out) hb); have n1_ := aj.mk (Kd.bY (by (with_reducible repeat (first | apply Kd.aN | apply Kd.aM | apply Kd.aW)); exact HO214.out) hb); have n2_ := aj.mk (bI (g := gb189) (o := .cells #[.string sU, .int .i64 sV] 31 (0, 0)) (by (with_reducible repeat (first | refine aA ?_ _ | refine aD ?_ | refine aC ?_ _)); exact BK189.out) hb); have n3_ := aj.mk (aY (by repeat (first | (with_reducible first | exact HB.out | apply au | apply ah | apply ak | refine ay ?_ GE189.out) | exact HB.out)) hb); clear HO204; clear HO214; clear BK189; clear HB; have HO204 := n0_; have HO214 := n1_; have BK189 := n2_; have HB := n3_; clear n0_ n1_ n2_ n3_; (try clear hb); (try clear hb2); (try clear hk); (try clear hi)))
          go_ret2
          exact ⟨_, by first | rfl | (simp [bA, bB] <;> rfl) | (simp [*, bA, bB] <;> rfl), by (with_reducible repeat (first | apply Kd.aN | apply Kd.aM | apply Kd.aW)); exact Kd.bO HO214.out (fun _ hk => trivial), by repeat (first | (with_reducible first | exact HB.out | apply au | apply ah | apply ak | refine ay ?_ GE189.out) | exact HB.out)⟩
         ·replace c41 := Bool.eq_false_iff.mpr c41
          subst c41
          have H1 : ((some (([] : List (S31)) : List (S31))).bind fun y223 => (if y223.length + l0.length < 5864062014805 then (some ((y223 ++ l0), false)) else (none))) = some (r1, r2) := by rw [if_neg (show ¬ (false = true) by decide)] at H; exact H
          clear H
          have H := H1
          clear H1
          obtain ⟨y223, hy223⟩ : ∃ y_ : List (S31), y_ = (([] : List (S31))) := ⟨_, rfl⟩
          replace H : (if y223.length + l0.length < 5864062014805 then (some ((y223 ++ l0), false)) else (none)) = some (r1, r2) := by first | (rw [hy223]; with_reducible exact H) | (have H2_ := (Option.bind_some _ _).symm.trans H; rw [hy223]; with_reducible exact H2_) | (have H2_ := (Option.bind_some _ _).symm.trans H; with_reducible exact H2_) | with_reducible exact H | (rw [hy223]; exact H) | exact H
          have Ny223 := aj.mk hy223
          clear hy223
          by_cases c57 : y223.length + l0.length < 5864062014805
          ·rw [if_pos c57] at H
           have LMc57 := aj.mk c57
           clear c57
           obtain ⟨y226, hy226⟩ : ∃ y_ : List (S31), y_ = (y223 ++ l0) := ⟨_, rfl⟩
           replace H : (some (y226, false)) = some (r1, r2) := by first | (rw [hy226]; with_reducible exact H) | (have H2_ := (Option.bind_some _ _).symm.trans H; rw [hy226]; with_reducible exact H2_) | (have H2_ := (Option.bind_some _ _).symm.trans H; with_reducible exact H2_) | with_reducible exact H | (rw [hy226]; exact H) | exact H
           have Ny226 := aj.mk hy226
           clear hy226
           simp only [Option.some.injEq, Prod.mk.injEq] at H
           obtain ⟨rfl, rfl⟩ := H
           try go_wp2
           have n0_ := aj.mk (aD BK189.out)
           have n1_ := aj.mk (ak HB.out)
           clear BK189
           clear HB
           have BK189 := n0_
           have HB := n1_
           clear n0_ n1_
           have q59 : (x6_2 : Int) ≤ ((l0.length : Int) : Int) := of_decide_eq_true (by first | (with_reducible assumption) | assumption)
           obtain ⟨i059, hi059, _, hsz59, _⟩ := info_parts fT
           have hroom59 : l0.length ≤ c0 := HC0.out
           have hC59 : Kd.C k31 _ A0 l0.length l0 := HR0.out
           have hcut59 := ow (P := Try.prog) 27 31 .i64 Try.underlying27 hi059 A0 l0.length c0 x6_2 (of_decide_eq_true (by first | (with_reducible assumption) | assumption)) q59 hroom59
           have hr59 := Kd.oM (m := (x6_2 : Int).toNat) hC59 (by omega)
           have hy59 : y195.length = (x6_2 : Int).toNat := (by rw [Ny195.out, List.length_take]; omega)
           rw [← Ny195.out] at hr59
           rw [← hy59] at hcut59
           have HR198 := aj.mk hr59
           have HC198 := aj.mk (show y195.length ≤ c0 from by omega)
           clear hr59 hC59 hroom59 hi059 hsz59
           have KY59 := aj.mk hy59
           clear hy59
           replace q59 := eq_true q59
           have q60 : (x6_2 : Int) ≤ ((l0.length : Int) : Int) := of_decide_eq_true (by first | (with_reducible assumption) | assumption)
           obtain ⟨i060, hi060, _, hsz60, _⟩ := info_parts fT
           have hroom60 : l0.length ≤ c0 := HC0.out
           have hC60 : Kd.C k31 _ A0 l0.length l0 := HR0.out
           have q060 : (0 : Int) ≤ (x6_2 : Int) := of_decide_eq_true (by first | (with_reducible assumption) | assumption)
           have hcut60 := lX (P := Try.prog) 27 31 .i64 Try.underlying27 hi060 2 hsz60 A0 l0.length c0 x6_2 q060 q60
           have hr60 := Kd.oJ (m := (x6_2 : Int).toNat) (c := c0) hC60 (by omega) hroom60
           obtain ⟨A60, hA60⟩ : ∃ A1, A1 = (if c0 = (x6_2 : Int).toNat then A0 else (A0 : Option Addr).map (·.add ((x6_2 : Int).toNat * 2))) := ⟨_, rfl⟩
           obtain ⟨c60, hc60⟩ : ∃ c1, c1 = c0 - (x6_2 : Int).toNat := ⟨_, rfl⟩
           have hy60 : y208.length = l0.length - (x6_2 : Int).toNat := (by rw [Ny208.out, List.length_drop] <;> omega)
           rw [show (l0).drop (x6_2 : Int).toNat = y208 from Ny208.out.symm] at hr60
           replace hr60 : Kd.C k31 _ A60 y208.length y208 := (by rw [hA60]; exact hr60)
           rw [← hy60, ← hA60, ← hc60] at hcut60
           have HR211 := aj.mk hr60
           have HC211 := aj.mk (show y208.length ≤ c60 from by rw [hy60, hc60]; exact Nat.sub_le_sub_right hroom60 _)
           clear hr60 hC60 hroom60 hi060 hsz60 hc60
           have KY60 := aj.mk hy60
           have KA60 := aj.mk hA60
           clear hy60 hA60
           replace q60 := eq_true q60
           refine fK (n := 13) (S := fun w' => w'.cell? ⟨gb189, 0, none⟩ = some (.string sU) ∧ w'.cell? ⟨gb189, 1, none⟩ = some (.int .i64 sV)) (ds := []) #[false, false, false, false, false, false, false, false, false, false, false, false, false] (by kernel_rfl) rfl rfl ⟨(aT BK189.out 0).trans rfl, (aT BK189.out 1).trans rfl⟩ (fun hHeld => ?_); refine eu bD.kS bD.jl (fun HT_ HW_ => ?_)
           generalize wc.drew = w58 at BK189 HB HR198 HR211 hHeld ⊢
           refine aX (i := 1) (N := some 23) (v := ?_) (a' := ?_) #[false, true, false, false, false, false, false, false, false, false, false, false, false] rfl rfl (aK HT_.out (by kernel_rfl)) (fun _ _ _ h => h) (Or.inl ⟨by rfl, ?_⟩) ?_ ?_
           rotate_left
           ·intro w'
            go_simp
            with_reducible rfl
           rotate_left
           ·simp only [Act.put, List.setIfInBounds_toArray, List.set_cons_zero, List.set_cons_succ, aG, aH]
            rfl
           refine aX (i := 2) (N := some 24) (v := ?_) (a' := ?_) #[false, true, true, false, false, false, false, false, false, false, false, false, false] rfl rfl (aK HT_.out (by kernel_rfl)) (fun _ _ _ h => h) (Or.inl ⟨by rfl, ?_⟩) ?_ ?_
           rotate_left
           ·intro w'
            go_simp
            with_reducible rfl
           rotate_left
           ·simp only [Act.put, List.setIfInBounds_toArray, List.set_cons_zero, List.set_cons_succ, aG, aH]
            rfl
           refine aX (i := 3) (N := some 25) (v := ?_) (a' := ?_) #[false, true, true, true, false, false, false, false, false, false, false, false, false] rfl rfl (aK HT_.out (by kernel_rfl)) (fun _ _ _ h => h) (Or.inl ⟨by rfl, ?_⟩) ?_ ?_
           rotate_left
           ·intro w'
            go_simp
            with_reducible rfl
           rotate_left
           ·simp only [Act.put, List.setIfInBounds_toArray, List.set_cons_zero, List.set_cons_succ, aG, aH]
            rfl
           refine aX (i := 8) (N := some 30) (v := ?_) (a' := ?_) #[false, true, true, true, false, false, false, false, true, false, false, false, false] rfl rfl (aK HT_.out (by kernel_rfl)) (fun _ _ _ h => h) (Or.inl ⟨by rfl, ?_⟩) ?_ ?_
           rotate_left
           ·intro w'
            go_simp
            with_reducible rfl
           rotate_left
           ·simp only [Act.put, List.setIfInBounds_toArray, List.set_cons_zero, List.set_cons_succ, aG, aH]
            rfl
           refine aX (i := 9) (N := some 31) (v := ?_) (a' := ?_) #[false, true, true, true, false, false, false, false, true, true, false, false, false] rfl rfl (aK HT_.out (by kernel_rfl)) (fun _ _ _ h => h) (Or.inl ⟨by rfl, ?_⟩) ?_ ?_
           rotate_left
           ·intro w'
            go_simp
            with_reducible rfl
           rotate_left
           ·simp only [Act.put, List.setIfInBounds_toArray, List.set_cons_zero, List.set_cons_succ, aG, aH]
            rfl
           refine aX (i := 10) (N := some 32) (v := ?_) (a' := ?_) #[false, true, true, true, false, false, false, false, true, true, true, false, false] rfl rfl (aK HT_.out (by kernel_rfl)) (fun _ _ _ h => h) (Or.inl ⟨by rfl, ?_⟩) ?_ ?_
           rotate_left
           ·intro w'
            go_simp
            with_reducible rfl
           rotate_left
           ·simp only [Act.put, List.setIfInBounds_toArray, List.set_cons_zero, List.set_cons_succ, aG, aH]
            rfl
           refine eO (i := 5) (N := some 27) (v := ?_) (a' := ?_) #[false, true, true, true, false, true, false, false, true, true, true, false, false] rfl rfl (dx HT_.out HW_.out (by kernel_rfl)) (fun _ _ _ h => h) (Or.inl ⟨by rfl, ?_⟩) hHeld ?_ ?_
           rotate_left
           ·rintro w' ⟨s0, s1⟩
            go_simp
            with_reducible rfl
           rotate_left
           ·simp only [Act.put, List.setIfInBounds_toArray, List.set_cons_zero, List.set_cons_succ, aG, aH]
            rfl
           refine nI (σ := Value × Value × Value) 3 #[true, true, true, true, true, true, true, false, true, true, true, false, false] (fun s_ => [(22, s_.1), (26, s_.2.1), (28, s_.2.2)]) (fun s_ w' => (w'.cell? ⟨gb189, 0, none⟩ = some (.string sU) ∧ w'.cell? ⟨gb189, 1, none⟩ = some (.int .i64 sV)) ∧ (Kd.R k31 31 w' w.heap.size (fun k_ => some k_ ≠ (s_.2.2 : Value).ownBlock ∧ k_ ≠ gb189) s_.2.1 y199) ∧ (Kd.R k31 31 w' w.heap.size (fun k_ => some k_ ≠ (s_.2.1 : Value).ownBlock ∧ k_ ≠ gb189) s_.2.2 y202) ∧ (w'.heap[gb189]? = some (.cells #[.string sU, .int .i64 sV] 31 (0, 0))) ∧ (Below w.heap.size w w')) ?_ ?_
           rotate_left
           ·intro hCont
            refine nX (i := 0) (j := 6) (Ni := some 22) (Nj := some 28) #[true, true, true, true, false, true, false, false, true, true, true, false, false] #[false, true, true, true, false, true, true, false, true, true, true, false, false] rfl rfl rfl rfl (kR HT_.out (by kernel_rfl)) (by decide) (by decide) (fun K hK => ?_) (fun K hK => ?_)
            ·skip
             refine Kd.eB k31 _ 31 ?hg (N := 22) ?hd (xs := ([] : List (S31))) (inner := []) (ok := fun _ => True) (okp := fun _ => True) ?hr ?hp (fun _ hk => hk) trivial (Below.refl _ _) (Nat.le_refl _) (by simp) ?_; (case hd => rfl); (case hg => rfl); (case hr => first | (go_simp; done) | (go_simp; rfl)); (case hp => exact (bZ.none _ _))
             intro v193 w61 ho62 hb hg_ hnew_
             clear hg_ hnew_
             (first | rw [← Ny192.out] at ho62 | (simp only [Int.reduceToNat] at ho62; rw [← Ny192.out] at ho62))
             have n0_ := aj.mk (Kd.cK (Kd.fq ho62 (g := gb189) (o := .cells #[.string sU, .int .i64 sV] 31 (0, 0)) (by (with_reducible repeat (first | refine aA ?_ _ | refine aD ?_ | refine aC ?_ _)); exact BK189.out)) (bf (by repeat (first | (with_reducible first | exact HB.out | apply au | apply ah | apply ak | refine ay ?_ GE189.out) | exact HB.out))))
             have n1_ := aj.mk (bI (g := gb189) (o := .cells #[.string sU, .int .i64 sV] 31 (0, 0)) (by (with_reducible repeat (first | refine aA ?_ _ | refine aD ?_ | refine aC ?_ _)); exact BK189.out) hb)
             have n2_ := aj.mk (aY (by repeat (first | (with_reducible first | exact HB.out | apply au | apply ah | apply ak | refine ay ?_ GE189.out) | exact HB.out)) hb)
             clear BK189
             clear HB
             have HO194 := n0_
             have BK189 := n1_
             have HB := n2_
             clear n0_ n1_ n2_
             clear hb ho62
             refine hK.out _ _ ⟨(aT BK189.out 0).trans rfl, (aT BK189.out 1).trans rfl⟩ (fun hHeld => ?_)
             clear hK K
             refine dw (a' := ?_) ?_ ?_
             rotate_left
             ·show Act.put _ (some 22) _ = _
              simp only [Act.put, List.setIfInBounds_toArray, List.set_cons_zero, List.set_cons_succ, aG, aH]
              rfl
             refine nX (i := 4) (j := 6) (Ni := some 26) (Nj := some 28) #[true, true, true, true, true, true, false, false, true, true, true, false, false] #[true, true, true, true, false, true, true, false, true, true, true, false, false] rfl rfl rfl rfl (kR HT_.out (by kernel_rfl)) (by decide) (by decide) (fun K hK => ?_) (fun K hK => ?_)
             ·skip
              refine Kd.dA k31 (w0 := w) w.heap.size (by rfl) (.tmp 22) (.tmp 25) 27 31 (.agg #[(.string ⟨#[]⟩), (.int .i64 0)]) 24 rfl Try.underlying27 fT rfl (by decide) (by omega) v193 y192 y195 _ _ _ (fun k_ => k_ ≠ gb189) (fun _ => False) rfl rfl ?aO ?aR (fun _ _ h => h) (fun _ h => h.elim) ?aF ?aB ?aS ?aL ?_
              (case aR => repeat (first | exact (Kd.dS HR198.out HB.out) | (with_reducible refine Kd.bU ?_ _) | (with_reducible refine Kd.bV ?_ _) | (with_reducible refine Kd.cB ?_)))
              (case aB => exact (by repeat (first | (with_reducible first | exact HB.out | apply au | apply ah | apply ak | refine ay ?_ GE189.out) | exact HB.out)))
              (case aF => exact (fun k_ hk => Kd.gJ (g := gb189) (o := .cells #[.string sU, .int .i64 sV] 31 (0, 0)) (by (with_reducible repeat (first | refine aA ?_ _ | refine aD ?_ | refine aC ?_ _)); exact BK189.out) k_ hk))
              (case aO => exact (by (with_reducible repeat (first | apply Kd.aN | apply Kd.aM | apply Kd.aW)); exact Kd.bO HO194.out (fun _ hk => hk.2)))
              (case aS => exact (bf (by repeat (first | (with_reducible first | exact HB.out | apply au | apply ah | apply ak | refine ay ?_ GE189.out) | exact HB.out))))
              (case aL => have := LMc16.out; omega)
              intro v200 w63 ho hb hg hat
              rw [← Ny199.out] at ho
              have n0_ := aj.mk (eG (g := gb189) (o := .cells #[.string sU, .int .i64 sV] 31 (0, 0)) (by (with_reducible repeat (first | refine aA ?_ _ | refine aD ?_ | refine aC ?_ _)); exact BK189.out) hg (Kd.gT HO194.out (fun _ hk => hk.2)))
              have n1_ := aj.mk (hb)
              have n2_ := aj.mk (ho)
              clear BK189
              clear HB
              clear HO194
              have BK189 := n0_
              have HB := n1_
              have HO201 := n2_
              clear n0_ n1_ n2_
              clear ho hb hg hat
              refine hK.out _ _ ⟨(aT BK189.out 0).trans rfl, (aT BK189.out 1).trans rfl⟩ (fun hHeld => ?_)
              clear hK K
              refine dw (a' := ?_) ?_ ?_
              rotate_left
              ·show Act.put _ (some 26) _ = _
               simp only [Act.put, List.setIfInBounds_toArray, List.set_cons_zero, List.set_cons_succ, aG, aH]
               rfl
              refine fE (i := 6) (N := some 28) #[true, true, true, true, true, true, true, false, true, true, true, false, false] rfl rfl (dP HT_.out (by kernel_rfl)) (by decide) (fun K hK => ?_)
              refine Kd.eB k31 _ 31 ?hg (N := 28) ?hd (xs := ([(⟨sU, sV⟩ : S31)] : List (S31))) (inner := [.string sU, .int .i64 sV]) (ok := fun _ => True) (okp := fun _ => True) ?hr ?hp (fun _ hk => hk) trivial (Below.refl _ _) (Nat.le_refl _) (by simp) ?_; (case hd => rfl); (case hg => rfl); (case hr => first | (go_simp; done) | (go_simp; rfl)); (case hp => exact (bZ.c2 (show Kd.M k31 _ _ _ (⟨sU, sV⟩ : S31) [.string sU, .int .i64 sV] from (gD _ _ _ (⟨sU, sV⟩ : S31) )) (bZ.none _ _)))
              intro v203 w64 ho65 hb hg_ hnew_
              clear hg_ hnew_
              (first | rw [← Ny202.out] at ho65 | (simp only [Int.reduceToNat] at ho65; rw [← Ny202.out] at ho65))
              have n0_ := aj.mk (Kd.eT (by (with_reducible repeat (first | apply Kd.aN | apply Kd.aM | apply Kd.aW)); exact HO201.out) (Kd.fZ ho65) hb)
              have n1_ := aj.mk (Kd.cK (Kd.fq (Kd.gq ho65 (Kd.gM (by (with_reducible repeat (first | apply Kd.aN | apply Kd.aM | apply Kd.aW)); exact HO201.out))) (g := gb189) (o := .cells #[.string sU, .int .i64 sV] 31 (0, 0)) (by (with_reducible repeat (first | refine aA ?_ _ | refine aD ?_ | refine aC ?_ _)); exact BK189.out)) (bf (by repeat (first | (with_reducible first | exact HB.out | apply au | apply ah | apply ak | refine ay ?_ GE189.out) | exact HB.out))))
              have n2_ := aj.mk (bI (g := gb189) (o := .cells #[.string sU, .int .i64 sV] 31 (0, 0)) (by (with_reducible repeat (first | refine aA ?_ _ | refine aD ?_ | refine aC ?_ _)); exact BK189.out) hb)
              have n3_ := aj.mk (aY (by repeat (first | (with_reducible first | exact HB.out | apply au | apply ah | apply ak | refine ay ?_ GE189.out) | exact HB.out)) hb)
              clear HO201
              clear BK189
              clear HB
              have HO201 := n0_
              have HO204 := n1_
              have BK189 := n2_
              have HB := n3_
              clear n0_ n1_ n2_ n3_
              clear hb ho65
              refine hK.out _ _ ⟨(aT BK189.out 0).trans rfl, (aT BK189.out 1).trans rfl⟩ (fun hHeld => ?_)
              clear hK K
              refine dw (a' := ?_) ?_ ?_
              rotate_left
              ·show Act.put _ (some 28) _ = _
               simp only [Act.put, List.setIfInBounds_toArray, List.set_cons_zero, List.set_cons_succ, aG, aH]
               rfl
              exact dw (by simp only [gG, Act.put, List.setIfInBounds_toArray, List.set_cons_zero, List.set_cons_succ]) (hCont (v193, v200, v203) _ ⟨hHeld, (by (with_reducible repeat (first | apply Kd.aN | apply Kd.aM | apply Kd.aW)); exact Kd.bO HO201.out (fun _ hk => ⟨hk.2, hk.1⟩)), (by (with_reducible repeat (first | apply Kd.aN | apply Kd.aM | apply Kd.aW)); exact Kd.bO HO204.out (fun _ hk => ⟨hk.1.2, hk.2⟩)), (by (with_reducible repeat (first | refine aA ?_ _ | refine aD ?_ | refine aC ?_ _)); exact BK189.out), (by repeat (first | (with_reducible first | exact HB.out | apply au | apply ah | apply ak | refine ay ?_ GE189.out) | exact HB.out))⟩)
             ·skip
              refine Kd.eB k31 _ 31 ?hg (N := 28) ?hd (xs := ([(⟨sU, sV⟩ : S31)] : List (S31))) (inner := [.string sU, .int .i64 sV]) (ok := fun _ => True) (okp := fun _ => True) ?hr ?hp (fun _ hk => hk) trivial (Below.refl _ _) (Nat.le_refl _) (by simp) ?_; (case hd => rfl); (case hg => rfl); (case hr => first | (go_simp; done) | (go_simp; rfl)); (case hp => exact (bZ.c2 (show Kd.M k31 _ _ _ (⟨sU, sV⟩ : S31) [.string sU, .int .i64 sV] from (gD _ _ _ (⟨sU, sV⟩ : S31) )) (bZ.none _ _)))
              intro v203 w63 ho64 hb hg_ hnew_
              clear hg_ hnew_
              (first | rw [← Ny202.out] at ho64 | (simp only [Int.reduceToNat] at ho64; rw [← Ny202.out] at ho64))
              have n0_ := aj.mk (Kd.eT (by (with_reducible repeat (first | apply Kd.aN | apply Kd.aM | apply Kd.aW)); exact HO194.out) (Kd.fZ ho64) hb)
              have n1_ := aj.mk (Kd.cK (Kd.fq (Kd.gq ho64 (Kd.gM (by (with_reducible repeat (first | apply Kd.aN | apply Kd.aM | apply Kd.aW)); exact HO194.out))) (g := gb189) (o := .cells #[.string sU, .int .i64 sV] 31 (0, 0)) (by (with_reducible repeat (first | refine aA ?_ _ | refine aD ?_ | refine aC ?_ _)); exact BK189.out)) (bf (by repeat (first | (with_reducible first | exact HB.out | apply au | apply ah | apply ak | refine ay ?_ GE189.out) | exact HB.out))))
              have n2_ := aj.mk (bI (g := gb189) (o := .cells #[.string sU, .int .i64 sV] 31 (0, 0)) (by (with_reducible repeat (first | refine aA ?_ _ | refine aD ?_ | refine aC ?_ _)); exact BK189.out) hb)
              have n3_ := aj.mk (aY (by repeat (first | (with_reducible first | exact HB.out | apply au | apply ah | apply ak | refine ay ?_ GE189.out) | exact HB.out)) hb)
              clear HO194
              clear BK189
              clear HB
              have HO194 := n0_
              have HO204 := n1_
              have BK189 := n2_
              have HB := n3_
              clear n0_ n1_ n2_ n3_
              clear hb ho64
              refine hK.out _ _ ⟨(aT BK189.out 0).trans rfl, (aT BK189.out 1).trans rfl⟩ (fun hHeld => ?_)
              clear hK K
              refine dw (a' := ?_) ?_ ?_
              rotate_left
              ·show Act.put _ (some 28) _ = _
               simp only [Act.put, List.setIfInBounds_toArray, List.set_cons_zero, List.set_cons_succ, aG, aH]
               rfl
              refine fE (i := 4) (N := some 26) #[true, true, true, true, true, true, true, false, true, true, true, false, false] rfl rfl (dP HT_.out (by kernel_rfl)) (by decide) (fun K hK => ?_)
              refine Kd.dA k31 (w0 := w) w.heap.size (by rfl) (.tmp 22) (.tmp 25) 27 31 (.agg #[(.string ⟨#[]⟩), (.int .i64 0)]) 24 rfl Try.underlying27 fT rfl (by decide) (by omega) v193 y192 y195 _ _ _ (fun k_ => some k_ ≠ (v203 : Value).ownBlock ∧ k_ ≠ gb189) (fun _ => False) rfl rfl ?aO ?aR (fun _ _ h => h) (fun _ h => h.elim) ?aF ?aB ?aS ?aL ?_
              (case aR => repeat (first | exact (Kd.dS HR198.out HB.out) | (with_reducible refine Kd.bU ?_ _) | (with_reducible refine Kd.bV ?_ _) | (with_reducible refine Kd.cB ?_)))
              (case aB => exact (by repeat (first | (with_reducible first | exact HB.out | apply au | apply ah | apply ak | refine ay ?_ GE189.out) | exact HB.out)))
              (case aF => exact (fun k_ hk => ⟨Kd.fresh' (Kd.gM (by (with_reducible repeat (first | apply Kd.aN | apply Kd.aM | apply Kd.aW)); exact HO204.out)) k_ hk, Kd.gJ (g := gb189) (o := .cells #[.string sU, .int .i64 sV] 31 (0, 0)) (by (with_reducible repeat (first | refine aA ?_ _ | refine aD ?_ | refine aC ?_ _)); exact BK189.out) k_ hk⟩))
              (case aO => exact (by (with_reducible repeat (first | apply Kd.aN | apply Kd.aM | apply Kd.aW)); exact Kd.bO HO194.out (fun _ hk => ⟨hk.2, hk.1.2⟩)))
              (case aS => exact (bf (by repeat (first | (with_reducible first | exact HB.out | apply au | apply ah | apply ak | refine ay ?_ GE189.out) | exact HB.out))))
              (case aL => have := LMc16.out; omega)
              intro v200 w65 ho hb hg hat
              rw [← Ny199.out] at ho
              have n0_ := aj.mk (eG (g := gb189) (o := .cells #[.string sU, .int .i64 sV] 31 (0, 0)) (by (with_reducible repeat (first | refine aA ?_ _ | refine aD ?_ | refine aC ?_ _)); exact BK189.out) hg (Kd.gT HO194.out (fun _ hk => hk.1.2)))
              have n1_ := aj.mk (Kd.gu (ok := (fun k_ => k_ ≠ gb189)) (by (with_reducible repeat (first | apply Kd.aN | apply Kd.aM | apply Kd.aW)); exact Kd.bO HO204.out (fun _ hk => ⟨hk.2, hk.1.2⟩)) hg hat)
              have n2_ := aj.mk (hb)
              have n3_ := aj.mk (ho)
              clear BK189
              clear HO204
              clear HB
              clear HO194
              have BK189 := n0_
              have HO204 := n1_
              have HB := n2_
              have HO201 := n3_
              clear n0_ n1_ n2_ n3_
              clear ho hb hg hat
              refine hK.out _ _ ⟨(aT BK189.out 0).trans rfl, (aT BK189.out 1).trans rfl⟩ (fun hHeld => ?_)
              clear hK K
              refine dw (a' := ?_) ?_ ?_
              rotate_left
              ·show Act.put _ (some 26) _ = _
               simp only [Act.put, List.setIfInBounds_toArray, List.set_cons_zero, List.set_cons_succ, aG, aH]
               rfl
              exact dw (by simp only [gG, Act.put, List.setIfInBounds_toArray, List.set_cons_zero, List.set_cons_succ]) (hCont (v193, v200, v203) _ ⟨hHeld, (by (with_reducible repeat (first | apply Kd.aN | apply Kd.aM | apply Kd.aW)); exact HO201.out), (by (with_reducible repeat (first | apply Kd.aN | apply Kd.aM | apply Kd.aW)); exact Kd.bO HO204.out (fun _ hk => ⟨hk.2, hk.1⟩)), (by (with_reducible repeat (first | refine aA ?_ _ | refine aD ?_ | refine aC ?_ _)); exact BK189.out), (by repeat (first | (with_reducible first | exact HB.out | apply au | apply ah | apply ak | refine ay ?_ GE189.out) | exact HB.out))⟩)
            ·skip
             refine Kd.eB k31 _ 31 ?hg (N := 28) ?hd (xs := ([(⟨sU, sV⟩ : S31)] : List (S31))) (inner := [.string sU, .int .i64 sV]) (ok := fun _ => True) (okp := fun _ => True) ?hr ?hp (fun _ hk => hk) trivial (Below.refl _ _) (Nat.le_refl _) (by simp) ?_; (case hd => rfl); (case hg => rfl); (case hr => first | (go_simp; done) | (go_simp; rfl)); (case hp => exact (bZ.c2 (show Kd.M k31 _ _ _ (⟨sU, sV⟩ : S31) [.string sU, .int .i64 sV] from (gD _ _ _ (⟨sU, sV⟩ : S31) )) (bZ.none _ _)))
             intro v203 w61 ho62 hb hg_ hnew_
             clear hg_ hnew_
             (first | rw [← Ny202.out] at ho62 | (simp only [Int.reduceToNat] at ho62; rw [← Ny202.out] at ho62))
             have n0_ := aj.mk (Kd.cK (Kd.fq ho62 (g := gb189) (o := .cells #[.string sU, .int .i64 sV] 31 (0, 0)) (by (with_reducible repeat (first | refine aA ?_ _ | refine aD ?_ | refine aC ?_ _)); exact BK189.out)) (bf (by repeat (first | (with_reducible first | exact HB.out | apply au | apply ah | apply ak | refine ay ?_ GE189.out) | exact HB.out))))
             have n1_ := aj.mk (bI (g := gb189) (o := .cells #[.string sU, .int .i64 sV] 31 (0, 0)) (by (with_reducible repeat (first | refine aA ?_ _ | refine aD ?_ | refine aC ?_ _)); exact BK189.out) hb)
             have n2_ := aj.mk (aY (by repeat (first | (with_reducible first | exact HB.out | apply au | apply ah | apply ak | refine ay ?_ GE189.out) | exact HB.out)) hb)
             clear BK189
             clear HB
             have HO204 := n0_
             have BK189 := n1_
             have HB := n2_
             clear n0_ n1_ n2_
             clear hb ho62
             refine hK.out _ _ ⟨(aT BK189.out 0).trans rfl, (aT BK189.out 1).trans rfl⟩ (fun hHeld => ?_)
             clear hK K
             refine dw (a' := ?_) ?_ ?_
             rotate_left
             ·show Act.put _ (some 28) _ = _
              simp only [Act.put, List.setIfInBounds_toArray, List.set_cons_zero, List.set_cons_succ, aG, aH]
              rfl
             refine fE (i := 0) (N := some 22) #[true, true, true, true, false, true, true, false, true, true, true, false, false] rfl rfl (dP HT_.out (by kernel_rfl)) (by decide) (fun K hK => ?_)
             refine Kd.eB k31 _ 31 ?hg (N := 22) ?hd (xs := ([] : List (S31))) (inner := []) (ok := fun _ => True) (okp := fun _ => True) ?hr ?hp (fun _ hk => hk) trivial (Below.refl _ _) (Nat.le_refl _) (by simp) ?_; (case hd => rfl); (case hg => rfl); (case hr => first | (go_simp; done) | (go_simp; rfl)); (case hp => exact (bZ.none _ _))
             intro v193 w63 ho64 hb hg_ hnew_
             clear hg_ hnew_
             (first | rw [← Ny192.out] at ho64 | (simp only [Int.reduceToNat] at ho64; rw [← Ny192.out] at ho64))
             have n0_ := aj.mk (Kd.eT (by (with_reducible repeat (first | apply Kd.aN | apply Kd.aM | apply Kd.aW)); exact HO204.out) (Kd.fZ ho64) hb)
             have n1_ := aj.mk (Kd.cK (Kd.fq (Kd.gq ho64 (Kd.gM (by (with_reducible repeat (first | apply Kd.aN | apply Kd.aM | apply Kd.aW)); exact HO204.out))) (g := gb189) (o := .cells #[.string sU, .int .i64 sV] 31 (0, 0)) (by (with_reducible repeat (first | refine aA ?_ _ | refine aD ?_ | refine aC ?_ _)); exact BK189.out)) (bf (by repeat (first | (with_reducible first | exact HB.out | apply au | apply ah | apply ak | refine ay ?_ GE189.out) | exact HB.out))))
             have n2_ := aj.mk (bI (g := gb189) (o := .cells #[.string sU, .int .i64 sV] 31 (0, 0)) (by (with_reducible repeat (first | refine aA ?_ _ | refine aD ?_ | refine aC ?_ _)); exact BK189.out) hb)
             have n3_ := aj.mk (aY (by repeat (first | (with_reducible first | exact HB.out | apply au | apply ah | apply ak | refine ay ?_ GE189.out) | exact HB.out)) hb)
             clear HO204
             clear BK189
             clear HB
             have HO204 := n0_
             have HO194 := n1_
             have BK189 := n2_
             have HB := n3_
             clear n0_ n1_ n2_ n3_
             clear hb ho64
             refine hK.out _ _ ⟨(aT BK189.out 0).trans rfl, (aT BK189.out 1).trans rfl⟩ (fun hHeld => ?_)
             clear hK K
             refine dw (a' := ?_) ?_ ?_
             rotate_left
             ·show Act.put _ (some 22) _ = _
              simp only [Act.put, List.setIfInBounds_toArray, List.set_cons_zero, List.set_cons_succ, aG, aH]
              rfl
             refine fE (i := 4) (N := some 26) #[true, true, true, true, true, true, true, false, true, true, true, false, false] rfl rfl (dP HT_.out (by kernel_rfl)) (by decide) (fun K hK => ?_)
             refine Kd.dA k31 (w0 := w) w.heap.size (by rfl) (.tmp 22) (.tmp 25) 27 31 (.agg #[(.string ⟨#[]⟩), (.int .i64 0)]) 24 rfl Try.underlying27 fT rfl (by decide) (by omega) v193 y192 y195 _ _ _ (fun k_ => some k_ ≠ (v203 : Value).ownBlock ∧ k_ ≠ gb189) (fun _ => False) rfl rfl ?aO ?aR (fun _ _ h => h) (fun _ h => h.elim) ?aF ?aB ?aS ?aL ?_
             (case aR => repeat (first | exact (Kd.dS HR198.out HB.out) | (with_reducible refine Kd.bU ?_ _) | (with_reducible refine Kd.bV ?_ _) | (with_reducible refine Kd.cB ?_)))
             (case aB => exact (by repeat (first | (with_reducible first | exact HB.out | apply au | apply ah | apply ak | refine ay ?_ GE189.out) | exact HB.out)))
             (case aF => exact (fun k_ hk => ⟨Kd.fresh' (Kd.gM (by (with_reducible repeat (first | apply Kd.aN | apply Kd.aM | apply Kd.aW)); exact HO204.out)) k_ hk, Kd.gJ (g := gb189) (o := .cells #[.string sU, .int .i64 sV] 31 (0, 0)) (by (with_reducible repeat (first | refine aA ?_ _ | refine aD ?_ | refine aC ?_ _)); exact BK189.out) k_ hk⟩))
             (case aO => exact (by (with_reducible repeat (first | apply Kd.aN | apply Kd.aM | apply Kd.aW)); exact Kd.bO HO194.out (fun _ hk => ⟨hk.1.2, hk.2⟩)))
             (case aS => exact (bf (by repeat (first | (with_reducible first | exact HB.out | apply au | apply ah | apply ak | refine ay ?_ GE189.out) | exact HB.out))))
             (case aL => have := LMc16.out; omega)
             intro v200 w65 ho hb hg hat
             rw [← Ny199.out] at ho
             have n0_ := aj.mk (eG (g := gb189) (o := .cells #[.string sU, .int .i64 sV] 31 (0, 0)) (by (with_reducible repeat (first | refine aA ?_ _ | refine aD ?_ | refine aC ?_ _)); exact BK189.out) hg (Kd.gT HO194.out (fun _ hk => hk.2)))
             have n1_ := aj.mk (Kd.gu (ok := (fun k_ => k_ ≠ gb189)) (by (with_reducible repeat (first | apply Kd.aN | apply Kd.aM | apply Kd.aW)); exact Kd.bO HO204.out (fun _ hk => ⟨hk.1.2, hk.2⟩)) hg hat)
             have n2_ := aj.mk (hb)
             have n3_ := aj.mk (ho)
             clear BK189
             clear HO204
             clear HB
             clear HO194
             have BK189 := n0_
             have HO204 := n1_
             have HB := n2_
             have HO201 := n3_
             clear n0_ n1_ n2_ n3_
             clear ho hb hg hat
             refine hK.out _ _ ⟨(aT BK189.out 0).trans rfl, (aT BK189.out 1).trans rfl⟩ (fun hHeld => ?_)
             clear hK K
             refine dw (a' := ?_) ?_ ?_
             rotate_left
             ·show Act.put _ (some 26) _ = _
              simp only [Act.put, List.setIfInBounds_toArray, List.set_cons_zero, List.set_cons_succ, aG, aH]
              rfl
             exact dw (by simp only [gG, Act.put, List.setIfInBounds_toArray, List.set_cons_zero, List.set_cons_succ]) (hCont (v193, v200, v203) _ ⟨hHeld, (by (with_reducible repeat (first | apply Kd.aN | apply Kd.aM | apply Kd.aW)); exact HO201.out), (by (with_reducible repeat (first | apply Kd.aN | apply Kd.aM | apply Kd.aW)); exact Kd.bO HO204.out (fun _ hk => ⟨hk.2, hk.1⟩)), (by (with_reducible repeat (first | refine aA ?_ _ | refine aD ?_ | refine aC ?_ _)); exact BK189.out), (by repeat (first | (with_reducible first | exact HB.out | apply au | apply ah | apply ak | refine ay ?_ GE189.out) | exact HB.out))⟩)
           rintro ⟨v193, v200, v203⟩ w66 ⟨hS_, h0_, h1_, h2_, h3_⟩
           have n0_ : aj (Kd.R k31 31 w66 w.heap.size (fun k_ => some k_ ≠ (v203 : Value).ownBlock ∧ k_ ≠ gb189) v200 y199) := ⟨h0_⟩
           have n1_ : aj (Kd.R k31 31 w66 w.heap.size (fun k_ => some k_ ≠ (v200 : Value).ownBlock ∧ k_ ≠ gb189) v203 y202) := ⟨h1_⟩
           have n2_ : aj (w66.heap[gb189]? = some (.cells #[.string sU, .int .i64 sV] 31 (0, 0))) := ⟨h2_⟩
           have n3_ : aj (Below w.heap.size w w66) := ⟨h3_⟩
           clear BK189
           clear HB
           clear h0_ h1_ h2_ h3_
           have HO201 := n0_
           have HO204 := n1_
           have BK189 := n2_
           have HB := n3_
           clear n0_ n1_ n2_ n3_
           have hHeld : w66.cell? ⟨gb189, 0, none⟩ = some (.string sU) ∧ w66.cell? ⟨gb189, 1, none⟩ = some (.int .i64 sV) := hS_
           obtain ⟨Ao68, co68, eo68⟩ := Kd.dO HO204.out
           (first | subst eo68 | (injection eo68 with f1_ f2_ f3_; have f4_ := f1_.symm; have f5_ := f3_.symm; clear f1_ f2_ f3_; subst f4_; subst f5_))
           refine dw (a' := ?_) ?_ ?_
           rotate_left
           ·simp only [gG, Act.put, List.setIfInBounds_toArray, List.set_cons_zero, List.set_cons_succ]
            rfl
           refine fE (i := 7) (N := some 29) #[true, true, true, true, true, true, true, true, true, true, true, false, false] rfl rfl (dP HT_.out (by kernel_rfl)) (by decide) (fun K hK => ?_)
           refine Kd.dA k31 (w0 := w) w.heap.size (by rfl) (.tmp 26) (.tmp 28) 27 31 (.agg #[(.string ⟨#[]⟩), (.int .i64 0)]) 24 rfl Try.underlying27 fT rfl (by decide) (by omega) v200 y199 y202 _ _ _ (fun k_ => some k_ ≠ (.slice Ao68 y202.length co68 : Value).ownBlock ∧ k_ ≠ gb189) (fun _ => False) rfl rfl ?aO ?aR (fun _ _ h => h) (fun _ h => h.elim) ?aF ?aB ?aS ?aL ?_
           (case aR => repeat (first | exact (Kd.bJ HO204.out).2.2 | (with_reducible refine Kd.bU ?_ _) | (with_reducible refine Kd.bV ?_ _) | (with_reducible refine Kd.cB ?_)))
           (case aB => exact (by repeat (first | (with_reducible first | exact HB.out | apply au | apply ah | apply ak | refine ay ?_ GE189.out) | exact HB.out)))
           (case aF => exact (fun k_ hk => ⟨Kd.fresh' (Kd.gM (by (with_reducible repeat (first | apply Kd.aN | apply Kd.aM | apply Kd.aW)); exact HO204.out)) k_ hk, Kd.gJ (g := gb189) (o := .cells #[.string sU, .int .i64 sV] 31 (0, 0)) (by (with_reducible repeat (first | refine aA ?_ _ | refine aD ?_ | refine aC ?_ _)); exact BK189.out) k_ hk⟩))
           (case aO => exact (by (with_reducible repeat (first | apply Kd.aN | apply Kd.aM | apply Kd.aW)); exact HO201.out))
           (case aS => exact (bf (by repeat (first | (with_reducible first | exact HB.out | apply au | apply ah | apply ak | refine ay ?_ GE189.out) | exact HB.out))))
           (case aL => have := LMc17.out; omega)
           intro v206 w67 ho hb hg hat
           rw [← Ny205.out] at ho
           have n0_ := aj.mk (eG (g := gb189) (o := .cells #[.string sU, .int .i64 sV] 31 (0, 0)) (by (with_reducible repeat (first | refine aA ?_ _ | refine aD ?_ | refine aC ?_ _)); exact BK189.out) hg (Kd.gT HO201.out (fun _ hk => hk.2)))
           have n1_ := aj.mk (Kd.gu (ok := (fun k_ => k_ ≠ gb189)) (by (with_reducible repeat (first | apply Kd.aN | apply Kd.aM | apply Kd.aW)); exact Kd.bO HO204.out (fun _ hk => ⟨hk.2, hk.1⟩)) hg hat)
           have n2_ := aj.mk (hb)
           have n3_ := aj.mk (ho)
           clear BK189
           clear HO204
           clear HB
           clear HO201
           have BK189 := n0_
           have HO204 := n1_
           have HB := n2_
           have HO207 := n3_
           clear n0_ n1_ n2_ n3_
           clear ho hb hg hat
           refine hK.out _ _ ⟨(aT BK189.out 0).trans rfl, (aT BK189.out 1).trans rfl⟩ (fun hHeld => ?_)
           clear hK K
           refine dw (a' := ?_) ?_ ?_
           rotate_left
           ·show Act.put _ (some 29) _ = _
            simp only [Act.put, List.setIfInBounds_toArray, List.set_cons_zero, List.set_cons_succ, aG, aH]
            rfl
           refine fE (i := 11) (N := some 33) #[true, true, true, true, true, true, true, true, true, true, true, true, false] rfl rfl (dP HT_.out (by kernel_rfl)) (by decide) (fun K hK => ?_)
           refine Kd.dA k31 (w0 := w) w.heap.size (by rfl) (.tmp 29) (.tmp 32) 27 31 (.agg #[(.string ⟨#[]⟩), (.int .i64 0)]) 24 rfl Try.underlying27 fT rfl (by decide) (by omega) v206 y205 y208 _ _ _ (fun k_ => some k_ ≠ (.slice Ao68 y202.length co68 : Value).ownBlock ∧ k_ ≠ gb189) (fun _ => False) rfl rfl ?aO ?aR (fun _ _ h => h) (fun _ h => h.elim) ?aF ?aB ?aS ?aL ?_
           (case aR => repeat (first | exact (Kd.dS HR211.out HB.out) | (with_reducible refine Kd.bU ?_ _) | (with_reducible refine Kd.bV ?_ _) | (with_reducible refine Kd.cB ?_)))
           (case aB => exact (by repeat (first | (with_reducible first | exact HB.out | apply au | apply ah | apply ak | refine ay ?_ GE189.out) | exact HB.out)))
           (case aF => exact (fun k_ hk => ⟨Kd.fresh' (Kd.gM (by (with_reducible repeat (first | apply Kd.aN | apply Kd.aM | apply Kd.aW)); exact HO204.out)) k_ hk, Kd.gJ (g := gb189) (o := .cells #[.string sU, .int .i64 sV] 31 (0, 0)) (by (with_reducible repeat (first | refine aA ?_ _ | refine aD ?_ | refine aC ?_ _)); exact BK189.out) k_ hk⟩))
           (case aO => exact (by (with_reducible repeat (first | apply Kd.aN | apply Kd.aM | apply Kd.aW)); exact HO207.out))
           (case aS => exact (bf (by repeat (first | (with_reducible first | exact HB.out | apply au | apply ah | apply ak | refine ay ?_ GE189.out) | exact HB.out))))
           (case aL => have := LMc20.out; omega)
           intro v213 w69 ho hb hg hat
           rw [← Ny212.out] at ho
           have n0_ := aj.mk (eG (g := gb189) (o := .cells #[.string sU, .int .i64 sV] 31 (0, 0)) (by (with_reducible repeat (first | refine aA ?_ _ | refine aD ?_ | refine aC ?_ _)); exact BK189.out) hg (Kd.gT HO207.out (fun _ hk => hk.2)))
           have n1_ := aj.mk (Kd.gu (ok := (fun k_ => k_ ≠ gb189)) (by (with_reducible repeat (first | apply Kd.aN | apply Kd.aM | apply Kd.aW)); exact HO204.out) hg hat)
           have n2_ := aj.mk (hb)
           have n3_ := aj.mk (ho)
           clear BK189
           clear HO204
           clear HB
           clear HO207
           have BK189 := n0_
           have HO204 := n1_
           have HB := n2_
           have HO214 := n3_
           clear n0_ n1_ n2_ n3_
           clear ho hb hg hat
           refine hK.out _ _ ⟨(aT BK189.out 0).trans rfl, (aT BK189.out 1).trans rfl⟩ (fun hHeld => ?_)
           clear hK K
           refine dw (a' := ?_) ?_ ?_
           rotate_left
           ·show Act.put _ (some 33) _ = _
            simp only [Act.put, List.setIfInBounds_toArray, List.set_cons_zero, List.set_cons_succ, aG, aH]
            rfl
           refine aX (i := 12) (N := some 7) (v := ?_) (a' := ?_) #[true, true, true, true, true, true, true, true, true, true, true, true, true] rfl rfl (aK HT_.out (by kernel_rfl)) (fun _ _ _ h => h) (Or.inl ⟨by rfl, ?_⟩) ?_ ?_
           rotate_left
           ·intro w'
            go_simp
            with_reducible rfl
           rotate_left
           ·simp only [Act.put, List.setIfInBounds_toArray, List.set_cons_zero, List.set_cons_succ, aG, aH]
            rfl
           refine gU (fD HT_.out (by kernel_rfl)) ?_
           have hcz70_0 : w69.cell? ⟨gb189, 0, none⟩ = some (.string sU) := (aT BK189.out 0).trans rfl
           have hcz70_1 : w69.cell? ⟨gb189, 1, none⟩ = some (.int .i64 sV) := (aT BK189.out 1).trans rfl
           have hfz70_0 := bG BK189.out 0
           have hfz70_1 := bG BK189.out 1
           try go_wp2_with (first | ((with_reducible refine bq (f := 52) rfl ?_); refine bT (some 39) rfl rfl Try.func52 (by kernel_rfl) rfl #[.slice A0 l0.length c0, .string sU, .int .i64 sV] rfl (by (try simp only [List.map_toArray, List.map_cons, List.map_nil]); first | done | rfl | (simp only [List.length_drop, List.length_take]; rfl)) ?_; (with_reducible refine (cZ.calls kj2 _ _ l0 sU sV false _ ?side1 ?side2 A21.out).mono ?_); (case side1 => repeat (first | exact (Kd.dS HR0.out HB.out) | (with_reducible refine Kd.bU ?_ _) | (with_reducible refine Kd.bV ?_ _) | (with_reducible refine Kd.cB ?_))); (case side2 => exact HC0.out); rintro e w' ⟨rfl, ⟨nd, rfl⟩⟩; refine ⟨_, rfl, ?_⟩; obtain ⟨Ao71, co71, eo71⟩ := Kd.dO HO214.out; subst eo71) | (go_at_call 53; (with_reducible refine (bC.calls kj2 _ _ y212 false _ ?side1 ?side2 A40.out).mono ?_); (case side1 => repeat (first | exact (Kd.bJ HO214.out).2.2 | (with_reducible refine Kd.bU ?_ _) | (with_reducible refine Kd.bV ?_ _) | (with_reducible refine Kd.cB ?_))); (case side2 => exact (Kd.bJ HO214.out).2.1); rintro e w72 ⟨rfl, hb⟩; have n0_ := aj.mk (Kd.bY (by (with_reducible repeat (first | apply Kd.aN | apply Kd.aM | apply Kd.aW)); exact HO204.out) hb); have n1_ := aj.mk (Kd.bY (by (with_reducible repeat (first | apply Kd.aN | apply Kd.aM | apply Kd.aW)); exact HO214.out) hb); have n2_ := aj.mk (bI (g := gb189) (o := .cells #[.string sU, .int .i64 sV] 31 (0, 0)) (by (with_reducible repeat (first | refine aA ?_ _ | refine aD ?_ | refine aC ?_ _)); exact BK189.out) hb); have n3_ := aj.mk (aY (by repeat (first | (with_reducible first | exact HB.out | apply au | apply ah | apply ak | refine ay ?_ GE189.out) | exact HB.out)) hb); clear HO204; clear HO214; clear BK189; clear HB; have HO204 := n0_; have HO214 := n1_; have BK189 := n2_; have HB := n3_; clear n0_ n1_ n2_ n3_; (try clear hb); (try clear hb2); (try clear hk); (try clear hi)) | ((with_reducible refine dz (N := 45) rfl ?_); refine Kd.kY k31 _ 31 ?hg (N := 45) ?hd (xs := ([] : List (S31))) (inner := []) (ok := fun _ => True) (okp := fun _ => True) ?hr ?hp (fun _ hk => hk) trivial (Below.refl _ _) (Nat.le_refl _) (by simp) ?_; (case hd => rfl); (case hg => rfl); (case hr => first | (go_simp; done) | (go_simp; rfl)); (case hp => exact (bZ.none _ _)); intro v224 w73 ho74 hb hg_ hnew_; clear hg_ hnew_; (first | rw [← Ny223.out] at ho74 | (simp only [Int.reduceToNat] at ho74; rw [← Ny223.out] at ho74)); have n0_ := aj.mk (Kd.eT (by (with_reducible repeat (first | apply Kd.aN | apply Kd.aM | apply Kd.aW)); exact HO204.out) (Kd.fZ ho74) hb); have n1_ := aj.mk (Kd.eT (by (with_reducible repeat (first | apply Kd.aN | apply Kd.aM | apply Kd.aW)); exact HO214.out) (Kd.fZ ho74) hb); have n2_ := aj.mk (Kd.cK (Kd.fq (Kd.gq (Kd.gq ho74 (Kd.gM (by (with_reducible repeat (first | apply Kd.aN | apply Kd.aM | apply Kd.aW)); exact HO204.out))) (Kd.gM (by (with_reducible repeat (first | apply Kd.aN | apply Kd.aM | apply Kd.aW)); exact HO214.out))) (g := gb189) (o := .cells #[.string sU, .int .i64 sV] 31 (0, 0)) (by (with_reducible repeat (first | refine aA ?_ _ | refine aD ?_ | refine aC ?_ _)); exact BK189.out)) (bf (by repeat (first | (with_reducible first | exact HB.out | apply au | apply ah | apply ak | refine ay ?_ GE189.out) | exact HB.out)))); have n3_ := aj.mk (bI (g := gb189) (o := .cells #[.string sU, .int .i64 sV] 31 (0, 0)) (by (with_reducible repeat (first | refine aA ?_ _ | refine aD ?_ | refine aC ?_ _)); exact BK189.out) hb); have n4_ := aj.mk (aY (by repeat (first | (with_reducible first | exact HB.out | apply au | apply ah | apply ak | refine ay ?_ GE189.out) | exact HB.out)) hb); clear HO204; clear HO214; clear BK189; clear HB; have HO204 := n0_; have HO214 := n1_; have HO225 := n2_; have BK189 := n3_; have HB := n4_; clear n0_ n1_ n2_ n3_ n4_; clear hb ho74) | ((with_reducible refine gX (b := .append) (xs := #[.tmp 45, .tmp 46]) rfl ?_); at_builtin; refine Kd.jS k31 (w0 := w) w.heap.size rfl (.tmp 45) (.tmp 46) 27 31 (.agg #[(.string ⟨#[]⟩), (.int .i64 0)]) 24 rfl Try.underlying27 fT rfl (by decide) (by omega) v224 y223 l0 _ _ _ (fun k_ => some k_ ≠ (.slice Ao68 y202.length co68 : Value).ownBlock ∧ some k_ ≠ (.slice Ao71 y212.length co71 : Value).ownBlock ∧ k_ ≠ gb189) (fun _ => False) rfl rfl ?aO ?aR (fun _ _ h => h) (fun _ h => h.elim) ?aF ?aB ?aS ?aL ?_; (case aR => repeat (first | exact (Kd.dS HR0.out HB.out) | (with_reducible refine Kd.bU ?_ _) | (with_reducible refine Kd.bV ?_ _) | (with_reducible refine Kd.cB ?_))); (case aB => exact (by repeat (first | (with_reducible first | exact HB.out | apply au | apply ah | apply ak | refine ay ?_ GE189.out) | exact HB.out))); (case aF => exact (fun k_ hk => ⟨Kd.fresh' (Kd.gM (by (with_reducible repeat (first | apply Kd.aN | apply Kd.aM | apply Kd.aW)); exact HO204.out)) k_ hk, Kd.fresh' (Kd.gM (by (with_reducible repeat (first | apply Kd.aN | apply Kd.aM | apply Kd.aW)); exact HO214.out)) k_ hk, Kd.gJ (g := gb189) (o := .cells #[.string sU, .int .i64 sV] 31 (0, 0)) (by (with_reducible repeat (first | refine aA ?_ _ | refine aD ?_ | refine aC ?_ _)); exact BK189.out) k_ hk⟩)); (case aO => exact (by (with_reducible repeat (first | apply Kd.aN | apply Kd.aM | apply Kd.aW)); exact Kd.bO HO225.out (fun _ hk => ⟨hk.1.1.2, ⟨hk.1.2, hk.2⟩⟩))); (case aS => exact (bf (by repeat (first | (with_reducible first | exact HB.out | apply au | apply ah | apply ak | refine ay ?_ GE189.out) | exact HB.out)))); (case aL => have := LMc57.out; omega); intro v227 w75 ho hb hg hat; rw [← Ny226.out] at ho; have n0_ := aj.mk (eG (g := gb189) (o := .cells #[.string sU, .int .i64 sV] 31 (0, 0)) (by (with_reducible repeat (first | refine aA ?_ _ | refine aD ?_ | refine aC ?_ _)); exact BK189.out) hg (Kd.gT HO225.out (fun _ hk => hk.2))); have n1_ := aj.mk (Kd.gu (ok := (fun k_ => some k_ ≠ (.slice Ao71 y212.length co71 : Value).ownBlock ∧ k_ ≠ gb189)) (by (with_reducible repeat (first | apply Kd.aN | apply Kd.aM | apply Kd.aW)); exact Kd.bO HO204.out (fun _ hk => ⟨⟨hk.1.2, hk.1.1⟩, hk.2⟩)) hg hat); have n2_ := aj.mk (Kd.gu (ok := (fun k_ => some k_ ≠ (.slice Ao68 y202.length co68 : Value).ownBlock ∧ k_ ≠ gb189)) (by (with_reducible repeat (first | apply Kd.aN | apply Kd.aM | apply Kd.aW)); exact HO214.out) hg hat); have n3_ := aj.mk (hb); have n4_ := aj.mk (ho); clear BK189; clear HO204; clear HO214; clear HB; clear HO225; have BK189 := n0_; have HO204 := n1_; have HO214 := n2_; have HB := n3_; have HO228 := n4_; clear n0_ n1_ n2_ n3_ n4_; clear ho hb hg hat))
           go_ret2
           exact ⟨_, by first | rfl | (simp [bA, bB] <;> rfl) | (simp [*, bA, bB] <;> rfl), by (with_reducible repeat (first | apply Kd.aN | apply Kd.aM | apply Kd.aW)); exact Kd.bO HO228.out (fun _ hk => trivial), by repeat (first | (with_reducible first | exact HB.out | apply au | apply ah | apply ak | refine ay ?_ GE189.out) | exact HB.out)⟩
          ·rw [if_neg c57] at H
           exact absurd H (by simp)
       ·rw [if_neg c20] at H
        exact absurd H (by simp)
      ·rw [if_neg c17] at H
       exact absurd H (by simp)
     ·rw [if_neg c16] at H
      exact absurd H (by simp)
    ·rw [if_neg c15] at H
     exact absurd H (by simp)
   ·rw [if_neg c14] at H
    exact absurd H (by simp)
end Go.Proofs.Ythjcicmmbmagbaa.PFnSenses
