/- Walks of functions: what each computes. -/
import Derived.Test.YthjcicmmbmagbaaZAddMeaningG0
import Derived.Test.YthjcicmmbmagbaaZAddMeaningG1
import Derived.Test.YthjcicmmbmagbaaZAddMeaningW
import Derived.Test.YthjcicmmbmagbaaZAddMeaningHandSort
import Derived.Test.YthjcicmmbmagbaaZAddMeaningHandForm
import Derived.Test.YthjcicmmbmagbaaZAddMeaningHandAlone
import Derived.Test.YthjcicmmbmagbaaZAddMeaningHandIns
namespace Go.Proofs.Ythjcicmmbmagbaa.PFnExactAddMeaning
open Go.RowKit Go.Proofs.YthjcicmmbmagbaaW.PrintWords Go.Proofs.YthjcicmmbmagbaaW.PrintLast Go.Proofs.YthjcicmmbmagbaaW.PrintMore
attribute [local go_sem] gF gu gN gM fO fP gB gy
set_option linter.unusedVariables false
set_option linter.unusedSimpArgs false
mutual
def bA.j1 : Nat → List (S31) → Int → ByteArray → Int → Option ((List (S31)) × Bool)
 | 0, _, _, _, _ => none
 | k + 1, x0, x6, x118000, x118001 => (some (([] : List (S31)) : List (S31))).bind fun y120 => (if 0 ≤ x6 then (if x6 ≤ (x0.length : Int) then ((some (x0.take (x6 : Int).toNat : List (S31))).bind fun y123 => (if y120.length + y123.length < 5864062014805 then ((some (y120 ++ y123 : List (S31))).bind fun y127 => ((some (([(⟨x118000, x118001⟩ : S31)] : List (S31)) : List (S31))).bind fun y130 => (if y127.length + y130.length < 5864062014805 then ((some (y127 ++ y130 : List (S31))).bind fun y133 => ((some (x0.drop (x6 : Int).toNat : List (S31))).bind fun y136 => (if y133.length + y136.length < 5864062014805 then ((some (y133 ++ y136 : List (S31))).bind fun y140 => ((bP.f k x0 x118000 x118001).bind fun t143 => (if t143 = true then ((some (([] : List (S31)) : List (S31))).bind fun y144 => (if y144.length + x0.length < 5864062014805 then (some ((y144 ++ x0), false)) else (none))) else ((aZ.f k y140).bind fun t150 => (if t150 = true then (some (y140, true)) else ((some (([] : List (S31)) : List (S31))).bind fun y151 => (if y151.length + x0.length < 5864062014805 then (some ((y151 ++ x0), false)) else (none)))))))) else (none)))) else (none)))) else (none))) else (none)) else (none))
def bA.l0 : Nat → List (S31) → Int → ByteArray → Int → Option ((List (S31)) × Bool)
 | 0, _, _, _, _ => none
 | k + 1, x0, x6, x118000, x118001 => if x6 < (x0.length : Int) then (if 0 ≤ x6 then ((dF.f ((aJ x0 x6).f0) ((aJ x0 x6).f1) x118000 x118001).bind fun t119 => (if t119 = true then (bA.l0 k x0 (wrap64 (x6 + 1)) x118000 x118001) else (bA.j1 k x0 x6 x118000 x118001))) else (none)) else (bA.j1 k x0 x6 x118000 x118001)
end
def bA.f (k : Nat) (l0 : List (S31)) (pG : ByteArray) (pI : Int) : Option ((List (S31)) × Bool) := bA.l0 k l0 0 pG pI
def bA.T2 : Bool × List (List Nat × List Nat) := (true, [([], []), ([], []), ([1], [1]), ([0, 2], [0, 2]), ([3], [3]), ([4], [4]), ([4], [4]), ([5, 6, 4], [4, 5, 6]), ([7, 4], [4, 7]), ([4], [4]), ([8, 9, 4, 4], [4, 8, 9]), ([4, 10], [4, 10])])
def bA.B2 : List Nat := [0, 0, 2, 7, 15, 31, 31, 127, 255, 31, 1023, 2047]
theorem bA.oQ : fT .any (opsOf Try.f12 2) = bA.T2 := by kernel_rfl
theorem bA.nK : fH bA.T2.2 bA.B2 = true := by kernel_rfl
def bA.T4 : Bool × List (List Nat × List Nat) := (true, [([], []), ([], []), ([], []), ([1, 2], [1, 2]), ([0, 3], [0, 3]), ([], []), ([5], [5]), ([4, 6, 4], [4, 6]), ([], []), ([], []), ([8, 9], [8, 9]), ([7, 10, 7], [7, 10]), ([11, 11, 0, 1, 2, 3, 4, 5, 6, 7, 8, 9, 10, 11], [11])])
def bA.B4 : List Nat := [0, 0, 0, 6, 15, 0, 32, 127, 0, 0, 768, 2047, 4095]
theorem bA.iB : fT .any (opsOf Try.f12 4) = bA.T4 := by kernel_rfl
theorem bA.gD : fH bA.T4.2 bA.B4 = true := by kernel_rfl
set_option maxHeartbeats 8000000 in
set_option maxRecDepth 100000 in
theorem bA.calls (k : Nat) (A0 : Option Addr) (c0 : Nat) (l0 : List (S31)) (pG : ByteArray) (pI : Int) (r1 : List (S31)) (r2 : Bool) (w : World) (hr0 : Kd.C k31 w A0 l0.length l0) (hc0 : l0.length ≤ c0) (h : bA.f k l0 pG pI = some (r1, r2)) :
  Calls Try.prog 12 #[.slice A0 l0.length c0, .agg #[.string pG, .int .i64 pI]] w fun e w' => ∃ v0_ : Value, e = .returned (.tuple #[v0_, .bool r2]) ∧ Kd.R k31 31 w' w.heap.size (fun _ => True) v0_ r1 ∧ Below w.heap.size w w' := by
 have hu31 := Try.underlying31
 have HR0 := ak.mk hr0
 have HC0 := ak.mk hc0
 clear hr0 hc0
 have HB := ak.mk (Below.refl w.heap.size w)
 have H : (bA.l0 k l0 0 pG pI) = some (r1, r2) := h
 clear h
 have HC3 := ak.mk H
 clear H
 go_enter Try.func12, Try.ntmps12
 go_upto_block 0 with (first | ((with_reducible refine bX (N := 3) rfl ?_); refine bV ?hg (N := 3) ?hd (cs := #[.string pG, .int .i64 pI]) (t := 31) ?hr ?_; (case hd => rfl); (case hg => rfl); (case hr => first | (go_simp; done) | (go_simp; rfl)); intro gb117 hg w4 hbox hb; have n0_ := ak.mk (aX (by repeat (first | (with_reducible first | exact HB.out | apply au | apply ah | apply aj) | exact HB.out)) hb); have n1_ := ak.mk (hbox); have n2_ := ak.mk ((by rw [hg]; exact (aW (by repeat (first | (with_reducible first | exact HB.out | apply au | apply ah | apply aj) | exact HB.out))) : w.heap.size ≤ gb117)); have n3_ := ak.mk ((by rw [hg]; exact (aW (by repeat (first | (with_reducible first | exact HB.out | apply au | apply ah | apply aj) | exact HB.out))) : w.heap.size ≤ gb117)); clear HB; have HB := n0_; have BK117 := n1_; have GW117 := n2_; have GE117 := n3_; clear n0_ n1_ n2_ n3_; clear hb hbox hg))
 (try simp only [Act.put, List.setIfInBounds_toArray, List.set_cons_zero, List.set_cons_succ])
 go_cut [6] (fun v6 wc => ∃ (kq : Nat) (x6_2 : Int), v6 = .int .i64 x6_2 ∧ ak (bA.j1 kq l0 x6_2 pG pI = some (r1, r2)) ∧ ak (kq ≤ k) ∧ ak (wc.heap[gb117]? = some (.cells #[.string pG, .int .i64 pI] 31 (0, 0))) ∧ ak (Below w.heap.size w wc))
 case first =>
  have H := HC3.out
  clear HC3
  have H' := ak.mk H
  clear H
  go_wp2
  go_loopg [6] k (fun kq v6 w' => ∃ (x6_1 : Int), v6 = .int .i64 x6_1 ∧ ak (bA.l0 kq l0 x6_1 pG pI = some (r1, r2)) ∧ ak (kq ≤ k) ∧ ak (w'.heap[gb117]? = some (.cells #[.string pG, .int .i64 pI] 31 (0, 0))) ∧ ak (Below w.heap.size w w'))
  case atStart => exact ⟨(0), (by first | rfl | (simp; done) | (simp [*]; done)), H', ⟨Nat.le_refl _⟩, ⟨by (with_reducible repeat (first | refine aG ?_ _ | refine aK ?_ | refine aD ?_ _)); exact BK117.out⟩, ⟨by repeat (first | (with_reducible first | exact HB.out | apply au | apply ah | apply aj | refine ay ?_ GE117.out) | exact HB.out)⟩⟩
  case round =>
   clear H'
   obtain ⟨x6_1, rfl, HA, HK1, BK117, HB⟩ := hrel
   cases gk with
   | zero => exact absurd HA.out (by simp [bA.l0])
   | succ k1 =>
    have H := HA.out
    clear HA
    simp only [bA.l0] at H
    by_cases c5 : x6_1 < (l0.length : Int)
    ·rw [if_pos c5] at H
     have c5b0 : decide (x6_1 < (l0.length : Int)) = true := decide_eq_true c5
     clear c5
     (first | rw [c5b0] | (simp only [aA, aC]; rw [c5b0]) | skip)
     by_cases c6 : 0 ≤ x6_1
     ·rw [if_pos c6] at H
      have c6b0 : decide (0 ≤ x6_1) = true := decide_eq_true c6
      clear c6
      replace H := Option.bind_eq_some_iff.mp H
      obtain ⟨t119, A70, H⟩ := H
      replace H : (if t119 = true then (bA.l0 k1 l0 (wrap64 (x6_1 + 1)) pG pI) else (bA.j1 k1 l0 x6_1 pG pI)) = some (r1, r2) := H
      have A7 := ak.mk A70
      clear A70
      by_cases c8 : t119 = true
      ·subst c8
       have H1 : (bA.l0 k1 l0 (wrap64 (x6_1 + 1)) pG pI) = some (r1, r2) := by rw [if_pos rfl] at H; exact H
       clear H
       have H := H1
       clear H1
       have H' := ak.mk H
       clear H
       try go_wp2
       have n0_ := ak.mk (aK BK117.out)
       have n1_ := ak.mk (aj HB.out)
       clear BK117
       clear HB
       have BK117 := n0_
       have HB := n1_
       clear n0_ n1_
       have p118 : 0 ≤ (x6_1 : Int) := of_decide_eq_true (by first | (with_reducible assumption) | assumption)
       have q118 : x6_1 < (l0.length : Int) := of_decide_eq_true (by first | (with_reducible assumption) | assumption)
       obtain ⟨ad118, e118, hx118_0, hx118_1⟩ := dG HR0.out x6_1 p118 q118
       have hw118_1 := hx118_1
       have hw118_0 := hx118_0
       cases e118
       try replace hx118_0 := (HB.out.cell (World.block_lt_of_cell? w _ hx118_0)).trans hx118_0
       try replace hx118_1 := (HB.out.cell (World.block_lt_of_cell? w _ hx118_1)).trans hx118_1
       replace p118 := eq_true p118
       replace q118 := eq_true q118
       refine dU (n := 12) (S := fun w' => w'.cell? ⟨gb117, 0, none⟩ = some (.string pG) ∧ w'.cell? ⟨gb117, 1, none⟩ = some (.int .i64 pI) ∧ w'.cell? (ad118.add ((x6_1).toNat * 2)) = some (.string ((aJ l0 x6_1).f0)) ∧ w'.cell? ⟨(ad118.add ((x6_1).toNat * 2)).block, (ad118.add ((x6_1).toNat * 2)).off + 1, none⟩ = some (.int .i64 ((aJ l0 x6_1).f1))) (ds := []) #[false, false, false, false, false, false, false, false, false, false, false, false] (by kernel_rfl) rfl rfl ⟨(aM BK117.out 0).trans rfl, (aM BK117.out 1).trans rfl, ((HB.out.cell (World.block_lt_of_cell? w _ hw118_0)).trans hw118_0), ((HB.out.cell (World.block_lt_of_cell? w _ hw118_1)).trans hw118_1)⟩ (fun hHeld => ?_); refine dA bA.oQ bA.nK (fun HT_ HW_ => ?_)
       generalize wr.drew = w9 at BK117 HB hx118_0 hx118_1 hHeld ⊢
       refine aP (i := 0) (N := some 8) (v := ?_) (a' := ?_) #[true, false, false, false, false, false, false, false, false, false, false, false] rfl rfl (aH HT_.out (by kernel_rfl)) (fun _ _ _ h => h) (Or.inl ⟨by rfl, ?_⟩) ?_ ?_
       rotate_left
       ·intro w'
        go_simp
        with_reducible rfl
       rotate_left
       ·simp only [Act.put, List.setIfInBounds_toArray, List.set_cons_zero, List.set_cons_succ, aA, aC]
        rfl
       refine aP (i := 1) (N := some 9) (v := ?_) (a' := ?_) #[true, true, false, false, false, false, false, false, false, false, false, false] rfl rfl (aH HT_.out (by kernel_rfl)) (fun _ _ _ h => h) (Or.inl ⟨by rfl, ?_⟩) ?_ ?_
       rotate_left
       ·intro w'
        go_simp
        with_reducible rfl
       rotate_left
       ·simp only [Act.put, List.setIfInBounds_toArray, List.set_cons_zero, List.set_cons_succ, aA, aC]
        rfl
       refine aP (i := 2) (N := some 10) (v := ?_) (a' := ?_) #[true, true, true, false, false, false, false, false, false, false, false, false] rfl rfl (aH HT_.out (by kernel_rfl)) (fun _ _ _ h => h) (Or.inl ⟨by rfl, ?_⟩) ?_ ?_
       rotate_left
       ·intro w'
        go_simp
        with_reducible rfl
       rotate_left
       ·simp only [Act.put, List.setIfInBounds_toArray, List.set_cons_zero, List.set_cons_succ, aA, aC]
        rfl
       refine aP (i := 3) (N := some 11) (v := ?_) (a' := ?_) #[true, true, true, true, false, false, false, false, false, false, false, false] rfl rfl (aH HT_.out (by kernel_rfl)) (fun _ _ _ h => h) (Or.inl ⟨by rfl, ?_⟩) ?_ ?_
       rotate_left
       ·intro w'
        go_simp
        with_reducible rfl
       rotate_left
       ·simp only [Act.put, List.setIfInBounds_toArray, List.set_cons_zero, List.set_cons_succ, aA, aC]
        rfl
       refine aP (i := 4) (N := some 12) (v := ?_) (a' := ?_) #[true, true, true, true, true, false, false, false, false, false, false, false] rfl rfl (aH HT_.out (by kernel_rfl)) (fun _ _ _ h => h) (Or.inl ⟨by rfl, ?_⟩) ?_ ?_
       rotate_left
       ·intro w'
        go_simp
        with_reducible rfl
       rotate_left
       ·simp only [Act.put, List.setIfInBounds_toArray, List.set_cons_zero, List.set_cons_succ, aA, aC]
        rfl
       refine aP (i := 5) (N := some 13) (v := ?_) (a' := ?_) #[true, true, true, true, true, true, false, false, false, false, false, false] rfl rfl (aH HT_.out (by kernel_rfl)) (fun _ _ _ h => h) (Or.inl ⟨by rfl, ?_⟩) ?_ ?_
       rotate_left
       ·intro w'
        go_simp
        with_reducible rfl
       rotate_left
       ·simp only [Act.put, List.setIfInBounds_toArray, List.set_cons_zero, List.set_cons_succ, aA, aC]
        rfl
       refine aP (i := 6) (N := some 14) (v := ?_) (a' := ?_) #[true, true, true, true, true, true, true, false, false, false, false, false] rfl rfl (aH HT_.out (by kernel_rfl)) (fun _ _ _ h => h) (Or.inl ⟨by rfl, ?_⟩) ?_ ?_
       rotate_left
       ·intro w'
        go_simp
        with_reducible rfl
       rotate_left
       ·simp only [Act.put, List.setIfInBounds_toArray, List.set_cons_zero, List.set_cons_succ, aA, aC]
        rfl
       refine aP (i := 7) (N := some 15) (v := ?_) (a' := ?_) #[true, true, true, true, true, true, true, true, false, false, false, false] rfl rfl (aH HT_.out (by kernel_rfl)) (fun _ _ _ h => h) (Or.inl ⟨by rfl, ?_⟩) ?_ ?_
       rotate_left
       ·intro w'
        go_simp
        with_reducible rfl
       rotate_left
       ·simp only [Act.put, List.setIfInBounds_toArray, List.set_cons_zero, List.set_cons_succ, aA, aC]
        rfl
       refine dI (i := 8) (N := some 16) (v := ?_) (a' := ?_) #[true, true, true, true, true, true, true, true, true, false, false, false] rfl rfl (bN HT_.out HW_.out (by kernel_rfl)) (fun _ _ _ h => h) (Or.inl ⟨by rfl, ?_⟩) hHeld ?_ ?_
       rotate_left
       ·rintro w' ⟨s0, s1, s2, s3⟩
        go_simp
        with_reducible rfl
       rotate_left
       ·simp only [Act.put, List.setIfInBounds_toArray, List.set_cons_zero, List.set_cons_succ, aA, aC]
        rfl
       refine dI (i := 9) (N := some 17) (v := ?_) (a' := ?_) #[true, true, true, true, true, true, true, true, true, true, false, false] rfl rfl (bN HT_.out HW_.out (by kernel_rfl)) (fun _ _ _ h => h) (Or.inl ⟨by rfl, ?_⟩) hHeld ?_ ?_
       rotate_left
       ·rintro w' ⟨s0, s1, s2, s3⟩
        go_simp
        with_reducible rfl
       rotate_left
       ·simp only [Act.put, List.setIfInBounds_toArray, List.set_cons_zero, List.set_cons_succ, aA, aC]
        rfl
       refine dS (i := 10) (N := some 18) #[true, true, true, true, true, true, true, true, true, true, true, false] rfl rfl (cK HT_.out (by kernel_rfl)) (by decide) (fun K hK => ?_)
       refine dP Try.func51 (by kernel_rfl) rfl #[.agg #[.string ((aJ l0 x6_1).f0), .int .i64 ((aJ l0 x6_1).f1)], .agg #[.string pG, .int .i64 pI]] (by rfl) rfl rfl (by (try simp only [List.map_toArray, List.map_cons, List.map_nil]); first | done | rfl | (simp only [List.length_drop, List.length_take]; rfl)) ?_
       with_reducible refine (dF.calls ((aJ l0 x6_1).f0) ((aJ l0 x6_1).f1) pG pI true _ A7.out).mono ?_
       rintro e w10 ⟨rfl, hb⟩
       refine ⟨_, rfl, ?_⟩
       have n0_ := ak.mk (bD (g := gb117) (o := .cells #[.string pG, .int .i64 pI] 31 (0, 0)) (by (with_reducible repeat (first | refine aG ?_ _ | refine aK ?_ | refine aD ?_ _)); exact BK117.out) hb)
       have n1_ := ak.mk (aX (by repeat (first | (with_reducible first | exact HB.out | apply au | apply ah | apply aj | refine ay ?_ GE117.out) | exact HB.out)) hb)
       clear BK117
       clear HB
       have BK117 := n0_
       have HB := n1_
       clear n0_ n1_
       (try clear hb)
       (try clear hb2)
       (try clear hk)
       (try clear hi)
       refine hK.out _ _ ⟨(aM BK117.out 0).trans rfl, (aM BK117.out 1).trans rfl, ((HB.out.cell (World.block_lt_of_cell? w _ hw118_0)).trans hw118_0), ((HB.out.cell (World.block_lt_of_cell? w _ hw118_1)).trans hw118_1)⟩ (fun hHeld => ?_)
       clear hK K
       refine bQ (a' := ?_) ?_ ?_
       rotate_left
       ·show Act.put _ (some 18) _ = _
        simp only [Act.put, List.setIfInBounds_toArray, List.set_cons_zero, List.set_cons_succ, aA, aC]
        rfl
       refine aP (i := 11) (N := some 19) (v := ?_) (a' := ?_) #[true, true, true, true, true, true, true, true, true, true, true, true] rfl rfl (aH HT_.out (by kernel_rfl)) (fun _ _ _ h => h) (Or.inl ⟨by rfl, ?_⟩) ?_ ?_
       rotate_left
       ·intro w'
        go_simp
        with_reducible rfl
       rotate_left
       ·simp only [Act.put, List.setIfInBounds_toArray, List.set_cons_zero, List.set_cons_succ, aA, aC]
        rfl
       refine eG (dO HT_.out (by kernel_rfl)) ?_
       try go_wp2
       go_roundg k1
       case measure => have := HK1.out; omega
       case rel => exact ⟨(wrap64 (x6_1 + 1)), (by first | rfl | (simp; done) | (simp [*]; done)), H', ⟨by have := HK1.out; omega⟩, ⟨by (with_reducible repeat (first | refine aG ?_ _ | refine aK ?_ | refine aD ?_ _)); exact BK117.out⟩, ⟨by repeat (first | (with_reducible first | exact HB.out | apply au | apply ah | apply aj | refine ay ?_ GE117.out) | exact HB.out)⟩⟩
      ·replace c8 := Bool.eq_false_iff.mpr c8
       subst c8
       have H1 : (bA.j1 k1 l0 x6_1 pG pI) = some (r1, r2) := by rw [if_neg (show ¬ (false = true) by decide)] at H; exact H
       clear H
       have H := H1
       clear H1
       have H' := ak.mk H
       clear H
       try go_wp2
       have n0_ := ak.mk (aK BK117.out)
       have n1_ := ak.mk (aj HB.out)
       clear BK117
       clear HB
       have BK117 := n0_
       have HB := n1_
       clear n0_ n1_
       have p118 : 0 ≤ (x6_1 : Int) := of_decide_eq_true (by first | (with_reducible assumption) | assumption)
       have q118 : x6_1 < (l0.length : Int) := of_decide_eq_true (by first | (with_reducible assumption) | assumption)
       obtain ⟨ad118, e118, hx118_0, hx118_1⟩ := dG HR0.out x6_1 p118 q118
       have hw118_1 := hx118_1
       have hw118_0 := hx118_0
       cases e118
       try replace hx118_0 := (HB.out.cell (World.block_lt_of_cell? w _ hx118_0)).trans hx118_0
       try replace hx118_1 := (HB.out.cell (World.block_lt_of_cell? w _ hx118_1)).trans hx118_1
       replace p118 := eq_true p118
       replace q118 := eq_true q118
       refine dU (n := 12) (S := fun w' => w'.cell? ⟨gb117, 0, none⟩ = some (.string pG) ∧ w'.cell? ⟨gb117, 1, none⟩ = some (.int .i64 pI) ∧ w'.cell? (ad118.add ((x6_1).toNat * 2)) = some (.string ((aJ l0 x6_1).f0)) ∧ w'.cell? ⟨(ad118.add ((x6_1).toNat * 2)).block, (ad118.add ((x6_1).toNat * 2)).off + 1, none⟩ = some (.int .i64 ((aJ l0 x6_1).f1))) (ds := []) #[false, false, false, false, false, false, false, false, false, false, false, false] (by kernel_rfl) rfl rfl ⟨(aM BK117.out 0).trans rfl, (aM BK117.out 1).trans rfl, ((HB.out.cell (World.block_lt_of_cell? w _ hw118_0)).trans hw118_0), ((HB.out.cell (World.block_lt_of_cell? w _ hw118_1)).trans hw118_1)⟩ (fun hHeld => ?_); refine dA bA.oQ bA.nK (fun HT_ HW_ => ?_)
       generalize wr.drew = w11 at BK117 HB hx118_0 hx118_1 hHeld ⊢
       refine aP (i := 0) (N := some 8) (v := ?_) (a' := ?_) #[true, false, false, false, false, false, false, false, false, false, false, false] rfl rfl (aH HT_.out (by kernel_rfl)) (fun _ _ _ h => h) (Or.inl ⟨by rfl, ?_⟩) ?_ ?_
       rotate_left
       ·intro w'
        go_simp
        with_reducible rfl
       rotate_left
       ·simp only [Act.put, List.setIfInBounds_toArray, List.set_cons_zero, List.set_cons_succ, aA, aC]
        rfl
       refine aP (i := 1) (N := some 9) (v := ?_) (a' := ?_) #[true, true, false, false, false, false, false, false, false, false, false, false] rfl rfl (aH HT_.out (by kernel_rfl)) (fun _ _ _ h => h) (Or.inl ⟨by rfl, ?_⟩) ?_ ?_
       rotate_left
       ·intro w'
        go_simp
        with_reducible rfl
       rotate_left
       ·simp only [Act.put, List.setIfInBounds_toArray, List.set_cons_zero, List.set_cons_succ, aA, aC]
        rfl
       refine aP (i := 2) (N := some 10) (v := ?_) (a' := ?_) #[true, true, true, false, false, false, false, false, false, false, false, false] rfl rfl (aH HT_.out (by kernel_rfl)) (fun _ _ _ h => h) (Or.inl ⟨by rfl, ?_⟩) ?_ ?_
       rotate_left
       ·intro w'
        go_simp
        with_reducible rfl
       rotate_left
       ·simp only [Act.put, List.setIfInBounds_toArray, List.set_cons_zero, List.set_cons_succ, aA, aC]
        rfl
       refine aP (i := 3) (N := some 11) (v := ?_) (a' := ?_) #[true, true, true, true, false, false, false, false, false, false, false, false] rfl rfl (aH HT_.out (by kernel_rfl)) (fun _ _ _ h => h) (Or.inl ⟨by rfl, ?_⟩) ?_ ?_
       rotate_left
       ·intro w'
        go_simp
        with_reducible rfl
       rotate_left
       ·simp only [Act.put, List.setIfInBounds_toArray, List.set_cons_zero, List.set_cons_succ, aA, aC]
        rfl
       refine aP (i := 4) (N := some 12) (v := ?_) (a' := ?_) #[true, true, true, true, true, false, false, false, false, false, false, false] rfl rfl (aH HT_.out (by kernel_rfl)) (fun _ _ _ h => h) (Or.inl ⟨by rfl, ?_⟩) ?_ ?_
       rotate_left
       ·intro w'
        go_simp
        with_reducible rfl
       rotate_left
       ·simp only [Act.put, List.setIfInBounds_toArray, List.set_cons_zero, List.set_cons_succ, aA, aC]
        rfl
       refine aP (i := 5) (N := some 13) (v := ?_) (a' := ?_) #[true, true, true, true, true, true, false, false, false, false, false, false] rfl rfl (aH HT_.out (by kernel_rfl)) (fun _ _ _ h => h) (Or.inl ⟨by rfl, ?_⟩) ?_ ?_
       rotate_left
       ·intro w'
        go_simp
        with_reducible rfl
       rotate_left
       ·simp only [Act.put, List.setIfInBounds_toArray, List.set_cons_zero, List.set_cons_succ, aA, aC]
        rfl
       refine aP (i := 6) (N := some 14) (v := ?_) (a' := ?_) #[true, true, true, true, true, true, true, false, false, false, false, false] rfl rfl (aH HT_.out (by kernel_rfl)) (fun _ _ _ h => h) (Or.inl ⟨by rfl, ?_⟩) ?_ ?_
       rotate_left
       ·intro w'
        go_simp
        with_reducible rfl
       rotate_left
       ·simp only [Act.put, List.setIfInBounds_toArray, List.set_cons_zero, List.set_cons_succ, aA, aC]
        rfl
       refine aP (i := 7) (N := some 15) (v := ?_) (a' := ?_) #[true, true, true, true, true, true, true, true, false, false, false, false] rfl rfl (aH HT_.out (by kernel_rfl)) (fun _ _ _ h => h) (Or.inl ⟨by rfl, ?_⟩) ?_ ?_
       rotate_left
       ·intro w'
        go_simp
        with_reducible rfl
       rotate_left
       ·simp only [Act.put, List.setIfInBounds_toArray, List.set_cons_zero, List.set_cons_succ, aA, aC]
        rfl
       refine dI (i := 8) (N := some 16) (v := ?_) (a' := ?_) #[true, true, true, true, true, true, true, true, true, false, false, false] rfl rfl (bN HT_.out HW_.out (by kernel_rfl)) (fun _ _ _ h => h) (Or.inl ⟨by rfl, ?_⟩) hHeld ?_ ?_
       rotate_left
       ·rintro w' ⟨s0, s1, s2, s3⟩
        go_simp
        with_reducible rfl
       rotate_left
       ·simp only [Act.put, List.setIfInBounds_toArray, List.set_cons_zero, List.set_cons_succ, aA, aC]
        rfl
       refine dI (i := 9) (N := some 17) (v := ?_) (a' := ?_) #[true, true, true, true, true, true, true, true, true, true, false, false] rfl rfl (bN HT_.out HW_.out (by kernel_rfl)) (fun _ _ _ h => h) (Or.inl ⟨by rfl, ?_⟩) hHeld ?_ ?_
       rotate_left
       ·rintro w' ⟨s0, s1, s2, s3⟩
        go_simp
        with_reducible rfl
       rotate_left
       ·simp only [Act.put, List.setIfInBounds_toArray, List.set_cons_zero, List.set_cons_succ, aA, aC]
        rfl
       refine dS (i := 10) (N := some 18) #[true, true, true, true, true, true, true, true, true, true, true, false] rfl rfl (cK HT_.out (by kernel_rfl)) (by decide) (fun K hK => ?_)
       refine dP Try.func51 (by kernel_rfl) rfl #[.agg #[.string ((aJ l0 x6_1).f0), .int .i64 ((aJ l0 x6_1).f1)], .agg #[.string pG, .int .i64 pI]] (by rfl) rfl rfl (by (try simp only [List.map_toArray, List.map_cons, List.map_nil]); first | done | rfl | (simp only [List.length_drop, List.length_take]; rfl)) ?_
       with_reducible refine (dF.calls ((aJ l0 x6_1).f0) ((aJ l0 x6_1).f1) pG pI false _ A7.out).mono ?_
       rintro e w12 ⟨rfl, hb⟩
       refine ⟨_, rfl, ?_⟩
       have n0_ := ak.mk (bD (g := gb117) (o := .cells #[.string pG, .int .i64 pI] 31 (0, 0)) (by (with_reducible repeat (first | refine aG ?_ _ | refine aK ?_ | refine aD ?_ _)); exact BK117.out) hb)
       have n1_ := ak.mk (aX (by repeat (first | (with_reducible first | exact HB.out | apply au | apply ah | apply aj | refine ay ?_ GE117.out) | exact HB.out)) hb)
       clear BK117
       clear HB
       have BK117 := n0_
       have HB := n1_
       clear n0_ n1_
       (try clear hb)
       (try clear hb2)
       (try clear hk)
       (try clear hi)
       refine hK.out _ _ ⟨(aM BK117.out 0).trans rfl, (aM BK117.out 1).trans rfl, ((HB.out.cell (World.block_lt_of_cell? w _ hw118_0)).trans hw118_0), ((HB.out.cell (World.block_lt_of_cell? w _ hw118_1)).trans hw118_1)⟩ (fun hHeld => ?_)
       clear hK K
       refine bQ (a' := ?_) ?_ ?_
       rotate_left
       ·show Act.put _ (some 18) _ = _
        simp only [Act.put, List.setIfInBounds_toArray, List.set_cons_zero, List.set_cons_succ, aA, aC]
        rfl
       refine aP (i := 11) (N := some 19) (v := ?_) (a' := ?_) #[true, true, true, true, true, true, true, true, true, true, true, true] rfl rfl (aH HT_.out (by kernel_rfl)) (fun _ _ _ h => h) (Or.inl ⟨by rfl, ?_⟩) ?_ ?_
       rotate_left
       ·intro w'
        go_simp
        with_reducible rfl
       rotate_left
       ·simp only [Act.put, List.setIfInBounds_toArray, List.set_cons_zero, List.set_cons_succ, aA, aC]
        rfl
       refine eG (dO HT_.out (by kernel_rfl)) ?_
       try go_wp2
       go_meet
       case rel => exact ⟨_, (x6_1), (by first | rfl | (simp; done) | (simp [*]; done)), H', ⟨by have := HK1.out; first | omega | exact Nat.le_refl _⟩, ⟨by (with_reducible repeat (first | refine aG ?_ _ | refine aK ?_ | refine aD ?_ _)); exact BK117.out⟩, ⟨by repeat (first | (with_reducible first | exact HB.out | apply au | apply ah | apply aj | refine ay ?_ GE117.out) | exact HB.out)⟩⟩
     ·rw [if_neg c6] at H
      exact absurd H (by simp)
    ·rw [if_neg c5] at H
     have c5b0 : decide (x6_1 < (l0.length : Int)) = false := decide_eq_false c5
     clear c5
     (first | rw [c5b0] | (simp only [aA, aC]; rw [c5b0]) | skip)
     have H' := ak.mk H
     clear H
     try go_wp2
     have n0_ := ak.mk (aK BK117.out)
     have n1_ := ak.mk (aj HB.out)
     clear BK117
     clear HB
     have BK117 := n0_
     have HB := n1_
     clear n0_ n1_
     refine dU (n := 12) (S := fun w' => True) (ds := []) #[false, false, false, false, false, false, false, false, false, false, false, false] (by kernel_rfl) rfl rfl trivial (fun hHeld => ?_); refine dA bA.oQ bA.nK (fun HT_ HW_ => ?_)
     generalize wr.drew = w13 at BK117 HB hHeld ⊢
     refine aP (i := 0) (N := some 8) (v := ?_) (a' := ?_) #[true, false, false, false, false, false, false, false, false, false, false, false] rfl rfl (aH HT_.out (by kernel_rfl)) (fun _ _ _ h => h) (Or.inl ⟨by rfl, ?_⟩) ?_ ?_
     rotate_left
     ·intro w'
      go_simp
      with_reducible rfl
     rotate_left
     ·simp only [Act.put, List.setIfInBounds_toArray, List.set_cons_zero, List.set_cons_succ, aA, aC]
      rfl
     refine aP (i := 1) (N := some 9) (v := ?_) (a' := ?_) #[true, true, false, false, false, false, false, false, false, false, false, false] rfl rfl (aH HT_.out (by kernel_rfl)) (fun _ _ _ h => h) (Or.inl ⟨by rfl, ?_⟩) ?_ ?_
     rotate_left
     ·intro w'
      go_simp
      with_reducible rfl
     rotate_left
     ·simp only [Act.put, List.setIfInBounds_toArray, List.set_cons_zero, List.set_cons_succ, aA, aC]
      rfl
     refine aP (i := 2) (N := some 10) (v := ?_) (a' := ?_) #[true, true, true, false, false, false, false, false, false, false, false, false] rfl rfl (aH HT_.out (by kernel_rfl)) (fun _ _ _ h => h) (Or.inl ⟨by rfl, ?_⟩) ?_ ?_
     rotate_left
     ·intro w'
      go_simp
      with_reducible rfl
     rotate_left
     ·simp only [Act.put, List.setIfInBounds_toArray, List.set_cons_zero, List.set_cons_succ, aA, aC]
      rfl
     refine aP (i := 3) (N := some 11) (v := ?_) (a' := ?_) #[true, true, true, true, false, false, false, false, false, false, false, false] rfl rfl (aH HT_.out (by kernel_rfl)) (fun _ _ _ h => h) (Or.inl ⟨by rfl, ?_⟩) ?_ ?_
     rotate_left
     ·intro w'
      go_simp
      with_reducible rfl
     rotate_left
     ·simp only [Act.put, List.setIfInBounds_toArray, List.set_cons_zero, List.set_cons_succ, aA, aC]
      rfl
     refine aP (i := 4) (N := some 12) (v := ?_) (a' := ?_) #[true, true, true, true, true, false, false, false, false, false, false, false] rfl rfl (aH HT_.out (by kernel_rfl)) (fun _ _ _ h => h) (Or.inl ⟨by rfl, ?_⟩) ?_ ?_
     rotate_left
     ·intro w'
      go_simp
      with_reducible rfl
     rotate_left
     ·simp only [Act.put, List.setIfInBounds_toArray, List.set_cons_zero, List.set_cons_succ, aA, aC]
      rfl
     refine aP (i := 5) (N := some 13) (v := undef) (a' := ?_) #[true, true, true, true, true, true, false, false, false, false, false, false] rfl rfl (aH HT_.out (by kernel_rfl)) (fun _ _ _ h => h) (Or.inr ⟨by rfl, rfl⟩) ?_ ?_
     rotate_left
     ·simp only [Act.put, List.setIfInBounds_toArray, List.set_cons_zero, List.set_cons_succ, aA, aC]
      rfl
     refine aP (i := 6) (N := some 14) (v := undef) (a' := ?_) #[true, true, true, true, true, true, true, false, false, false, false, false] rfl rfl (aH HT_.out (by kernel_rfl)) (fun _ _ _ h => h) (Or.inr ⟨by rfl, rfl⟩) ?_ ?_
     rotate_left
     ·simp only [Act.put, List.setIfInBounds_toArray, List.set_cons_zero, List.set_cons_succ, aA, aC]
      rfl
     refine aP (i := 7) (N := some 15) (v := undef) (a' := ?_) #[true, true, true, true, true, true, true, true, false, false, false, false] rfl rfl (aH HT_.out (by kernel_rfl)) (fun _ _ _ h => h) (Or.inr ⟨by rfl, rfl⟩) ?_ ?_
     rotate_left
     ·simp only [Act.put, List.setIfInBounds_toArray, List.set_cons_zero, List.set_cons_succ, aA, aC]
      rfl
     refine aP (i := 8) (N := some 16) (v := undef) (a' := ?_) #[true, true, true, true, true, true, true, true, true, false, false, false] rfl rfl (aH HT_.out (by kernel_rfl)) (fun _ _ _ h => h) (Or.inr ⟨by rfl, rfl⟩) ?_ ?_
     rotate_left
     ·simp only [Act.put, List.setIfInBounds_toArray, List.set_cons_zero, List.set_cons_succ, aA, aC]
      rfl
     refine aP (i := 9) (N := some 17) (v := undef) (a' := ?_) #[true, true, true, true, true, true, true, true, true, true, false, false] rfl rfl (aH HT_.out (by kernel_rfl)) (fun _ _ _ h => h) (Or.inr ⟨by rfl, rfl⟩) ?_ ?_
     rotate_left
     ·simp only [Act.put, List.setIfInBounds_toArray, List.set_cons_zero, List.set_cons_succ, aA, aC]
      rfl
     refine aP (i := 10) (N := some 18) (v := undef) (a' := ?_) #[true, true, true, true, true, true, true, true, true, true, true, false] rfl rfl (aH HT_.out (by kernel_rfl)) (fun _ _ _ h => h) (Or.inr ⟨by rfl, rfl⟩) ?_ ?_
     rotate_left
     ·simp only [Act.put, List.setIfInBounds_toArray, List.set_cons_zero, List.set_cons_succ, aA, aC]
      rfl
     refine aP (i := 11) (N := some 19) (v := ?_) (a' := ?_) #[true, true, true, true, true, true, true, true, true, true, true, true] rfl rfl (aH HT_.out (by kernel_rfl)) (fun _ _ _ h => h) (Or.inl ⟨by rfl, ?_⟩) ?_ ?_
     rotate_left
     ·intro w'
      go_simp
      with_reducible rfl
     rotate_left
     ·simp only [Act.put, List.setIfInBounds_toArray, List.set_cons_zero, List.set_cons_succ, aA, aC]
      rfl
     refine eG (dO HT_.out (by kernel_rfl)) ?_
     try go_wp2
     go_meet
     case rel => exact ⟨_, (x6_1), (by first | rfl | (simp; done) | (simp [*]; done)), H', ⟨by have := HK1.out; first | omega | exact Nat.le_refl _⟩, ⟨by (with_reducible repeat (first | refine aG ?_ _ | refine aK ?_ | refine aD ?_ _)); exact BK117.out⟩, ⟨by repeat (first | (with_reducible first | exact HB.out | apply au | apply ah | apply aj | refine ay ?_ GE117.out) | exact HB.out)⟩⟩
 case rest =>
  clear HC3
  obtain ⟨kq, x6_2, rfl, HA, HJ2, BK117, HB⟩ := hcut
  cases kq with
  | zero => exact absurd HA.out (by simp [bA.j1])
  | succ kj2 =>
   have H := HA.out
   clear HA
   simp only [bA.j1] at H
   obtain ⟨y120, hy120⟩ : ∃ y_ : List (S31), y_ = (([] : List (S31))) := ⟨_, rfl⟩
   replace H : (if 0 ≤ x6_2 then (if x6_2 ≤ (l0.length : Int) then ((some (l0.take (x6_2 : Int).toNat : List (S31))).bind fun y123 => (if y120.length + y123.length < 5864062014805 then ((some (y120 ++ y123 : List (S31))).bind fun y127 => ((some (([(⟨pG, pI⟩ : S31)] : List (S31)) : List (S31))).bind fun y130 => (if y127.length + y130.length < 5864062014805 then ((some (y127 ++ y130 : List (S31))).bind fun y133 => ((some (l0.drop (x6_2 : Int).toNat : List (S31))).bind fun y136 => (if y133.length + y136.length < 5864062014805 then ((some (y133 ++ y136 : List (S31))).bind fun y140 => ((bP.f kj2 l0 pG pI).bind fun t143 => (if t143 = true then ((some (([] : List (S31)) : List (S31))).bind fun y144 => (if y144.length + l0.length < 5864062014805 then (some ((y144 ++ l0), false)) else (none))) else ((aZ.f kj2 y140).bind fun t150 => (if t150 = true then (some (y140, true)) else ((some (([] : List (S31)) : List (S31))).bind fun y151 => (if y151.length + l0.length < 5864062014805 then (some ((y151 ++ l0), false)) else (none)))))))) else (none)))) else (none)))) else (none))) else (none)) else (none)) = some (r1, r2) := by first | (rw [hy120]; with_reducible exact H) | (have H2_ := (Option.bind_some _ _).symm.trans H; rw [hy120]; with_reducible exact H2_) | (have H2_ := (Option.bind_some _ _).symm.trans H; with_reducible exact H2_) | with_reducible exact H | (rw [hy120]; exact H) | exact H
   have Ny120 := ak.mk hy120
   clear hy120
   by_cases c14 : 0 ≤ x6_2
   ·rw [if_pos c14] at H
    have c14b0 := eq_true c14
    have c14b1 : decide (0 ≤ x6_2) = true := decide_eq_true c14
    clear c14
    by_cases c15 : x6_2 ≤ (l0.length : Int)
    ·rw [if_pos c15] at H
     have c15b0 := eq_true c15
     have c15b1 : decide (x6_2 ≤ (l0.length : Int)) = true := decide_eq_true c15
     clear c15
     obtain ⟨y123, hy123⟩ : ∃ y_ : List (S31), y_ = (l0.take (x6_2 : Int).toNat) := ⟨_, rfl⟩
     replace H : (if y120.length + y123.length < 5864062014805 then ((some (y120 ++ y123 : List (S31))).bind fun y127 => ((some (([(⟨pG, pI⟩ : S31)] : List (S31)) : List (S31))).bind fun y130 => (if y127.length + y130.length < 5864062014805 then ((some (y127 ++ y130 : List (S31))).bind fun y133 => ((some (l0.drop (x6_2 : Int).toNat : List (S31))).bind fun y136 => (if y133.length + y136.length < 5864062014805 then ((some (y133 ++ y136 : List (S31))).bind fun y140 => ((bP.f kj2 l0 pG pI).bind fun t143 => (if t143 = true then ((some (([] : List (S31)) : List (S31))).bind fun y144 => (if y144.length + l0.length < 5864062014805 then (some ((y144 ++ l0), false)) else (none))) else ((aZ.f kj2 y140).bind fun t150 => (if t150 = true then (some (y140, true)) else ((some (([] : List (S31)) : List (S31))).bind fun y151 => (if y151.length + l0.length < 5864062014805 then (some ((y151 ++ l0), false)) else (none)))))))) else (none)))) else (none)))) else (none)) = some (r1, r2) := by first | (rw [hy123]; with_reducible exact H) | (have H2_ := (Option.bind_some _ _).symm.trans H; rw [hy123]; with_reducible exact H2_) | (have H2_ := (Option.bind_some _ _).symm.trans H; with_reducible exact H2_) | with_reducible exact H | (rw [hy123]; exact H) | exact H
     have Ny123 := ak.mk hy123
     clear hy123
     by_cases c16 : y120.length + y123.length < 5864062014805
     ·rw [if_pos c16] at H
      have LMc16 := ak.mk c16
      clear c16
      obtain ⟨y127, hy127⟩ : ∃ y_ : List (S31), y_ = (y120 ++ y123) := ⟨_, rfl⟩
      replace H : ((some (([(⟨pG, pI⟩ : S31)] : List (S31)) : List (S31))).bind fun y130 => (if y127.length + y130.length < 5864062014805 then ((some (y127 ++ y130 : List (S31))).bind fun y133 => ((some (l0.drop (x6_2 : Int).toNat : List (S31))).bind fun y136 => (if y133.length + y136.length < 5864062014805 then ((some (y133 ++ y136 : List (S31))).bind fun y140 => ((bP.f kj2 l0 pG pI).bind fun t143 => (if t143 = true then ((some (([] : List (S31)) : List (S31))).bind fun y144 => (if y144.length + l0.length < 5864062014805 then (some ((y144 ++ l0), false)) else (none))) else ((aZ.f kj2 y140).bind fun t150 => (if t150 = true then (some (y140, true)) else ((some (([] : List (S31)) : List (S31))).bind fun y151 => (if y151.length + l0.length < 5864062014805 then (some ((y151 ++ l0), false)) else (none)))))))) else (none)))) else (none))) = some (r1, r2) := by first | (rw [hy127]; with_reducible exact H) | (have H2_ := (Option.bind_some _ _).symm.trans H; rw [hy127]; with_reducible exact H2_) | (have H2_ := (Option.bind_some _ _).symm.trans H; with_reducible exact H2_) | with_reducible exact H | (rw [hy127]; exact H) | exact H
      have Ny127 := ak.mk hy127
      clear hy127
      obtain ⟨y130, hy130⟩ : ∃ y_ : List (S31), y_ = (([(⟨pG, pI⟩ : S31)] : List (S31))) := ⟨_, rfl⟩
      replace H : (if y127.length + y130.length < 5864062014805 then ((some (y127 ++ y130 : List (S31))).bind fun y133 => ((some (l0.drop (x6_2 : Int).toNat : List (S31))).bind fun y136 => (if y133.length + y136.length < 5864062014805 then ((some (y133 ++ y136 : List (S31))).bind fun y140 => ((bP.f kj2 l0 pG pI).bind fun t143 => (if t143 = true then ((some (([] : List (S31)) : List (S31))).bind fun y144 => (if y144.length + l0.length < 5864062014805 then (some ((y144 ++ l0), false)) else (none))) else ((aZ.f kj2 y140).bind fun t150 => (if t150 = true then (some (y140, true)) else ((some (([] : List (S31)) : List (S31))).bind fun y151 => (if y151.length + l0.length < 5864062014805 then (some ((y151 ++ l0), false)) else (none)))))))) else (none)))) else (none)) = some (r1, r2) := by first | (rw [hy130]; with_reducible exact H) | (have H2_ := (Option.bind_some _ _).symm.trans H; rw [hy130]; with_reducible exact H2_) | (have H2_ := (Option.bind_some _ _).symm.trans H; with_reducible exact H2_) | with_reducible exact H | (rw [hy130]; exact H) | exact H
      have Ny130 := ak.mk hy130
      clear hy130
      by_cases c17 : y127.length + y130.length < 5864062014805
      ·rw [if_pos c17] at H
       have LMc17 := ak.mk c17
       clear c17
       obtain ⟨y133, hy133⟩ : ∃ y_ : List (S31), y_ = (y127 ++ y130) := ⟨_, rfl⟩
       replace H : ((some (l0.drop (x6_2 : Int).toNat : List (S31))).bind fun y136 => (if y133.length + y136.length < 5864062014805 then ((some (y133 ++ y136 : List (S31))).bind fun y140 => ((bP.f kj2 l0 pG pI).bind fun t143 => (if t143 = true then ((some (([] : List (S31)) : List (S31))).bind fun y144 => (if y144.length + l0.length < 5864062014805 then (some ((y144 ++ l0), false)) else (none))) else ((aZ.f kj2 y140).bind fun t150 => (if t150 = true then (some (y140, true)) else ((some (([] : List (S31)) : List (S31))).bind fun y151 => (if y151.length + l0.length < 5864062014805 then (some ((y151 ++ l0), false)) else (none)))))))) else (none))) = some (r1, r2) := by first | (rw [hy133]; with_reducible exact H) | (have H2_ := (Option.bind_some _ _).symm.trans H; rw [hy133]; with_reducible exact H2_) | (have H2_ := (Option.bind_some _ _).symm.trans H; with_reducible exact H2_) | with_reducible exact H | (rw [hy133]; exact H) | exact H
       have Ny133 := ak.mk hy133
       clear hy133
       have c18b0 := eq_true (of_decide_eq_true (by first | (with_reducible assumption) | assumption) : 0 ≤ x6_2)
       have c19b0 := eq_true (of_decide_eq_true (by first | (with_reducible assumption) | assumption) : x6_2 ≤ (l0.length : Int))
       obtain ⟨y136, hy136⟩ : ∃ y_ : List (S31), y_ = (l0.drop (x6_2 : Int).toNat) := ⟨_, rfl⟩
       replace H : (if y133.length + y136.length < 5864062014805 then ((some (y133 ++ y136 : List (S31))).bind fun y140 => ((bP.f kj2 l0 pG pI).bind fun t143 => (if t143 = true then ((some (([] : List (S31)) : List (S31))).bind fun y144 => (if y144.length + l0.length < 5864062014805 then (some ((y144 ++ l0), false)) else (none))) else ((aZ.f kj2 y140).bind fun t150 => (if t150 = true then (some (y140, true)) else ((some (([] : List (S31)) : List (S31))).bind fun y151 => (if y151.length + l0.length < 5864062014805 then (some ((y151 ++ l0), false)) else (none)))))))) else (none)) = some (r1, r2) := by first | (rw [hy136]; with_reducible exact H) | (have H2_ := (Option.bind_some _ _).symm.trans H; rw [hy136]; with_reducible exact H2_) | (have H2_ := (Option.bind_some _ _).symm.trans H; with_reducible exact H2_) | with_reducible exact H | (rw [hy136]; exact H) | exact H
       have Ny136 := ak.mk hy136
       clear hy136
       by_cases c20 : y133.length + y136.length < 5864062014805
       ·rw [if_pos c20] at H
        have LMc20 := ak.mk c20
        clear c20
        obtain ⟨y140, hy140⟩ : ∃ y_ : List (S31), y_ = (y133 ++ y136) := ⟨_, rfl⟩
        replace H : ((bP.f kj2 l0 pG pI).bind fun t143 => (if t143 = true then ((some (([] : List (S31)) : List (S31))).bind fun y144 => (if y144.length + l0.length < 5864062014805 then (some ((y144 ++ l0), false)) else (none))) else ((aZ.f kj2 y140).bind fun t150 => (if t150 = true then (some (y140, true)) else ((some (([] : List (S31)) : List (S31))).bind fun y151 => (if y151.length + l0.length < 5864062014805 then (some ((y151 ++ l0), false)) else (none))))))) = some (r1, r2) := by first | (rw [hy140]; with_reducible exact H) | (have H2_ := (Option.bind_some _ _).symm.trans H; rw [hy140]; with_reducible exact H2_) | (have H2_ := (Option.bind_some _ _).symm.trans H; with_reducible exact H2_) | with_reducible exact H | (rw [hy140]; exact H) | exact H
        have Ny140 := ak.mk hy140
        clear hy140
        replace H := Option.bind_eq_some_iff.mp H
        obtain ⟨t143, A210, H⟩ := H
        replace H : (if t143 = true then ((some (([] : List (S31)) : List (S31))).bind fun y144 => (if y144.length + l0.length < 5864062014805 then (some ((y144 ++ l0), false)) else (none))) else ((aZ.f kj2 y140).bind fun t150 => (if t150 = true then (some (y140, true)) else ((some (([] : List (S31)) : List (S31))).bind fun y151 => (if y151.length + l0.length < 5864062014805 then (some ((y151 ++ l0), false)) else (none)))))) = some (r1, r2) := H
        have A21 := ak.mk A210
        clear A210
        by_cases c22 : t143 = true
        ·subst c22
         have H1 : ((some (([] : List (S31)) : List (S31))).bind fun y144 => (if y144.length + l0.length < 5864062014805 then (some ((y144 ++ l0), false)) else (none))) = some (r1, r2) := by rw [if_pos rfl] at H; exact H
         clear H
         have H := H1
         clear H1
         obtain ⟨y144, hy144⟩ : ∃ y_ : List (S31), y_ = (([] : List (S31))) := ⟨_, rfl⟩
         replace H : (if y144.length + l0.length < 5864062014805 then (some ((y144 ++ l0), false)) else (none)) = some (r1, r2) := by first | (rw [hy144]; with_reducible exact H) | (have H2_ := (Option.bind_some _ _).symm.trans H; rw [hy144]; with_reducible exact H2_) | (have H2_ := (Option.bind_some _ _).symm.trans H; with_reducible exact H2_) | with_reducible exact H | (rw [hy144]; exact H) | exact H
         have Ny144 := ak.mk hy144
         clear hy144
         by_cases c23 : y144.length + l0.length < 5864062014805
         ·rw [if_pos c23] at H
          have LMc23 := ak.mk c23
          clear c23
          obtain ⟨y147, hy147⟩ : ∃ y_ : List (S31), y_ = (y144 ++ l0) := ⟨_, rfl⟩
          replace H : (some (y147, false)) = some (r1, r2) := by first | (rw [hy147]; with_reducible exact H) | (have H2_ := (Option.bind_some _ _).symm.trans H; rw [hy147]; with_reducible exact H2_) | (have H2_ := (Option.bind_some _ _).symm.trans H; with_reducible exact H2_) | with_reducible exact H | (rw [hy147]; exact H) | exact H
          have Ny147 := ak.mk hy147
          clear hy147
          simp only [Option.some.injEq, Prod.mk.injEq] at H
          obtain ⟨rfl, rfl⟩ := H
          try go_wp2
          have n0_ := ak.mk (aK BK117.out)
          have n1_ := ak.mk (aj HB.out)
          clear BK117
          clear HB
          have BK117 := n0_
          have HB := n1_
          clear n0_ n1_
          have q25 : (x6_2 : Int) ≤ ((l0.length : Int) : Int) := of_decide_eq_true (by first | (with_reducible assumption) | assumption)
          obtain ⟨i025, hi025, _, hsz25, _⟩ := info_parts eB
          have hroom25 : l0.length ≤ c0 := HC0.out
          have hC25 : Kd.C k31 _ A0 l0.length l0 := HR0.out
          have hcut25 := mq (P := Try.prog) 27 31 .i64 Try.underlying27 hi025 A0 l0.length c0 x6_2 (of_decide_eq_true (by first | (with_reducible assumption) | assumption)) q25 hroom25
          have hr25 := Kd.lW (m := (x6_2 : Int).toNat) hC25 (by omega)
          have hy25 : y123.length = (x6_2 : Int).toNat := (by rw [Ny123.out, List.length_take]; omega)
          rw [← Ny123.out] at hr25
          rw [← hy25] at hcut25
          have HR126 := ak.mk hr25
          have HC126 := ak.mk (show y123.length ≤ c0 from by omega)
          clear hr25 hC25 hroom25 hi025 hsz25
          have KY25 := ak.mk hy25
          clear hy25
          replace q25 := eq_true q25
          have q26 : (x6_2 : Int) ≤ ((l0.length : Int) : Int) := of_decide_eq_true (by first | (with_reducible assumption) | assumption)
          obtain ⟨i026, hi026, _, hsz26, _⟩ := info_parts eB
          have hroom26 : l0.length ≤ c0 := HC0.out
          have hC26 : Kd.C k31 _ A0 l0.length l0 := HR0.out
          have q026 : (0 : Int) ≤ (x6_2 : Int) := of_decide_eq_true (by first | (with_reducible assumption) | assumption)
          have hcut26 := j5 (P := Try.prog) 27 31 .i64 Try.underlying27 hi026 2 hsz26 A0 l0.length c0 x6_2 q026 q26
          have hr26 := Kd.lX (m := (x6_2 : Int).toNat) (c := c0) hC26 (by omega) hroom26
          obtain ⟨A26, hA26⟩ : ∃ A1, A1 = (if c0 = (x6_2 : Int).toNat then A0 else (A0 : Option Addr).map (·.add ((x6_2 : Int).toNat * 2))) := ⟨_, rfl⟩
          obtain ⟨c26, hc26⟩ : ∃ c1, c1 = c0 - (x6_2 : Int).toNat := ⟨_, rfl⟩
          have hy26 : y136.length = l0.length - (x6_2 : Int).toNat := (by rw [Ny136.out, List.length_drop] <;> omega)
          rw [show (l0).drop (x6_2 : Int).toNat = y136 from Ny136.out.symm] at hr26
          replace hr26 : Kd.C k31 _ A26 y136.length y136 := (by rw [hA26]; exact hr26)
          rw [← hy26, ← hA26, ← hc26] at hcut26
          have HR139 := ak.mk hr26
          have HC139 := ak.mk (show y136.length ≤ c26 from by rw [hy26, hc26]; exact Nat.sub_le_sub_right hroom26 _)
          clear hr26 hC26 hroom26 hi026 hsz26 hc26
          have KY26 := ak.mk hy26
          have KA26 := ak.mk hA26
          clear hy26 hA26
          replace q26 := eq_true q26
          refine dU (n := 13) (S := fun w' => w'.cell? ⟨gb117, 0, none⟩ = some (.string pG) ∧ w'.cell? ⟨gb117, 1, none⟩ = some (.int .i64 pI)) (ds := []) #[false, false, false, false, false, false, false, false, false, false, false, false, false] (by kernel_rfl) rfl rfl ⟨(aM BK117.out 0).trans rfl, (aM BK117.out 1).trans rfl⟩ (fun hHeld => ?_); refine dA bA.iB bA.gD (fun HT_ HW_ => ?_)
          generalize wc.drew = w24 at BK117 HB HR126 HR139 hHeld ⊢
          refine aP (i := 1) (N := some 23) (v := ?_) (a' := ?_) #[false, true, false, false, false, false, false, false, false, false, false, false, false] rfl rfl (aH HT_.out (by kernel_rfl)) (fun _ _ _ h => h) (Or.inl ⟨by rfl, ?_⟩) ?_ ?_
          rotate_left
          ·intro w'
           go_simp
           with_reducible rfl
          rotate_left
          ·simp only [Act.put, List.setIfInBounds_toArray, List.set_cons_zero, List.set_cons_succ, aA, aC]
           rfl
          refine aP (i := 2) (N := some 24) (v := ?_) (a' := ?_) #[false, true, true, false, false, false, false, false, false, false, false, false, false] rfl rfl (aH HT_.out (by kernel_rfl)) (fun _ _ _ h => h) (Or.inl ⟨by rfl, ?_⟩) ?_ ?_
          rotate_left
          ·intro w'
           go_simp
           with_reducible rfl
          rotate_left
          ·simp only [Act.put, List.setIfInBounds_toArray, List.set_cons_zero, List.set_cons_succ, aA, aC]
           rfl
          refine aP (i := 3) (N := some 25) (v := ?_) (a' := ?_) #[false, true, true, true, false, false, false, false, false, false, false, false, false] rfl rfl (aH HT_.out (by kernel_rfl)) (fun _ _ _ h => h) (Or.inl ⟨by rfl, ?_⟩) ?_ ?_
          rotate_left
          ·intro w'
           go_simp
           with_reducible rfl
          rotate_left
          ·simp only [Act.put, List.setIfInBounds_toArray, List.set_cons_zero, List.set_cons_succ, aA, aC]
           rfl
          refine aP (i := 8) (N := some 30) (v := ?_) (a' := ?_) #[false, true, true, true, false, false, false, false, true, false, false, false, false] rfl rfl (aH HT_.out (by kernel_rfl)) (fun _ _ _ h => h) (Or.inl ⟨by rfl, ?_⟩) ?_ ?_
          rotate_left
          ·intro w'
           go_simp
           with_reducible rfl
          rotate_left
          ·simp only [Act.put, List.setIfInBounds_toArray, List.set_cons_zero, List.set_cons_succ, aA, aC]
           rfl
          refine aP (i := 9) (N := some 31) (v := ?_) (a' := ?_) #[false, true, true, true, false, false, false, false, true, true, false, false, false] rfl rfl (aH HT_.out (by kernel_rfl)) (fun _ _ _ h => h) (Or.inl ⟨by rfl, ?_⟩) ?_ ?_
          rotate_left
          ·intro w'
           go_simp
           with_reducible rfl
          rotate_left
          ·simp only [Act.put, List.setIfInBounds_toArray, List.set_cons_zero, List.set_cons_succ, aA, aC]
           rfl
          refine aP (i := 10) (N := some 32) (v := ?_) (a' := ?_) #[false, true, true, true, false, false, false, false, true, true, true, false, false] rfl rfl (aH HT_.out (by kernel_rfl)) (fun _ _ _ h => h) (Or.inl ⟨by rfl, ?_⟩) ?_ ?_
          rotate_left
          ·intro w'
           go_simp
           with_reducible rfl
          rotate_left
          ·simp only [Act.put, List.setIfInBounds_toArray, List.set_cons_zero, List.set_cons_succ, aA, aC]
           rfl
          refine dI (i := 5) (N := some 27) (v := ?_) (a' := ?_) #[false, true, true, true, false, true, false, false, true, true, true, false, false] rfl rfl (bN HT_.out HW_.out (by kernel_rfl)) (fun _ _ _ h => h) (Or.inl ⟨by rfl, ?_⟩) hHeld ?_ ?_
          rotate_left
          ·rintro w' ⟨s0, s1⟩
           go_simp
           with_reducible rfl
          rotate_left
          ·simp only [Act.put, List.setIfInBounds_toArray, List.set_cons_zero, List.set_cons_succ, aA, aC]
           rfl
          refine lT (σ := Value × Value × Value) 3 #[true, true, true, true, true, true, true, false, true, true, true, false, false] (fun s_ => [(22, s_.1), (26, s_.2.1), (28, s_.2.2)]) (fun s_ w' => (w'.cell? ⟨gb117, 0, none⟩ = some (.string pG) ∧ w'.cell? ⟨gb117, 1, none⟩ = some (.int .i64 pI)) ∧ (Kd.R k31 31 w' w.heap.size (fun k_ => some k_ ≠ (s_.2.2 : Value).ownBlock ∧ k_ ≠ gb117) s_.2.1 y127) ∧ (Kd.R k31 31 w' w.heap.size (fun k_ => some k_ ≠ (s_.2.1 : Value).ownBlock ∧ k_ ≠ gb117) s_.2.2 y130) ∧ (w'.heap[gb117]? = some (.cells #[.string pG, .int .i64 pI] 31 (0, 0))) ∧ (Below w.heap.size w w')) ?_ ?_
          rotate_left
          ·intro hCont
           refine lD (i := 0) (j := 6) (Ni := some 22) (Nj := some 28) #[true, true, true, true, false, true, false, false, true, true, true, false, false] #[false, true, true, true, false, true, true, false, true, true, true, false, false] rfl rfl rfl rfl (jB HT_.out (by kernel_rfl)) (by decide) (by decide) (fun K hK => ?_) (fun K hK => ?_)
           ·skip
            refine Kd.dK k31 _ 31 ?hg (N := 22) ?hd (xs := ([] : List (S31))) (inner := []) (ok := fun _ => True) (okp := fun _ => True) ?hr ?hp (fun _ hk => hk) trivial (Below.refl _ _) (Nat.le_refl _) (by simp) ?_; (case hd => rfl); (case hg => rfl); (case hr => first | (go_simp; done) | (go_simp; rfl)); (case hp => exact (dx.none _ _))
            intro v121 w27 ho28 hb hg_ hnew_
            clear hg_ hnew_
            (first | rw [← Ny120.out] at ho28 | (simp only [Int.reduceToNat] at ho28; rw [← Ny120.out] at ho28))
            have n0_ := ak.mk (Kd.dD (Kd.dX ho28 (g := gb117) (o := .cells #[.string pG, .int .i64 pI] 31 (0, 0)) (by (with_reducible repeat (first | refine aG ?_ _ | refine aK ?_ | refine aD ?_ _)); exact BK117.out)) (aW (by repeat (first | (with_reducible first | exact HB.out | apply au | apply ah | apply aj | refine ay ?_ GE117.out) | exact HB.out))))
            have n1_ := ak.mk (bD (g := gb117) (o := .cells #[.string pG, .int .i64 pI] 31 (0, 0)) (by (with_reducible repeat (first | refine aG ?_ _ | refine aK ?_ | refine aD ?_ _)); exact BK117.out) hb)
            have n2_ := ak.mk (aX (by repeat (first | (with_reducible first | exact HB.out | apply au | apply ah | apply aj | refine ay ?_ GE117.out) | exact HB.out)) hb)
            clear BK117
            clear HB
            have HO122 := n0_
            have BK117 := n1_
            have HB := n2_
            clear n0_ n1_ n2_
            clear hb ho28
            refine hK.out _ _ ⟨(aM BK117.out 0).trans rfl, (aM BK117.out 1).trans rfl⟩ (fun hHeld => ?_)
            clear hK K
            refine bQ (a' := ?_) ?_ ?_
            rotate_left
            ·show Act.put _ (some 22) _ = _
             simp only [Act.put, List.setIfInBounds_toArray, List.set_cons_zero, List.set_cons_succ, aA, aC]
             rfl
            refine lD (i := 4) (j := 6) (Ni := some 26) (Nj := some 28) #[true, true, true, true, true, true, false, false, true, true, true, false, false] #[true, true, true, true, false, true, true, false, true, true, true, false, false] rfl rfl rfl rfl (jB HT_.out (by kernel_rfl)) (by decide) (by decide) (fun K hK => ?_) (fun K hK => ?_)
            ·skip
             refine Kd.bY k31 (w0 := w) w.heap.size (by rfl) (.tmp 22) (.tmp 25) 27 31 (.agg #[(.string ⟨#[]⟩), (.int .i64 0)]) 24 rfl Try.underlying27 eB rfl (by decide) (by omega) v121 y120 y123 _ _ _ (fun k_ => k_ ≠ gb117) (fun _ => False) rfl rfl ?aO ?aR (fun _ _ h => h) (fun _ h => h.elim) ?aF ?aB ?aS ?aL ?_
             (case aR => repeat (first | exact (Kd.dB HR126.out HB.out) | (with_reducible refine Kd.bK ?_ _) | (with_reducible refine Kd.bL ?_ _) | (with_reducible refine Kd.bW ?_)))
             (case aB => exact (by repeat (first | (with_reducible first | exact HB.out | apply au | apply ah | apply aj | refine ay ?_ GE117.out) | exact HB.out)))
             (case aF => exact (fun k_ hk => Kd.eZ (g := gb117) (o := .cells #[.string pG, .int .i64 pI] 31 (0, 0)) (by (with_reducible repeat (first | refine aG ?_ _ | refine aK ?_ | refine aD ?_ _)); exact BK117.out) k_ hk))
             (case aO => exact (by (with_reducible repeat (first | apply Kd.aT | apply Kd.aU | apply Kd.aY)); exact Kd.bM HO122.out (fun _ hk => hk.2)))
             (case aS => exact (aW (by repeat (first | (with_reducible first | exact HB.out | apply au | apply ah | apply aj | refine ay ?_ GE117.out) | exact HB.out))))
             (case aL => have := LMc16.out; omega)
             intro v128 w29 ho hb hg hat
             rw [← Ny127.out] at ho
             have n0_ := ak.mk (dQ (g := gb117) (o := .cells #[.string pG, .int .i64 pI] 31 (0, 0)) (by (with_reducible repeat (first | refine aG ?_ _ | refine aK ?_ | refine aD ?_ _)); exact BK117.out) hg (Kd.fq HO122.out (fun _ hk => hk.2)))
             have n1_ := ak.mk (hb)
             have n2_ := ak.mk (ho)
             clear BK117
             clear HB
             clear HO122
             have BK117 := n0_
             have HB := n1_
             have HO129 := n2_
             clear n0_ n1_ n2_
             clear ho hb hg hat
             refine hK.out _ _ ⟨(aM BK117.out 0).trans rfl, (aM BK117.out 1).trans rfl⟩ (fun hHeld => ?_)
             clear hK K
             refine bQ (a' := ?_) ?_ ?_
             rotate_left
             ·show Act.put _ (some 26) _ = _
              simp only [Act.put, List.setIfInBounds_toArray, List.set_cons_zero, List.set_cons_succ, aA, aC]
              rfl
             refine dS (i := 6) (N := some 28) #[true, true, true, true, true, true, true, false, true, true, true, false, false] rfl rfl (cK HT_.out (by kernel_rfl)) (by decide) (fun K hK => ?_)
             refine Kd.dK k31 _ 31 ?hg (N := 28) ?hd (xs := ([(⟨pG, pI⟩ : S31)] : List (S31))) (inner := [.string pG, .int .i64 pI]) (ok := fun _ => True) (okp := fun _ => True) ?hr ?hp (fun _ hk => hk) trivial (Below.refl _ _) (Nat.le_refl _) (by simp) ?_; (case hd => rfl); (case hg => rfl); (case hr => first | (go_simp; done) | (go_simp; rfl)); (case hp => exact (dx.c2 (show Kd.M k31 _ _ _ (⟨pG, pI⟩ : S31) [.string pG, .int .i64 pI] from (eD _ _ _ (⟨pG, pI⟩ : S31) )) (dx.none _ _)))
             intro v131 w30 ho31 hb hg_ hnew_
             clear hg_ hnew_
             (first | rw [← Ny130.out] at ho31 | (simp only [Int.reduceToNat] at ho31; rw [← Ny130.out] at ho31))
             have n0_ := ak.mk (Kd.cZ (by (with_reducible repeat (first | apply Kd.aT | apply Kd.aU | apply Kd.aY)); exact HO129.out) (Kd.dM ho31) hb)
             have n1_ := ak.mk (Kd.dD (Kd.dX (Kd.dN ho31 (Kd.dZ (by (with_reducible repeat (first | apply Kd.aT | apply Kd.aU | apply Kd.aY)); exact HO129.out))) (g := gb117) (o := .cells #[.string pG, .int .i64 pI] 31 (0, 0)) (by (with_reducible repeat (first | refine aG ?_ _ | refine aK ?_ | refine aD ?_ _)); exact BK117.out)) (aW (by repeat (first | (with_reducible first | exact HB.out | apply au | apply ah | apply aj | refine ay ?_ GE117.out) | exact HB.out))))
             have n2_ := ak.mk (bD (g := gb117) (o := .cells #[.string pG, .int .i64 pI] 31 (0, 0)) (by (with_reducible repeat (first | refine aG ?_ _ | refine aK ?_ | refine aD ?_ _)); exact BK117.out) hb)
             have n3_ := ak.mk (aX (by repeat (first | (with_reducible first | exact HB.out | apply au | apply ah | apply aj | refine ay ?_ GE117.out) | exact HB.out)) hb)
             clear HO129
             clear BK117
             clear HB
             have HO129 := n0_
             have HO132 := n1_
             have BK117 := n2_
             have HB := n3_
             clear n0_ n1_ n2_ n3_
             clear hb ho31
             refine hK.out _ _ ⟨(aM BK117.out 0).trans rfl, (aM BK117.out 1).trans rfl⟩ (fun hHeld => ?_)
             clear hK K
             refine bQ (a' := ?_) ?_ ?_
             rotate_left
             ·show Act.put _ (some 28) _ = _
              simp only [Act.put, List.setIfInBounds_toArray, List.set_cons_zero, List.set_cons_succ, aA, aC]
              rfl
             exact bQ (by simp only [eO, Act.put, List.setIfInBounds_toArray, List.set_cons_zero, List.set_cons_succ]) (hCont (v121, v128, v131) _ ⟨hHeld, (by (with_reducible repeat (first | apply Kd.aT | apply Kd.aU | apply Kd.aY)); exact Kd.bM HO129.out (fun _ hk => ⟨hk.2, hk.1⟩)), (by (with_reducible repeat (first | apply Kd.aT | apply Kd.aU | apply Kd.aY)); exact Kd.bM HO132.out (fun _ hk => ⟨hk.1.2, hk.2⟩)), (by (with_reducible repeat (first | refine aG ?_ _ | refine aK ?_ | refine aD ?_ _)); exact BK117.out), (by repeat (first | (with_reducible first | exact HB.out | apply au | apply ah | apply aj | refine ay ?_ GE117.out) | exact HB.out))⟩)
            ·skip
             refine Kd.dK k31 _ 31 ?hg (N := 28) ?hd (xs := ([(⟨pG, pI⟩ : S31)] : List (S31))) (inner := [.string pG, .int .i64 pI]) (ok := fun _ => True) (okp := fun _ => True) ?hr ?hp (fun _ hk => hk) trivial (Below.refl _ _) (Nat.le_refl _) (by simp) ?_; (case hd => rfl); (case hg => rfl); (case hr => first | (go_simp; done) | (go_simp; rfl)); (case hp => exact (dx.c2 (show Kd.M k31 _ _ _ (⟨pG, pI⟩ : S31) [.string pG, .int .i64 pI] from (eD _ _ _ (⟨pG, pI⟩ : S31) )) (dx.none _ _)))
             intro v131 w29 ho30 hb hg_ hnew_
             clear hg_ hnew_
             (first | rw [← Ny130.out] at ho30 | (simp only [Int.reduceToNat] at ho30; rw [← Ny130.out] at ho30))
             have n0_ := ak.mk (Kd.cZ (by (with_reducible repeat (first | apply Kd.aT | apply Kd.aU | apply Kd.aY)); exact HO122.out) (Kd.dM ho30) hb)
             have n1_ := ak.mk (Kd.dD (Kd.dX (Kd.dN ho30 (Kd.dZ (by (with_reducible repeat (first | apply Kd.aT | apply Kd.aU | apply Kd.aY)); exact HO122.out))) (g := gb117) (o := .cells #[.string pG, .int .i64 pI] 31 (0, 0)) (by (with_reducible repeat (first | refine aG ?_ _ | refine aK ?_ | refine aD ?_ _)); exact BK117.out)) (aW (by repeat (first | (with_reducible first | exact HB.out | apply au | apply ah | apply aj | refine ay ?_ GE117.out) | exact HB.out))))
             have n2_ := ak.mk (bD (g := gb117) (o := .cells #[.string pG, .int .i64 pI] 31 (0, 0)) (by (with_reducible repeat (first | refine aG ?_ _ | refine aK ?_ | refine aD ?_ _)); exact BK117.out) hb)
             have n3_ := ak.mk (aX (by repeat (first | (with_reducible first | exact HB.out | apply au | apply ah | apply aj | refine ay ?_ GE117.out) | exact HB.out)) hb)
             clear HO122
             clear BK117
             clear HB
             have HO122 := n0_
             have HO132 := n1_
             have BK117 := n2_
             have HB := n3_
             clear n0_ n1_ n2_ n3_
             clear hb ho30
             refine hK.out _ _ ⟨(aM BK117.out 0).trans rfl, (aM BK117.out 1).trans rfl⟩ (fun hHeld => ?_)
             clear hK K
             refine bQ (a' := ?_) ?_ ?_
             rotate_left
             ·show Act.put _ (some 28) _ = _
              simp only [Act.put, List.setIfInBounds_toArray, List.set_cons_zero, List.set_cons_succ, aA, aC]
              rfl
             refine dS (i := 4) (N := some 26) #[true, true, true, true, true, true, true, false, true, true, true, false, false] rfl rfl (cK HT_.out (by kernel_rfl)) (by decide) (fun K hK => ?_)
             refine Kd.bY k31 (w0 := w) w.heap.size (by rfl) (.tmp 22) (.tmp 25) 27 31 (.agg #[(.string ⟨#[]⟩), (.int .i64 0)]) 24 rfl Try.underlying27 eB rfl (by decide) (by omega) v121 y120 y123 _ _ _ (fun k_ => some k_ ≠ (v131 : Value).ownBlock ∧ k_ ≠ gb117) (fun _ => False) rfl rfl ?aO ?aR (fun _ _ h => h) (fun _ h => h.elim) ?aF ?aB ?aS ?aL ?_
             (case aR => repeat (first | exact (Kd.dB HR126.out HB.out) | (with_reducible refine Kd.bK ?_ _) | (with_reducible refine Kd.bL ?_ _) | (with_reducible refine Kd.bW ?_)))
             (case aB => exact (by repeat (first | (with_reducible first | exact HB.out | apply au | apply ah | apply aj | refine ay ?_ GE117.out) | exact HB.out)))
             (case aF => exact (fun k_ hk => ⟨Kd.fresh' (Kd.dZ (by (with_reducible repeat (first | apply Kd.aT | apply Kd.aU | apply Kd.aY)); exact HO132.out)) k_ hk, Kd.eZ (g := gb117) (o := .cells #[.string pG, .int .i64 pI] 31 (0, 0)) (by (with_reducible repeat (first | refine aG ?_ _ | refine aK ?_ | refine aD ?_ _)); exact BK117.out) k_ hk⟩))
             (case aO => exact (by (with_reducible repeat (first | apply Kd.aT | apply Kd.aU | apply Kd.aY)); exact Kd.bM HO122.out (fun _ hk => ⟨hk.2, hk.1.2⟩)))
             (case aS => exact (aW (by repeat (first | (with_reducible first | exact HB.out | apply au | apply ah | apply aj | refine ay ?_ GE117.out) | exact HB.out))))
             (case aL => have := LMc16.out; omega)
             intro v128 w31 ho hb hg hat
             rw [← Ny127.out] at ho
             have n0_ := ak.mk (dQ (g := gb117) (o := .cells #[.string pG, .int .i64 pI] 31 (0, 0)) (by (with_reducible repeat (first | refine aG ?_ _ | refine aK ?_ | refine aD ?_ _)); exact BK117.out) hg (Kd.fq HO122.out (fun _ hk => hk.1.2)))
             have n1_ := ak.mk (Kd.eF (ok := (fun k_ => k_ ≠ gb117)) (by (with_reducible repeat (first | apply Kd.aT | apply Kd.aU | apply Kd.aY)); exact Kd.bM HO132.out (fun _ hk => ⟨hk.2, hk.1.2⟩)) hg hat)
             have n2_ := ak.mk (hb)
             have n3_ := ak.mk (ho)
             clear BK117
             clear HO132
             clear HB
             clear HO122
             have BK117 := n0_
             have HO132 := n1_
             have HB := n2_
             have HO129 := n3_
             clear n0_ n1_ n2_ n3_
             clear ho hb hg hat
             refine hK.out _ _ ⟨(aM BK117.out 0).trans rfl, (aM BK117.out 1).trans rfl⟩ (fun hHeld => ?_)
             clear hK K
             refine bQ (a' := ?_) ?_ ?_
             rotate_left
             ·show Act.put _ (some 26) _ = _
              simp only [Act.put, List.setIfInBounds_toArray, List.set_cons_zero, List.set_cons_succ, aA, aC]
              rfl
             exact bQ (by simp only [eO, Act.put, List.setIfInBounds_toArray, List.set_cons_zero, List.set_cons_succ]) (hCont (v121, v128, v131) _ ⟨hHeld, (by (with_reducible repeat (first | apply Kd.aT | apply Kd.aU | apply Kd.aY)); exact HO129.out), (by (with_reducible repeat (first | apply Kd.aT | apply Kd.aU | apply Kd.aY)); exact Kd.bM HO132.out (fun _ hk => ⟨hk.2, hk.1⟩)), (by (with_reducible repeat (first | refine aG ?_ _ | refine aK ?_ | refine aD ?_ _)); exact BK117.out), (by repeat (first | (with_reducible first | exact HB.out | apply au | apply ah | apply aj | refine ay ?_ GE117.out) | exact HB.out))⟩)
           ·skip
            refine Kd.dK k31 _ 31 ?hg (N := 28) ?hd (xs := ([(⟨pG, pI⟩ : S31)] : List (S31))) (inner := [.string pG, .int .i64 pI]) (ok := fun _ => True) (okp := fun _ => True) ?hr ?hp (fun _ hk => hk) trivial (Below.refl _ _) (Nat.le_refl _) (by simp) ?_; (case hd => rfl); (case hg => rfl); (case hr => first | (go_simp; done) | (go_simp; rfl)); (case hp => exact (dx.c2 (show Kd.M k31 _ _ _ (⟨pG, pI⟩ : S31) [.string pG, .int .i64 pI] from (eD _ _ _ (⟨pG, pI⟩ : S31) )) (dx.none _ _)))
            intro v131 w27 ho28 hb hg_ hnew_
            clear hg_ hnew_
            (first | rw [← Ny130.out] at ho28 | (simp only [Int.reduceToNat] at ho28; rw [← Ny130.out] at ho28))
            have n0_ := ak.mk (Kd.dD (Kd.dX ho28 (g := gb117) (o := .cells #[.string pG, .int .i64 pI] 31 (0, 0)) (by (with_reducible repeat (first | refine aG ?_ _ | refine aK ?_ | refine aD ?_ _)); exact BK117.out)) (aW (by repeat (first | (with_reducible first | exact HB.out | apply au | apply ah | apply aj | refine ay ?_ GE117.out) | exact HB.out))))
            have n1_ := ak.mk (bD (g := gb117) (o := .cells #[.string pG, .int .i64 pI] 31 (0, 0)) (by (with_reducible repeat (first | refine aG ?_ _ | refine aK ?_ | refine aD ?_ _)); exact BK117.out) hb)
            have n2_ := ak.mk (aX (by repeat (first | (with_reducible first | exact HB.out | apply au | apply ah | apply aj | refine ay ?_ GE117.out) | exact HB.out)) hb)
            clear BK117
            clear HB
            have HO132 := n0_
            have BK117 := n1_
            have HB := n2_
            clear n0_ n1_ n2_
            clear hb ho28
            refine hK.out _ _ ⟨(aM BK117.out 0).trans rfl, (aM BK117.out 1).trans rfl⟩ (fun hHeld => ?_)
            clear hK K
            refine bQ (a' := ?_) ?_ ?_
            rotate_left
            ·show Act.put _ (some 28) _ = _
             simp only [Act.put, List.setIfInBounds_toArray, List.set_cons_zero, List.set_cons_succ, aA, aC]
             rfl
            refine dS (i := 0) (N := some 22) #[true, true, true, true, false, true, true, false, true, true, true, false, false] rfl rfl (cK HT_.out (by kernel_rfl)) (by decide) (fun K hK => ?_)
            refine Kd.dK k31 _ 31 ?hg (N := 22) ?hd (xs := ([] : List (S31))) (inner := []) (ok := fun _ => True) (okp := fun _ => True) ?hr ?hp (fun _ hk => hk) trivial (Below.refl _ _) (Nat.le_refl _) (by simp) ?_; (case hd => rfl); (case hg => rfl); (case hr => first | (go_simp; done) | (go_simp; rfl)); (case hp => exact (dx.none _ _))
            intro v121 w29 ho30 hb hg_ hnew_
            clear hg_ hnew_
            (first | rw [← Ny120.out] at ho30 | (simp only [Int.reduceToNat] at ho30; rw [← Ny120.out] at ho30))
            have n0_ := ak.mk (Kd.cZ (by (with_reducible repeat (first | apply Kd.aT | apply Kd.aU | apply Kd.aY)); exact HO132.out) (Kd.dM ho30) hb)
            have n1_ := ak.mk (Kd.dD (Kd.dX (Kd.dN ho30 (Kd.dZ (by (with_reducible repeat (first | apply Kd.aT | apply Kd.aU | apply Kd.aY)); exact HO132.out))) (g := gb117) (o := .cells #[.string pG, .int .i64 pI] 31 (0, 0)) (by (with_reducible repeat (first | refine aG ?_ _ | refine aK ?_ | refine aD ?_ _)); exact BK117.out)) (aW (by repeat (first | (with_reducible first | exact HB.out | apply au | apply ah | apply aj | refine ay ?_ GE117.out) | exact HB.out))))
            have n2_ := ak.mk (bD (g := gb117) (o := .cells #[.string pG, .int .i64 pI] 31 (0, 0)) (by (with_reducible repeat (first | refine aG ?_ _ | refine aK ?_ | refine aD ?_ _)); exact BK117.out) hb)
            have n3_ := ak.mk (aX (by repeat (first | (with_reducible first | exact HB.out | apply au | apply ah | apply aj | refine ay ?_ GE117.out) | exact HB.out)) hb)
            clear HO132
            clear BK117
            clear HB
            have HO132 := n0_
            have HO122 := n1_
            have BK117 := n2_
            have HB := n3_
            clear n0_ n1_ n2_ n3_
            clear hb ho30
            refine hK.out _ _ ⟨(aM BK117.out 0).trans rfl, (aM BK117.out 1).trans rfl⟩ (fun hHeld => ?_)
            clear hK K
            refine bQ (a' := ?_) ?_ ?_
            rotate_left
            ·show Act.put _ (some 22) _ = _
             simp only [Act.put, List.setIfInBounds_toArray, List.set_cons_zero, List.set_cons_succ, aA, aC]
             rfl
            refine dS (i := 4) (N := some 26) #[true, true, true, true, true, true, true, false, true, true, true, false, false] rfl rfl (cK HT_.out (by kernel_rfl)) (by decide) (fun K hK => ?_)
            refine Kd.bY k31 (w0 := w) w.heap.size (by rfl) (.tmp 22) (.tmp 25) 27 31 (.agg #[(.string ⟨#[]⟩), (.int .i64 0)]) 24 rfl Try.underlying27 eB rfl (by decide) (by omega) v121 y120 y123 _ _ _ (fun k_ => some k_ ≠ (v131 : Value).ownBlock ∧ k_ ≠ gb117) (fun _ => False) rfl rfl ?aO ?aR (fun _ _ h => h) (fun _ h => h.elim) ?aF ?aB ?aS ?aL ?_
            (case aR => repeat (first | exact (Kd.dB HR126.out HB.out) | (with_reducible refine Kd.bK ?_ _) | (with_reducible refine Kd.bL ?_ _) | (with_reducible refine Kd.bW ?_)))
            (case aB => exact (by repeat (first | (with_reducible first | exact HB.out | apply au | apply ah | apply aj | refine ay ?_ GE117.out) | exact HB.out)))
            (case aF => exact (fun k_ hk => ⟨Kd.fresh' (Kd.dZ (by (with_reducible repeat (first | apply Kd.aT | apply Kd.aU | apply Kd.aY)); exact HO132.out)) k_ hk, Kd.eZ (g := gb117) (o := .cells #[.string pG, .int .i64 pI] 31 (0, 0)) (by (with_reducible repeat (first | refine aG ?_ _ | refine aK ?_ | refine aD ?_ _)); exact BK117.out) k_ hk⟩))
            (case aO => exact (by (with_reducible repeat (first | apply Kd.aT | apply Kd.aU | apply Kd.aY)); exact Kd.bM HO122.out (fun _ hk => ⟨hk.1.2, hk.2⟩)))
            (case aS => exact (aW (by repeat (first | (with_reducible first | exact HB.out | apply au | apply ah | apply aj | refine ay ?_ GE117.out) | exact HB.out))))
            (case aL => have := LMc16.out; omega)
            intro v128 w31 ho hb hg hat
            rw [← Ny127.out] at ho
            have n0_ := ak.mk (dQ (g := gb117) (o := .cells #[.string pG, .int .i64 pI] 31 (0, 0)) (by (with_reducible repeat (first | refine aG ?_ _ | refine aK ?_ | refine aD ?_ _)); exact BK117.out) hg (Kd.fq HO122.out (fun _ hk => hk.2)))
            have n1_ := ak.mk (Kd.eF (ok := (fun k_ => k_ ≠ gb117)) (by (with_reducible repeat (first | apply Kd.aT | apply Kd.aU | apply Kd.aY)); exact Kd.bM HO132.out (fun _ hk => ⟨hk.1.2, hk.2⟩)) hg hat)
            have n2_ := ak.mk (hb)
            have n3_ := ak.mk (ho)
            clear BK117
            clear HO132
            clear HB
            clear HO122
            have BK117 := n0_
            have HO132 := n1_
            have HB := n2_
            have HO129 := n3_
            clear n0_ n1_ n2_ n3_
            clear ho hb hg hat
            refine hK.out _ _ ⟨(aM BK117.out 0).trans rfl, (aM BK117.out 1).trans rfl⟩ (fun hHeld => ?_)
            clear hK K
            refine bQ (a' := ?_) ?_ ?_
            rotate_left
            ·show Act.put _ (some 26) _ = _
             simp only [Act.put, List.setIfInBounds_toArray, List.set_cons_zero, List.set_cons_succ, aA, aC]
             rfl
            exact bQ (by simp only [eO, Act.put, List.setIfInBounds_toArray, List.set_cons_zero, List.set_cons_succ]) (hCont (v121, v128, v131) _ ⟨hHeld, (by (with_reducible repeat (first | apply Kd.aT | apply Kd.aU | apply Kd.aY)); exact HO129.out), (by (with_reducible repeat (first | apply Kd.aT | apply Kd.aU | apply Kd.aY)); exact Kd.bM HO132.out (fun _ hk => ⟨hk.2, hk.1⟩)), (by (with_reducible repeat (first | refine aG ?_ _ | refine aK ?_ | refine aD ?_ _)); exact BK117.out), (by repeat (first | (with_reducible first | exact HB.out | apply au | apply ah | apply aj | refine ay ?_ GE117.out) | exact HB.out))⟩)
          rintro ⟨v121, v128, v131⟩ w32 ⟨hS_, h0_, h1_, h2_, h3_⟩
          have n0_ : ak (Kd.R k31 31 w32 w.heap.size (fun k_ => some k_ ≠ (v131 : Value).ownBlock ∧ k_ ≠ gb117) v128 y127) := ⟨h0_⟩
          have n1_ : ak (Kd.R k31 31 w32 w.heap.size (fun k_ => some k_ ≠ (v128 : Value).ownBlock ∧ k_ ≠ gb117) v131 y130) := ⟨h1_⟩
          have n2_ : ak (w32.heap[gb117]? = some (.cells #[.string pG, .int .i64 pI] 31 (0, 0))) := ⟨h2_⟩
          have n3_ : ak (Below w.heap.size w w32) := ⟨h3_⟩
          clear BK117
          clear HB
          clear h0_ h1_ h2_ h3_
          have HO129 := n0_
          have HO132 := n1_
          have BK117 := n2_
          have HB := n3_
          clear n0_ n1_ n2_ n3_
          have hHeld : w32.cell? ⟨gb117, 0, none⟩ = some (.string pG) ∧ w32.cell? ⟨gb117, 1, none⟩ = some (.int .i64 pI) := hS_
          obtain ⟨Ao34, co34, eo34⟩ := Kd.dJ HO132.out
          (first | subst eo34 | (injection eo34 with f1_ f2_ f3_; have f4_ := f1_.symm; have f5_ := f3_.symm; clear f1_ f2_ f3_; subst f4_; subst f5_))
          refine bQ (a' := ?_) ?_ ?_
          rotate_left
          ·simp only [eO, Act.put, List.setIfInBounds_toArray, List.set_cons_zero, List.set_cons_succ]
           rfl
          refine dS (i := 7) (N := some 29) #[true, true, true, true, true, true, true, true, true, true, true, false, false] rfl rfl (cK HT_.out (by kernel_rfl)) (by decide) (fun K hK => ?_)
          refine Kd.bY k31 (w0 := w) w.heap.size (by rfl) (.tmp 26) (.tmp 28) 27 31 (.agg #[(.string ⟨#[]⟩), (.int .i64 0)]) 24 rfl Try.underlying27 eB rfl (by decide) (by omega) v128 y127 y130 _ _ _ (fun k_ => some k_ ≠ (.slice Ao34 y130.length co34 : Value).ownBlock ∧ k_ ≠ gb117) (fun _ => False) rfl rfl ?aO ?aR (fun _ _ h => h) (fun _ h => h.elim) ?aF ?aB ?aS ?aL ?_
          (case aR => repeat (first | exact (Kd.bF HO132.out).2.2 | (with_reducible refine Kd.bK ?_ _) | (with_reducible refine Kd.bL ?_ _) | (with_reducible refine Kd.bW ?_)))
          (case aB => exact (by repeat (first | (with_reducible first | exact HB.out | apply au | apply ah | apply aj | refine ay ?_ GE117.out) | exact HB.out)))
          (case aF => exact (fun k_ hk => ⟨Kd.fresh' (Kd.dZ (by (with_reducible repeat (first | apply Kd.aT | apply Kd.aU | apply Kd.aY)); exact HO132.out)) k_ hk, Kd.eZ (g := gb117) (o := .cells #[.string pG, .int .i64 pI] 31 (0, 0)) (by (with_reducible repeat (first | refine aG ?_ _ | refine aK ?_ | refine aD ?_ _)); exact BK117.out) k_ hk⟩))
          (case aO => exact (by (with_reducible repeat (first | apply Kd.aT | apply Kd.aU | apply Kd.aY)); exact HO129.out))
          (case aS => exact (aW (by repeat (first | (with_reducible first | exact HB.out | apply au | apply ah | apply aj | refine ay ?_ GE117.out) | exact HB.out))))
          (case aL => have := LMc17.out; omega)
          intro v134 w33 ho hb hg hat
          rw [← Ny133.out] at ho
          have n0_ := ak.mk (dQ (g := gb117) (o := .cells #[.string pG, .int .i64 pI] 31 (0, 0)) (by (with_reducible repeat (first | refine aG ?_ _ | refine aK ?_ | refine aD ?_ _)); exact BK117.out) hg (Kd.fq HO129.out (fun _ hk => hk.2)))
          have n1_ := ak.mk (Kd.eF (ok := (fun k_ => k_ ≠ gb117)) (by (with_reducible repeat (first | apply Kd.aT | apply Kd.aU | apply Kd.aY)); exact Kd.bM HO132.out (fun _ hk => ⟨hk.2, hk.1⟩)) hg hat)
          have n2_ := ak.mk (hb)
          have n3_ := ak.mk (ho)
          clear BK117
          clear HO132
          clear HB
          clear HO129
          have BK117 := n0_
          have HO132 := n1_
          have HB := n2_
          have HO135 := n3_
          clear n0_ n1_ n2_ n3_
          clear ho hb hg hat
          refine hK.out _ _ ⟨(aM BK117.out 0).trans rfl, (aM BK117.out 1).trans rfl⟩ (fun hHeld => ?_)
          clear hK K
          refine bQ (a' := ?_) ?_ ?_
          rotate_left
          ·show Act.put _ (some 29) _ = _
           simp only [Act.put, List.setIfInBounds_toArray, List.set_cons_zero, List.set_cons_succ, aA, aC]
           rfl
          refine dS (i := 11) (N := some 33) #[true, true, true, true, true, true, true, true, true, true, true, true, false] rfl rfl (cK HT_.out (by kernel_rfl)) (by decide) (fun K hK => ?_)
          refine Kd.bY k31 (w0 := w) w.heap.size (by rfl) (.tmp 29) (.tmp 32) 27 31 (.agg #[(.string ⟨#[]⟩), (.int .i64 0)]) 24 rfl Try.underlying27 eB rfl (by decide) (by omega) v134 y133 y136 _ _ _ (fun k_ => some k_ ≠ (.slice Ao34 y130.length co34 : Value).ownBlock ∧ k_ ≠ gb117) (fun _ => False) rfl rfl ?aO ?aR (fun _ _ h => h) (fun _ h => h.elim) ?aF ?aB ?aS ?aL ?_
          (case aR => repeat (first | exact (Kd.dB HR139.out HB.out) | (with_reducible refine Kd.bK ?_ _) | (with_reducible refine Kd.bL ?_ _) | (with_reducible refine Kd.bW ?_)))
          (case aB => exact (by repeat (first | (with_reducible first | exact HB.out | apply au | apply ah | apply aj | refine ay ?_ GE117.out) | exact HB.out)))
          (case aF => exact (fun k_ hk => ⟨Kd.fresh' (Kd.dZ (by (with_reducible repeat (first | apply Kd.aT | apply Kd.aU | apply Kd.aY)); exact HO132.out)) k_ hk, Kd.eZ (g := gb117) (o := .cells #[.string pG, .int .i64 pI] 31 (0, 0)) (by (with_reducible repeat (first | refine aG ?_ _ | refine aK ?_ | refine aD ?_ _)); exact BK117.out) k_ hk⟩))
          (case aO => exact (by (with_reducible repeat (first | apply Kd.aT | apply Kd.aU | apply Kd.aY)); exact HO135.out))
          (case aS => exact (aW (by repeat (first | (with_reducible first | exact HB.out | apply au | apply ah | apply aj | refine ay ?_ GE117.out) | exact HB.out))))
          (case aL => have := LMc20.out; omega)
          intro v141 w35 ho hb hg hat
          rw [← Ny140.out] at ho
          have n0_ := ak.mk (dQ (g := gb117) (o := .cells #[.string pG, .int .i64 pI] 31 (0, 0)) (by (with_reducible repeat (first | refine aG ?_ _ | refine aK ?_ | refine aD ?_ _)); exact BK117.out) hg (Kd.fq HO135.out (fun _ hk => hk.2)))
          have n1_ := ak.mk (Kd.eF (ok := (fun k_ => k_ ≠ gb117)) (by (with_reducible repeat (first | apply Kd.aT | apply Kd.aU | apply Kd.aY)); exact HO132.out) hg hat)
          have n2_ := ak.mk (hb)
          have n3_ := ak.mk (ho)
          clear BK117
          clear HO132
          clear HB
          clear HO135
          have BK117 := n0_
          have HO132 := n1_
          have HB := n2_
          have HO142 := n3_
          clear n0_ n1_ n2_ n3_
          clear ho hb hg hat
          refine hK.out _ _ ⟨(aM BK117.out 0).trans rfl, (aM BK117.out 1).trans rfl⟩ (fun hHeld => ?_)
          clear hK K
          refine bQ (a' := ?_) ?_ ?_
          rotate_left
          ·show Act.put _ (some 33) _ = _
           simp only [Act.put, List.setIfInBounds_toArray, List.set_cons_zero, List.set_cons_succ, aA, aC]
           rfl
          refine aP (i := 12) (N := some 7) (v := ?_) (a' := ?_) #[true, true, true, true, true, true, true, true, true, true, true, true, true] rfl rfl (aH HT_.out (by kernel_rfl)) (fun _ _ _ h => h) (Or.inl ⟨by rfl, ?_⟩) ?_ ?_
          rotate_left
          ·intro w'
           go_simp
           with_reducible rfl
          rotate_left
          ·simp only [Act.put, List.setIfInBounds_toArray, List.set_cons_zero, List.set_cons_succ, aA, aC]
           rfl
          refine eG (dO HT_.out (by kernel_rfl)) ?_
          have hcz36_0 : w35.cell? ⟨gb117, 0, none⟩ = some (.string pG) := (aM BK117.out 0).trans rfl
          have hcz36_1 : w35.cell? ⟨gb117, 1, none⟩ = some (.int .i64 pI) := (aM BK117.out 1).trans rfl
          have hfz36_0 := bB BK117.out 0
          have hfz36_1 := bB BK117.out 1
          try go_wp2_with (first | ((with_reducible refine bG (f := 52) rfl ?_); refine dz (some 39) rfl rfl Try.func52 (by kernel_rfl) rfl #[.slice A0 l0.length c0, .string pG, .int .i64 pI] rfl (by (try simp only [List.map_toArray, List.map_cons, List.map_nil]); first | done | rfl | (simp only [List.length_drop, List.length_take]; rfl)) ?_; (with_reducible refine (bP.calls kj2 _ _ l0 pG pI true _ ?side1 ?side2 A21.out).mono ?_); (case side1 => repeat (first | exact (Kd.dB HR0.out HB.out) | (with_reducible refine Kd.bK ?_ _) | (with_reducible refine Kd.bL ?_ _) | (with_reducible refine Kd.bW ?_))); (case side2 => exact HC0.out); rintro e w' ⟨rfl, ⟨nd, rfl⟩⟩; refine ⟨_, rfl, ?_⟩) | ((with_reducible refine bX (N := 45) rfl ?_); refine Kd.mM k31 _ 31 ?hg (N := 45) ?hd (xs := ([] : List (S31))) (inner := []) (ok := fun _ => True) (okp := fun _ => True) ?hr ?hp (fun _ hk => hk) trivial (Below.refl _ _) (Nat.le_refl _) (by simp) ?_; (case hd => rfl); (case hg => rfl); (case hr => first | (go_simp; done) | (go_simp; rfl)); (case hp => exact (dx.none _ _)); intro v145 w37 ho38 hb hg_ hnew_; clear hg_ hnew_; (first | rw [← Ny144.out] at ho38 | (simp only [Int.reduceToNat] at ho38; rw [← Ny144.out] at ho38)); have n0_ := ak.mk (Kd.cZ (by (with_reducible repeat (first | apply Kd.aT | apply Kd.aU | apply Kd.aY)); exact HO132.out) (Kd.dM ho38) hb); have n1_ := ak.mk (Kd.cZ (by (with_reducible repeat (first | apply Kd.aT | apply Kd.aU | apply Kd.aY)); exact HO142.out) (Kd.dM ho38) hb); have n2_ := ak.mk (Kd.dD (Kd.dX (Kd.dN (Kd.dN ho38 (Kd.dZ (by (with_reducible repeat (first | apply Kd.aT | apply Kd.aU | apply Kd.aY)); exact HO132.out))) (Kd.dZ (by (with_reducible repeat (first | apply Kd.aT | apply Kd.aU | apply Kd.aY)); exact HO142.out))) (g := gb117) (o := .cells #[.string pG, .int .i64 pI] 31 (0, 0)) (by (with_reducible repeat (first | refine aG ?_ _ | refine aK ?_ | refine aD ?_ _)); exact BK117.out)) (aW (by repeat (first | (with_reducible first | exact HB.out | apply au | apply ah | apply aj | refine ay ?_ GE117.out) | exact HB.out)))); have n3_ := ak.mk (bD (g := gb117) (o := .cells #[.string pG, .int .i64 pI] 31 (0, 0)) (by (with_reducible repeat (first | refine aG ?_ _ | refine aK ?_ | refine aD ?_ _)); exact BK117.out) hb); have n4_ := ak.mk (aX (by repeat (first | (with_reducible first | exact HB.out | apply au | apply ah | apply aj | refine ay ?_ GE117.out) | exact HB.out)) hb); clear HO132; clear HO142; clear BK117; clear HB; have HO132 := n0_; have HO142 := n1_; have HO146 := n2_; have BK117 := n3_; have HB := n4_; clear n0_ n1_ n2_ n3_ n4_; clear hb ho38) | ((with_reducible refine jo (b := .append) (xs := #[.tmp 45, .tmp 46]) rfl ?_); at_builtin; refine Kd.jc k31 (w0 := w) w.heap.size rfl (.tmp 45) (.tmp 46) 27 31 (.agg #[(.string ⟨#[]⟩), (.int .i64 0)]) 24 rfl Try.underlying27 eB rfl (by decide) (by omega) v145 y144 l0 _ _ _ (fun k_ => some k_ ≠ (.slice Ao34 y130.length co34 : Value).ownBlock ∧ some k_ ≠ (v141 : Value).ownBlock ∧ k_ ≠ gb117) (fun _ => False) rfl rfl ?aO ?aR (fun _ _ h => h) (fun _ h => h.elim) ?aF ?aB ?aS ?aL ?_; (case aR => repeat (first | exact (Kd.dB HR0.out HB.out) | (with_reducible refine Kd.bK ?_ _) | (with_reducible refine Kd.bL ?_ _) | (with_reducible refine Kd.bW ?_))); (case aB => exact (by repeat (first | (with_reducible first | exact HB.out | apply au | apply ah | apply aj | refine ay ?_ GE117.out) | exact HB.out))); (case aF => exact (fun k_ hk => ⟨Kd.fresh' (Kd.dZ (by (with_reducible repeat (first | apply Kd.aT | apply Kd.aU | apply Kd.aY)); exact HO132.out)) k_ hk, Kd.fresh' (Kd.dZ (by (with_reducible repeat (first | apply Kd.aT | apply Kd.aU | apply Kd.aY)); exact HO142.out)) k_ hk, Kd.eZ (g := gb117) (o := .cells #[.string pG, .int .i64 pI] 31 (0, 0)) (by (with_reducible repeat (first | refine aG ?_ _ | refine aK ?_ | refine aD ?_ _)); exact BK117.out) k_ hk⟩)); (case aO => exact (by (with_reducible repeat (first | apply Kd.aT | apply Kd.aU | apply Kd.aY)); exact Kd.bM HO146.out (fun _ hk => ⟨hk.1.1.2, ⟨hk.1.2, hk.2⟩⟩))); (case aS => exact (aW (by repeat (first | (with_reducible first | exact HB.out | apply au | apply ah | apply aj | refine ay ?_ GE117.out) | exact HB.out)))); (case aL => have := LMc23.out; omega); intro v148 w39 ho hb hg hat; rw [← Ny147.out] at ho; have n0_ := ak.mk (dQ (g := gb117) (o := .cells #[.string pG, .int .i64 pI] 31 (0, 0)) (by (with_reducible repeat (first | refine aG ?_ _ | refine aK ?_ | refine aD ?_ _)); exact BK117.out) hg (Kd.fq HO146.out (fun _ hk => hk.2))); have n1_ := ak.mk (Kd.eF (ok := (fun k_ => some k_ ≠ (v141 : Value).ownBlock ∧ k_ ≠ gb117)) (by (with_reducible repeat (first | apply Kd.aT | apply Kd.aU | apply Kd.aY)); exact Kd.bM HO132.out (fun _ hk => ⟨⟨hk.1.2, hk.1.1⟩, hk.2⟩)) hg hat); have n2_ := ak.mk (Kd.eF (ok := (fun k_ => some k_ ≠ (.slice Ao34 y130.length co34 : Value).ownBlock ∧ k_ ≠ gb117)) (by (with_reducible repeat (first | apply Kd.aT | apply Kd.aU | apply Kd.aY)); exact HO142.out) hg hat); have n3_ := ak.mk (hb); have n4_ := ak.mk (ho); clear BK117; clear HO132; clear HO142; clear HB; clear HO146; have BK117 := n0_; have HO132 := n1_; have HO142 := n2_; have HB := n3_; have HO149 := n4_; clear n0_ n1_ n2_ n3_ n4_; clear ho hb hg hat))
          go_ret2
          exact ⟨_, by first | rfl | (simp [bn, bq] <;> rfl) | (simp [*, bn, bq] <;> rfl), by (with_reducible repeat (first | apply Kd.aT | apply Kd.aU | apply Kd.aY)); exact Kd.bM HO149.out (fun _ hk => trivial), by repeat (first | (with_reducible first | exact HB.out | apply au | apply ah | apply aj | refine ay ?_ GE117.out) | exact HB.out)⟩
         ·rw [if_neg c23] at H
          exact absurd H (by simp)
        ·replace c22 := Bool.eq_false_iff.mpr c22
         subst c22
         have H1 : ((aZ.f kj2 y140).bind fun t150 => (if t150 = true then (some (y140, true)) else ((some (([] : List (S31)) : List (S31))).bind fun y151 => (if y151.length + l0.length < 5864062014805 then (some ((y151 ++ l0), false)) else (none))))) = some (r1, r2) := by rw [if_neg (show ¬ (false = true) by decide)] at H; exact H
         clear H
         have H := H1
         clear H1
         replace H := Option.bind_eq_some_iff.mp H
         obtain ⟨t150, A400, H⟩ := H
         replace H : (if t150 = true then (some (y140, true)) else ((some (([] : List (S31)) : List (S31))).bind fun y151 => (if y151.length + l0.length < 5864062014805 then (some ((y151 ++ l0), false)) else (none)))) = some (r1, r2) := H
         have A40 := ak.mk A400
         clear A400
         by_cases c41 : t150 = true
         ·subst c41
          have H1 : (some (y140, true)) = some (r1, r2) := by rw [if_pos rfl] at H; exact H
          clear H
          have H := H1
          clear H1
          simp only [Option.some.injEq, Prod.mk.injEq] at H
          obtain ⟨rfl, rfl⟩ := H
          try go_wp2
          have n0_ := ak.mk (aK BK117.out)
          have n1_ := ak.mk (aj HB.out)
          clear BK117
          clear HB
          have BK117 := n0_
          have HB := n1_
          clear n0_ n1_
          have q43 : (x6_2 : Int) ≤ ((l0.length : Int) : Int) := of_decide_eq_true (by first | (with_reducible assumption) | assumption)
          obtain ⟨i043, hi043, _, hsz43, _⟩ := info_parts eB
          have hroom43 : l0.length ≤ c0 := HC0.out
          have hC43 : Kd.C k31 _ A0 l0.length l0 := HR0.out
          have hcut43 := mq (P := Try.prog) 27 31 .i64 Try.underlying27 hi043 A0 l0.length c0 x6_2 (of_decide_eq_true (by first | (with_reducible assumption) | assumption)) q43 hroom43
          have hr43 := Kd.lW (m := (x6_2 : Int).toNat) hC43 (by omega)
          have hy43 : y123.length = (x6_2 : Int).toNat := (by rw [Ny123.out, List.length_take]; omega)
          rw [← Ny123.out] at hr43
          rw [← hy43] at hcut43
          have HR126 := ak.mk hr43
          have HC126 := ak.mk (show y123.length ≤ c0 from by omega)
          clear hr43 hC43 hroom43 hi043 hsz43
          have KY43 := ak.mk hy43
          clear hy43
          replace q43 := eq_true q43
          have q44 : (x6_2 : Int) ≤ ((l0.length : Int) : Int) := of_decide_eq_true (by first | (with_reducible assumption) | assumption)
          obtain ⟨i044, hi044, _, hsz44, _⟩ := info_parts eB
          have hroom44 : l0.length ≤ c0 := HC0.out
          have hC44 : Kd.C k31 _ A0 l0.length l0 := HR0.out
          have q044 : (0 : Int) ≤ (x6_2 : Int) := of_decide_eq_true (by first | (with_reducible assumption) | assumption)
          have hcut44 := j5 (P := Try.prog) 27 31 .i64 Try.underlying27 hi044 2 hsz44 A0 l0.length c0 x6_2 q044 q44
          have hr44 := Kd.lX (m := (x6_2 : Int).toNat) (c := c0) hC44 (by omega) hroom44
          obtain ⟨A44, hA44⟩ : ∃ A1, A1 = (if c0 = (x6_2 : Int).toNat then A0 else (A0 : Option Addr).map (·.add ((x6_2 : Int).toNat * 2))) := ⟨_, rfl⟩
          obtain ⟨c44, hc44⟩ : ∃ c1, c1 = c0 - (x6_2 : Int).toNat := ⟨_, rfl⟩
          have hy44 : y136.length = l0.length - (x6_2 : Int).toNat := (by rw [Ny136.out, List.length_drop] <;> omega)
          rw [show (l0).drop (x6_2 : Int).toNat = y136 from Ny136.out.symm] at hr44
          replace hr44 : Kd.C k31 _ A44 y136.length y136 := (by rw [hA44]; exact hr44)
          rw [← hy44, ← hA44, ← hc44] at hcut44
          have HR139 := ak.mk hr44
          have HC139 := ak.mk (show y136.length ≤ c44 from by rw [hy44, hc44]; exact Nat.sub_le_sub_right hroom44 _)
          clear hr44 hC44 hroom44 hi044 hsz44 hc44
          have KY44 := ak.mk hy44
          have KA44 := ak.mk hA44
          clear hy44 hA44
          replace q44 := eq_true q44
          refine dU (n := 13) (S := fun w' => w'.cell? ⟨gb117, 0, none⟩ = some (.string pG) ∧ w'.cell? ⟨gb117, 1, none⟩ = some (.int .i64 pI)) (ds := []) #[false, false, false, false, false, false, false, false, false, false, false, false, false] (by kernel_rfl) rfl rfl ⟨(aM BK117.out 0).trans rfl, (aM BK117.out 1).trans rfl⟩ (fun hHeld => ?_); refine dA bA.iB bA.gD (fun HT_ HW_ => ?_)
          generalize wc.drew = w42 at BK117 HB HR126 HR139 hHeld ⊢
          refine aP (i := 1) (N := some 23) (v := ?_) (a' := ?_) #[false, true, false, false, false, false, false, false, false, false, false, false, false] rfl rfl (aH HT_.out (by kernel_rfl)) (fun _ _ _ h => h) (Or.inl ⟨by rfl, ?_⟩) ?_ ?_
          rotate_left
          ·intro w'
           go_simp
           with_reducible rfl
          rotate_left
          ·simp only [Act.put, List.setIfInBounds_toArray, List.set_cons_zero, List.set_cons_succ, aA, aC]
           rfl
          refine aP (i := 2) (N := some 24) (v := ?_) (a' := ?_) #[false, true, true, false, false, false, false, false, false, false, false, false, false] rfl rfl (aH HT_.out (by kernel_rfl)) (fun _ _ _ h => h) (Or.inl ⟨by rfl, ?_⟩) ?_ ?_
          rotate_left
          ·intro w'
           go_simp
           with_reducible rfl
          rotate_left
          ·simp only [Act.put, List.setIfInBounds_toArray, List.set_cons_zero, List.set_cons_succ, aA, aC]
           rfl
          refine aP (i := 3) (N := some 25) (v := ?_) (a' := ?_) #[false, true, true, true, false, false, false, false, false, false, false, false, false] rfl rfl (aH HT_.out (by kernel_rfl)) (fun _ _ _ h => h) (Or.inl ⟨by rfl, ?_⟩) ?_ ?_
          rotate_left
          ·intro w'
           go_simp
           with_reducible rfl
          rotate_left
          ·simp only [Act.put, List.setIfInBounds_toArray, List.set_cons_zero, List.set_cons_succ, aA, aC]
           rfl
          refine aP (i := 8) (N := some 30) (v := ?_) (a' := ?_) #[false, true, true, true, false, false, false, false, true, false, false, false, false] rfl rfl (aH HT_.out (by kernel_rfl)) (fun _ _ _ h => h) (Or.inl ⟨by rfl, ?_⟩) ?_ ?_
          rotate_left
          ·intro w'
           go_simp
           with_reducible rfl
          rotate_left
          ·simp only [Act.put, List.setIfInBounds_toArray, List.set_cons_zero, List.set_cons_succ, aA, aC]
           rfl
          refine aP (i := 9) (N := some 31) (v := ?_) (a' := ?_) #[false, true, true, true, false, false, false, false, true, true, false, false, false] rfl rfl (aH HT_.out (by kernel_rfl)) (fun _ _ _ h => h) (Or.inl ⟨by rfl, ?_⟩) ?_ ?_
          rotate_left
          ·intro w'
           go_simp
           with_reducible rfl
          rotate_left
          ·simp only [Act.put, List.setIfInBounds_toArray, List.set_cons_zero, List.set_cons_succ, aA, aC]
           rfl
          refine aP (i := 10) (N := some 32) (v := ?_) (a' := ?_) #[false, true, true, true, false, false, false, false, true, true, true, false, false] rfl rfl (aH HT_.out (by kernel_rfl)) (fun _ _ _ h => h) (Or.inl ⟨by rfl, ?_⟩) ?_ ?_
          rotate_left
          ·intro w'
           go_simp
           with_reducible rfl
          rotate_left
          ·simp only [Act.put, List.setIfInBounds_toArray, List.set_cons_zero, List.set_cons_succ, aA, aC]
           rfl
          refine dI (i := 5) (N := some 27) (v := ?_) (a' := ?_) #[false, true, true, true, false, true, false, false, true, true, true, false, false] rfl rfl (bN HT_.out HW_.out (by kernel_rfl)) (fun _ _ _ h => h) (Or.inl ⟨by rfl, ?_⟩) hHeld ?_ ?_
          rotate_left
          ·rintro w' ⟨s0, s1⟩
           go_simp
           with_reducible rfl
          rotate_left
          ·simp only [Act.put, List.setIfInBounds_toArray, List.set_cons_zero, List.set_cons_succ, aA, aC]
           rfl
          refine lT (σ := Value × Value × Value) 3 #[true, true, true, true, true, true, true, false, true, true, true, false, false] (fun s_ => [(22, s_.1), (26, s_.2.1), (28, s_.2.2)]) (fun s_ w' => (w'.cell? ⟨gb117, 0, none⟩ = some (.string pG) ∧ w'.cell? ⟨gb117, 1, none⟩ = some (.int .i64 pI)) ∧ (Kd.R k31 31 w' w.heap.size (fun k_ => some k_ ≠ (s_.2.2 : Value).ownBlock ∧ k_ ≠ gb117) s_.2.1 y127) ∧ (Kd.R k31 31 w' w.heap.size (fun k_ => some k_ ≠ (s_.2.1 : Value).ownBlock ∧ k_ ≠ gb117) s_.2.2 y130) ∧ (w'.heap[gb117]? = some (.cells #[.string pG, .int .i64 pI] 31 (0, 0))) ∧ (Below w.heap.size w w')) ?_ ?_
          rotate_left
          ·intro hCont
           refine lD (i := 0) (j := 6) (Ni := some 22) (Nj := some 28) #[true, true, true, true, false, true, false, false, true, true, true, false, false] #[false, true, true, true, false, true, true, false, true, true, true, false, false] rfl rfl rfl rfl (jB HT_.out (by kernel_rfl)) (by decide) (by decide) (fun K hK => ?_) (fun K hK => ?_)
           ·skip
            refine Kd.dK k31 _ 31 ?hg (N := 22) ?hd (xs := ([] : List (S31))) (inner := []) (ok := fun _ => True) (okp := fun _ => True) ?hr ?hp (fun _ hk => hk) trivial (Below.refl _ _) (Nat.le_refl _) (by simp) ?_; (case hd => rfl); (case hg => rfl); (case hr => first | (go_simp; done) | (go_simp; rfl)); (case hp => exact (dx.none _ _))
            intro v121 w45 ho46 hb hg_ hnew_
            clear hg_ hnew_
            (first | rw [← Ny120.out] at ho46 | (simp only [Int.reduceToNat] at ho46; rw [← Ny120.out] at ho46))
            have n0_ := ak.mk (Kd.dD (Kd.dX ho46 (g := gb117) (o := .cells #[.string pG, .int .i64 pI] 31 (0, 0)) (by (with_reducible repeat (first | refine aG ?_ _ | refine aK ?_ | refine aD ?_ _)); exact BK117.out)) (aW (by repeat (first | (with_reducible first | exact HB.out | apply au | apply ah | apply aj | refine ay ?_ GE117.out) | exact HB.out))))
            have n1_ := ak.mk (bD (g := gb117) (o := .cells #[.string pG, .int .i64 pI] 31 (0, 0)) (by (with_reducible repeat (first | refine aG ?_ _ | refine aK ?_ | refine aD ?_ _)); exact BK117.out) hb)
            have n2_ := ak.mk (aX (by repeat (first | (with_reducible first | exact HB.out | apply au | apply ah | apply aj | refine ay ?_ GE117.out) | exact HB.out)) hb)
            clear BK117
            clear HB
            have HO122 := n0_
            have BK117 := n1_
            have HB := n2_
            clear n0_ n1_ n2_
            clear hb ho46
            refine hK.out _ _ ⟨(aM BK117.out 0).trans rfl, (aM BK117.out 1).trans rfl⟩ (fun hHeld => ?_)
            clear hK K
            refine bQ (a' := ?_) ?_ ?_
            rotate_left
            ·show Act.put _ (some 22) _ = _
             simp only [Act.put, List.setIfInBounds_toArray, List.set_cons_zero, List.set_cons_succ, aA, aC]
             rfl
            refine lD (i := 4) (j := 6) (Ni := some 26) (Nj := some 28) #[true, true, true, true, true, true, false, false, true, true, true, false, false] #[true, true, true, true, false, true, true, false, true, true, true, false, false] rfl rfl rfl rfl (jB HT_.out (by kernel_rfl)) (by decide) (by decide) (fun K hK => ?_) (fun K hK => ?_)
            ·skip
             refine Kd.bY k31 (w0 := w) w.heap.size (by rfl) (.tmp 22) (.tmp 25) 27 31 (.agg #[(.string ⟨#[]⟩), (.int .i64 0)]) 24 rfl Try.underlying27 eB rfl (by decide) (by omega) v121 y120 y123 _ _ _ (fun k_ => k_ ≠ gb117) (fun _ => False) rfl rfl ?aO ?aR (fun _ _ h => h) (fun _ h => h.elim) ?aF ?aB ?aS ?aL ?_
             (case aR => repeat (first | exact (Kd.dB HR126.out HB.out) | (with_reducible refine Kd.bK ?_ _) | (with_reducible refine Kd.bL ?_ _) | (with_reducible refine Kd.bW ?_)))
             (case aB => exact (by repeat (first | (with_reducible first | exact HB.out | apply au | apply ah | apply aj | refine ay ?_ GE117.out) | exact HB.out)))
             (case aF => exact (fun k_ hk => Kd.eZ (g := gb117) (o := .cells #[.string pG, .int .i64 pI] 31 (0, 0)) (by (with_reducible repeat (first | refine aG ?_ _ | refine aK ?_ | refine aD ?_ _)); exact BK117.out) k_ hk))
             (case aO => exact (by (with_reducible repeat (first | apply Kd.aT | apply Kd.aU | apply Kd.aY)); exact Kd.bM HO122.out (fun _ hk => hk.2)))
             (case aS => exact (aW (by repeat (first | (with_reducible first | exact HB.out | apply au | apply ah | apply aj | refine ay ?_ GE117.out) | exact HB.out))))
             (case aL => have := LMc16.out; omega)
             intro v128 w47 ho hb hg hat
             rw [← Ny127.out] at ho
             have n0_ := ak.mk (dQ (g := gb117) (o := .cells #[.string pG, .int .i64 pI] 31 (0, 0)) (by (with_reducible repeat (first | refine aG ?_ _ | refine aK ?_ | refine aD ?_ _)); exact BK117.out) hg (Kd.fq HO122.out (fun _ hk => hk.2)))
             have n1_ := ak.mk (hb)
             have n2_ := ak.mk (ho)
             clear BK117
             clear HB
             clear HO122
             have BK117 := n0_
             have HB := n1_
             have HO129 := n2_
             clear n0_ n1_ n2_
             clear ho hb hg hat
             refine hK.out _ _ ⟨(aM BK117.out 0).trans rfl, (aM BK117.out 1).trans rfl⟩ (fun hHeld => ?_)
             clear hK K
             refine bQ (a' := ?_) ?_ ?_
             rotate_left
             ·show Act.put _ (some 26) _ = _
              simp only [Act.put, List.setIfInBounds_toArray, List.set_cons_zero, List.set_cons_succ, aA, aC]
              rfl
             refine dS (i := 6) (N := some 28) #[true, true, true, true, true, true, true, false, true, true, true, false, false] rfl rfl (cK HT_.out (by kernel_rfl)) (by decide) (fun K hK => ?_)
             refine Kd.dK k31 _ 31 ?hg (N := 28) ?hd (xs := ([(⟨pG, pI⟩ : S31)] : List (S31))) (inner := [.string pG, .int .i64 pI]) (ok := fun _ => True) (okp := fun _ => True) ?hr ?hp (fun _ hk => hk) trivial (Below.refl _ _) (Nat.le_refl _) (by simp) ?_; (case hd => rfl); (case hg => rfl); (case hr => first | (go_simp; done) | (go_simp; rfl)); (case hp => exact (dx.c2 (show Kd.M k31 _ _ _ (⟨pG, pI⟩ : S31) [.string pG, .int .i64 pI] from (eD _ _ _ (⟨pG, pI⟩ : S31) )) (dx.none _ _)))
             intro v131 w48 ho49 hb hg_ hnew_
             clear hg_ hnew_
             (first | rw [← Ny130.out] at ho49 | (simp only [Int.reduceToNat] at ho49; rw [← Ny130.out] at ho49))
             have n0_ := ak.mk (Kd.cZ (by (with_reducible repeat (first | apply Kd.aT | apply Kd.aU | apply Kd.aY)); exact HO129.out) (Kd.dM ho49) hb)
             have n1_ := ak.mk (Kd.dD (Kd.dX (Kd.dN ho49 (Kd.dZ (by (with_reducible repeat (first | apply Kd.aT | apply Kd.aU | apply Kd.aY)); exact HO129.out))) (g := gb117) (o := .cells #[.string pG, .int .i64 pI] 31 (0, 0)) (by (with_reducible repeat (first | refine aG ?_ _ | refine aK ?_ | refine aD ?_ _)); exact BK117.out)) (aW (by repeat (first | (with_reducible first | exact HB.out | apply au | apply ah | apply aj | refine ay ?_ GE117.out) | exact HB.out))))
             have n2_ := ak.mk (bD (g := gb117) (o := .cells #[.string pG, .int .i64 pI] 31 (0, 0)) (by (with_reducible repeat (first | refine aG ?_ _ | refine aK ?_ | refine aD ?_ _)); exact BK117.out) hb)
             have n3_ := ak.mk (aX (by repeat (first | (with_reducible first | exact HB.out | apply au | apply ah | apply aj | refine ay ?_ GE117.out) | exact HB.out)) hb)
             clear HO129
             clear BK117
             clear HB
             have HO129 := n0_
             have HO132 := n1_
             have BK117 := n2_
             have HB := n3_
             clear n0_ n1_ n2_ n3_
             clear hb ho49
             refine hK.out _ _ ⟨(aM BK117.out 0).trans rfl, (aM BK117.out 1).trans rfl⟩ (fun hHeld => ?_)
             clear hK K
             refine bQ (a' := ?_) ?_ ?_
             rotate_left
             ·show Act.put _ (some 28) _ = _
              simp only [Act.put, List.setIfInBounds_toArray, List.set_cons_zero, List.set_cons_succ, aA, aC]
              rfl
             exact bQ (by simp only [eO, Act.put, List.setIfInBounds_toArray, List.set_cons_zero, List.set_cons_succ]) (hCont (v121, v128, v131) _ ⟨hHeld, (by (with_reducible repeat (first | apply Kd.aT | apply Kd.aU | apply Kd.aY)); exact Kd.bM HO129.out (fun _ hk => ⟨hk.2, hk.1⟩)), (by (with_reducible repeat (first | apply Kd.aT | apply Kd.aU | apply Kd.aY)); exact Kd.bM HO132.out (fun _ hk => ⟨hk.1.2, hk.2⟩)), (by (with_reducible repeat (first | refine aG ?_ _ | refine aK ?_ | refine aD ?_ _)); exact BK117.out), (by repeat (first | (with_reducible first | exact HB.out | apply au | apply ah | apply aj | refine ay ?_ GE117.out) | exact HB.out))⟩)
            ·skip
             refine Kd.dK k31 _ 31 ?hg (N := 28) ?hd (xs := ([(⟨pG, pI⟩ : S31)] : List (S31))) (inner := [.string pG, .int .i64 pI]) (ok := fun _ => True) (okp := fun _ => True) ?hr ?hp (fun _ hk => hk) trivial (Below.refl _ _) (Nat.le_refl _) (by simp) ?_; (case hd => rfl); (case hg => rfl); (case hr => first | (go_simp; done) | (go_simp; rfl)); (case hp => exact (dx.c2 (show Kd.M k31 _ _ _ (⟨pG, pI⟩ : S31) [.string pG, .int .i64 pI] from (eD _ _ _ (⟨pG, pI⟩ : S31) )) (dx.none _ _)))
             intro v131 w47 ho48 hb hg_ hnew_
             clear hg_ hnew_
             (first | rw [← Ny130.out] at ho48 | (simp only [Int.reduceToNat] at ho48; rw [← Ny130.out] at ho48))
             have n0_ := ak.mk (Kd.cZ (by (with_reducible repeat (first | apply Kd.aT | apply Kd.aU | apply Kd.aY)); exact HO122.out) (Kd.dM ho48) hb)
             have n1_ := ak.mk (Kd.dD (Kd.dX (Kd.dN ho48 (Kd.dZ (by (with_reducible repeat (first | apply Kd.aT | apply Kd.aU | apply Kd.aY)); exact HO122.out))) (g := gb117) (o := .cells #[.string pG, .int .i64 pI] 31 (0, 0)) (by (with_reducible repeat (first | refine aG ?_ _ | refine aK ?_ | refine aD ?_ _)); exact BK117.out)) (aW (by repeat (first | (with_reducible first | exact HB.out | apply au | apply ah | apply aj | refine ay ?_ GE117.out) | exact HB.out))))
             have n2_ := ak.mk (bD (g := gb117) (o := .cells #[.string pG, .int .i64 pI] 31 (0, 0)) (by (with_reducible repeat (first | refine aG ?_ _ | refine aK ?_ | refine aD ?_ _)); exact BK117.out) hb)
             have n3_ := ak.mk (aX (by repeat (first | (with_reducible first | exact HB.out | apply au | apply ah | apply aj | refine ay ?_ GE117.out) | exact HB.out)) hb)
             clear HO122
             clear BK117
             clear HB
             have HO122 := n0_
             have HO132 := n1_
             have BK117 := n2_
             have HB := n3_
             clear n0_ n1_ n2_ n3_
             clear hb ho48
             refine hK.out _ _ ⟨(aM BK117.out 0).trans rfl, (aM BK117.out 1).trans rfl⟩ (fun hHeld => ?_)
             clear hK K
             refine bQ (a' := ?_) ?_ ?_
             rotate_left
             ·show Act.put _ (some 28) _ = _
              simp only [Act.put, List.setIfInBounds_toArray, List.set_cons_zero, List.set_cons_succ, aA, aC]
              rfl
             refine dS (i := 4) (N := some 26) #[true, true, true, true, true, true, true, false, true, true, true, false, false] rfl rfl (cK HT_.out (by kernel_rfl)) (by decide) (fun K hK => ?_)
             refine Kd.bY k31 (w0 := w) w.heap.size (by rfl) (.tmp 22) (.tmp 25) 27 31 (.agg #[(.string ⟨#[]⟩), (.int .i64 0)]) 24 rfl Try.underlying27 eB rfl (by decide) (by omega) v121 y120 y123 _ _ _ (fun k_ => some k_ ≠ (v131 : Value).ownBlock ∧ k_ ≠ gb117) (fun _ => False) rfl rfl ?aO ?aR (fun _ _ h => h) (fun _ h => h.elim) ?aF ?aB ?aS ?aL ?_
             (case aR => repeat (first | exact (Kd.dB HR126.out HB.out) | (with_reducible refine Kd.bK ?_ _) | (with_reducible refine Kd.bL ?_ _) | (with_reducible refine Kd.bW ?_)))
             (case aB => exact (by repeat (first | (with_reducible first | exact HB.out | apply au | apply ah | apply aj | refine ay ?_ GE117.out) | exact HB.out)))
             (case aF => exact (fun k_ hk => ⟨Kd.fresh' (Kd.dZ (by (with_reducible repeat (first | apply Kd.aT | apply Kd.aU | apply Kd.aY)); exact HO132.out)) k_ hk, Kd.eZ (g := gb117) (o := .cells #[.string pG, .int .i64 pI] 31 (0, 0)) (by (with_reducible repeat (first | refine aG ?_ _ | refine aK ?_ | refine aD ?_ _)); exact BK117.out) k_ hk⟩))
             (case aO => exact (by (with_reducible repeat (first | apply Kd.aT | apply Kd.aU | apply Kd.aY)); exact Kd.bM HO122.out (fun _ hk => ⟨hk.2, hk.1.2⟩)))
             (case aS => exact (aW (by repeat (first | (with_reducible first | exact HB.out | apply au | apply ah | apply aj | refine ay ?_ GE117.out) | exact HB.out))))
             (case aL => have := LMc16.out; omega)
             intro v128 w49 ho hb hg hat
             rw [← Ny127.out] at ho
             have n0_ := ak.mk (dQ (g := gb117) (o := .cells #[.string pG, .int .i64 pI] 31 (0, 0)) (by (with_reducible repeat (first | refine aG ?_ _ | refine aK ?_ | refine aD ?_ _)); exact BK117.out) hg (Kd.fq HO122.out (fun _ hk => hk.1.2)))
             have n1_ := ak.mk (Kd.eF (ok := (fun k_ => k_ ≠ gb117)) (by (with_reducible repeat (first | apply Kd.aT | apply Kd.aU | apply Kd.aY)); exact Kd.bM HO132.out (fun _ hk => ⟨hk.2, hk.1.2⟩)) hg hat)
             have n2_ := ak.mk (hb)
             have n3_ := ak.mk (ho)
             clear BK117
             clear HO132
             clear HB
             clear HO122
             have BK117 := n0_
             have HO132 := n1_
             have HB := n2_
             have HO129 := n3_
             clear n0_ n1_ n2_ n3_
             clear ho hb hg hat
             refine hK.out _ _ ⟨(aM BK117.out 0).trans rfl, (aM BK117.out 1).trans rfl⟩ (fun hHeld => ?_)
             clear hK K
             refine bQ (a' := ?_) ?_ ?_
             rotate_left
             ·show Act.put _ (some 26) _ = _
              simp only [Act.put, List.setIfInBounds_toArray, List.set_cons_zero, List.set_cons_succ, aA, aC]
              rfl
             exact bQ (by simp only [eO, Act.put, List.setIfInBounds_toArray, List.set_cons_zero, List.set_cons_succ]) (hCont (v121, v128, v131) _ ⟨hHeld, (by (with_reducible repeat (first | apply Kd.aT | apply Kd.aU | apply Kd.aY)); exact HO129.out), (by (with_reducible repeat (first | apply Kd.aT | apply Kd.aU | apply Kd.aY)); exact Kd.bM HO132.out (fun _ hk => ⟨hk.2, hk.1⟩)), (by (with_reducible repeat (first | refine aG ?_ _ | refine aK ?_ | refine aD ?_ _)); exact BK117.out), (by repeat (first | (with_reducible first | exact HB.out | apply au | apply ah | apply aj | refine ay ?_ GE117.out) | exact HB.out))⟩)
           ·skip
            refine Kd.dK k31 _ 31 ?hg (N := 28) ?hd (xs := ([(⟨pG, pI⟩ : S31)] : List (S31))) (inner := [.string pG, .int .i64 pI]) (ok := fun _ => True) (okp := fun _ => True) ?hr ?hp (fun _ hk => hk) trivial (Below.refl _ _) (Nat.le_refl _) (by simp) ?_; (case hd => rfl); (case hg => rfl); (case hr => first | (go_simp; done) | (go_simp; rfl)); (case hp => exact (dx.c2 (show Kd.M k31 _ _ _ (⟨pG, pI⟩ : S31) [.string pG, .int .i64 pI] from (eD _ _ _ (⟨pG, pI⟩ : S31) )) (dx.none _ _)))
            intro v131 w45 ho46 hb hg_ hnew_
            clear hg_ hnew_
            (first | rw [← Ny130.out] at ho46 | (simp only [Int.reduceToNat] at ho46; rw [← Ny130.out] at ho46))
            have n0_ := ak.mk (Kd.dD (Kd.dX ho46 (g := gb117) (o := .cells #[.string pG, .int .i64 pI] 31 (0, 0)) (by (with_reducible repeat (first | refine aG ?_ _ | refine aK ?_ | refine aD ?_ _)); exact BK117.out)) (aW (by repeat (first | (with_reducible first | exact HB.out | apply au | apply ah | apply aj | refine ay ?_ GE117.out) | exact HB.out))))
            have n1_ := ak.mk (bD (g := gb117) (o := .cells #[.string pG, .int .i64 pI] 31 (0, 0)) (by (with_reducible repeat (first | refine aG ?_ _ | refine aK ?_ | refine aD ?_ _)); exact BK117.out) hb)
            have n2_ := ak.mk (aX (by repeat (first | (with_reducible first | exact HB.out | apply au | apply ah | apply aj | refine ay ?_ GE117.out) | exact HB.out)) hb)
            clear BK117
            clear HB
            have HO132 := n0_
            have BK117 := n1_
            have HB := n2_
            clear n0_ n1_ n2_
            clear hb ho46
            refine hK.out _ _ ⟨(aM BK117.out 0).trans rfl, (aM BK117.out 1).trans rfl⟩ (fun hHeld => ?_)
            clear hK K
            refine bQ (a' := ?_) ?_ ?_
            rotate_left
            ·show Act.put _ (some 28) _ = _
             simp only [Act.put, List.setIfInBounds_toArray, List.set_cons_zero, List.set_cons_succ, aA, aC]
             rfl
            refine dS (i := 0) (N := some 22) #[true, true, true, true, false, true, true, false, true, true, true, false, false] rfl rfl (cK HT_.out (by kernel_rfl)) (by decide) (fun K hK => ?_)
            refine Kd.dK k31 _ 31 ?hg (N := 22) ?hd (xs := ([] : List (S31))) (inner := []) (ok := fun _ => True) (okp := fun _ => True) ?hr ?hp (fun _ hk => hk) trivial (Below.refl _ _) (Nat.le_refl _) (by simp) ?_; (case hd => rfl); (case hg => rfl); (case hr => first | (go_simp; done) | (go_simp; rfl)); (case hp => exact (dx.none _ _))
            intro v121 w47 ho48 hb hg_ hnew_
            clear hg_ hnew_
            (first | rw [← Ny120.out] at ho48 | (simp only [Int.reduceToNat] at ho48; rw [← Ny120.out] at ho48))
            have n0_ := ak.mk (Kd.cZ (by (with_reducible repeat (first | apply Kd.aT | apply Kd.aU | apply Kd.aY)); exact HO132.out) (Kd.dM ho48) hb)
            have n1_ := ak.mk (Kd.dD (Kd.dX (Kd.dN ho48 (Kd.dZ (by (with_reducible repeat (first | apply Kd.aT | apply Kd.aU | apply Kd.aY)); exact HO132.out))) (g := gb117) (o := .cells #[.string pG, .int .i64 pI] 31 (0, 0)) (by (with_reducible repeat (first | refine aG ?_ _ | refine aK ?_ | refine aD ?_ _)); exact BK117.out)) (aW (by repeat (first | (with_reducible first | exact HB.out | apply au | apply ah | apply aj | refine ay ?_ GE117.out) | exact HB.out))))
            have n2_ := ak.mk (bD (g := gb117) (o := .cells #[.string pG, .int .i64 pI] 31 (0, 0)) (by (with_reducible repeat (first | refine aG ?_ _ | refine aK ?_ | refine aD ?_ _)); exact BK117.out) hb)
            have n3_ := ak.mk (aX (by repeat (first | (with_reducible first | exact HB.out | apply au | apply ah | apply aj | refine ay ?_ GE117.out) | exact HB.out)) hb)
            clear HO132
            clear BK117
            clear HB
            have HO132 := n0_
            have HO122 := n1_
            have BK117 := n2_
            have HB := n3_
            clear n0_ n1_ n2_ n3_
            clear hb ho48
            refine hK.out _ _ ⟨(aM BK117.out 0).trans rfl, (aM BK117.out 1).trans rfl⟩ (fun hHeld => ?_)
            clear hK K
            refine bQ (a' := ?_) ?_ ?_
            rotate_left
            ·show Act.put _ (some 22) _ = _
             simp only [Act.put, List.setIfInBounds_toArray, List.set_cons_zero, List.set_cons_succ, aA, aC]
             rfl
            refine dS (i := 4) (N := some 26) #[true, true, true, true, true, true, true, false, true, true, true, false, false] rfl rfl (cK HT_.out (by kernel_rfl)) (by decide) (fun K hK => ?_)
            refine Kd.bY k31 (w0 := w) w.heap.size (by rfl) (.tmp 22) (.tmp 25) 27 31 (.agg #[(.string ⟨#[]⟩), (.int .i64 0)]) 24 rfl Try.underlying27 eB rfl (by decide) (by omega) v121 y120 y123 _ _ _ (fun k_ => some k_ ≠ (v131 : Value).ownBlock ∧ k_ ≠ gb117) (fun _ => False) rfl rfl ?aO ?aR (fun _ _ h => h) (fun _ h => h.elim) ?aF ?aB ?aS ?aL ?_
            (case aR => repeat (first | exact (Kd.dB HR126.out HB.out) | (with_reducible refine Kd.bK ?_ _) | (with_reducible refine Kd.bL ?_ _) | (with_reducible refine Kd.bW ?_)))
            (case aB => exact (by repeat (first | (with_reducible first | exact HB.out | apply au | apply ah | apply aj | refine ay ?_ GE117.out) | exact HB.out)))
            (case aF => exact (fun k_ hk => ⟨Kd.fresh' (Kd.dZ (by (with_reducible repeat (first | apply Kd.aT | apply Kd.aU | apply Kd.aY)); exact HO132.out)) k_ hk, Kd.eZ (g := gb117) (o := .cells #[.string pG, .int .i64 pI] 31 (0, 0)) (by (with_reducible repeat (first | refine aG ?_ _ | refine aK ?_ | refine aD ?_ _)); exact BK117.out) k_ hk⟩))
            (case aO => exact (by (with_reducible repeat (first | apply Kd.aT | apply Kd.aU | apply Kd.aY)); exact Kd.bM HO122.out (fun _ hk => ⟨hk.1.2, hk.2⟩)))
            (case aS => exact (aW (by repeat (first | (with_reducible first | exact HB.out | apply au | apply ah | apply aj | refine ay ?_ GE117.out) | exact HB.out))))
            (case aL => have := LMc16.out; omega)
            intro v128 w49 ho hb hg hat
            rw [← Ny127.out] at ho
            have n0_ := ak.mk (dQ (g := gb117) (o := .cells #[.string pG, .int .i64 pI] 31 (0, 0)) (by (with_reducible repeat (first | refine aG ?_ _ | refine aK ?_ | refine aD ?_ _)); exact BK117.out) hg (Kd.fq HO122.out (fun _ hk => hk.2)))
            have n1_ := ak.mk (Kd.eF (ok := (fun k_ => k_ ≠ gb117)) (by (with_reducible repeat (first | apply Kd.aT | apply Kd.aU | apply Kd.aY)); exact Kd.bM HO132.out (fun _ hk => ⟨hk.1.2, hk.2⟩)) hg hat)
            have n2_ := ak.mk (hb)
            have n3_ := ak.mk (ho)
            clear BK117
            clear HO132
            clear HB
            clear HO122
            have BK117 := n0_
            have HO132 := n1_
            have HB := n2_
            have HO129 := n3_
            clear n0_ n1_ n2_ n3_
            clear ho hb hg hat
            refine hK.out _ _ ⟨(aM BK117.out 0).trans rfl, (aM BK117.out 1).trans rfl⟩ (fun hHeld => ?_)
            clear hK K
            refine bQ (a' := ?_) ?_ ?_
            rotate_left
            ·show Act.put _ (some 26) _ = _
             simp only [Act.put, List.setIfInBounds_toArray, List.set_cons_zero, List.set_cons_succ, aA, aC]
             rfl
            exact bQ (by simp only [eO, Act.put, List.setIfInBounds_toArray, List.set_cons_zero, List.set_cons_succ]) (hCont (v121, v128, v131) _ ⟨hHeld, (by (with_reducible repeat (first | apply Kd.aT | apply Kd.aU | apply Kd.aY)); exact HO129.out), (by (with_reducible repeat (first | apply Kd.aT | apply Kd.aU | apply Kd.aY)); exact Kd.bM HO132.out (fun _ hk => ⟨hk.2, hk.1⟩)), (by (with_reducible repeat (first | refine aG ?_ _ | refine aK ?_ | refine aD ?_ _)); exact BK117.out), (by repeat (first | (with_reducible first | exact HB.out | apply au | apply ah | apply aj | refine ay ?_ GE117.out) | exact HB.out))⟩)
          rintro ⟨v121, v128, v131⟩ w50 ⟨hS_, h0_, h1_, h2_, h3_⟩
          have n0_ : ak (Kd.R k31 31 w50 w.heap.size (fun k_ => some k_ ≠ (v131 : Value).ownBlock ∧ k_ ≠ gb117) v128 y127) := ⟨h0_⟩
          have n1_ : ak (Kd.R k31 31 w50 w.heap.size (fun k_ => some k_ ≠ (v128 : Value).ownBlock ∧ k_ ≠ gb117) v131 y130) := ⟨h1_⟩
          have n2_ : ak (w50.heap[gb117]? = some (.cells #[.string pG, .int .i64 pI] 31 (0, 0))) := ⟨h2_⟩
          have n3_ : ak (Below w.heap.size w w50) := ⟨h3_⟩
          clear BK117
          clear HB
          clear h0_ h1_ h2_ h3_
          have HO129 := n0_
          have HO132 := n1_
          have BK117 := n2_
          have HB := n3_
          clear n0_ n1_ n2_ n3_
          have hHeld : w50.cell? ⟨gb117, 0, none⟩ = some (.string pG) ∧ w50.cell? ⟨gb117, 1, none⟩ = some (.int .i64 pI) := hS_
          obtain ⟨Ao52, co52, eo52⟩ := Kd.dJ HO132.out
          (first | subst eo52 | (injection eo52 with f1_ f2_ f3_; have f4_ := f1_.symm; have f5_ := f3_.symm; clear f1_ f2_ f3_; subst f4_; subst f5_))
          refine bQ (a' := ?_) ?_ ?_
          rotate_left
          ·simp only [eO, Act.put, List.setIfInBounds_toArray, List.set_cons_zero, List.set_cons_succ]
           rfl
          refine dS (i := 7) (N := some 29) #[true, true, true, true, true, true, true, true, true, true, true, false, false] rfl rfl (cK HT_.out (by kernel_rfl)) (by decide) (fun K hK => ?_)
          refine Kd.bY k31 (w0 := w) w.heap.size (by rfl) (.tmp 26) (.tmp 28) 27 31 (.agg #[(.string ⟨#[]⟩), (.int .i64 0)]) 24 rfl Try.underlying27 eB rfl (by decide) (by omega) v128 y127 y130 _ _ _ (fun k_ => some k_ ≠ (.slice Ao52 y130.length co52 : Value).ownBlock ∧ k_ ≠ gb117) (fun _ => False) rfl rfl ?aO ?aR (fun _ _ h => h) (fun _ h => h.elim) ?aF ?aB ?aS ?aL ?_
          (case aR => repeat (first | exact (Kd.bF HO132.out).2.2 | (with_reducible refine Kd.bK ?_ _) | (with_reducible refine Kd.bL ?_ _) | (with_reducible refine Kd.bW ?_)))
          (case aB => exact (by repeat (first | (with_reducible first | exact HB.out | apply au | apply ah | apply aj | refine ay ?_ GE117.out) | exact HB.out)))
          (case aF => exact (fun k_ hk => ⟨Kd.fresh' (Kd.dZ (by (with_reducible repeat (first | apply Kd.aT | apply Kd.aU | apply Kd.aY)); exact HO132.out)) k_ hk, Kd.eZ (g := gb117) (o := .cells #[.string pG, .int .i64 pI] 31 (0, 0)) (by (with_reducible repeat (first | refine aG ?_ _ | refine aK ?_ | refine aD ?_ _)); exact BK117.out) k_ hk⟩))
          (case aO => exact (by (with_reducible repeat (first | apply Kd.aT | apply Kd.aU | apply Kd.aY)); exact HO129.out))
          (case aS => exact (aW (by repeat (first | (with_reducible first | exact HB.out | apply au | apply ah | apply aj | refine ay ?_ GE117.out) | exact HB.out))))
          (case aL => have := LMc17.out; omega)
          intro v134 w51 ho hb hg hat
          rw [← Ny133.out] at ho
          have n0_ := ak.mk (dQ (g := gb117) (o := .cells #[.string pG, .int .i64 pI] 31 (0, 0)) (by (with_reducible repeat (first | refine aG ?_ _ | refine aK ?_ | refine aD ?_ _)); exact BK117.out) hg (Kd.fq HO129.out (fun _ hk => hk.2)))
          have n1_ := ak.mk (Kd.eF (ok := (fun k_ => k_ ≠ gb117)) (by (with_reducible repeat (first | apply Kd.aT | apply Kd.aU | apply Kd.aY)); exact Kd.bM HO132.out (fun _ hk => ⟨hk.2, hk.1⟩)) hg hat)
          have n2_ := ak.mk (hb)
          have n3_ := ak.mk (ho)
          clear BK117
          clear HO132
          clear HB
          clear HO129
          have BK117 := n0_
          have HO132 := n1_
          have HB := n2_
          have HO135 := n3_
          clear n0_ n1_ n2_ n3_
          clear ho hb hg hat
          refine hK.out _ _ ⟨(aM BK117.out 0).trans rfl, (aM BK117.out 1).trans rfl⟩ (fun hHeld => ?_)
          clear hK K
          refine bQ (a' := ?_) ?_ ?_
          rotate_left
          ·show Act.put _ (some 29) _ = _
           simp only [Act.put, List.setIfInBounds_toArray, List.set_cons_zero, List.set_cons_succ, aA, aC]
           rfl
          refine dS (i := 11) (N := some 33) #[true, true, true, true, true, true, true, true, true, true, true, true, false] rfl rfl (cK HT_.out (by kernel_rfl)) (by decide) (fun K hK => ?_)
          refine Kd.bY k31 (w0 := w) w.heap.size (by rfl) (.tmp 29) (.tmp 32) 27 31 (.agg #[(.string ⟨#[]⟩), (.int .i64 0)]) 24 rfl Try.underlying27 eB rfl (by decide) (by omega) v134 y133 y136 _ _ _ (fun k_ => some k_ ≠ (.slice Ao52 y130.length co52 : Value).ownBlock ∧ k_ ≠ gb117) (fun _ => False) rfl rfl ?aO ?aR (fun _ _ h => h) (fun _ h => h.elim) ?aF ?aB ?aS ?aL ?_
          (case aR => repeat (first | exact (Kd.dB HR139.out HB.out) | (with_reducible refine Kd.bK ?_ _) | (with_reducible refine Kd.bL ?_ _) | (with_reducible refine Kd.bW ?_)))
          (case aB => exact (by repeat (first | (with_reducible first | exact HB.out | apply au | apply ah | apply aj | refine ay ?_ GE117.out) | exact HB.out)))
          (case aF => exact (fun k_ hk => ⟨Kd.fresh' (Kd.dZ (by (with_reducible repeat (first | apply Kd.aT | apply Kd.aU | apply Kd.aY)); exact HO132.out)) k_ hk, Kd.eZ (g := gb117) (o := .cells #[.string pG, .int .i64 pI] 31 (0, 0)) (by (with_reducible repeat (first | refine aG ?_ _ | refine aK ?_ | refine aD ?_ _)); exact BK117.out) k_ hk⟩))
          (case aO => exact (by (with_reducible repeat (first | apply Kd.aT | apply Kd.aU | apply Kd.aY)); exact HO135.out))
          (case aS => exact (aW (by repeat (first | (with_reducible first | exact HB.out | apply au | apply ah | apply aj | refine ay ?_ GE117.out) | exact HB.out))))
          (case aL => have := LMc20.out; omega)
          intro v141 w53 ho hb hg hat
          rw [← Ny140.out] at ho
          have n0_ := ak.mk (dQ (g := gb117) (o := .cells #[.string pG, .int .i64 pI] 31 (0, 0)) (by (with_reducible repeat (first | refine aG ?_ _ | refine aK ?_ | refine aD ?_ _)); exact BK117.out) hg (Kd.fq HO135.out (fun _ hk => hk.2)))
          have n1_ := ak.mk (Kd.eF (ok := (fun k_ => k_ ≠ gb117)) (by (with_reducible repeat (first | apply Kd.aT | apply Kd.aU | apply Kd.aY)); exact HO132.out) hg hat)
          have n2_ := ak.mk (hb)
          have n3_ := ak.mk (ho)
          clear BK117
          clear HO132
          clear HB
          clear HO135
          have BK117 := n0_
          have HO132 := n1_
          have HB := n2_
          have HO142 := n3_
          clear n0_ n1_ n2_ n3_
          clear ho hb hg hat
          refine hK.out _ _ ⟨(aM BK117.out 0).trans rfl, (aM BK117.out 1).trans rfl⟩ (fun hHeld => ?_)
          clear hK K
          refine bQ (a' := ?_) ?_ ?_
          rotate_left
          ·show Act.put _ (some 33) _ = _
           simp only [Act.put, List.setIfInBounds_toArray, List.set_cons_zero, List.set_cons_succ, aA, aC]
           rfl
          refine aP (i := 12) (N := some 7) (v := ?_) (a' := ?_) #[true, true, true, true, true, true, true, true, true, true, true, true, true] rfl rfl (aH HT_.out (by kernel_rfl)) (fun _ _ _ h => h) (Or.inl ⟨by rfl, ?_⟩) ?_ ?_
          rotate_left
          ·intro w'
           go_simp
           with_reducible rfl
          rotate_left
          ·simp only [Act.put, List.setIfInBounds_toArray, List.set_cons_zero, List.set_cons_succ, aA, aC]
           rfl
          refine eG (dO HT_.out (by kernel_rfl)) ?_
          have hcz54_0 : w53.cell? ⟨gb117, 0, none⟩ = some (.string pG) := (aM BK117.out 0).trans rfl
          have hcz54_1 : w53.cell? ⟨gb117, 1, none⟩ = some (.int .i64 pI) := (aM BK117.out 1).trans rfl
          have hfz54_0 := bB BK117.out 0
          have hfz54_1 := bB BK117.out 1
          try go_wp2_with (first | ((with_reducible refine bG (f := 52) rfl ?_); refine dz (some 39) rfl rfl Try.func52 (by kernel_rfl) rfl #[.slice A0 l0.length c0, .string pG, .int .i64 pI] rfl (by (try simp only [List.map_toArray, List.map_cons, List.map_nil]); first | done | rfl | (simp only [List.length_drop, List.length_take]; rfl)) ?_; (with_reducible refine (bP.calls kj2 _ _ l0 pG pI false _ ?side1 ?side2 A21.out).mono ?_); (case side1 => repeat (first | exact (Kd.dB HR0.out HB.out) | (with_reducible refine Kd.bK ?_ _) | (with_reducible refine Kd.bL ?_ _) | (with_reducible refine Kd.bW ?_))); (case side2 => exact HC0.out); rintro e w' ⟨rfl, ⟨nd, rfl⟩⟩; refine ⟨_, rfl, ?_⟩; obtain ⟨Ao55, co55, eo55⟩ := Kd.dJ HO142.out; subst eo55) | (go_at_call 53; (with_reducible refine (aZ.calls kj2 _ _ y140 true _ ?side1 ?side2 A40.out).mono ?_); (case side1 => repeat (first | exact (Kd.bF HO142.out).2.2 | (with_reducible refine Kd.bK ?_ _) | (with_reducible refine Kd.bL ?_ _) | (with_reducible refine Kd.bW ?_))); (case side2 => exact (Kd.bF HO142.out).2.1); rintro e w56 ⟨rfl, hb⟩; have n0_ := ak.mk (Kd.bO (by (with_reducible repeat (first | apply Kd.aT | apply Kd.aU | apply Kd.aY)); exact HO132.out) hb); have n1_ := ak.mk (Kd.bO (by (with_reducible repeat (first | apply Kd.aT | apply Kd.aU | apply Kd.aY)); exact HO142.out) hb); have n2_ := ak.mk (bD (g := gb117) (o := .cells #[.string pG, .int .i64 pI] 31 (0, 0)) (by (with_reducible repeat (first | refine aG ?_ _ | refine aK ?_ | refine aD ?_ _)); exact BK117.out) hb); have n3_ := ak.mk (aX (by repeat (first | (with_reducible first | exact HB.out | apply au | apply ah | apply aj | refine ay ?_ GE117.out) | exact HB.out)) hb); clear HO132; clear HO142; clear BK117; clear HB; have HO132 := n0_; have HO142 := n1_; have BK117 := n2_; have HB := n3_; clear n0_ n1_ n2_ n3_; (try clear hb); (try clear hb2); (try clear hk); (try clear hi)))
          go_ret2
          exact ⟨_, by first | rfl | (simp [bn, bq] <;> rfl) | (simp [*, bn, bq] <;> rfl), by (with_reducible repeat (first | apply Kd.aT | apply Kd.aU | apply Kd.aY)); exact Kd.bM HO142.out (fun _ hk => trivial), by repeat (first | (with_reducible first | exact HB.out | apply au | apply ah | apply aj | refine ay ?_ GE117.out) | exact HB.out)⟩
         ·replace c41 := Bool.eq_false_iff.mpr c41
          subst c41
          have H1 : ((some (([] : List (S31)) : List (S31))).bind fun y151 => (if y151.length + l0.length < 5864062014805 then (some ((y151 ++ l0), false)) else (none))) = some (r1, r2) := by rw [if_neg (show ¬ (false = true) by decide)] at H; exact H
          clear H
          have H := H1
          clear H1
          obtain ⟨y151, hy151⟩ : ∃ y_ : List (S31), y_ = (([] : List (S31))) := ⟨_, rfl⟩
          replace H : (if y151.length + l0.length < 5864062014805 then (some ((y151 ++ l0), false)) else (none)) = some (r1, r2) := by first | (rw [hy151]; with_reducible exact H) | (have H2_ := (Option.bind_some _ _).symm.trans H; rw [hy151]; with_reducible exact H2_) | (have H2_ := (Option.bind_some _ _).symm.trans H; with_reducible exact H2_) | with_reducible exact H | (rw [hy151]; exact H) | exact H
          have Ny151 := ak.mk hy151
          clear hy151
          by_cases c57 : y151.length + l0.length < 5864062014805
          ·rw [if_pos c57] at H
           have LMc57 := ak.mk c57
           clear c57
           obtain ⟨y154, hy154⟩ : ∃ y_ : List (S31), y_ = (y151 ++ l0) := ⟨_, rfl⟩
           replace H : (some (y154, false)) = some (r1, r2) := by first | (rw [hy154]; with_reducible exact H) | (have H2_ := (Option.bind_some _ _).symm.trans H; rw [hy154]; with_reducible exact H2_) | (have H2_ := (Option.bind_some _ _).symm.trans H; with_reducible exact H2_) | with_reducible exact H | (rw [hy154]; exact H) | exact H
           have Ny154 := ak.mk hy154
           clear hy154
           simp only [Option.some.injEq, Prod.mk.injEq] at H
           obtain ⟨rfl, rfl⟩ := H
           try go_wp2
           have n0_ := ak.mk (aK BK117.out)
           have n1_ := ak.mk (aj HB.out)
           clear BK117
           clear HB
           have BK117 := n0_
           have HB := n1_
           clear n0_ n1_
           have q59 : (x6_2 : Int) ≤ ((l0.length : Int) : Int) := of_decide_eq_true (by first | (with_reducible assumption) | assumption)
           obtain ⟨i059, hi059, _, hsz59, _⟩ := info_parts eB
           have hroom59 : l0.length ≤ c0 := HC0.out
           have hC59 : Kd.C k31 _ A0 l0.length l0 := HR0.out
           have hcut59 := mq (P := Try.prog) 27 31 .i64 Try.underlying27 hi059 A0 l0.length c0 x6_2 (of_decide_eq_true (by first | (with_reducible assumption) | assumption)) q59 hroom59
           have hr59 := Kd.lW (m := (x6_2 : Int).toNat) hC59 (by omega)
           have hy59 : y123.length = (x6_2 : Int).toNat := (by rw [Ny123.out, List.length_take]; omega)
           rw [← Ny123.out] at hr59
           rw [← hy59] at hcut59
           have HR126 := ak.mk hr59
           have HC126 := ak.mk (show y123.length ≤ c0 from by omega)
           clear hr59 hC59 hroom59 hi059 hsz59
           have KY59 := ak.mk hy59
           clear hy59
           replace q59 := eq_true q59
           have q60 : (x6_2 : Int) ≤ ((l0.length : Int) : Int) := of_decide_eq_true (by first | (with_reducible assumption) | assumption)
           obtain ⟨i060, hi060, _, hsz60, _⟩ := info_parts eB
           have hroom60 : l0.length ≤ c0 := HC0.out
           have hC60 : Kd.C k31 _ A0 l0.length l0 := HR0.out
           have q060 : (0 : Int) ≤ (x6_2 : Int) := of_decide_eq_true (by first | (with_reducible assumption) | assumption)
           have hcut60 := j5 (P := Try.prog) 27 31 .i64 Try.underlying27 hi060 2 hsz60 A0 l0.length c0 x6_2 q060 q60
           have hr60 := Kd.lX (m := (x6_2 : Int).toNat) (c := c0) hC60 (by omega) hroom60
           obtain ⟨A60, hA60⟩ : ∃ A1, A1 = (if c0 = (x6_2 : Int).toNat then A0 else (A0 : Option Addr).map (·.add ((x6_2 : Int).toNat * 2))) := ⟨_, rfl⟩
           obtain ⟨c60, hc60⟩ : ∃ c1, c1 = c0 - (x6_2 : Int).toNat := ⟨_, rfl⟩
           have hy60 : y136.length = l0.length - (x6_2 : Int).toNat := (by rw [Ny136.out, List.length_drop] <;> omega)
           rw [show (l0).drop (x6_2 : Int).toNat = y136 from Ny136.out.symm] at hr60
           replace hr60 : Kd.C k31 _ A60 y136.length y136 := (by rw [hA60]; exact hr60)
           rw [← hy60, ← hA60, ← hc60] at hcut60
           have HR139 := ak.mk hr60
           have HC139 := ak.mk (show y136.length ≤ c60 from by rw [hy60, hc60]; exact Nat.sub_le_sub_right hroom60 _)
           clear hr60 hC60 hroom60 hi060 hsz60 hc60
           have KY60 := ak.mk hy60
           have KA60 := ak.mk hA60
           clear hy60 hA60
           replace q60 := eq_true q60
           refine dU (n := 13) (S := fun w' => w'.cell? ⟨gb117, 0, none⟩ = some (.string pG) ∧ w'.cell? ⟨gb117, 1, none⟩ = some (.int .i64 pI)) (ds := []) #[false, false, false, false, false, false, false, false, false, false, false, false, false] (by kernel_rfl) rfl rfl ⟨(aM BK117.out 0).trans rfl, (aM BK117.out 1).trans rfl⟩ (fun hHeld => ?_); refine dA bA.iB bA.gD (fun HT_ HW_ => ?_)
           generalize wc.drew = w58 at BK117 HB HR126 HR139 hHeld ⊢
           refine aP (i := 1) (N := some 23) (v := ?_) (a' := ?_) #[false, true, false, false, false, false, false, false, false, false, false, false, false] rfl rfl (aH HT_.out (by kernel_rfl)) (fun _ _ _ h => h) (Or.inl ⟨by rfl, ?_⟩) ?_ ?_
           rotate_left
           ·intro w'
            go_simp
            with_reducible rfl
           rotate_left
           ·simp only [Act.put, List.setIfInBounds_toArray, List.set_cons_zero, List.set_cons_succ, aA, aC]
            rfl
           refine aP (i := 2) (N := some 24) (v := ?_) (a' := ?_) #[false, true, true, false, false, false, false, false, false, false, false, false, false] rfl rfl (aH HT_.out (by kernel_rfl)) (fun _ _ _ h => h) (Or.inl ⟨by rfl, ?_⟩) ?_ ?_
           rotate_left
           ·intro w'
            go_simp
            with_reducible rfl
           rotate_left
           ·simp only [Act.put, List.setIfInBounds_toArray, List.set_cons_zero, List.set_cons_succ, aA, aC]
            rfl
           refine aP (i := 3) (N := some 25) (v := ?_) (a' := ?_) #[false, true, true, true, false, false, false, false, false, false, false, false, false] rfl rfl (aH HT_.out (by kernel_rfl)) (fun _ _ _ h => h) (Or.inl ⟨by rfl, ?_⟩) ?_ ?_
           rotate_left
           ·intro w'
            go_simp
            with_reducible rfl
           rotate_left
           ·simp only [Act.put, List.setIfInBounds_toArray, List.set_cons_zero, List.set_cons_succ, aA, aC]
            rfl
           refine aP (i := 8) (N := some 30) (v := ?_) (a' := ?_) #[false, true, true, true, false, false, false, false, true, false, false, false, false] rfl rfl (aH HT_.out (by kernel_rfl)) (fun _ _ _ h => h) (Or.inl ⟨by rfl, ?_⟩) ?_ ?_
           rotate_left
           ·intro w'
            go_simp
            with_reducible rfl
           rotate_left
           ·simp only [Act.put, List.setIfInBounds_toArray, List.set_cons_zero, List.set_cons_succ, aA, aC]
            rfl
           refine aP (i := 9) (N := some 31) (v := ?_) (a' := ?_) #[false, true, true, true, false, false, false, false, true, true, false, false, false] rfl rfl (aH HT_.out (by kernel_rfl)) (fun _ _ _ h => h) (Or.inl ⟨by rfl, ?_⟩) ?_ ?_
           rotate_left
           ·intro w'
            go_simp
            with_reducible rfl
           rotate_left
           ·simp only [Act.put, List.setIfInBounds_toArray, List.set_cons_zero, List.set_cons_succ, aA, aC]
            rfl
           refine aP (i := 10) (N := some 32) (v := ?_) (a' := ?_) #[false, true, true, true, false, false, false, false, true, true, true, false, false] rfl rfl (aH HT_.out (by kernel_rfl)) (fun _ _ _ h => h) (Or.inl ⟨by rfl, ?_⟩) ?_ ?_
           rotate_left
           ·intro w'
            go_simp
            with_reducible rfl
           rotate_left
           ·simp only [Act.put, List.setIfInBounds_toArray, List.set_cons_zero, List.set_cons_succ, aA, aC]
            rfl
           refine dI (i := 5) (N := some 27) (v := ?_) (a' := ?_) #[false, true, true, true, false, true, false, false, true, true, true, false, false] rfl rfl (bN HT_.out HW_.out (by kernel_rfl)) (fun _ _ _ h => h) (Or.inl ⟨by rfl, ?_⟩) hHeld ?_ ?_
           rotate_left
           ·rintro w' ⟨s0, s1⟩
            go_simp
            with_reducible rfl
           rotate_left
           ·simp only [Act.put, List.setIfInBounds_toArray, List.set_cons_zero, List.set_cons_succ, aA, aC]
            rfl
           refine lT (σ := Value × Value × Value) 3 #[true, true, true, true, true, true, true, false, true, true, true, false, false] (fun s_ => [(22, s_.1), (26, s_.2.1), (28, s_.2.2)]) (fun s_ w' => (w'.cell? ⟨gb117, 0, none⟩ = some (.string pG) ∧ w'.cell? ⟨gb117, 1, none⟩ = some (.int .i64 pI)) ∧ (Kd.R k31 31 w' w.heap.size (fun k_ => some k_ ≠ (s_.2.2 : Value).ownBlock ∧ k_ ≠ gb117) s_.2.1 y127) ∧ (Kd.R k31 31 w' w.heap.size (fun k_ => some k_ ≠ (s_.2.1 : Value).ownBlock ∧ k_ ≠ gb117) s_.2.2 y130) ∧ (w'.heap[gb117]? = some (.cells #[.string pG, .int .i64 pI] 31 (0, 0))) ∧ (Below w.heap.size w w')) ?_ ?_
           rotate_left
           ·intro hCont
            refine lD (i := 0) (j := 6) (Ni := some 22) (Nj := some 28) #[true, true, true, true, false, true, false, false, true, true, true, false, false] #[false, true, true, true, false, true, true, false, true, true, true, false, false] rfl rfl rfl rfl (jB HT_.out (by kernel_rfl)) (by decide) (by decide) (fun K hK => ?_) (fun K hK => ?_)
            ·skip
             refine Kd.dK k31 _ 31 ?hg (N := 22) ?hd (xs := ([] : List (S31))) (inner := []) (ok := fun _ => True) (okp := fun _ => True) ?hr ?hp (fun _ hk => hk) trivial (Below.refl _ _) (Nat.le_refl _) (by simp) ?_; (case hd => rfl); (case hg => rfl); (case hr => first | (go_simp; done) | (go_simp; rfl)); (case hp => exact (dx.none _ _))
             intro v121 w61 ho62 hb hg_ hnew_
             clear hg_ hnew_
             (first | rw [← Ny120.out] at ho62 | (simp only [Int.reduceToNat] at ho62; rw [← Ny120.out] at ho62))
             have n0_ := ak.mk (Kd.dD (Kd.dX ho62 (g := gb117) (o := .cells #[.string pG, .int .i64 pI] 31 (0, 0)) (by (with_reducible repeat (first | refine aG ?_ _ | refine aK ?_ | refine aD ?_ _)); exact BK117.out)) (aW (by repeat (first | (with_reducible first | exact HB.out | apply au | apply ah | apply aj | refine ay ?_ GE117.out) | exact HB.out))))
             have n1_ := ak.mk (bD (g := gb117) (o := .cells #[.string pG, .int .i64 pI] 31 (0, 0)) (by (with_reducible repeat (first | refine aG ?_ _ | refine aK ?_ | refine aD ?_ _)); exact BK117.out) hb)
             have n2_ := ak.mk (aX (by repeat (first | (with_reducible first | exact HB.out | apply au | apply ah | apply aj | refine ay ?_ GE117.out) | exact HB.out)) hb)
             clear BK117
             clear HB
             have HO122 := n0_
             have BK117 := n1_
             have HB := n2_
             clear n0_ n1_ n2_
             clear hb ho62
             refine hK.out _ _ ⟨(aM BK117.out 0).trans rfl, (aM BK117.out 1).trans rfl⟩ (fun hHeld => ?_)
             clear hK K
             refine bQ (a' := ?_) ?_ ?_
             rotate_left
             ·show Act.put _ (some 22) _ = _
              simp only [Act.put, List.setIfInBounds_toArray, List.set_cons_zero, List.set_cons_succ, aA, aC]
              rfl
             refine lD (i := 4) (j := 6) (Ni := some 26) (Nj := some 28) #[true, true, true, true, true, true, false, false, true, true, true, false, false] #[true, true, true, true, false, true, true, false, true, true, true, false, false] rfl rfl rfl rfl (jB HT_.out (by kernel_rfl)) (by decide) (by decide) (fun K hK => ?_) (fun K hK => ?_)
             ·skip
              refine Kd.bY k31 (w0 := w) w.heap.size (by rfl) (.tmp 22) (.tmp 25) 27 31 (.agg #[(.string ⟨#[]⟩), (.int .i64 0)]) 24 rfl Try.underlying27 eB rfl (by decide) (by omega) v121 y120 y123 _ _ _ (fun k_ => k_ ≠ gb117) (fun _ => False) rfl rfl ?aO ?aR (fun _ _ h => h) (fun _ h => h.elim) ?aF ?aB ?aS ?aL ?_
              (case aR => repeat (first | exact (Kd.dB HR126.out HB.out) | (with_reducible refine Kd.bK ?_ _) | (with_reducible refine Kd.bL ?_ _) | (with_reducible refine Kd.bW ?_)))
              (case aB => exact (by repeat (first | (with_reducible first | exact HB.out | apply au | apply ah | apply aj | refine ay ?_ GE117.out) | exact HB.out)))
              (case aF => exact (fun k_ hk => Kd.eZ (g := gb117) (o := .cells #[.string pG, .int .i64 pI] 31 (0, 0)) (by (with_reducible repeat (first | refine aG ?_ _ | refine aK ?_ | refine aD ?_ _)); exact BK117.out) k_ hk))
              (case aO => exact (by (with_reducible repeat (first | apply Kd.aT | apply Kd.aU | apply Kd.aY)); exact Kd.bM HO122.out (fun _ hk => hk.2)))
              (case aS => exact (aW (by repeat (first | (with_reducible first | exact HB.out | apply au | apply ah | apply aj | refine ay ?_ GE117.out) | exact HB.out))))
              (case aL => have := LMc16.out; omega)
              intro v128 w63 ho hb hg hat
              rw [← Ny127.out] at ho
              have n0_ := ak.mk (dQ (g := gb117) (o := .cells #[.string pG, .int .i64 pI] 31 (0, 0)) (by (with_reducible repeat (first | refine aG ?_ _ | refine aK ?_ | refine aD ?_ _)); exact BK117.out) hg (Kd.fq HO122.out (fun _ hk => hk.2)))
              have n1_ := ak.mk (hb)
              have n2_ := ak.mk (ho)
              clear BK117
              clear HB
              clear HO122
              have BK117 := n0_
              have HB := n1_
              have HO129 := n2_
              clear n0_ n1_ n2_
              clear ho hb hg hat
              refine hK.out _ _ ⟨(aM BK117.out 0).trans rfl, (aM BK117.out 1).trans rfl⟩ (fun hHeld => ?_)
              clear hK K
              refine bQ (a' := ?_) ?_ ?_
              rotate_left
              ·show Act.put _ (some 26) _ = _
               simp only [Act.put, List.setIfInBounds_toArray, List.set_cons_zero, List.set_cons_succ, aA, aC]
               rfl
              refine dS (i := 6) (N := some 28) #[true, true, true, true, true, true, true, false, true, true, true, false, false] rfl rfl (cK HT_.out (by kernel_rfl)) (by decide) (fun K hK => ?_)
              refine Kd.dK k31 _ 31 ?hg (N := 28) ?hd (xs := ([(⟨pG, pI⟩ : S31)] : List (S31))) (inner := [.string pG, .int .i64 pI]) (ok := fun _ => True) (okp := fun _ => True) ?hr ?hp (fun _ hk => hk) trivial (Below.refl _ _) (Nat.le_refl _) (by simp) ?_; (case hd => rfl); (case hg => rfl); (case hr => first | (go_simp; done) | (go_simp; rfl)); (case hp => exact (dx.c2 (show Kd.M k31 _ _ _ (⟨pG, pI⟩ : S31) [.string pG, .int .i64 pI] from (eD _ _ _ (⟨pG, pI⟩ : S31) )) (dx.none _ _)))
              intro v131 w64 ho65 hb hg_ hnew_
              clear hg_ hnew_
              (first | rw [← Ny130.out] at ho65 | (simp only [Int.reduceToNat] at ho65; rw [← Ny130.out] at ho65))
              have n0_ := ak.mk (Kd.cZ (by (with_reducible repeat (first | apply Kd.aT | apply Kd.aU | apply Kd.aY)); exact HO129.out) (Kd.dM ho65) hb)
              have n1_ := ak.mk (Kd.dD (Kd.dX (Kd.dN ho65 (Kd.dZ (by (with_reducible repeat (first | apply Kd.aT | apply Kd.aU | apply Kd.aY)); exact HO129.out))) (g := gb117) (o := .cells #[.string pG, .int .i64 pI] 31 (0, 0)) (by (with_reducible repeat (first | refine aG ?_ _ | refine aK ?_ | refine aD ?_ _)); exact BK117.out)) (aW (by repeat (first | (with_reducible first | exact HB.out | apply au | apply ah | apply aj | refine ay ?_ GE117.out) | exact HB.out))))
              have n2_ := ak.mk (bD (g := gb117) (o := .cells #[.string pG, .int .i64 pI] 31 (0, 0)) (by (with_reducible repeat (first | refine aG ?_ _ | refine aK ?_ | refine aD ?_ _)); exact BK117.out) hb)
              have n3_ := ak.mk (aX (by repeat (first | (with_reducible first | exact HB.out | apply au | apply ah | apply aj | refine ay ?_ GE117.out) | exact HB.out)) hb)
              clear HO129
              clear BK117
              clear HB
              have HO129 := n0_
              have HO132 := n1_
              have BK117 := n2_
              have HB := n3_
              clear n0_ n1_ n2_ n3_
              clear hb ho65
              refine hK.out _ _ ⟨(aM BK117.out 0).trans rfl, (aM BK117.out 1).trans rfl⟩ (fun hHeld => ?_)
              clear hK K
              refine bQ (a' := ?_) ?_ ?_
              rotate_left
              ·show Act.put _ (some 28) _ = _
               simp only [Act.put, List.setIfInBounds_toArray, List.set_cons_zero, List.set_cons_succ, aA, aC]
               rfl
              exact bQ (by simp only [eO, Act.put, List.setIfInBounds_toArray, List.set_cons_zero, List.set_cons_succ]) (hCont (v121, v128, v131) _ ⟨hHeld, (by (with_reducible repeat (first | apply Kd.aT | apply Kd.aU | apply Kd.aY)); exact Kd.bM HO129.out (fun _ hk => ⟨hk.2, hk.1⟩)), (by (with_reducible repeat (first | apply Kd.aT | apply Kd.aU | apply Kd.aY)); exact Kd.bM HO132.out (fun _ hk => ⟨hk.1.2, hk.2⟩)), (by (with_reducible repeat (first | refine aG ?_ _ | refine aK ?_ | refine aD ?_ _)); exact BK117.out), (by repeat (first | (with_reducible first | exact HB.out | apply au | apply ah | apply aj | refine ay ?_ GE117.out) | exact HB.out))⟩)
             ·skip
              refine Kd.dK k31 _ 31 ?hg (N := 28) ?hd (xs := ([(⟨pG, pI⟩ : S31)] : List (S31))) (inner := [.string pG, .int .i64 pI]) (ok := fun _ => True) (okp := fun _ => True) ?hr ?hp (fun _ hk => hk) trivial (Below.refl _ _) (Nat.le_refl _) (by simp) ?_; (case hd => rfl); (case hg => rfl); (case hr => first | (go_simp; done) | (go_simp; rfl)); (case hp => exact (dx.c2 (show Kd.M k31 _ _ _ (⟨pG, pI⟩ : S31) [.string pG, .int .i64 pI] from (eD _ _ _ (⟨pG, pI⟩ : S31) )) (dx.none _ _)))
              intro v131 w63 ho64 hb hg_ hnew_
              clear hg_ hnew_
              (first | rw [← Ny130.out] at ho64 | (simp only [Int.reduceToNat] at ho64; rw [← Ny130.out] at ho64))
              have n0_ := ak.mk (Kd.cZ (by (with_reducible repeat (first | apply Kd.aT | apply Kd.aU | apply Kd.aY)); exact HO122.out) (Kd.dM ho64) hb)
              have n1_ := ak.mk (Kd.dD (Kd.dX (Kd.dN ho64 (Kd.dZ (by (with_reducible repeat (first | apply Kd.aT | apply Kd.aU | apply Kd.aY)); exact HO122.out))) (g := gb117) (o := .cells #[.string pG, .int .i64 pI] 31 (0, 0)) (by (with_reducible repeat (first | refine aG ?_ _ | refine aK ?_ | refine aD ?_ _)); exact BK117.out)) (aW (by repeat (first | (with_reducible first | exact HB.out | apply au | apply ah | apply aj | refine ay ?_ GE117.out) | exact HB.out))))
              have n2_ := ak.mk (bD (g := gb117) (o := .cells #[.string pG, .int .i64 pI] 31 (0, 0)) (by (with_reducible repeat (first | refine aG ?_ _ | refine aK ?_ | refine aD ?_ _)); exact BK117.out) hb)
              have n3_ := ak.mk (aX (by repeat (first | (with_reducible first | exact HB.out | apply au | apply ah | apply aj | refine ay ?_ GE117.out) | exact HB.out)) hb)
              clear HO122
              clear BK117
              clear HB
              have HO122 := n0_
              have HO132 := n1_
              have BK117 := n2_
              have HB := n3_
              clear n0_ n1_ n2_ n3_
              clear hb ho64
              refine hK.out _ _ ⟨(aM BK117.out 0).trans rfl, (aM BK117.out 1).trans rfl⟩ (fun hHeld => ?_)
              clear hK K
              refine bQ (a' := ?_) ?_ ?_
              rotate_left
              ·show Act.put _ (some 28) _ = _
               simp only [Act.put, List.setIfInBounds_toArray, List.set_cons_zero, List.set_cons_succ, aA, aC]
               rfl
              refine dS (i := 4) (N := some 26) #[true, true, true, true, true, true, true, false, true, true, true, false, false] rfl rfl (cK HT_.out (by kernel_rfl)) (by decide) (fun K hK => ?_)
              refine Kd.bY k31 (w0 := w) w.heap.size (by rfl) (.tmp 22) (.tmp 25) 27 31 (.agg #[(.string ⟨#[]⟩), (.int .i64 0)]) 24 rfl Try.underlying27 eB rfl (by decide) (by omega) v121 y120 y123 _ _ _ (fun k_ => some k_ ≠ (v131 : Value).ownBlock ∧ k_ ≠ gb117) (fun _ => False) rfl rfl ?aO ?aR (fun _ _ h => h) (fun _ h => h.elim) ?aF ?aB ?aS ?aL ?_
              (case aR => repeat (first | exact (Kd.dB HR126.out HB.out) | (with_reducible refine Kd.bK ?_ _) | (with_reducible refine Kd.bL ?_ _) | (with_reducible refine Kd.bW ?_)))
              (case aB => exact (by repeat (first | (with_reducible first | exact HB.out | apply au | apply ah | apply aj | refine ay ?_ GE117.out) | exact HB.out)))
              (case aF => exact (fun k_ hk => ⟨Kd.fresh' (Kd.dZ (by (with_reducible repeat (first | apply Kd.aT | apply Kd.aU | apply Kd.aY)); exact HO132.out)) k_ hk, Kd.eZ (g := gb117) (o := .cells #[.string pG, .int .i64 pI] 31 (0, 0)) (by (with_reducible repeat (first | refine aG ?_ _ | refine aK ?_ | refine aD ?_ _)); exact BK117.out) k_ hk⟩))
              (case aO => exact (by (with_reducible repeat (first | apply Kd.aT | apply Kd.aU | apply Kd.aY)); exact Kd.bM HO122.out (fun _ hk => ⟨hk.2, hk.1.2⟩)))
              (case aS => exact (aW (by repeat (first | (with_reducible first | exact HB.out | apply au | apply ah | apply aj | refine ay ?_ GE117.out) | exact HB.out))))
              (case aL => have := LMc16.out; omega)
              intro v128 w65 ho hb hg hat
              rw [← Ny127.out] at ho
              have n0_ := ak.mk (dQ (g := gb117) (o := .cells #[.string pG, .int .i64 pI] 31 (0, 0)) (by (with_reducible repeat (first | refine aG ?_ _ | refine aK ?_ | refine aD ?_ _)); exact BK117.out) hg (Kd.fq HO122.out (fun _ hk => hk.1.2)))
              have n1_ := ak.mk (Kd.eF (ok := (fun k_ => k_ ≠ gb117)) (by (with_reducible repeat (first | apply Kd.aT | apply Kd.aU | apply Kd.aY)); exact Kd.bM HO132.out (fun _ hk => ⟨hk.2, hk.1.2⟩)) hg hat)
              have n2_ := ak.mk (hb)
              have n3_ := ak.mk (ho)
              clear BK117
              clear HO132
              clear HB
              clear HO122
              have BK117 := n0_
              have HO132 := n1_
              have HB := n2_
              have HO129 := n3_
              clear n0_ n1_ n2_ n3_
              clear ho hb hg hat
              refine hK.out _ _ ⟨(aM BK117.out 0).trans rfl, (aM BK117.out 1).trans rfl⟩ (fun hHeld => ?_)
              clear hK K
              refine bQ (a' := ?_) ?_ ?_
              rotate_left
              ·show Act.put _ (some 26) _ = _
               simp only [Act.put, List.setIfInBounds_toArray, List.set_cons_zero, List.set_cons_succ, aA, aC]
               rfl
              exact bQ (by simp only [eO, Act.put, List.setIfInBounds_toArray, List.set_cons_zero, List.set_cons_succ]) (hCont (v121, v128, v131) _ ⟨hHeld, (by (with_reducible repeat (first | apply Kd.aT | apply Kd.aU | apply Kd.aY)); exact HO129.out), (by (with_reducible repeat (first | apply Kd.aT | apply Kd.aU | apply Kd.aY)); exact Kd.bM HO132.out (fun _ hk => ⟨hk.2, hk.1⟩)), (by (with_reducible repeat (first | refine aG ?_ _ | refine aK ?_ | refine aD ?_ _)); exact BK117.out), (by repeat (first | (with_reducible first | exact HB.out | apply au | apply ah | apply aj | refine ay ?_ GE117.out) | exact HB.out))⟩)
            ·skip
             refine Kd.dK k31 _ 31 ?hg (N := 28) ?hd (xs := ([(⟨pG, pI⟩ : S31)] : List (S31))) (inner := [.string pG, .int .i64 pI]) (ok := fun _ => True) (okp := fun _ => True) ?hr ?hp (fun _ hk => hk) trivial (Below.refl _ _) (Nat.le_refl _) (by simp) ?_; (case hd => rfl); (case hg => rfl); (case hr => first | (go_simp; done) | (go_simp; rfl)); (case hp => exact (dx.c2 (show Kd.M k31 _ _ _ (⟨pG, pI⟩ : S31) [.string pG, .int .i64 pI] from (eD _ _ _ (⟨pG, pI⟩ : S31) )) (dx.none _ _)))
             intro v131 w61 ho62 hb hg_ hnew_
             clear hg_ hnew_
             (first | rw [← Ny130.out] at ho62 | (simp only [Int.reduceToNat] at ho62; rw [← Ny130.out] at ho62))
             have n0_ := ak.mk (Kd.dD (Kd.dX ho62 (g := gb117) (o := .cells #[.string pG, .int .i64 pI] 31 (0, 0)) (by (with_reducible repeat (first | refine aG ?_ _ | refine aK ?_ | refine aD ?_ _)); exact BK117.out)) (aW (by repeat (first | (with_reducible first | exact HB.out | apply au | apply ah | apply aj | refine ay ?_ GE117.out) | exact HB.out))))
             have n1_ := ak.mk (bD (g := gb117) (o := .cells #[.string pG, .int .i64 pI] 31 (0, 0)) (by (with_reducible repeat (first | refine aG ?_ _ | refine aK ?_ | refine aD ?_ _)); exact BK117.out) hb)
             have n2_ := ak.mk (aX (by repeat (first | (with_reducible first | exact HB.out | apply au | apply ah | apply aj | refine ay ?_ GE117.out) | exact HB.out)) hb)
             clear BK117
             clear HB
             have HO132 := n0_
             have BK117 := n1_
             have HB := n2_
             clear n0_ n1_ n2_
             clear hb ho62
             refine hK.out _ _ ⟨(aM BK117.out 0).trans rfl, (aM BK117.out 1).trans rfl⟩ (fun hHeld => ?_)
             clear hK K
             refine bQ (a' := ?_) ?_ ?_
             rotate_left
             ·show Act.put _ (some 28) _ = _
              simp only [Act.put, List.setIfInBounds_toArray, List.set_cons_zero, List.set_cons_succ, aA, aC]
              rfl
             refine dS (i := 0) (N := some 22) #[true, true, true, true, false, true, true, false, true, true, true, false, false] rfl rfl (cK HT_.out (by kernel_rfl)) (by decide) (fun K hK => ?_)
             refine Kd.dK k31 _ 31 ?hg (N := 22) ?hd (xs := ([] : List (S31))) (inner := []) (ok := fun _ => True) (okp := fun _ => True) ?hr ?hp (fun _ hk => hk) trivial (Below.refl _ _) (Nat.le_refl _) (by simp) ?_; (case hd => rfl); (case hg => rfl); (case hr => first | (go_simp; done) | (go_simp; rfl)); (case hp => exact (dx.none _ _))
             intro v121 w63 ho64 hb hg_ hnew_
             clear hg_ hnew_
             (first | rw [← Ny120.out] at ho64 | (simp only [Int.reduceToNat] at ho64; rw [← Ny120.out] at ho64))
             have n0_ := ak.mk (Kd.cZ (by (with_reducible repeat (first | apply Kd.aT | apply Kd.aU | apply Kd.aY)); exact HO132.out) (Kd.dM ho64) hb)
             have n1_ := ak.mk (Kd.dD (Kd.dX (Kd.dN ho64 (Kd.dZ (by (with_reducible repeat (first | apply Kd.aT | apply Kd.aU | apply Kd.aY)); exact HO132.out))) (g := gb117) (o := .cells #[.string pG, .int .i64 pI] 31 (0, 0)) (by (with_reducible repeat (first | refine aG ?_ _ | refine aK ?_ | refine aD ?_ _)); exact BK117.out)) (aW (by repeat (first | (with_reducible first | exact HB.out | apply au | apply ah | apply aj | refine ay ?_ GE117.out) | exact HB.out))))
             have n2_ := ak.mk (bD (g := gb117) (o := .cells #[.string pG, .int .i64 pI] 31 (0, 0)) (by (with_reducible repeat (first | refine aG ?_ _ | refine aK ?_ | refine aD ?_ _)); exact BK117.out) hb)
             have n3_ := ak.mk (aX (by repeat (first | (with_reducible first | exact HB.out | apply au | apply ah | apply aj | refine ay ?_ GE117.out) | exact HB.out)) hb)
             clear HO132
             clear BK117
             clear HB
             have HO132 := n0_
             have HO122 := n1_
             have BK117 := n2_
             have HB := n3_
             clear n0_ n1_ n2_ n3_
             clear hb ho64
             refine hK.out _ _ ⟨(aM BK117.out 0).trans rfl, (aM BK117.out 1).trans rfl⟩ (fun hHeld => ?_)
             clear hK K
             refine bQ (a' := ?_) ?_ ?_
             rotate_left
             ·show Act.put _ (some 22) _ = _
              simp only [Act.put, List.setIfInBounds_toArray, List.set_cons_zero, List.set_cons_succ, aA, aC]
              rfl
             refine dS (i := 4) (N := some 26) #[true, true, true, true, true, true, true, false, true, true, true, false, false] rfl rfl (cK HT_.out (by kernel_rfl)) (by decide) (fun K hK => ?_)
             refine Kd.bY k31 (w0 := w) w.heap.size (by rfl) (.tmp 22) (.tmp 25) 27 31 (.agg #[(.string ⟨#[]⟩), (.int .i64 0)]) 24 rfl Try.underlying27 eB rfl (by decide) (by omega) v121 y120 y123 _ _ _ (fun k_ => some k_ ≠ (v131 : Value).ownBlock ∧ k_ ≠ gb117) (fun _ => False) rfl rfl ?aO ?aR (fun _ _ h => h) (fun _ h => h.elim) ?aF ?aB ?aS ?aL ?_
             (case aR => repeat (first | exact (Kd.dB HR126.out HB.out) | (with_reducible refine Kd.bK ?_ _) | (with_reducible refine Kd.bL ?_ _) | (with_reducible refine Kd.bW ?_)))
             (case aB => exact (by repeat (first | (with_reducible first | exact HB.out | apply au | apply ah | apply aj | refine ay ?_ GE117.out) | exact HB.out)))
             (case aF => exact (fun k_ hk => ⟨Kd.fresh' (Kd.dZ (by (with_reducible repeat (first | apply Kd.aT | apply Kd.aU | apply Kd.aY)); exact HO132.out)) k_ hk, Kd.eZ (g := gb117) (o := .cells #[.string pG, .int .i64 pI] 31 (0, 0)) (by (with_reducible repeat (first | refine aG ?_ _ | refine aK ?_ | refine aD ?_ _)); exact BK117.out) k_ hk⟩))
             (case aO => exact (by (with_reducible repeat (first | apply Kd.aT | apply Kd.aU | apply Kd.aY)); exact Kd.bM HO122.out (fun _ hk => ⟨hk.1.2, hk.2⟩)))
             (case aS => exact (aW (by repeat (first | (with_reducible first | exact HB.out | apply au | apply ah | apply aj | refine ay ?_ GE117.out) | exact HB.out))))
             (case aL => have := LMc16.out; omega)
             intro v128 w65 ho hb hg hat
             rw [← Ny127.out] at ho
             have n0_ := ak.mk (dQ (g := gb117) (o := .cells #[.string pG, .int .i64 pI] 31 (0, 0)) (by (with_reducible repeat (first | refine aG ?_ _ | refine aK ?_ | refine aD ?_ _)); exact BK117.out) hg (Kd.fq HO122.out (fun _ hk => hk.2)))
             have n1_ := ak.mk (Kd.eF (ok := (fun k_ => k_ ≠ gb117)) (by (with_reducible repeat (first | apply Kd.aT | apply Kd.aU | apply Kd.aY)); exact Kd.bM HO132.out (fun _ hk => ⟨hk.1.2, hk.2⟩)) hg hat)
             have n2_ := ak.mk (hb)
             have n3_ := ak.mk (ho)
             clear BK117
             clear HO132
             clear HB
             clear HO122
             have BK117 := n0_
             have HO132 := n1_
             have HB := n2_
             have HO129 := n3_
             clear n0_ n1_ n2_ n3_
             clear ho hb hg hat
             refine hK.out _ _ ⟨(aM BK117.out 0).trans rfl, (aM BK117.out 1).trans rfl⟩ (fun hHeld => ?_)
             clear hK K
             refine bQ (a' := ?_) ?_ ?_
             rotate_left
             ·show Act.put _ (some 26) _ = _
              simp only [Act.put, List.setIfInBounds_toArray, List.set_cons_zero, List.set_cons_succ, aA, aC]
              rfl
             exact bQ (by simp only [eO, Act.put, List.setIfInBounds_toArray, List.set_cons_zero, List.set_cons_succ]) (hCont (v121, v128, v131) _ ⟨hHeld, (by (with_reducible repeat (first | apply Kd.aT | apply Kd.aU | apply Kd.aY)); exact HO129.out), (by (with_reducible repeat (first | apply Kd.aT | apply Kd.aU | apply Kd.aY)); exact Kd.bM HO132.out (fun _ hk => ⟨hk.2, hk.1⟩)), (by (with_reducible repeat (first | refine aG ?_ _ | refine aK ?_ | refine aD ?_ _)); exact BK117.out), (by repeat (first | (with_reducible first | exact HB.out | apply au | apply ah | apply aj | refine ay ?_ GE117.out) | exact HB.out))⟩)
           rintro ⟨v121, v128, v131⟩ w66 ⟨hS_, h0_, h1_, h2_, h3_⟩
           have n0_ : ak (Kd.R k31 31 w66 w.heap.size (fun k_ => some k_ ≠ (v131 : Value).ownBlock ∧ k_ ≠ gb117) v128 y127) := ⟨h0_⟩
           have n1_ : ak (Kd.R k31 31 w66 w.heap.size (fun k_ => some k_ ≠ (v128 : Value).ownBlock ∧ k_ ≠ gb117) v131 y130) := ⟨h1_⟩
           have n2_ : ak (w66.heap[gb117]? = some (.cells #[.string pG, .int .i64 pI] 31 (0, 0))) := ⟨h2_⟩
           have n3_ : ak (Below w.heap.size w w66) := ⟨h3_⟩
           clear BK117
           clear HB
           clear h0_ h1_ h2_ h3_
           have HO129 := n0_
           have HO132 := n1_
           have BK117 := n2_
           have HB := n3_
           clear n0_ n1_ n2_ n3_
           have hHeld : w66.cell? ⟨gb117, 0, none⟩ = some (.string pG) ∧ w66.cell? ⟨gb117, 1, none⟩ = some (.int .i64 pI) := hS_
           obtain ⟨Ao68, co68, eo68⟩ := Kd.dJ HO132.out
           (first | subst eo68 | (injection eo68 with f1_ f2_ f3_; have f4_ := f1_.symm; have f5_ := f3_.symm; clear f1_ f2_ f3_; subst f4_; subst f5_))
           refine bQ (a' := ?_) ?_ ?_
           rotate_left
           ·simp only [eO, Act.put, List.setIfInBounds_toArray, List.set_cons_zero, List.set_cons_succ]
            rfl
           refine dS (i := 7) (N := some 29) #[true, true, true, true, true, true, true, true, true, true, true, false, false] rfl rfl (cK HT_.out (by kernel_rfl)) (by decide) (fun K hK => ?_)
           refine Kd.bY k31 (w0 := w) w.heap.size (by rfl) (.tmp 26) (.tmp 28) 27 31 (.agg #[(.string ⟨#[]⟩), (.int .i64 0)]) 24 rfl Try.underlying27 eB rfl (by decide) (by omega) v128 y127 y130 _ _ _ (fun k_ => some k_ ≠ (.slice Ao68 y130.length co68 : Value).ownBlock ∧ k_ ≠ gb117) (fun _ => False) rfl rfl ?aO ?aR (fun _ _ h => h) (fun _ h => h.elim) ?aF ?aB ?aS ?aL ?_
           (case aR => repeat (first | exact (Kd.bF HO132.out).2.2 | (with_reducible refine Kd.bK ?_ _) | (with_reducible refine Kd.bL ?_ _) | (with_reducible refine Kd.bW ?_)))
           (case aB => exact (by repeat (first | (with_reducible first | exact HB.out | apply au | apply ah | apply aj | refine ay ?_ GE117.out) | exact HB.out)))
           (case aF => exact (fun k_ hk => ⟨Kd.fresh' (Kd.dZ (by (with_reducible repeat (first | apply Kd.aT | apply Kd.aU | apply Kd.aY)); exact HO132.out)) k_ hk, Kd.eZ (g := gb117) (o := .cells #[.string pG, .int .i64 pI] 31 (0, 0)) (by (with_reducible repeat (first | refine aG ?_ _ | refine aK ?_ | refine aD ?_ _)); exact BK117.out) k_ hk⟩))
           (case aO => exact (by (with_reducible repeat (first | apply Kd.aT | apply Kd.aU | apply Kd.aY)); exact HO129.out))
           (case aS => exact (aW (by repeat (first | (with_reducible first | exact HB.out | apply au | apply ah | apply aj | refine ay ?_ GE117.out) | exact HB.out))))
           (case aL => have := LMc17.out; omega)
           intro v134 w67 ho hb hg hat
           rw [← Ny133.out] at ho
           have n0_ := ak.mk (dQ (g := gb117) (o := .cells #[.string pG, .int .i64 pI] 31 (0, 0)) (by (with_reducible repeat (first | refine aG ?_ _ | refine aK ?_ | refine aD ?_ _)); exact BK117.out) hg (Kd.fq HO129.out (fun _ hk => hk.2)))
           have n1_ := ak.mk (Kd.eF (ok := (fun k_ => k_ ≠ gb117)) (by (with_reducible repeat (first | apply Kd.aT | apply Kd.aU | apply Kd.aY)); exact Kd.bM HO132.out (fun _ hk => ⟨hk.2, hk.1⟩)) hg hat)
           have n2_ := ak.mk (hb)
           have n3_ := ak.mk (ho)
           clear BK117
           clear HO132
           clear HB
           clear HO129
           have BK117 := n0_
           have HO132 := n1_
           have HB := n2_
           have HO135 := n3_
           clear n0_ n1_ n2_ n3_
           clear ho hb hg hat
           refine hK.out _ _ ⟨(aM BK117.out 0).trans rfl, (aM BK117.out 1).trans rfl⟩ (fun hHeld => ?_)
           clear hK K
           refine bQ (a' := ?_) ?_ ?_
           rotate_left
           ·show Act.put _ (some 29) _ = _
            simp only [Act.put, List.setIfInBounds_toArray, List.set_cons_zero, List.set_cons_succ, aA, aC]
            rfl
           refine dS (i := 11) (N := some 33) #[true, true, true, true, true, true, true, true, true, true, true, true, false] rfl rfl (cK HT_.out (by kernel_rfl)) (by decide) (fun K hK => ?_)
           refine Kd.bY k31 (w0 := w) w.heap.size (by rfl) (.tmp 29) (.tmp 32) 27 31 (.agg #[(.string ⟨#[]⟩), (.int .i64 0)]) 24 rfl Try.underlying27 eB rfl (by decide) (by omega) v134 y133 y136 _ _ _ (fun k_ => some k_ ≠ (.slice Ao68 y130.length co68 : Value).ownBlock ∧ k_ ≠ gb117) (fun _ => False) rfl rfl ?aO ?aR (fun _ _ h => h) (fun _ h => h.elim) ?aF ?aB ?aS ?aL ?_
           (case aR => repeat (first | exact (Kd.dB HR139.out HB.out) | (with_reducible refine Kd.bK ?_ _) | (with_reducible refine Kd.bL ?_ _) | (with_reducible refine Kd.bW ?_)))
           (case aB => exact (by repeat (first | (with_reducible first | exact HB.out | apply au | apply ah | apply aj | refine ay ?_ GE117.out) | exact HB.out)))
           (case aF => exact (fun k_ hk => ⟨Kd.fresh' (Kd.dZ (by (with_reducible repeat (first | apply Kd.aT | apply Kd.aU | apply Kd.aY)); exact HO132.out)) k_ hk, Kd.eZ (g := gb117) (o := .cells #[.string pG, .int .i64 pI] 31 (0, 0)) (by (with_reducible repeat (first | refine aG ?_ _ | refine aK ?_ | refine aD ?_ _)); exact BK117.out) k_ hk⟩))
           (case aO => exact (by (with_reducible repeat (first | apply Kd.aT | apply Kd.aU | apply Kd.aY)); exact HO135.out))
           (case aS => exact (aW (by repeat (first | (with_reducible first | exact HB.out | apply au | apply ah | apply aj | refine ay ?_ GE117.out) | exact HB.out))))
           (case aL => have := LMc20.out; omega)
           intro v141 w69 ho hb hg hat
           rw [← Ny140.out] at ho
           have n0_ := ak.mk (dQ (g := gb117) (o := .cells #[.string pG, .int .i64 pI] 31 (0, 0)) (by (with_reducible repeat (first | refine aG ?_ _ | refine aK ?_ | refine aD ?_ _)); exact BK117.out) hg (Kd.fq HO135.out (fun _ hk => hk.2)))
           have n1_ := ak.mk (Kd.eF (ok := (fun k_ => k_ ≠ gb117)) (by (with_reducible repeat (first | apply Kd.aT | apply Kd.aU | apply Kd.aY)); exact HO132.out) hg hat)
           have n2_ := ak.mk (hb)
           have n3_ := ak.mk (ho)
           clear BK117
           clear HO132
           clear HB
           clear HO135
           have BK117 := n0_
           have HO132 := n1_
           have HB := n2_
           have HO142 := n3_
           clear n0_ n1_ n2_ n3_
           clear ho hb hg hat
           refine hK.out _ _ ⟨(aM BK117.out 0).trans rfl, (aM BK117.out 1).trans rfl⟩ (fun hHeld => ?_)
           clear hK K
           refine bQ (a' := ?_) ?_ ?_
           rotate_left
           ·show Act.put _ (some 33) _ = _
            simp only [Act.put, List.setIfInBounds_toArray, List.set_cons_zero, List.set_cons_succ, aA, aC]
            rfl
           refine aP (i := 12) (N := some 7) (v := ?_) (a' := ?_) #[true, true, true, true, true, true, true, true, true, true, true, true, true] rfl rfl (aH HT_.out (by kernel_rfl)) (fun _ _ _ h => h) (Or.inl ⟨by rfl, ?_⟩) ?_ ?_
           rotate_left
           ·intro w'
            go_simp
            with_reducible rfl
           rotate_left
           ·simp only [Act.put, List.setIfInBounds_toArray, List.set_cons_zero, List.set_cons_succ, aA, aC]
            rfl
           refine eG (dO HT_.out (by kernel_rfl)) ?_
           have hcz70_0 : w69.cell? ⟨gb117, 0, none⟩ = some (.string pG) := (aM BK117.out 0).trans rfl
           have hcz70_1 : w69.cell? ⟨gb117, 1, none⟩ = some (.int .i64 pI) := (aM BK117.out 1).trans rfl
           have hfz70_0 := bB BK117.out 0
           have hfz70_1 := bB BK117.out 1
           try go_wp2_with (first | ((with_reducible refine bG (f := 52) rfl ?_); refine dz (some 39) rfl rfl Try.func52 (by kernel_rfl) rfl #[.slice A0 l0.length c0, .string pG, .int .i64 pI] rfl (by (try simp only [List.map_toArray, List.map_cons, List.map_nil]); first | done | rfl | (simp only [List.length_drop, List.length_take]; rfl)) ?_; (with_reducible refine (bP.calls kj2 _ _ l0 pG pI false _ ?side1 ?side2 A21.out).mono ?_); (case side1 => repeat (first | exact (Kd.dB HR0.out HB.out) | (with_reducible refine Kd.bK ?_ _) | (with_reducible refine Kd.bL ?_ _) | (with_reducible refine Kd.bW ?_))); (case side2 => exact HC0.out); rintro e w' ⟨rfl, ⟨nd, rfl⟩⟩; refine ⟨_, rfl, ?_⟩; obtain ⟨Ao71, co71, eo71⟩ := Kd.dJ HO142.out; subst eo71) | (go_at_call 53; (with_reducible refine (aZ.calls kj2 _ _ y140 false _ ?side1 ?side2 A40.out).mono ?_); (case side1 => repeat (first | exact (Kd.bF HO142.out).2.2 | (with_reducible refine Kd.bK ?_ _) | (with_reducible refine Kd.bL ?_ _) | (with_reducible refine Kd.bW ?_))); (case side2 => exact (Kd.bF HO142.out).2.1); rintro e w72 ⟨rfl, hb⟩; have n0_ := ak.mk (Kd.bO (by (with_reducible repeat (first | apply Kd.aT | apply Kd.aU | apply Kd.aY)); exact HO132.out) hb); have n1_ := ak.mk (Kd.bO (by (with_reducible repeat (first | apply Kd.aT | apply Kd.aU | apply Kd.aY)); exact HO142.out) hb); have n2_ := ak.mk (bD (g := gb117) (o := .cells #[.string pG, .int .i64 pI] 31 (0, 0)) (by (with_reducible repeat (first | refine aG ?_ _ | refine aK ?_ | refine aD ?_ _)); exact BK117.out) hb); have n3_ := ak.mk (aX (by repeat (first | (with_reducible first | exact HB.out | apply au | apply ah | apply aj | refine ay ?_ GE117.out) | exact HB.out)) hb); clear HO132; clear HO142; clear BK117; clear HB; have HO132 := n0_; have HO142 := n1_; have BK117 := n2_; have HB := n3_; clear n0_ n1_ n2_ n3_; (try clear hb); (try clear hb2); (try clear hk); (try clear hi)) | ((with_reducible refine bX (N := 45) rfl ?_); refine Kd.mM k31 _ 31 ?hg (N := 45) ?hd (xs := ([] : List (S31))) (inner := []) (ok := fun _ => True) (okp := fun _ => True) ?hr ?hp (fun _ hk => hk) trivial (Below.refl _ _) (Nat.le_refl _) (by simp) ?_; (case hd => rfl); (case hg => rfl); (case hr => first | (go_simp; done) | (go_simp; rfl)); (case hp => exact (dx.none _ _)); intro v152 w73 ho74 hb hg_ hnew_; clear hg_ hnew_; (first | rw [← Ny151.out] at ho74 | (simp only [Int.reduceToNat] at ho74; rw [← Ny151.out] at ho74)); have n0_ := ak.mk (Kd.cZ (by (with_reducible repeat (first | apply Kd.aT | apply Kd.aU | apply Kd.aY)); exact HO132.out) (Kd.dM ho74) hb); have n1_ := ak.mk (Kd.cZ (by (with_reducible repeat (first | apply Kd.aT | apply Kd.aU | apply Kd.aY)); exact HO142.out) (Kd.dM ho74) hb); have n2_ := ak.mk (Kd.dD (Kd.dX (Kd.dN (Kd.dN ho74 (Kd.dZ (by (with_reducible repeat (first | apply Kd.aT | apply Kd.aU | apply Kd.aY)); exact HO132.out))) (Kd.dZ (by (with_reducible repeat (first | apply Kd.aT | apply Kd.aU | apply Kd.aY)); exact HO142.out))) (g := gb117) (o := .cells #[.string pG, .int .i64 pI] 31 (0, 0)) (by (with_reducible repeat (first | refine aG ?_ _ | refine aK ?_ | refine aD ?_ _)); exact BK117.out)) (aW (by repeat (first | (with_reducible first | exact HB.out | apply au | apply ah | apply aj | refine ay ?_ GE117.out) | exact HB.out)))); have n3_ := ak.mk (bD (g := gb117) (o := .cells #[.string pG, .int .i64 pI] 31 (0, 0)) (by (with_reducible repeat (first | refine aG ?_ _ | refine aK ?_ | refine aD ?_ _)); exact BK117.out) hb); have n4_ := ak.mk (aX (by repeat (first | (with_reducible first | exact HB.out | apply au | apply ah | apply aj | refine ay ?_ GE117.out) | exact HB.out)) hb); clear HO132; clear HO142; clear BK117; clear HB; have HO132 := n0_; have HO142 := n1_; have HO153 := n2_; have BK117 := n3_; have HB := n4_; clear n0_ n1_ n2_ n3_ n4_; clear hb ho74) | ((with_reducible refine jo (b := .append) (xs := #[.tmp 45, .tmp 46]) rfl ?_); at_builtin; refine Kd.jc k31 (w0 := w) w.heap.size rfl (.tmp 45) (.tmp 46) 27 31 (.agg #[(.string ⟨#[]⟩), (.int .i64 0)]) 24 rfl Try.underlying27 eB rfl (by decide) (by omega) v152 y151 l0 _ _ _ (fun k_ => some k_ ≠ (.slice Ao68 y130.length co68 : Value).ownBlock ∧ some k_ ≠ (.slice Ao71 y140.length co71 : Value).ownBlock ∧ k_ ≠ gb117) (fun _ => False) rfl rfl ?aO ?aR (fun _ _ h => h) (fun _ h => h.elim) ?aF ?aB ?aS ?aL ?_; (case aR => repeat (first | exact (Kd.dB HR0.out HB.out) | (with_reducible refine Kd.bK ?_ _) | (with_reducible refine Kd.bL ?_ _) | (with_reducible refine Kd.bW ?_))); (case aB => exact (by repeat (first | (with_reducible first | exact HB.out | apply au | apply ah | apply aj | refine ay ?_ GE117.out) | exact HB.out))); (case aF => exact (fun k_ hk => ⟨Kd.fresh' (Kd.dZ (by (with_reducible repeat (first | apply Kd.aT | apply Kd.aU | apply Kd.aY)); exact HO132.out)) k_ hk, Kd.fresh' (Kd.dZ (by (with_reducible repeat (first | apply Kd.aT | apply Kd.aU | apply Kd.aY)); exact HO142.out)) k_ hk, Kd.eZ (g := gb117) (o := .cells #[.string pG, .int .i64 pI] 31 (0, 0)) (by (with_reducible repeat (first | refine aG ?_ _ | refine aK ?_ | refine aD ?_ _)); exact BK117.out) k_ hk⟩)); (case aO => exact (by (with_reducible repeat (first | apply Kd.aT | apply Kd.aU | apply Kd.aY)); exact Kd.bM HO153.out (fun _ hk => ⟨hk.1.1.2, ⟨hk.1.2, hk.2⟩⟩))); (case aS => exact (aW (by repeat (first | (with_reducible first | exact HB.out | apply au | apply ah | apply aj | refine ay ?_ GE117.out) | exact HB.out)))); (case aL => have := LMc57.out; omega); intro v155 w75 ho hb hg hat; rw [← Ny154.out] at ho; have n0_ := ak.mk (dQ (g := gb117) (o := .cells #[.string pG, .int .i64 pI] 31 (0, 0)) (by (with_reducible repeat (first | refine aG ?_ _ | refine aK ?_ | refine aD ?_ _)); exact BK117.out) hg (Kd.fq HO153.out (fun _ hk => hk.2))); have n1_ := ak.mk (Kd.eF (ok := (fun k_ => some k_ ≠ (.slice Ao71 y140.length co71 : Value).ownBlock ∧ k_ ≠ gb117)) (by (with_reducible repeat (first | apply Kd.aT | apply Kd.aU | apply Kd.aY)); exact Kd.bM HO132.out (fun _ hk => ⟨⟨hk.1.2, hk.1.1⟩, hk.2⟩)) hg hat); have n2_ := ak.mk (Kd.eF (ok := (fun k_ => some k_ ≠ (.slice Ao68 y130.length co68 : Value).ownBlock ∧ k_ ≠ gb117)) (by (with_reducible repeat (first | apply Kd.aT | apply Kd.aU | apply Kd.aY)); exact HO142.out) hg hat); have n3_ := ak.mk (hb); have n4_ := ak.mk (ho); clear BK117; clear HO132; clear HO142; clear HB; clear HO153; have BK117 := n0_; have HO132 := n1_; have HO142 := n2_; have HB := n3_; have HO156 := n4_; clear n0_ n1_ n2_ n3_ n4_; clear ho hb hg hat))
           go_ret2
           exact ⟨_, by first | rfl | (simp [bn, bq] <;> rfl) | (simp [*, bn, bq] <;> rfl), by (with_reducible repeat (first | apply Kd.aT | apply Kd.aU | apply Kd.aY)); exact Kd.bM HO156.out (fun _ hk => trivial), by repeat (first | (with_reducible first | exact HB.out | apply au | apply ah | apply aj | refine ay ?_ GE117.out) | exact HB.out)⟩
          ·rw [if_neg c57] at H
           exact absurd H (by simp)
       ·rw [if_neg c20] at H
        exact absurd H (by simp)
      ·rw [if_neg c17] at H
       exact absurd H (by simp)
     ·rw [if_neg c16] at H
      exact absurd H (by simp)
    ·rw [if_neg c15] at H
     exact absurd H (by simp)
   ·rw [if_neg c14] at H
    exact absurd H (by simp)
end Go.Proofs.Ythjcicmmbmagbaa.PFnExactAddMeaning
