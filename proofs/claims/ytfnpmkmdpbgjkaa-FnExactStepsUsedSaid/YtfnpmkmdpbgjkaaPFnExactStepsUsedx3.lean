/- Functions of the program as plain Lean functions, and that the Go code comes to what they say; this text was laid out by a program and then mended. -/
import Derived.Test.YtfnpmkmdpbgjkaaPFnExactStepsUsedx0
import Derived.Test.YtfnpmkmdpbgjkaaPFnExactStepsUsedx2
namespace Go.Proofs.Ytfnpmkmdpbgjkaa.PFnExactStepsUsed
open Go.RowKit Go.Proofs.YtfnpmkmdpbgjkaaW.PrintWords Go.Proofs.YtfnpmkmdpbgjkaaW.PrintLast Go.Proofs.YtfnpmkmdpbgjkaaW.PrintMore
attribute [local go_sem] max2_int min2_int max_two min_two max_three min_three max_four min_four   -- for this text's walks alone
set_option linter.unusedVariables false
set_option linter.unusedSimpArgs false

/-! ### spec_l15Ok: function 97 -/
mutual
def spec_l15Ok.j0 : Nat → List (S88) → Int → Bool → Int → ByteArray → Int → Int → Option (Bool)
  | 0, _, _, _, _, _, _, _ => none
  | k + 1, x0, x1, x33, x128000, x128001, x128002, x128003 => if x33 = true then (some false) else (if x128000 = 4 then (spec_l15Ok.j1 k x0 x1 true x128000 x128001 x128002 x128003) else (spec_l15Ok.j1 k x0 x1 (x128000 == 5) x128000 x128001 x128002 x128003))
def spec_l15Ok.j1 : Nat → List (S88) → Int → Bool → Int → ByteArray → Int → Int → Option (Bool)
  | 0, _, _, _, _, _, _, _ => none
  | k + 1, x0, x1, x6, x128000, x128001, x128002, x128003 => if x128000 = 1 then (if x128002 = 0 then (some (x128003 == 0)) else (some false)) else ((spec_l1In.f x128002 0 (wrap64 (x1 - 1))).bind fun t130 => (if t130 = true then (if x6 = true then ((spec_l1In.f x128003 0 (wrap64 (x1 - 1))).bind fun t131 => (if t131 = true then (some true) else (some false))) else (if x128003 = 0 then (if x128000 = 2 then (some true) else (if 0 ≤ x128002 then (if x128002 < (x0.length : Int) then (some (((rd_T88 x0 x128002).f0) == 1)) else (none)) else (none))) else (some false))) else (some false)))
end
def spec_l15Ok.f (k : Nat) (l0 : List (S88)) (a1 : Int) : Option (Bool) := if 0 ≤ a1 then (if a1 < (l0.length : Int) then ((spec_l1In.f ((rd_T88 l0 a1).f0) 1 9).bind fun t128 => (if t128 = true then ((spec_IsWord.f k ((rd_T88 l0 a1).f1)).bind fun t129 => (if ((((rd_T88 l0 a1).f0) == 1) != t129) = true then (spec_l15Ok.j0 k l0 a1 true ((rd_T88 l0 a1).f0) ((rd_T88 l0 a1).f1) ((rd_T88 l0 a1).f2) ((rd_T88 l0 a1).f3)) else (if ((rd_T88 l0 a1).f0) = 1 then (spec_l15Ok.j0 k l0 a1 false ((rd_T88 l0 a1).f0) ((rd_T88 l0 a1).f1) ((rd_T88 l0 a1).f2) ((rd_T88 l0 a1).f3)) else (spec_l15Ok.j0 k l0 a1 (((rd_T88 l0 a1).f1).toList != ([] : List UInt8)) ((rd_T88 l0 a1).f0) ((rd_T88 l0 a1).f1) ((rd_T88 l0 a1).f2) ((rd_T88 l0 a1).f3))))) else (spec_l15Ok.j0 k l0 a1 true ((rd_T88 l0 a1).f0) ((rd_T88 l0 a1).f1) ((rd_T88 l0 a1).f2) ((rd_T88 l0 a1).f3)))) else (none)) else (none)
theorem spec_l15Ok.mono_l : ∀ k, (∀ y0 y1 y2 y3 y4 y5 y6, LeO (spec_l15Ok.j0 k y0 y1 y2 y3 y4 y5 y6) (spec_l15Ok.j0 (k + 1) y0 y1 y2 y3 y4 y5 y6)) ∧ (∀ y0 y1 y2 y3 y4 y5 y6, LeO (spec_l15Ok.j1 k y0 y1 y2 y3 y4 y5 y6) (spec_l15Ok.j1 (k + 1) y0 y1 y2 y3 y4 y5 y6))
  | 0 => ⟨fun _ _ _ _ _ _ _ r h => by simp [spec_l15Ok.j0] at h, fun _ _ _ _ _ _ _ r h => by simp [spec_l15Ok.j1] at h⟩
  | k + 1 => by
    obtain ⟨ih0, ih1⟩ := spec_l15Ok.mono_l k
    refine ⟨?_, ?_⟩
    · intro y0 y1 y2 y3 y4 y5 y6
      unfold spec_l15Ok.j0
      repeat' first
      | (with_reducible exact ih0 _ _ _ _ _ _ _)
      | (with_reducible exact ih1 _ _ _ _ _ _ _)
      | (with_reducible exact spec_IsWord.mono _ _)
      | (with_reducible exact LeO.refl _)
      | (with_reducible exact LeO.none _)
      | (with_reducible refine LeO.ite ?_ ?_)
      | (with_reducible refine LeO.bind ?_ (fun _ => ?_))
      | exact ih0 _ _ _ _ _ _ _
      | exact ih1 _ _ _ _ _ _ _
      | exact spec_IsWord.mono _ _
      | exact LeO.none _
      | refine LeO.ite ?_ ?_
      | refine LeO.bind ?_ (fun _ => ?_)
    · intro y0 y1 y2 y3 y4 y5 y6
      unfold spec_l15Ok.j1
      repeat' first
      | (with_reducible exact ih0 _ _ _ _ _ _ _)
      | (with_reducible exact ih1 _ _ _ _ _ _ _)
      | (with_reducible exact spec_IsWord.mono _ _)
      | (with_reducible exact LeO.refl _)
      | (with_reducible exact LeO.none _)
      | (with_reducible refine LeO.ite ?_ ?_)
      | (with_reducible refine LeO.bind ?_ (fun _ => ?_))
      | exact ih0 _ _ _ _ _ _ _
      | exact ih1 _ _ _ _ _ _ _
      | exact spec_IsWord.mono _ _
      | exact LeO.none _
      | refine LeO.ite ?_ ?_
      | refine LeO.bind ?_ (fun _ => ?_)
theorem spec_l15Ok.mono : ∀ a0 a1 k, LeO (spec_l15Ok.f k a0 a1) (spec_l15Ok.f (k + 1) a0 a1) := by
  intro a0 a1 k
  obtain ⟨ih0, ih1⟩ := spec_l15Ok.mono_l k
  unfold spec_l15Ok.f
  repeat' first
      | (with_reducible exact ih0 _ _ _ _ _ _ _)
      | (with_reducible exact ih1 _ _ _ _ _ _ _)
      | (with_reducible exact spec_IsWord.mono _ _)
      | (with_reducible exact LeO.refl _)
      | (with_reducible exact LeO.none _)
      | (with_reducible refine LeO.ite ?_ ?_)
      | (with_reducible refine LeO.bind ?_ (fun _ => ?_))
      | exact ih0 _ _ _ _ _ _ _
      | exact ih1 _ _ _ _ _ _ _
      | exact spec_IsWord.mono _ _
      | exact LeO.none _
      | refine LeO.ite ?_ ?_
      | refine LeO.bind ?_ (fun _ => ?_)
set_option maxHeartbeats 8000000 in
set_option maxRecDepth 100000 in
theorem spec_l15Ok.calls (k : Nat) (A0 : Option Addr) (c0 : Nat) (l0 : List (S88)) (a1 : Int) (r : Bool) (w : World) (hr0 : Kd.C k88 w A0 l0.length l0) (hc0 : l0.length ≤ c0) (h : spec_l15Ok.f k l0 a1 = some r) :
    Calls Try.prog 97 #[.slice A0 l0.length c0, .int .i64 a1] w fun e w' => e = .returned (.bool r) ∧ Below w.heap.size w w' := by
  have hu88 := Try.underlying88
  have HR0 := Aside0.mk hr0
  have HC0 := Aside0.mk hc0
  clear hr0 hc0
  have HB := Aside0.mk (Below.refl w.heap.size w)
  have H : (if 0 ≤ a1 then (if a1 < (l0.length : Int) then ((spec_l1In.f ((rd_T88 l0 a1).f0) 1 9).bind fun t128 => (if t128 = true then ((spec_IsWord.f k ((rd_T88 l0 a1).f1)).bind fun t129 => (if ((((rd_T88 l0 a1).f0) == 1) != t129) = true then (spec_l15Ok.j0 k l0 a1 true ((rd_T88 l0 a1).f0) ((rd_T88 l0 a1).f1) ((rd_T88 l0 a1).f2) ((rd_T88 l0 a1).f3)) else (if ((rd_T88 l0 a1).f0) = 1 then (spec_l15Ok.j0 k l0 a1 false ((rd_T88 l0 a1).f0) ((rd_T88 l0 a1).f1) ((rd_T88 l0 a1).f2) ((rd_T88 l0 a1).f3)) else (spec_l15Ok.j0 k l0 a1 (((rd_T88 l0 a1).f1).toList != ([] : List UInt8)) ((rd_T88 l0 a1).f0) ((rd_T88 l0 a1).f1) ((rd_T88 l0 a1).f2) ((rd_T88 l0 a1).f3))))) else (spec_l15Ok.j0 k l0 a1 true ((rd_T88 l0 a1).f0) ((rd_T88 l0 a1).f1) ((rd_T88 l0 a1).f2) ((rd_T88 l0 a1).f3)))) else (none)) else (none)) = some r := h
  clear h
  by_cases c3 : 0 ≤ a1
  · rw [if_pos c3] at H
    have c3b0 : decide (0 ≤ a1) = true := decide_eq_true c3
    clear c3
    by_cases c4 : a1 < (l0.length : Int)
    · rw [if_pos c4] at H
      have c4b0 : decide (a1 < (l0.length : Int)) = true := decide_eq_true c4
      clear c4
      have HC5 := Aside0.mk H
      clear H
      have p126 : 0 ≤ (a1 : Int) := of_decide_eq_true (by first | (with_reducible assumption) | assumption)
      have q126 : a1 < (l0.length : Int) := of_decide_eq_true (by first | (with_reducible assumption) | assumption)
      obtain ⟨ad126, e126, hx126_0, hx126_1, hx126_2, hx126_3⟩ := at_T88 HR0.out a1 p126 q126
      cases e126
      replace p126 := eq_true p126
      replace q126 := eq_true q126
      go_enter Try.func97, Try.ntmps97
      go_upto_region 2 with (first | ((with_reducible refine gate_dst (N := 5) rfl ?_); refine box_event ?hg (N := 5) ?hd (cs := #[.int .i64 0, .string (⟨#[]⟩ : ByteArray), .int .i64 0, .int .i64 0]) (t := 88) ?hr ?_; (case hd => rfl); (case hg => rfl); (case hr => first | (go_simp; done) | (go_simp; rfl)); intro gb127 hg w6 hbox hb; have n0_ := Aside0.mk (below_step (by repeat (first | (with_reducible first | exact HB.out | apply below_alloc | apply pw_below_drewN | apply below_drew1) | exact HB.out)) hb); have n1_ := Aside0.mk (hbox); have n2_ := Aside0.mk ((by rw [hg]; exact (below_size (by repeat (first | (with_reducible first | exact HB.out | apply below_alloc | apply pw_below_drewN | apply below_drew1) | exact HB.out))) : w.heap.size ≤ gb127)); have n3_ := Aside0.mk ((by rw [hg]; exact (below_size (by repeat (first | (with_reducible first | exact HB.out | apply below_alloc | apply pw_below_drewN | apply below_drew1) | exact HB.out))) : w.heap.size ≤ gb127)); clear HB; have HB := n0_; have BK127 := n1_; have GW127 := n2_; have GE127 := n3_; clear n0_ n1_ n2_ n3_; clear hb hbox hg; have hcz7_0 : w6.cell? ⟨gb127, 0, none⟩ = some (.int .i64 0) := (blk_cell BK127.out 0).trans rfl; have hcz7_1 : w6.cell? ⟨gb127, 1, none⟩ = some (.string (⟨#[]⟩ : ByteArray)) := (blk_cell BK127.out 1).trans rfl; have hcz7_2 : w6.cell? ⟨gb127, 2, none⟩ = some (.int .i64 0) := (blk_cell BK127.out 2).trans rfl; have hcz7_3 : w6.cell? ⟨gb127, 3, none⟩ = some (.int .i64 0) := (blk_cell BK127.out 3).trans rfl; have hfz7_0 := blk_frozen BK127.out 0; have hfz7_1 := blk_frozen BK127.out 1; have hfz7_2 := blk_frozen BK127.out 2; have hfz7_3 := blk_frozen BK127.out 3))
      repeat (go_quiet (first | ((with_reducible refine gate_dst (N := 5) rfl ?_); refine box_event ?hg (N := 5) ?hd (cs := #[.int .i64 0, .string (⟨#[]⟩ : ByteArray), .int .i64 0, .int .i64 0]) (t := 88) ?hr ?_; (case hd => rfl); (case hg => rfl); (case hr => first | (go_simp; done) | (go_simp; rfl)); intro gb127 hg w6 hbox hb; have n0_ := Aside0.mk (below_step (by repeat (first | (with_reducible first | exact HB.out | apply below_alloc | apply pw_below_drewN | apply below_drew1) | exact HB.out)) hb); have n1_ := Aside0.mk (hbox); have n2_ := Aside0.mk ((by rw [hg]; exact (below_size (by repeat (first | (with_reducible first | exact HB.out | apply below_alloc | apply pw_below_drewN | apply below_drew1) | exact HB.out))) : w.heap.size ≤ gb127)); have n3_ := Aside0.mk ((by rw [hg]; exact (below_size (by repeat (first | (with_reducible first | exact HB.out | apply below_alloc | apply pw_below_drewN | apply below_drew1) | exact HB.out))) : w.heap.size ≤ gb127)); clear HB; have HB := n0_; have BK127 := n1_; have GW127 := n2_; have GE127 := n3_; clear n0_ n1_ n2_ n3_; clear hb hbox hg; have hcz7_0 : w6.cell? ⟨gb127, 0, none⟩ = some (.int .i64 0) := (blk_cell BK127.out 0).trans rfl; have hcz7_1 : w6.cell? ⟨gb127, 1, none⟩ = some (.string (⟨#[]⟩ : ByteArray)) := (blk_cell BK127.out 1).trans rfl; have hcz7_2 : w6.cell? ⟨gb127, 2, none⟩ = some (.int .i64 0) := (blk_cell BK127.out 2).trans rfl; have hcz7_3 : w6.cell? ⟨gb127, 3, none⟩ = some (.int .i64 0) := (blk_cell BK127.out 3).trans rfl; have hfz7_0 := blk_frozen BK127.out 0; have hfz7_1 := blk_frozen BK127.out 1; have hfz7_2 := blk_frozen BK127.out 2; have hfz7_3 := blk_frozen BK127.out 3)); go_upto_region 2 with (first | ((with_reducible refine gate_dst (N := 5) rfl ?_); refine box_event ?hg (N := 5) ?hd (cs := #[.int .i64 0, .string (⟨#[]⟩ : ByteArray), .int .i64 0, .int .i64 0]) (t := 88) ?hr ?_; (case hd => rfl); (case hg => rfl); (case hr => first | (go_simp; done) | (go_simp; rfl)); intro gb127 hg w6 hbox hb; have n0_ := Aside0.mk (below_step (by repeat (first | (with_reducible first | exact HB.out | apply below_alloc | apply pw_below_drewN | apply below_drew1) | exact HB.out)) hb); have n1_ := Aside0.mk (hbox); have n2_ := Aside0.mk ((by rw [hg]; exact (below_size (by repeat (first | (with_reducible first | exact HB.out | apply below_alloc | apply pw_below_drewN | apply below_drew1) | exact HB.out))) : w.heap.size ≤ gb127)); have n3_ := Aside0.mk ((by rw [hg]; exact (below_size (by repeat (first | (with_reducible first | exact HB.out | apply below_alloc | apply pw_below_drewN | apply below_drew1) | exact HB.out))) : w.heap.size ≤ gb127)); clear HB; have HB := n0_; have BK127 := n1_; have GW127 := n2_; have GE127 := n3_; clear n0_ n1_ n2_ n3_; clear hb hbox hg; have hcz7_0 : w6.cell? ⟨gb127, 0, none⟩ = some (.int .i64 0) := (blk_cell BK127.out 0).trans rfl; have hcz7_1 : w6.cell? ⟨gb127, 1, none⟩ = some (.string (⟨#[]⟩ : ByteArray)) := (blk_cell BK127.out 1).trans rfl; have hcz7_2 : w6.cell? ⟨gb127, 2, none⟩ = some (.int .i64 0) := (blk_cell BK127.out 2).trans rfl; have hcz7_3 : w6.cell? ⟨gb127, 3, none⟩ = some (.int .i64 0) := (blk_cell BK127.out 3).trans rfl; have hfz7_0 := blk_frozen BK127.out 0; have hfz7_1 := blk_frozen BK127.out 1; have hfz7_2 := blk_frozen BK127.out 2; have hfz7_3 := blk_frozen BK127.out 3)))
      (try simp only [Act.put, List.setIfInBounds_toArray, List.set_cons_zero, List.set_cons_succ])
      go_cut [33] (fun v33 wc => ∃ (kq : Nat) (x33_4 : Bool), v33 = .bool x33_4 ∧ Aside0 (spec_l15Ok.j0 kq l0 a1 x33_4 ((rd_T88 l0 a1).f0) ((rd_T88 l0 a1).f1) ((rd_T88 l0 a1).f2) ((rd_T88 l0 a1).f3) = some r) ∧ Aside0 (kq ≤ k) ∧ Aside0 (wc.heap[gb127]? = some (.cells #[.int .i64 ((rd_T88 l0 a1).f0), .string ((rd_T88 l0 a1).f1), .int .i64 ((rd_T88 l0 a1).f2), .int .i64 ((rd_T88 l0 a1).f3)] 88 (0, 0))) ∧ Aside0 (Below w.heap.size w wc))
      case first =>
        have H := HC5.out
        clear HC5
        replace H := Option.bind_eq_some_iff.mp H
        obtain ⟨t128, A80, H⟩ := H
        replace H : (if t128 = true then ((spec_IsWord.f k ((rd_T88 l0 a1).f1)).bind fun t129 => (if ((((rd_T88 l0 a1).f0) == 1) != t129) = true then (spec_l15Ok.j0 k l0 a1 true ((rd_T88 l0 a1).f0) ((rd_T88 l0 a1).f1) ((rd_T88 l0 a1).f2) ((rd_T88 l0 a1).f3)) else (if ((rd_T88 l0 a1).f0) = 1 then (spec_l15Ok.j0 k l0 a1 false ((rd_T88 l0 a1).f0) ((rd_T88 l0 a1).f1) ((rd_T88 l0 a1).f2) ((rd_T88 l0 a1).f3)) else (spec_l15Ok.j0 k l0 a1 (((rd_T88 l0 a1).f1).toList != ([] : List UInt8)) ((rd_T88 l0 a1).f0) ((rd_T88 l0 a1).f1) ((rd_T88 l0 a1).f2) ((rd_T88 l0 a1).f3))))) else (spec_l15Ok.j0 k l0 a1 true ((rd_T88 l0 a1).f0) ((rd_T88 l0 a1).f1) ((rd_T88 l0 a1).f2) ((rd_T88 l0 a1).f3))) = some r := H
        have A8 := Aside0.mk A80
        clear A80
        by_cases c9 : t128 = true
        · subst c9
          have H1 : ((spec_IsWord.f k ((rd_T88 l0 a1).f1)).bind fun t129 => (if ((((rd_T88 l0 a1).f0) == 1) != t129) = true then (spec_l15Ok.j0 k l0 a1 true ((rd_T88 l0 a1).f0) ((rd_T88 l0 a1).f1) ((rd_T88 l0 a1).f2) ((rd_T88 l0 a1).f3)) else (if ((rd_T88 l0 a1).f0) = 1 then (spec_l15Ok.j0 k l0 a1 false ((rd_T88 l0 a1).f0) ((rd_T88 l0 a1).f1) ((rd_T88 l0 a1).f2) ((rd_T88 l0 a1).f3)) else (spec_l15Ok.j0 k l0 a1 (((rd_T88 l0 a1).f1).toList != ([] : List UInt8)) ((rd_T88 l0 a1).f0) ((rd_T88 l0 a1).f1) ((rd_T88 l0 a1).f2) ((rd_T88 l0 a1).f3))))) = some r := by rw [if_pos rfl] at H; exact H
          clear H
          have H := H1
          clear H1
          replace H := Option.bind_eq_some_iff.mp H
          obtain ⟨t129, A100, H⟩ := H
          replace H : (if ((((rd_T88 l0 a1).f0) == 1) != t129) = true then (spec_l15Ok.j0 k l0 a1 true ((rd_T88 l0 a1).f0) ((rd_T88 l0 a1).f1) ((rd_T88 l0 a1).f2) ((rd_T88 l0 a1).f3)) else (if ((rd_T88 l0 a1).f0) = 1 then (spec_l15Ok.j0 k l0 a1 false ((rd_T88 l0 a1).f0) ((rd_T88 l0 a1).f1) ((rd_T88 l0 a1).f2) ((rd_T88 l0 a1).f3)) else (spec_l15Ok.j0 k l0 a1 (((rd_T88 l0 a1).f1).toList != ([] : List UInt8)) ((rd_T88 l0 a1).f0) ((rd_T88 l0 a1).f1) ((rd_T88 l0 a1).f2) ((rd_T88 l0 a1).f3)))) = some r := H
          have A10 := Aside0.mk A100
          clear A100
          by_cases c11 : ((((rd_T88 l0 a1).f0) == 1) != t129) = true
          · rw [if_pos c11] at H
            have c11b0 : ((((rd_T88 l0 a1).f0) == 1) != t129) = true := c11
            (try (have c11b1 : decide ((((rd_T88 l0 a1).f0) == 1) = t129) = false := by simpa using c11))
            (try (have c11b2 : ((((rd_T88 l0 a1).f0) == 1) == t129) = false := by simpa using c11))
            (try (have c11b3 : ¬ ((((rd_T88 l0 a1).f0) == 1) = t129) := by simpa using c11))
            clear c11
            (first | rw [c11b0] | (simp only [i64_w, i32_w]; rw [c11b0]) | skip)
            have H' := Aside0.mk H
            clear H
            have hcz12_0 : w6.cell? ⟨gb127, 0, none⟩ = some (.int .i64 0) := (blk_cell BK127.out 0).trans rfl
            have hcz12_1 : w6.cell? ⟨gb127, 1, none⟩ = some (.string (⟨#[]⟩ : ByteArray)) := (blk_cell BK127.out 1).trans rfl
            have hcz12_2 : w6.cell? ⟨gb127, 2, none⟩ = some (.int .i64 0) := (blk_cell BK127.out 2).trans rfl
            have hcz12_3 : w6.cell? ⟨gb127, 3, none⟩ = some (.int .i64 0) := (blk_cell BK127.out 3).trans rfl
            have hfz12_0 := blk_frozen BK127.out 0
            have hfz12_1 := blk_frozen BK127.out 1
            have hfz12_2 := blk_frozen BK127.out 2
            have hfz12_3 := blk_frozen BK127.out 3
            go_wp2_with (first | (go_at_call 67; (with_reducible refine (spec_l1In.calls ((rd_T88 l0 a1).f0) 1 9 true _ A8.out).mono ?_); rintro e w' ⟨rfl, ⟨nd, rfl⟩⟩; (try first | exact ⟨rfl, _, World.drewN_drewN _ _ _⟩ | exact ⟨rfl, _, Eq.trans (World.drewN_drewN _ _ _) (congrArg (World.drewN _) (Nat.add_assoc _ _ _))⟩)) | (go_at_call 63; (with_reducible refine (spec_IsWord.calls k ((rd_T88 l0 a1).f1) t129 _ A10.out).mono ?_); rintro e w' ⟨rfl, ⟨nd, rfl⟩⟩; (try first | exact ⟨rfl, _, World.drewN_drewN _ _ _⟩ | exact ⟨rfl, _, Eq.trans (World.drewN_drewN _ _ _) (congrArg (World.drewN _) (Nat.add_assoc _ _ _))⟩)))
            repeat (go_quiet (first | (go_at_call 67; (with_reducible refine (spec_l1In.calls ((rd_T88 l0 a1).f0) 1 9 true _ A8.out).mono ?_); rintro e w' ⟨rfl, ⟨nd, rfl⟩⟩; (try first | exact ⟨rfl, _, World.drewN_drewN _ _ _⟩ | exact ⟨rfl, _, Eq.trans (World.drewN_drewN _ _ _) (congrArg (World.drewN _) (Nat.add_assoc _ _ _))⟩)) | (go_at_call 63; (with_reducible refine (spec_IsWord.calls k ((rd_T88 l0 a1).f1) t129 _ A10.out).mono ?_); rintro e w' ⟨rfl, ⟨nd, rfl⟩⟩; (try first | exact ⟨rfl, _, World.drewN_drewN _ _ _⟩ | exact ⟨rfl, _, Eq.trans (World.drewN_drewN _ _ _) (congrArg (World.drewN _) (Nat.add_assoc _ _ _))⟩))); try go_wp2_with (first | (go_at_call 67; (with_reducible refine (spec_l1In.calls ((rd_T88 l0 a1).f0) 1 9 true _ A8.out).mono ?_); rintro e w' ⟨rfl, ⟨nd, rfl⟩⟩; (try first | exact ⟨rfl, _, World.drewN_drewN _ _ _⟩ | exact ⟨rfl, _, Eq.trans (World.drewN_drewN _ _ _) (congrArg (World.drewN _) (Nat.add_assoc _ _ _))⟩)) | (go_at_call 63; (with_reducible refine (spec_IsWord.calls k ((rd_T88 l0 a1).f1) t129 _ A10.out).mono ?_); rintro e w' ⟨rfl, ⟨nd, rfl⟩⟩; (try first | exact ⟨rfl, _, World.drewN_drewN _ _ _⟩ | exact ⟨rfl, _, Eq.trans (World.drewN_drewN _ _ _) (congrArg (World.drewN _) (Nat.add_assoc _ _ _))⟩))))
            go_meet
            case rel => exact ⟨_, (true), (by first | rfl | (simp; done) | (simp [*]; rw [Bool.eq_iff_iff]; simp [bne, List.isEmpty_iff]; done) | (simp [*]; done)), H', ⟨by first | omega | exact Nat.le_refl _⟩, ⟨by (with_reducible repeat (first | refine blk_drewN ?_ _ | refine blk_drew ?_ | refine blk_alloc ?_ _)); refine blk_put (cs := #[.int .i64 ((rd_T88 l0 a1).f0), .string ((rd_T88 l0 a1).f1), .int .i64 ((rd_T88 l0 a1).f2), .int .i64 0]) ?_ 3 _ rfl; (with_reducible repeat (first | refine blk_drewN ?_ _ | refine blk_drew ?_ | refine blk_alloc ?_ _)); refine blk_put (cs := #[.int .i64 ((rd_T88 l0 a1).f0), .string ((rd_T88 l0 a1).f1), .int .i64 0, .int .i64 0]) ?_ 2 _ rfl; (with_reducible repeat (first | refine blk_drewN ?_ _ | refine blk_drew ?_ | refine blk_alloc ?_ _)); refine blk_put (cs := #[.int .i64 ((rd_T88 l0 a1).f0), .string (⟨#[]⟩ : ByteArray), .int .i64 0, .int .i64 0]) ?_ 1 _ rfl; (with_reducible repeat (first | refine blk_drewN ?_ _ | refine blk_drew ?_ | refine blk_alloc ?_ _)); refine blk_put (cs := #[.int .i64 0, .string (⟨#[]⟩ : ByteArray), .int .i64 0, .int .i64 0]) ?_ 0 _ rfl; (with_reducible repeat (first | refine blk_drewN ?_ _ | refine blk_drew ?_ | refine blk_alloc ?_ _)); exact BK127.out⟩, ⟨by repeat (first | (with_reducible first | exact HB.out | apply below_alloc | apply pw_below_drewN | apply below_drew1 | refine below_set ?_ GE127.out) | exact HB.out)⟩⟩
          · rw [if_neg c11] at H
            have c11b0 : ((((rd_T88 l0 a1).f0) == 1) != t129) = false := by simpa using c11
            (try (have c11b1 : decide ((((rd_T88 l0 a1).f0) == 1) = t129) = true := by simpa using c11))
            (try (have c11b2 : ((((rd_T88 l0 a1).f0) == 1) == t129) = true := by simpa using c11))
            clear c11
            (first | rw [c11b0] | (simp only [i64_w, i32_w]; rw [c11b0]) | skip)
            by_cases c13 : ((rd_T88 l0 a1).f0) = 1
            · rw [if_pos c13] at H
              have c13b0 : (((rd_T88 l0 a1).f0) == 1) = true := beq_iff_eq.mpr c13
              have c13b1 : (((rd_T88 l0 a1).f0) != 1) = false := bne_eq_false_iff_eq.mpr c13
              have cw_ : t129 = true := by simpa [c13b0] using c11b0   -- mended
              clear c13
              have H' := Aside0.mk H
              clear H
              have hcz14_0 : w6.cell? ⟨gb127, 0, none⟩ = some (.int .i64 0) := (blk_cell BK127.out 0).trans rfl
              have hcz14_1 : w6.cell? ⟨gb127, 1, none⟩ = some (.string (⟨#[]⟩ : ByteArray)) := (blk_cell BK127.out 1).trans rfl
              have hcz14_2 : w6.cell? ⟨gb127, 2, none⟩ = some (.int .i64 0) := (blk_cell BK127.out 2).trans rfl
              have hcz14_3 : w6.cell? ⟨gb127, 3, none⟩ = some (.int .i64 0) := (blk_cell BK127.out 3).trans rfl
              have hfz14_0 := blk_frozen BK127.out 0
              have hfz14_1 := blk_frozen BK127.out 1
              have hfz14_2 := blk_frozen BK127.out 2
              have hfz14_3 := blk_frozen BK127.out 3
              go_wp2_with (first | (go_at_call 67; (with_reducible refine (spec_l1In.calls ((rd_T88 l0 a1).f0) 1 9 true _ A8.out).mono ?_); rintro e w' ⟨rfl, ⟨nd, rfl⟩⟩; (try first | exact ⟨rfl, _, World.drewN_drewN _ _ _⟩ | exact ⟨rfl, _, Eq.trans (World.drewN_drewN _ _ _) (congrArg (World.drewN _) (Nat.add_assoc _ _ _))⟩)) | (go_at_call 63; (with_reducible refine (spec_IsWord.calls k ((rd_T88 l0 a1).f1) t129 _ A10.out).mono ?_); rintro e w' ⟨rfl, ⟨nd, rfl⟩⟩; (try first | exact ⟨rfl, _, World.drewN_drewN _ _ _⟩ | exact ⟨rfl, _, Eq.trans (World.drewN_drewN _ _ _) (congrArg (World.drewN _) (Nat.add_assoc _ _ _))⟩)))
              repeat (go_quiet (first | (go_at_call 67; (with_reducible refine (spec_l1In.calls ((rd_T88 l0 a1).f0) 1 9 true _ A8.out).mono ?_); rintro e w' ⟨rfl, ⟨nd, rfl⟩⟩; (try first | exact ⟨rfl, _, World.drewN_drewN _ _ _⟩ | exact ⟨rfl, _, Eq.trans (World.drewN_drewN _ _ _) (congrArg (World.drewN _) (Nat.add_assoc _ _ _))⟩)) | (go_at_call 63; (with_reducible refine (spec_IsWord.calls k ((rd_T88 l0 a1).f1) t129 _ A10.out).mono ?_); rintro e w' ⟨rfl, ⟨nd, rfl⟩⟩; (try first | exact ⟨rfl, _, World.drewN_drewN _ _ _⟩ | exact ⟨rfl, _, Eq.trans (World.drewN_drewN _ _ _) (congrArg (World.drewN _) (Nat.add_assoc _ _ _))⟩))); try go_wp2_with (first | (go_at_call 67; (with_reducible refine (spec_l1In.calls ((rd_T88 l0 a1).f0) 1 9 true _ A8.out).mono ?_); rintro e w' ⟨rfl, ⟨nd, rfl⟩⟩; (try first | exact ⟨rfl, _, World.drewN_drewN _ _ _⟩ | exact ⟨rfl, _, Eq.trans (World.drewN_drewN _ _ _) (congrArg (World.drewN _) (Nat.add_assoc _ _ _))⟩)) | (go_at_call 63; (with_reducible refine (spec_IsWord.calls k ((rd_T88 l0 a1).f1) t129 _ A10.out).mono ?_); rintro e w' ⟨rfl, ⟨nd, rfl⟩⟩; (try first | exact ⟨rfl, _, World.drewN_drewN _ _ _⟩ | exact ⟨rfl, _, Eq.trans (World.drewN_drewN _ _ _) (congrArg (World.drewN _) (Nat.add_assoc _ _ _))⟩))))
              go_meet
              case rel => exact ⟨_, (false), (by first | rfl | (simp; done) | (simp [*]; rw [Bool.eq_iff_iff]; simp [bne, List.isEmpty_iff]; done) | (simp [*]; done)), H', ⟨by first | omega | exact Nat.le_refl _⟩, ⟨by (with_reducible repeat (first | refine blk_drewN ?_ _ | refine blk_drew ?_ | refine blk_alloc ?_ _)); refine blk_put (cs := #[.int .i64 ((rd_T88 l0 a1).f0), .string ((rd_T88 l0 a1).f1), .int .i64 ((rd_T88 l0 a1).f2), .int .i64 0]) ?_ 3 _ rfl; (with_reducible repeat (first | refine blk_drewN ?_ _ | refine blk_drew ?_ | refine blk_alloc ?_ _)); refine blk_put (cs := #[.int .i64 ((rd_T88 l0 a1).f0), .string ((rd_T88 l0 a1).f1), .int .i64 0, .int .i64 0]) ?_ 2 _ rfl; (with_reducible repeat (first | refine blk_drewN ?_ _ | refine blk_drew ?_ | refine blk_alloc ?_ _)); refine blk_put (cs := #[.int .i64 ((rd_T88 l0 a1).f0), .string (⟨#[]⟩ : ByteArray), .int .i64 0, .int .i64 0]) ?_ 1 _ rfl; (with_reducible repeat (first | refine blk_drewN ?_ _ | refine blk_drew ?_ | refine blk_alloc ?_ _)); refine blk_put (cs := #[.int .i64 0, .string (⟨#[]⟩ : ByteArray), .int .i64 0, .int .i64 0]) ?_ 0 _ rfl; (with_reducible repeat (first | refine blk_drewN ?_ _ | refine blk_drew ?_ | refine blk_alloc ?_ _)); exact BK127.out⟩, ⟨by repeat (first | (with_reducible first | exact HB.out | apply below_alloc | apply pw_below_drewN | apply below_drew1 | refine below_set ?_ GE127.out) | exact HB.out)⟩⟩
            · rw [if_neg c13] at H
              have c13b0 : (((rd_T88 l0 a1).f0) == 1) = false := beq_eq_false_iff_ne.mpr c13
              have c13b1 : (((rd_T88 l0 a1).f0) != 1) = true := bne_iff_ne.mpr c13
              have cw_ : t129 = false := by simpa [c13b0] using c11b0   -- mended
              have H' := Aside0.mk H
              clear H
              have hcz15_0 : w6.cell? ⟨gb127, 0, none⟩ = some (.int .i64 0) := (blk_cell BK127.out 0).trans rfl
              have hcz15_1 : w6.cell? ⟨gb127, 1, none⟩ = some (.string (⟨#[]⟩ : ByteArray)) := (blk_cell BK127.out 1).trans rfl
              have hcz15_2 : w6.cell? ⟨gb127, 2, none⟩ = some (.int .i64 0) := (blk_cell BK127.out 2).trans rfl
              have hcz15_3 : w6.cell? ⟨gb127, 3, none⟩ = some (.int .i64 0) := (blk_cell BK127.out 3).trans rfl
              have hfz15_0 := blk_frozen BK127.out 0
              have hfz15_1 := blk_frozen BK127.out 1
              have hfz15_2 := blk_frozen BK127.out 2
              have hfz15_3 := blk_frozen BK127.out 3
              go_wp2_with (first | (go_at_call 67; (with_reducible refine (spec_l1In.calls ((rd_T88 l0 a1).f0) 1 9 true _ A8.out).mono ?_); rintro e w' ⟨rfl, ⟨nd, rfl⟩⟩; (try first | exact ⟨rfl, _, World.drewN_drewN _ _ _⟩ | exact ⟨rfl, _, Eq.trans (World.drewN_drewN _ _ _) (congrArg (World.drewN _) (Nat.add_assoc _ _ _))⟩)) | (go_at_call 63; (with_reducible refine (spec_IsWord.calls k ((rd_T88 l0 a1).f1) t129 _ A10.out).mono ?_); rintro e w' ⟨rfl, ⟨nd, rfl⟩⟩; (try first | exact ⟨rfl, _, World.drewN_drewN _ _ _⟩ | exact ⟨rfl, _, Eq.trans (World.drewN_drewN _ _ _) (congrArg (World.drewN _) (Nat.add_assoc _ _ _))⟩)))
              repeat (go_quiet (first | (go_at_call 67; (with_reducible refine (spec_l1In.calls ((rd_T88 l0 a1).f0) 1 9 true _ A8.out).mono ?_); rintro e w' ⟨rfl, ⟨nd, rfl⟩⟩; (try first | exact ⟨rfl, _, World.drewN_drewN _ _ _⟩ | exact ⟨rfl, _, Eq.trans (World.drewN_drewN _ _ _) (congrArg (World.drewN _) (Nat.add_assoc _ _ _))⟩)) | (go_at_call 63; (with_reducible refine (spec_IsWord.calls k ((rd_T88 l0 a1).f1) t129 _ A10.out).mono ?_); rintro e w' ⟨rfl, ⟨nd, rfl⟩⟩; (try first | exact ⟨rfl, _, World.drewN_drewN _ _ _⟩ | exact ⟨rfl, _, Eq.trans (World.drewN_drewN _ _ _) (congrArg (World.drewN _) (Nat.add_assoc _ _ _))⟩))); try go_wp2_with (first | (go_at_call 67; (with_reducible refine (spec_l1In.calls ((rd_T88 l0 a1).f0) 1 9 true _ A8.out).mono ?_); rintro e w' ⟨rfl, ⟨nd, rfl⟩⟩; (try first | exact ⟨rfl, _, World.drewN_drewN _ _ _⟩ | exact ⟨rfl, _, Eq.trans (World.drewN_drewN _ _ _) (congrArg (World.drewN _) (Nat.add_assoc _ _ _))⟩)) | (go_at_call 63; (with_reducible refine (spec_IsWord.calls k ((rd_T88 l0 a1).f1) t129 _ A10.out).mono ?_); rintro e w' ⟨rfl, ⟨nd, rfl⟩⟩; (try first | exact ⟨rfl, _, World.drewN_drewN _ _ _⟩ | exact ⟨rfl, _, Eq.trans (World.drewN_drewN _ _ _) (congrArg (World.drewN _) (Nat.add_assoc _ _ _))⟩))))
              go_meet
              case rel => exact ⟨_, ((((rd_T88 l0 a1).f1).toList != ([] : List UInt8))), (by first | rfl | (simp; done) | (simp [*]; rw [Bool.eq_iff_iff]; simp [bne, List.isEmpty_iff]; done) | (simp [*]; done)), H', ⟨by first | omega | exact Nat.le_refl _⟩, ⟨by (with_reducible repeat (first | refine blk_drewN ?_ _ | refine blk_drew ?_ | refine blk_alloc ?_ _)); refine blk_put (cs := #[.int .i64 ((rd_T88 l0 a1).f0), .string ((rd_T88 l0 a1).f1), .int .i64 ((rd_T88 l0 a1).f2), .int .i64 0]) ?_ 3 _ rfl; (with_reducible repeat (first | refine blk_drewN ?_ _ | refine blk_drew ?_ | refine blk_alloc ?_ _)); refine blk_put (cs := #[.int .i64 ((rd_T88 l0 a1).f0), .string ((rd_T88 l0 a1).f1), .int .i64 0, .int .i64 0]) ?_ 2 _ rfl; (with_reducible repeat (first | refine blk_drewN ?_ _ | refine blk_drew ?_ | refine blk_alloc ?_ _)); refine blk_put (cs := #[.int .i64 ((rd_T88 l0 a1).f0), .string (⟨#[]⟩ : ByteArray), .int .i64 0, .int .i64 0]) ?_ 1 _ rfl; (with_reducible repeat (first | refine blk_drewN ?_ _ | refine blk_drew ?_ | refine blk_alloc ?_ _)); refine blk_put (cs := #[.int .i64 0, .string (⟨#[]⟩ : ByteArray), .int .i64 0, .int .i64 0]) ?_ 0 _ rfl; (with_reducible repeat (first | refine blk_drewN ?_ _ | refine blk_drew ?_ | refine blk_alloc ?_ _)); exact BK127.out⟩, ⟨by repeat (first | (with_reducible first | exact HB.out | apply below_alloc | apply pw_below_drewN | apply below_drew1 | refine below_set ?_ GE127.out) | exact HB.out)⟩⟩
        · replace c9 := Bool.eq_false_iff.mpr c9
          subst c9
          have H1 : (spec_l15Ok.j0 k l0 a1 true ((rd_T88 l0 a1).f0) ((rd_T88 l0 a1).f1) ((rd_T88 l0 a1).f2) ((rd_T88 l0 a1).f3)) = some r := by rw [if_neg (show ¬ (false = true) by decide)] at H; exact H
          clear H
          have H := H1
          clear H1
          have H' := Aside0.mk H
          clear H
          have hcz16_0 : w6.cell? ⟨gb127, 0, none⟩ = some (.int .i64 0) := (blk_cell BK127.out 0).trans rfl
          have hcz16_1 : w6.cell? ⟨gb127, 1, none⟩ = some (.string (⟨#[]⟩ : ByteArray)) := (blk_cell BK127.out 1).trans rfl
          have hcz16_2 : w6.cell? ⟨gb127, 2, none⟩ = some (.int .i64 0) := (blk_cell BK127.out 2).trans rfl
          have hcz16_3 : w6.cell? ⟨gb127, 3, none⟩ = some (.int .i64 0) := (blk_cell BK127.out 3).trans rfl
          have hfz16_0 := blk_frozen BK127.out 0
          have hfz16_1 := blk_frozen BK127.out 1
          have hfz16_2 := blk_frozen BK127.out 2
          have hfz16_3 := blk_frozen BK127.out 3
          go_wp2_with (first | (go_at_call 67; (with_reducible refine (spec_l1In.calls ((rd_T88 l0 a1).f0) 1 9 false _ A8.out).mono ?_); rintro e w' ⟨rfl, ⟨nd, rfl⟩⟩; (try first | exact ⟨rfl, _, World.drewN_drewN _ _ _⟩ | exact ⟨rfl, _, Eq.trans (World.drewN_drewN _ _ _) (congrArg (World.drewN _) (Nat.add_assoc _ _ _))⟩)))
          repeat (go_quiet (first | (go_at_call 67; (with_reducible refine (spec_l1In.calls ((rd_T88 l0 a1).f0) 1 9 false _ A8.out).mono ?_); rintro e w' ⟨rfl, ⟨nd, rfl⟩⟩; (try first | exact ⟨rfl, _, World.drewN_drewN _ _ _⟩ | exact ⟨rfl, _, Eq.trans (World.drewN_drewN _ _ _) (congrArg (World.drewN _) (Nat.add_assoc _ _ _))⟩))); try go_wp2_with (first | (go_at_call 67; (with_reducible refine (spec_l1In.calls ((rd_T88 l0 a1).f0) 1 9 false _ A8.out).mono ?_); rintro e w' ⟨rfl, ⟨nd, rfl⟩⟩; (try first | exact ⟨rfl, _, World.drewN_drewN _ _ _⟩ | exact ⟨rfl, _, Eq.trans (World.drewN_drewN _ _ _) (congrArg (World.drewN _) (Nat.add_assoc _ _ _))⟩))))
          go_meet
          case rel => exact ⟨_, (true), (by first | rfl | (simp; done) | (simp [*]; rw [Bool.eq_iff_iff]; simp [bne, List.isEmpty_iff]; done) | (simp [*]; done)), H', ⟨by first | omega | exact Nat.le_refl _⟩, ⟨by (with_reducible repeat (first | refine blk_drewN ?_ _ | refine blk_drew ?_ | refine blk_alloc ?_ _)); refine blk_put (cs := #[.int .i64 ((rd_T88 l0 a1).f0), .string ((rd_T88 l0 a1).f1), .int .i64 ((rd_T88 l0 a1).f2), .int .i64 0]) ?_ 3 _ rfl; (with_reducible repeat (first | refine blk_drewN ?_ _ | refine blk_drew ?_ | refine blk_alloc ?_ _)); refine blk_put (cs := #[.int .i64 ((rd_T88 l0 a1).f0), .string ((rd_T88 l0 a1).f1), .int .i64 0, .int .i64 0]) ?_ 2 _ rfl; (with_reducible repeat (first | refine blk_drewN ?_ _ | refine blk_drew ?_ | refine blk_alloc ?_ _)); refine blk_put (cs := #[.int .i64 ((rd_T88 l0 a1).f0), .string (⟨#[]⟩ : ByteArray), .int .i64 0, .int .i64 0]) ?_ 1 _ rfl; (with_reducible repeat (first | refine blk_drewN ?_ _ | refine blk_drew ?_ | refine blk_alloc ?_ _)); refine blk_put (cs := #[.int .i64 0, .string (⟨#[]⟩ : ByteArray), .int .i64 0, .int .i64 0]) ?_ 0 _ rfl; (with_reducible repeat (first | refine blk_drewN ?_ _ | refine blk_drew ?_ | refine blk_alloc ?_ _)); exact BK127.out⟩, ⟨by repeat (first | (with_reducible first | exact HB.out | apply below_alloc | apply pw_below_drewN | apply below_drew1 | refine below_set ?_ GE127.out) | exact HB.out)⟩⟩
      case rest =>
        clear HC5
        try clear c1
        try clear p1
        try clear q1
        try clear hx1
        try clear p2
        try clear c3
        try clear c3b0
        try clear c4
        try clear c4b0
        try clear c9
        try clear c11
        try clear c11b0
        try clear c11b1
        try clear c11b2
        try clear p12
        try clear q12
        try clear hx12
        try clear c13
        try clear c13b0
        try clear c13b1
        try clear hcz12_0
        try clear hcz12_1
        try clear hcz12_2
        try clear hcz12_3
        try clear hcz14_0
        try clear hcz14_1
        try clear hcz14_2
        try clear hcz14_3
        try clear hcz15_0
        try clear hcz15_1
        try clear hcz15_2
        try clear hcz15_3
        try clear hcz16_0
        try clear hcz16_1
        try clear hcz16_2
        try clear hcz16_3
        try clear hcz7_0
        try clear hcz7_1
        try clear hcz7_2
        try clear hcz7_3
        try clear hfz12_0
        try clear hfz12_1
        try clear hfz12_2
        try clear hfz12_3
        try clear hfz14_0
        try clear hfz14_1
        try clear hfz14_2
        try clear hfz14_3
        try clear hfz15_0
        try clear hfz15_1
        try clear hfz15_2
        try clear hfz15_3
        try clear hfz16_0
        try clear hfz16_1
        try clear hfz16_2
        try clear hfz16_3
        try clear hfz7_0
        try clear hfz7_1
        try clear hfz7_2
        try clear hfz7_3
        try clear hx126_0
        try clear hx126_1
        try clear hx126_2
        try clear hx126_3
        try clear p126
        try clear q126
        obtain ⟨kq, x33_4, rfl, HA, HJ4, BK127, HB⟩ := hcut
        cases kq with
        | zero => exact absurd HA.out (by simp [spec_l15Ok.j0])
        | succ kj4 =>
          have H := HA.out
          clear HA
          simp only [spec_l15Ok.j0] at H
          by_cases c17 : x33_4 = true
          · subst c17
            have H1 : (some false) = some r := by rw [if_pos rfl] at H; exact H
            clear H
            have H := H1
            clear H1
            obtain rfl := Option.some.inj H
            go_wp2
            repeat (go_quiet (fail); try go_wp2)
            go_ret
            exact ⟨by first | rfl | (simp [errW_none, errW_some] <;> rfl) | (simp [*, errW_none, errW_some] <;> rfl), by repeat (first | (with_reducible first | exact HB.out | apply below_alloc | apply pw_below_drewN | apply below_drew1 | refine below_set ?_ GE127.out) | exact HB.out)⟩
          · replace c17 := Bool.eq_false_iff.mpr c17
            subst c17
            have H1 : (if ((rd_T88 l0 a1).f0) = 4 then (spec_l15Ok.j1 kj4 l0 a1 true ((rd_T88 l0 a1).f0) ((rd_T88 l0 a1).f1) ((rd_T88 l0 a1).f2) ((rd_T88 l0 a1).f3)) else (spec_l15Ok.j1 kj4 l0 a1 (((rd_T88 l0 a1).f0) == 5) ((rd_T88 l0 a1).f0) ((rd_T88 l0 a1).f1) ((rd_T88 l0 a1).f2) ((rd_T88 l0 a1).f3))) = some r := by rw [if_neg (show ¬ (false = true) by decide)] at H; exact H
            clear H
            have H := H1
            clear H1
            have HC18 := Aside0.mk H
            clear H
            go_upto_region 4 with (fail)
            repeat (go_quiet (fail); go_upto_region 4 with (fail))
            go_cut [6] (fun v6 wc => ∃ (kq : Nat) (x6_17 : Bool), v6 = .bool x6_17 ∧ Aside0 (spec_l15Ok.j1 kq l0 a1 x6_17 ((rd_T88 l0 a1).f0) ((rd_T88 l0 a1).f1) ((rd_T88 l0 a1).f2) ((rd_T88 l0 a1).f3) = some r) ∧ Aside0 (kq ≤ kj4) ∧ Aside0 (wc.heap[gb127]? = some (.cells #[.int .i64 ((rd_T88 l0 a1).f0), .string ((rd_T88 l0 a1).f1), .int .i64 ((rd_T88 l0 a1).f2), .int .i64 ((rd_T88 l0 a1).f3)] 88 (0, 0))) ∧ Aside0 (Below w.heap.size w wc))
            case first =>
              have H := HC18.out
              clear HC18
              by_cases c19 : ((rd_T88 l0 a1).f0) = 4
              · rw [if_pos c19] at H
                have c19b0 : (((rd_T88 l0 a1).f0) == 4) = true := beq_iff_eq.mpr c19
                have c19b1 : (((rd_T88 l0 a1).f0) != 4) = false := bne_eq_false_iff_eq.mpr c19
                clear c19
                (first | rw [c19b0] | (simp only [i64_w, i32_w]; rw [c19b0]) | skip)
                have H' := Aside0.mk H
                clear H
                have hcz20_0 : wc.cell? ⟨gb127, 0, none⟩ = some (.int .i64 ((rd_T88 l0 a1).f0)) := (blk_cell BK127.out 0).trans rfl
                have hcz20_1 : wc.cell? ⟨gb127, 1, none⟩ = some (.string ((rd_T88 l0 a1).f1)) := (blk_cell BK127.out 1).trans rfl
                have hcz20_2 : wc.cell? ⟨gb127, 2, none⟩ = some (.int .i64 ((rd_T88 l0 a1).f2)) := (blk_cell BK127.out 2).trans rfl
                have hcz20_3 : wc.cell? ⟨gb127, 3, none⟩ = some (.int .i64 ((rd_T88 l0 a1).f3)) := (blk_cell BK127.out 3).trans rfl
                have hfz20_0 := blk_frozen BK127.out 0
                have hfz20_1 := blk_frozen BK127.out 1
                have hfz20_2 := blk_frozen BK127.out 2
                have hfz20_3 := blk_frozen BK127.out 3
                go_wp2
                repeat (go_quiet (fail); try go_wp2)
                go_meet
                case rel => exact ⟨_, (true), (by first | rfl | (simp; done) | (simp [*]; rw [Bool.eq_iff_iff]; simp [bne, List.isEmpty_iff]; done) | (simp [*]; done)), H', ⟨by have := HJ4.out; first | omega | exact Nat.le_refl _⟩, ⟨by (with_reducible repeat (first | refine blk_drewN ?_ _ | refine blk_drew ?_ | refine blk_alloc ?_ _)); exact BK127.out⟩, ⟨by repeat (first | (with_reducible first | exact HB.out | apply below_alloc | apply pw_below_drewN | apply below_drew1 | refine below_set ?_ GE127.out) | exact HB.out)⟩⟩
              · rw [if_neg c19] at H
                have c19b0 : (((rd_T88 l0 a1).f0) == 4) = false := beq_eq_false_iff_ne.mpr c19
                have c19b1 : (((rd_T88 l0 a1).f0) != 4) = true := bne_iff_ne.mpr c19
                (first | rw [c19b0] | (simp only [i64_w, i32_w]; rw [c19b0]) | skip)
                have H' := Aside0.mk H
                clear H
                have hcz21_0 : wc.cell? ⟨gb127, 0, none⟩ = some (.int .i64 ((rd_T88 l0 a1).f0)) := (blk_cell BK127.out 0).trans rfl
                have hcz21_1 : wc.cell? ⟨gb127, 1, none⟩ = some (.string ((rd_T88 l0 a1).f1)) := (blk_cell BK127.out 1).trans rfl
                have hcz21_2 : wc.cell? ⟨gb127, 2, none⟩ = some (.int .i64 ((rd_T88 l0 a1).f2)) := (blk_cell BK127.out 2).trans rfl
                have hcz21_3 : wc.cell? ⟨gb127, 3, none⟩ = some (.int .i64 ((rd_T88 l0 a1).f3)) := (blk_cell BK127.out 3).trans rfl
                have hfz21_0 := blk_frozen BK127.out 0
                have hfz21_1 := blk_frozen BK127.out 1
                have hfz21_2 := blk_frozen BK127.out 2
                have hfz21_3 := blk_frozen BK127.out 3
                go_wp2
                repeat (go_quiet (fail); try go_wp2)
                go_meet
                case rel => exact ⟨_, ((((rd_T88 l0 a1).f0) == 5)), (by first | rfl | (simp; done) | (simp [*]; rw [Bool.eq_iff_iff]; simp [bne, List.isEmpty_iff]; done) | (simp [*]; done)), H', ⟨by have := HJ4.out; first | omega | exact Nat.le_refl _⟩, ⟨by (with_reducible repeat (first | refine blk_drewN ?_ _ | refine blk_drew ?_ | refine blk_alloc ?_ _)); exact BK127.out⟩, ⟨by repeat (first | (with_reducible first | exact HB.out | apply below_alloc | apply pw_below_drewN | apply below_drew1 | refine below_set ?_ GE127.out) | exact HB.out)⟩⟩
            case rest =>
              clear HC18
              try clear c1
              try clear p1
              try clear q1
              try clear hx1
              try clear p2
              try clear c3
              try clear c3b0
              try clear c4
              try clear c4b0
              try clear c9
              try clear c11
              try clear c11b0
              try clear c11b1
              try clear c11b2
              try clear p12
              try clear q12
              try clear hx12
              try clear c13
              try clear c13b0
              try clear c13b1
              try clear c17
              try clear c19
              try clear c19b0
              try clear c19b1
              try clear hcz12_0
              try clear hcz12_1
              try clear hcz12_2
              try clear hcz12_3
              try clear hcz14_0
              try clear hcz14_1
              try clear hcz14_2
              try clear hcz14_3
              try clear hcz15_0
              try clear hcz15_1
              try clear hcz15_2
              try clear hcz15_3
              try clear hcz16_0
              try clear hcz16_1
              try clear hcz16_2
              try clear hcz16_3
              try clear hcz20_0
              try clear hcz20_1
              try clear hcz20_2
              try clear hcz20_3
              try clear hcz21_0
              try clear hcz21_1
              try clear hcz21_2
              try clear hcz21_3
              try clear hcz7_0
              try clear hcz7_1
              try clear hcz7_2
              try clear hcz7_3
              try clear hfz12_0
              try clear hfz12_1
              try clear hfz12_2
              try clear hfz12_3
              try clear hfz14_0
              try clear hfz14_1
              try clear hfz14_2
              try clear hfz14_3
              try clear hfz15_0
              try clear hfz15_1
              try clear hfz15_2
              try clear hfz15_3
              try clear hfz16_0
              try clear hfz16_1
              try clear hfz16_2
              try clear hfz16_3
              try clear hfz20_0
              try clear hfz20_1
              try clear hfz20_2
              try clear hfz20_3
              try clear hfz21_0
              try clear hfz21_1
              try clear hfz21_2
              try clear hfz21_3
              try clear hfz7_0
              try clear hfz7_1
              try clear hfz7_2
              try clear hfz7_3
              try clear hx126_0
              try clear hx126_1
              try clear hx126_2
              try clear hx126_3
              try clear p1
              try clear p12
              try clear p126
              try clear p2
              try clear q1
              try clear q12
              try clear q126
              obtain ⟨kq, x6_17, rfl, HA, HJ17, BK127, HB⟩ := hcut
              cases kq with
              | zero => exact absurd HA.out (by simp [spec_l15Ok.j1])
              | succ kj17 =>
                have H := HA.out
                clear HA
                simp only [spec_l15Ok.j1] at H
                by_cases c22 : ((rd_T88 l0 a1).f0) = 1
                · rw [if_pos c22] at H
                  have c22b0 : (((rd_T88 l0 a1).f0) == 1) = true := beq_iff_eq.mpr c22
                  have c22b1 : (((rd_T88 l0 a1).f0) != 1) = false := bne_eq_false_iff_eq.mpr c22
                  clear c22
                  by_cases c23 : ((rd_T88 l0 a1).f2) = 0
                  · rw [if_pos c23] at H
                    have c23b0 : (((rd_T88 l0 a1).f2) == 0) = true := beq_iff_eq.mpr c23
                    have c23b1 : (((rd_T88 l0 a1).f2) != 0) = false := bne_eq_false_iff_eq.mpr c23
                    clear c23
                    obtain rfl := Option.some.inj H
                    have hcz24_0 : wc.cell? ⟨gb127, 0, none⟩ = some (.int .i64 ((rd_T88 l0 a1).f0)) := (blk_cell BK127.out 0).trans rfl
                    have hcz24_1 : wc.cell? ⟨gb127, 1, none⟩ = some (.string ((rd_T88 l0 a1).f1)) := (blk_cell BK127.out 1).trans rfl
                    have hcz24_2 : wc.cell? ⟨gb127, 2, none⟩ = some (.int .i64 ((rd_T88 l0 a1).f2)) := (blk_cell BK127.out 2).trans rfl
                    have hcz24_3 : wc.cell? ⟨gb127, 3, none⟩ = some (.int .i64 ((rd_T88 l0 a1).f3)) := (blk_cell BK127.out 3).trans rfl
                    have hfz24_0 := blk_frozen BK127.out 0
                    have hfz24_1 := blk_frozen BK127.out 1
                    have hfz24_2 := blk_frozen BK127.out 2
                    have hfz24_3 := blk_frozen BK127.out 3
                    go_wp2
                    repeat (go_quiet (fail); try go_wp2)
                    go_ret
                    exact ⟨by first | rfl | (simp [errW_none, errW_some] <;> rfl) | (simp [*, errW_none, errW_some] <;> rfl), by repeat (first | (with_reducible first | exact HB.out | apply below_alloc | apply pw_below_drewN | apply below_drew1 | refine below_set ?_ GE127.out) | exact HB.out)⟩
                  · rw [if_neg c23] at H
                    have c23b0 : (((rd_T88 l0 a1).f2) == 0) = false := beq_eq_false_iff_ne.mpr c23
                    have c23b1 : (((rd_T88 l0 a1).f2) != 0) = true := bne_iff_ne.mpr c23
                    obtain rfl := Option.some.inj H
                    have hcz25_0 : wc.cell? ⟨gb127, 0, none⟩ = some (.int .i64 ((rd_T88 l0 a1).f0)) := (blk_cell BK127.out 0).trans rfl
                    have hcz25_1 : wc.cell? ⟨gb127, 1, none⟩ = some (.string ((rd_T88 l0 a1).f1)) := (blk_cell BK127.out 1).trans rfl
                    have hcz25_2 : wc.cell? ⟨gb127, 2, none⟩ = some (.int .i64 ((rd_T88 l0 a1).f2)) := (blk_cell BK127.out 2).trans rfl
                    have hcz25_3 : wc.cell? ⟨gb127, 3, none⟩ = some (.int .i64 ((rd_T88 l0 a1).f3)) := (blk_cell BK127.out 3).trans rfl
                    have hfz25_0 := blk_frozen BK127.out 0
                    have hfz25_1 := blk_frozen BK127.out 1
                    have hfz25_2 := blk_frozen BK127.out 2
                    have hfz25_3 := blk_frozen BK127.out 3
                    go_wp2
                    repeat (go_quiet (fail); try go_wp2)
                    go_ret
                    exact ⟨by first | rfl | (simp [errW_none, errW_some] <;> rfl) | (simp [*, errW_none, errW_some] <;> rfl), by repeat (first | (with_reducible first | exact HB.out | apply below_alloc | apply pw_below_drewN | apply below_drew1 | refine below_set ?_ GE127.out) | exact HB.out)⟩
                · rw [if_neg c22] at H
                  have c22b0 : (((rd_T88 l0 a1).f0) == 1) = false := beq_eq_false_iff_ne.mpr c22
                  have c22b1 : (((rd_T88 l0 a1).f0) != 1) = true := bne_iff_ne.mpr c22
                  replace H := Option.bind_eq_some_iff.mp H
                  obtain ⟨t130, A260, H⟩ := H
                  replace H : (if t130 = true then (if x6_17 = true then ((spec_l1In.f ((rd_T88 l0 a1).f3) 0 (wrap64 (a1 - 1))).bind fun t131 => (if t131 = true then (some true) else (some false))) else (if ((rd_T88 l0 a1).f3) = 0 then (if ((rd_T88 l0 a1).f0) = 2 then (some true) else (if 0 ≤ ((rd_T88 l0 a1).f2) then (if ((rd_T88 l0 a1).f2) < (l0.length : Int) then (some (((rd_T88 l0 ((rd_T88 l0 a1).f2)).f0) == 1)) else (none)) else (none))) else (some false))) else (some false)) = some r := H
                  have A26 := Aside0.mk A260
                  clear A260
                  by_cases c27 : t130 = true
                  · subst c27
                    have H1 : (if x6_17 = true then ((spec_l1In.f ((rd_T88 l0 a1).f3) 0 (wrap64 (a1 - 1))).bind fun t131 => (if t131 = true then (some true) else (some false))) else (if ((rd_T88 l0 a1).f3) = 0 then (if ((rd_T88 l0 a1).f0) = 2 then (some true) else (if 0 ≤ ((rd_T88 l0 a1).f2) then (if ((rd_T88 l0 a1).f2) < (l0.length : Int) then (some (((rd_T88 l0 ((rd_T88 l0 a1).f2)).f0) == 1)) else (none)) else (none))) else (some false))) = some r := by rw [if_pos rfl] at H; exact H
                    clear H
                    have H := H1
                    clear H1
                    by_cases c28 : x6_17 = true
                    · subst c28
                      have H1 : ((spec_l1In.f ((rd_T88 l0 a1).f3) 0 (wrap64 (a1 - 1))).bind fun t131 => (if t131 = true then (some true) else (some false))) = some r := by rw [if_pos rfl] at H; exact H
                      clear H
                      have H := H1
                      clear H1
                      replace H := Option.bind_eq_some_iff.mp H
                      obtain ⟨t131, A290, H⟩ := H
                      replace H : (if t131 = true then (some true) else (some false)) = some r := H
                      have A29 := Aside0.mk A290
                      clear A290
                      by_cases c30 : t131 = true
                      · subst c30
                        have H1 : (some true) = some r := by rw [if_pos rfl] at H; exact H
                        clear H
                        have H := H1
                        clear H1
                        obtain rfl := Option.some.inj H
                        have hcz31_0 : wc.cell? ⟨gb127, 0, none⟩ = some (.int .i64 ((rd_T88 l0 a1).f0)) := (blk_cell BK127.out 0).trans rfl
                        have hcz31_1 : wc.cell? ⟨gb127, 1, none⟩ = some (.string ((rd_T88 l0 a1).f1)) := (blk_cell BK127.out 1).trans rfl
                        have hcz31_2 : wc.cell? ⟨gb127, 2, none⟩ = some (.int .i64 ((rd_T88 l0 a1).f2)) := (blk_cell BK127.out 2).trans rfl
                        have hcz31_3 : wc.cell? ⟨gb127, 3, none⟩ = some (.int .i64 ((rd_T88 l0 a1).f3)) := (blk_cell BK127.out 3).trans rfl
                        have hfz31_0 := blk_frozen BK127.out 0
                        have hfz31_1 := blk_frozen BK127.out 1
                        have hfz31_2 := blk_frozen BK127.out 2
                        have hfz31_3 := blk_frozen BK127.out 3
                        go_wp2_with (first | (go_at_call 67; (with_reducible refine (spec_l1In.calls ((rd_T88 l0 a1).f2) 0 (wrap64 (a1 - 1)) true _ A26.out).mono ?_); rintro e w' ⟨rfl, ⟨nd, rfl⟩⟩; (try first | exact ⟨rfl, _, World.drewN_drewN _ _ _⟩ | exact ⟨rfl, _, Eq.trans (World.drewN_drewN _ _ _) (congrArg (World.drewN _) (Nat.add_assoc _ _ _))⟩)) | (go_at_call 67; (with_reducible refine (spec_l1In.calls ((rd_T88 l0 a1).f3) 0 (wrap64 (a1 - 1)) true _ A29.out).mono ?_); rintro e w' ⟨rfl, ⟨nd, rfl⟩⟩; (try first | exact ⟨rfl, _, World.drewN_drewN _ _ _⟩ | exact ⟨rfl, _, Eq.trans (World.drewN_drewN _ _ _) (congrArg (World.drewN _) (Nat.add_assoc _ _ _))⟩)))
                        repeat (go_quiet (first | (go_at_call 67; (with_reducible refine (spec_l1In.calls ((rd_T88 l0 a1).f2) 0 (wrap64 (a1 - 1)) true _ A26.out).mono ?_); rintro e w' ⟨rfl, ⟨nd, rfl⟩⟩; (try first | exact ⟨rfl, _, World.drewN_drewN _ _ _⟩ | exact ⟨rfl, _, Eq.trans (World.drewN_drewN _ _ _) (congrArg (World.drewN _) (Nat.add_assoc _ _ _))⟩)) | (go_at_call 67; (with_reducible refine (spec_l1In.calls ((rd_T88 l0 a1).f3) 0 (wrap64 (a1 - 1)) true _ A29.out).mono ?_); rintro e w' ⟨rfl, ⟨nd, rfl⟩⟩; (try first | exact ⟨rfl, _, World.drewN_drewN _ _ _⟩ | exact ⟨rfl, _, Eq.trans (World.drewN_drewN _ _ _) (congrArg (World.drewN _) (Nat.add_assoc _ _ _))⟩))); try go_wp2_with (first | (go_at_call 67; (with_reducible refine (spec_l1In.calls ((rd_T88 l0 a1).f2) 0 (wrap64 (a1 - 1)) true _ A26.out).mono ?_); rintro e w' ⟨rfl, ⟨nd, rfl⟩⟩; (try first | exact ⟨rfl, _, World.drewN_drewN _ _ _⟩ | exact ⟨rfl, _, Eq.trans (World.drewN_drewN _ _ _) (congrArg (World.drewN _) (Nat.add_assoc _ _ _))⟩)) | (go_at_call 67; (with_reducible refine (spec_l1In.calls ((rd_T88 l0 a1).f3) 0 (wrap64 (a1 - 1)) true _ A29.out).mono ?_); rintro e w' ⟨rfl, ⟨nd, rfl⟩⟩; (try first | exact ⟨rfl, _, World.drewN_drewN _ _ _⟩ | exact ⟨rfl, _, Eq.trans (World.drewN_drewN _ _ _) (congrArg (World.drewN _) (Nat.add_assoc _ _ _))⟩))))
                        go_ret
                        exact ⟨by first | rfl | (simp [errW_none, errW_some] <;> rfl) | (simp [*, errW_none, errW_some] <;> rfl), by repeat (first | (with_reducible first | exact HB.out | apply below_alloc | apply pw_below_drewN | apply below_drew1 | refine below_set ?_ GE127.out) | exact HB.out)⟩
                      · replace c30 := Bool.eq_false_iff.mpr c30
                        subst c30
                        have H1 : (some false) = some r := by rw [if_neg (show ¬ (false = true) by decide)] at H; exact H
                        clear H
                        have H := H1
                        clear H1
                        obtain rfl := Option.some.inj H
                        have hcz32_0 : wc.cell? ⟨gb127, 0, none⟩ = some (.int .i64 ((rd_T88 l0 a1).f0)) := (blk_cell BK127.out 0).trans rfl
                        have hcz32_1 : wc.cell? ⟨gb127, 1, none⟩ = some (.string ((rd_T88 l0 a1).f1)) := (blk_cell BK127.out 1).trans rfl
                        have hcz32_2 : wc.cell? ⟨gb127, 2, none⟩ = some (.int .i64 ((rd_T88 l0 a1).f2)) := (blk_cell BK127.out 2).trans rfl
                        have hcz32_3 : wc.cell? ⟨gb127, 3, none⟩ = some (.int .i64 ((rd_T88 l0 a1).f3)) := (blk_cell BK127.out 3).trans rfl
                        have hfz32_0 := blk_frozen BK127.out 0
                        have hfz32_1 := blk_frozen BK127.out 1
                        have hfz32_2 := blk_frozen BK127.out 2
                        have hfz32_3 := blk_frozen BK127.out 3
                        go_wp2_with (first | (go_at_call 67; (with_reducible refine (spec_l1In.calls ((rd_T88 l0 a1).f2) 0 (wrap64 (a1 - 1)) true _ A26.out).mono ?_); rintro e w' ⟨rfl, ⟨nd, rfl⟩⟩; (try first | exact ⟨rfl, _, World.drewN_drewN _ _ _⟩ | exact ⟨rfl, _, Eq.trans (World.drewN_drewN _ _ _) (congrArg (World.drewN _) (Nat.add_assoc _ _ _))⟩)) | (go_at_call 67; (with_reducible refine (spec_l1In.calls ((rd_T88 l0 a1).f3) 0 (wrap64 (a1 - 1)) false _ A29.out).mono ?_); rintro e w' ⟨rfl, ⟨nd, rfl⟩⟩; (try first | exact ⟨rfl, _, World.drewN_drewN _ _ _⟩ | exact ⟨rfl, _, Eq.trans (World.drewN_drewN _ _ _) (congrArg (World.drewN _) (Nat.add_assoc _ _ _))⟩)))
                        repeat (go_quiet (first | (go_at_call 67; (with_reducible refine (spec_l1In.calls ((rd_T88 l0 a1).f2) 0 (wrap64 (a1 - 1)) true _ A26.out).mono ?_); rintro e w' ⟨rfl, ⟨nd, rfl⟩⟩; (try first | exact ⟨rfl, _, World.drewN_drewN _ _ _⟩ | exact ⟨rfl, _, Eq.trans (World.drewN_drewN _ _ _) (congrArg (World.drewN _) (Nat.add_assoc _ _ _))⟩)) | (go_at_call 67; (with_reducible refine (spec_l1In.calls ((rd_T88 l0 a1).f3) 0 (wrap64 (a1 - 1)) false _ A29.out).mono ?_); rintro e w' ⟨rfl, ⟨nd, rfl⟩⟩; (try first | exact ⟨rfl, _, World.drewN_drewN _ _ _⟩ | exact ⟨rfl, _, Eq.trans (World.drewN_drewN _ _ _) (congrArg (World.drewN _) (Nat.add_assoc _ _ _))⟩))); try go_wp2_with (first | (go_at_call 67; (with_reducible refine (spec_l1In.calls ((rd_T88 l0 a1).f2) 0 (wrap64 (a1 - 1)) true _ A26.out).mono ?_); rintro e w' ⟨rfl, ⟨nd, rfl⟩⟩; (try first | exact ⟨rfl, _, World.drewN_drewN _ _ _⟩ | exact ⟨rfl, _, Eq.trans (World.drewN_drewN _ _ _) (congrArg (World.drewN _) (Nat.add_assoc _ _ _))⟩)) | (go_at_call 67; (with_reducible refine (spec_l1In.calls ((rd_T88 l0 a1).f3) 0 (wrap64 (a1 - 1)) false _ A29.out).mono ?_); rintro e w' ⟨rfl, ⟨nd, rfl⟩⟩; (try first | exact ⟨rfl, _, World.drewN_drewN _ _ _⟩ | exact ⟨rfl, _, Eq.trans (World.drewN_drewN _ _ _) (congrArg (World.drewN _) (Nat.add_assoc _ _ _))⟩))))
                        go_ret
                        exact ⟨by first | rfl | (simp [errW_none, errW_some] <;> rfl) | (simp [*, errW_none, errW_some] <;> rfl), by repeat (first | (with_reducible first | exact HB.out | apply below_alloc | apply pw_below_drewN | apply below_drew1 | refine below_set ?_ GE127.out) | exact HB.out)⟩
                    · replace c28 := Bool.eq_false_iff.mpr c28
                      subst c28
                      have H1 : (if ((rd_T88 l0 a1).f3) = 0 then (if ((rd_T88 l0 a1).f0) = 2 then (some true) else (if 0 ≤ ((rd_T88 l0 a1).f2) then (if ((rd_T88 l0 a1).f2) < (l0.length : Int) then (some (((rd_T88 l0 ((rd_T88 l0 a1).f2)).f0) == 1)) else (none)) else (none))) else (some false)) = some r := by rw [if_neg (show ¬ (false = true) by decide)] at H; exact H
                      clear H
                      have H := H1
                      clear H1
                      by_cases c33 : ((rd_T88 l0 a1).f3) = 0
                      · rw [if_pos c33] at H
                        have c33b0 : (((rd_T88 l0 a1).f3) == 0) = true := beq_iff_eq.mpr c33
                        have c33b1 : (((rd_T88 l0 a1).f3) != 0) = false := bne_eq_false_iff_eq.mpr c33
                        clear c33
                        by_cases c34 : ((rd_T88 l0 a1).f0) = 2
                        · rw [if_pos c34] at H
                          have c34b0 : (((rd_T88 l0 a1).f0) == 2) = true := beq_iff_eq.mpr c34
                          have c34b1 : (((rd_T88 l0 a1).f0) != 2) = false := bne_eq_false_iff_eq.mpr c34
                          clear c34
                          obtain rfl := Option.some.inj H
                          have hcz35_0 : wc.cell? ⟨gb127, 0, none⟩ = some (.int .i64 ((rd_T88 l0 a1).f0)) := (blk_cell BK127.out 0).trans rfl
                          have hcz35_1 : wc.cell? ⟨gb127, 1, none⟩ = some (.string ((rd_T88 l0 a1).f1)) := (blk_cell BK127.out 1).trans rfl
                          have hcz35_2 : wc.cell? ⟨gb127, 2, none⟩ = some (.int .i64 ((rd_T88 l0 a1).f2)) := (blk_cell BK127.out 2).trans rfl
                          have hcz35_3 : wc.cell? ⟨gb127, 3, none⟩ = some (.int .i64 ((rd_T88 l0 a1).f3)) := (blk_cell BK127.out 3).trans rfl
                          have hfz35_0 := blk_frozen BK127.out 0
                          have hfz35_1 := blk_frozen BK127.out 1
                          have hfz35_2 := blk_frozen BK127.out 2
                          have hfz35_3 := blk_frozen BK127.out 3
                          go_wp2_with (first | (go_at_call 67; (with_reducible refine (spec_l1In.calls ((rd_T88 l0 a1).f2) 0 (wrap64 (a1 - 1)) true _ A26.out).mono ?_); rintro e w' ⟨rfl, ⟨nd, rfl⟩⟩; (try first | exact ⟨rfl, _, World.drewN_drewN _ _ _⟩ | exact ⟨rfl, _, Eq.trans (World.drewN_drewN _ _ _) (congrArg (World.drewN _) (Nat.add_assoc _ _ _))⟩)))
                          repeat (go_quiet (first | (go_at_call 67; (with_reducible refine (spec_l1In.calls ((rd_T88 l0 a1).f2) 0 (wrap64 (a1 - 1)) true _ A26.out).mono ?_); rintro e w' ⟨rfl, ⟨nd, rfl⟩⟩; (try first | exact ⟨rfl, _, World.drewN_drewN _ _ _⟩ | exact ⟨rfl, _, Eq.trans (World.drewN_drewN _ _ _) (congrArg (World.drewN _) (Nat.add_assoc _ _ _))⟩))); try go_wp2_with (first | (go_at_call 67; (with_reducible refine (spec_l1In.calls ((rd_T88 l0 a1).f2) 0 (wrap64 (a1 - 1)) true _ A26.out).mono ?_); rintro e w' ⟨rfl, ⟨nd, rfl⟩⟩; (try first | exact ⟨rfl, _, World.drewN_drewN _ _ _⟩ | exact ⟨rfl, _, Eq.trans (World.drewN_drewN _ _ _) (congrArg (World.drewN _) (Nat.add_assoc _ _ _))⟩))))
                          go_ret
                          exact ⟨by first | rfl | (simp [errW_none, errW_some] <;> rfl) | (simp [*, errW_none, errW_some] <;> rfl), by repeat (first | (with_reducible first | exact HB.out | apply below_alloc | apply pw_below_drewN | apply below_drew1 | refine below_set ?_ GE127.out) | exact HB.out)⟩
                        · rw [if_neg c34] at H
                          have c34b0 : (((rd_T88 l0 a1).f0) == 2) = false := beq_eq_false_iff_ne.mpr c34
                          have c34b1 : (((rd_T88 l0 a1).f0) != 2) = true := bne_iff_ne.mpr c34
                          by_cases c36 : 0 ≤ ((rd_T88 l0 a1).f2)
                          · rw [if_pos c36] at H
                            have c36b0 : decide (0 ≤ ((rd_T88 l0 a1).f2)) = true := decide_eq_true c36
                            clear c36
                            by_cases c37 : ((rd_T88 l0 a1).f2) < (l0.length : Int)
                            · rw [if_pos c37] at H
                              have c37b0 : decide (((rd_T88 l0 a1).f2) < (l0.length : Int)) = true := decide_eq_true c37
                              clear c37
                              obtain rfl := Option.some.inj H
                              have hcz38_0 : wc.cell? ⟨gb127, 0, none⟩ = some (.int .i64 ((rd_T88 l0 a1).f0)) := (blk_cell BK127.out 0).trans rfl
                              have hcz38_1 : wc.cell? ⟨gb127, 1, none⟩ = some (.string ((rd_T88 l0 a1).f1)) := (blk_cell BK127.out 1).trans rfl
                              have hcz38_2 : wc.cell? ⟨gb127, 2, none⟩ = some (.int .i64 ((rd_T88 l0 a1).f2)) := (blk_cell BK127.out 2).trans rfl
                              have hcz38_3 : wc.cell? ⟨gb127, 3, none⟩ = some (.int .i64 ((rd_T88 l0 a1).f3)) := (blk_cell BK127.out 3).trans rfl
                              have hfz38_0 := blk_frozen BK127.out 0
                              have hfz38_1 := blk_frozen BK127.out 1
                              have hfz38_2 := blk_frozen BK127.out 2
                              have hfz38_3 := blk_frozen BK127.out 3
                              go_wp2_with (first | (go_at_call 67; (with_reducible refine (spec_l1In.calls ((rd_T88 l0 a1).f2) 0 (wrap64 (a1 - 1)) true _ A26.out).mono ?_); rintro e w' ⟨rfl, ⟨nd, rfl⟩⟩; (try first | exact ⟨rfl, _, World.drewN_drewN _ _ _⟩ | exact ⟨rfl, _, Eq.trans (World.drewN_drewN _ _ _) (congrArg (World.drewN _) (Nat.add_assoc _ _ _))⟩); have p132 : 0 ≤ (((rd_T88 l0 a1).f2) : Int) := of_decide_eq_true (by first | (with_reducible assumption) | assumption); have q132 : ((rd_T88 l0 a1).f2) < (l0.length : Int) := of_decide_eq_true (by first | (with_reducible assumption) | assumption); obtain ⟨ad132, e132, hx132_0, hx132_1, hx132_2, hx132_3⟩ := at_T88 HR0.out ((rd_T88 l0 a1).f2) p132 q132; obtain rfl : ad126 = ad132 := (by injection e132); replace hx132_0 := (HB.out.cell (World.block_lt_of_cell? w _ hx132_0)).trans hx132_0; replace hx132_1 := (HB.out.cell (World.block_lt_of_cell? w _ hx132_1)).trans hx132_1; replace hx132_2 := (HB.out.cell (World.block_lt_of_cell? w _ hx132_2)).trans hx132_2; replace hx132_3 := (HB.out.cell (World.block_lt_of_cell? w _ hx132_3)).trans hx132_3; replace p132 := eq_true p132; replace q132 := eq_true q132))
                              repeat (go_quiet (first | (go_at_call 67; (with_reducible refine (spec_l1In.calls ((rd_T88 l0 a1).f2) 0 (wrap64 (a1 - 1)) true _ A26.out).mono ?_); rintro e w' ⟨rfl, ⟨nd, rfl⟩⟩; (try first | exact ⟨rfl, _, World.drewN_drewN _ _ _⟩ | exact ⟨rfl, _, Eq.trans (World.drewN_drewN _ _ _) (congrArg (World.drewN _) (Nat.add_assoc _ _ _))⟩); have p132 : 0 ≤ (((rd_T88 l0 a1).f2) : Int) := of_decide_eq_true (by first | (with_reducible assumption) | assumption); have q132 : ((rd_T88 l0 a1).f2) < (l0.length : Int) := of_decide_eq_true (by first | (with_reducible assumption) | assumption); obtain ⟨ad132, e132, hx132_0, hx132_1, hx132_2, hx132_3⟩ := at_T88 HR0.out ((rd_T88 l0 a1).f2) p132 q132; obtain rfl : ad126 = ad132 := (by injection e132); replace hx132_0 := (HB.out.cell (World.block_lt_of_cell? w _ hx132_0)).trans hx132_0; replace hx132_1 := (HB.out.cell (World.block_lt_of_cell? w _ hx132_1)).trans hx132_1; replace hx132_2 := (HB.out.cell (World.block_lt_of_cell? w _ hx132_2)).trans hx132_2; replace hx132_3 := (HB.out.cell (World.block_lt_of_cell? w _ hx132_3)).trans hx132_3; replace p132 := eq_true p132; replace q132 := eq_true q132)); try go_wp2_with (first | (go_at_call 67; (with_reducible refine (spec_l1In.calls ((rd_T88 l0 a1).f2) 0 (wrap64 (a1 - 1)) true _ A26.out).mono ?_); rintro e w' ⟨rfl, ⟨nd, rfl⟩⟩; (try first | exact ⟨rfl, _, World.drewN_drewN _ _ _⟩ | exact ⟨rfl, _, Eq.trans (World.drewN_drewN _ _ _) (congrArg (World.drewN _) (Nat.add_assoc _ _ _))⟩); have p132 : 0 ≤ (((rd_T88 l0 a1).f2) : Int) := of_decide_eq_true (by first | (with_reducible assumption) | assumption); have q132 : ((rd_T88 l0 a1).f2) < (l0.length : Int) := of_decide_eq_true (by first | (with_reducible assumption) | assumption); obtain ⟨ad132, e132, hx132_0, hx132_1, hx132_2, hx132_3⟩ := at_T88 HR0.out ((rd_T88 l0 a1).f2) p132 q132; obtain rfl : ad126 = ad132 := (by injection e132); replace hx132_0 := (HB.out.cell (World.block_lt_of_cell? w _ hx132_0)).trans hx132_0; replace hx132_1 := (HB.out.cell (World.block_lt_of_cell? w _ hx132_1)).trans hx132_1; replace hx132_2 := (HB.out.cell (World.block_lt_of_cell? w _ hx132_2)).trans hx132_2; replace hx132_3 := (HB.out.cell (World.block_lt_of_cell? w _ hx132_3)).trans hx132_3; replace p132 := eq_true p132; replace q132 := eq_true q132)))
                              go_ret
                              exact ⟨by first | rfl | (simp [errW_none, errW_some] <;> rfl) | (simp [*, errW_none, errW_some] <;> rfl), by repeat (first | (with_reducible first | exact HB.out | apply below_alloc | apply pw_below_drewN | apply below_drew1 | refine below_set ?_ GE127.out) | exact HB.out)⟩
                            · rw [if_neg c37] at H
                              exact absurd H (by simp)
                          · rw [if_neg c36] at H
                            exact absurd H (by simp)
                      · rw [if_neg c33] at H
                        have c33b0 : (((rd_T88 l0 a1).f3) == 0) = false := beq_eq_false_iff_ne.mpr c33
                        have c33b1 : (((rd_T88 l0 a1).f3) != 0) = true := bne_iff_ne.mpr c33
                        obtain rfl := Option.some.inj H
                        have hcz39_0 : wc.cell? ⟨gb127, 0, none⟩ = some (.int .i64 ((rd_T88 l0 a1).f0)) := (blk_cell BK127.out 0).trans rfl
                        have hcz39_1 : wc.cell? ⟨gb127, 1, none⟩ = some (.string ((rd_T88 l0 a1).f1)) := (blk_cell BK127.out 1).trans rfl
                        have hcz39_2 : wc.cell? ⟨gb127, 2, none⟩ = some (.int .i64 ((rd_T88 l0 a1).f2)) := (blk_cell BK127.out 2).trans rfl
                        have hcz39_3 : wc.cell? ⟨gb127, 3, none⟩ = some (.int .i64 ((rd_T88 l0 a1).f3)) := (blk_cell BK127.out 3).trans rfl
                        have hfz39_0 := blk_frozen BK127.out 0
                        have hfz39_1 := blk_frozen BK127.out 1
                        have hfz39_2 := blk_frozen BK127.out 2
                        have hfz39_3 := blk_frozen BK127.out 3
                        go_wp2_with (first | (go_at_call 67; (with_reducible refine (spec_l1In.calls ((rd_T88 l0 a1).f2) 0 (wrap64 (a1 - 1)) true _ A26.out).mono ?_); rintro e w' ⟨rfl, ⟨nd, rfl⟩⟩; (try first | exact ⟨rfl, _, World.drewN_drewN _ _ _⟩ | exact ⟨rfl, _, Eq.trans (World.drewN_drewN _ _ _) (congrArg (World.drewN _) (Nat.add_assoc _ _ _))⟩)))
                        repeat (go_quiet (first | (go_at_call 67; (with_reducible refine (spec_l1In.calls ((rd_T88 l0 a1).f2) 0 (wrap64 (a1 - 1)) true _ A26.out).mono ?_); rintro e w' ⟨rfl, ⟨nd, rfl⟩⟩; (try first | exact ⟨rfl, _, World.drewN_drewN _ _ _⟩ | exact ⟨rfl, _, Eq.trans (World.drewN_drewN _ _ _) (congrArg (World.drewN _) (Nat.add_assoc _ _ _))⟩))); try go_wp2_with (first | (go_at_call 67; (with_reducible refine (spec_l1In.calls ((rd_T88 l0 a1).f2) 0 (wrap64 (a1 - 1)) true _ A26.out).mono ?_); rintro e w' ⟨rfl, ⟨nd, rfl⟩⟩; (try first | exact ⟨rfl, _, World.drewN_drewN _ _ _⟩ | exact ⟨rfl, _, Eq.trans (World.drewN_drewN _ _ _) (congrArg (World.drewN _) (Nat.add_assoc _ _ _))⟩))))
                        go_ret
                        exact ⟨by first | rfl | (simp [errW_none, errW_some] <;> rfl) | (simp [*, errW_none, errW_some] <;> rfl), by repeat (first | (with_reducible first | exact HB.out | apply below_alloc | apply pw_below_drewN | apply below_drew1 | refine below_set ?_ GE127.out) | exact HB.out)⟩
                  · replace c27 := Bool.eq_false_iff.mpr c27
                    subst c27
                    have H1 : (some false) = some r := by rw [if_neg (show ¬ (false = true) by decide)] at H; exact H
                    clear H
                    have H := H1
                    clear H1
                    obtain rfl := Option.some.inj H
                    have hcz40_0 : wc.cell? ⟨gb127, 0, none⟩ = some (.int .i64 ((rd_T88 l0 a1).f0)) := (blk_cell BK127.out 0).trans rfl
                    have hcz40_1 : wc.cell? ⟨gb127, 1, none⟩ = some (.string ((rd_T88 l0 a1).f1)) := (blk_cell BK127.out 1).trans rfl
                    have hcz40_2 : wc.cell? ⟨gb127, 2, none⟩ = some (.int .i64 ((rd_T88 l0 a1).f2)) := (blk_cell BK127.out 2).trans rfl
                    have hcz40_3 : wc.cell? ⟨gb127, 3, none⟩ = some (.int .i64 ((rd_T88 l0 a1).f3)) := (blk_cell BK127.out 3).trans rfl
                    have hfz40_0 := blk_frozen BK127.out 0
                    have hfz40_1 := blk_frozen BK127.out 1
                    have hfz40_2 := blk_frozen BK127.out 2
                    have hfz40_3 := blk_frozen BK127.out 3
                    go_wp2_with (first | (go_at_call 67; (with_reducible refine (spec_l1In.calls ((rd_T88 l0 a1).f2) 0 (wrap64 (a1 - 1)) false _ A26.out).mono ?_); rintro e w' ⟨rfl, ⟨nd, rfl⟩⟩; (try first | exact ⟨rfl, _, World.drewN_drewN _ _ _⟩ | exact ⟨rfl, _, Eq.trans (World.drewN_drewN _ _ _) (congrArg (World.drewN _) (Nat.add_assoc _ _ _))⟩)))
                    repeat (go_quiet (first | (go_at_call 67; (with_reducible refine (spec_l1In.calls ((rd_T88 l0 a1).f2) 0 (wrap64 (a1 - 1)) false _ A26.out).mono ?_); rintro e w' ⟨rfl, ⟨nd, rfl⟩⟩; (try first | exact ⟨rfl, _, World.drewN_drewN _ _ _⟩ | exact ⟨rfl, _, Eq.trans (World.drewN_drewN _ _ _) (congrArg (World.drewN _) (Nat.add_assoc _ _ _))⟩))); try go_wp2_with (first | (go_at_call 67; (with_reducible refine (spec_l1In.calls ((rd_T88 l0 a1).f2) 0 (wrap64 (a1 - 1)) false _ A26.out).mono ?_); rintro e w' ⟨rfl, ⟨nd, rfl⟩⟩; (try first | exact ⟨rfl, _, World.drewN_drewN _ _ _⟩ | exact ⟨rfl, _, Eq.trans (World.drewN_drewN _ _ _) (congrArg (World.drewN _) (Nat.add_assoc _ _ _))⟩))))
                    go_ret
                    exact ⟨by first | rfl | (simp [errW_none, errW_some] <;> rfl) | (simp [*, errW_none, errW_some] <;> rfl), by repeat (first | (with_reducible first | exact HB.out | apply below_alloc | apply pw_below_drewN | apply below_drew1 | refine below_set ?_ GE127.out) | exact HB.out)⟩
    · rw [if_neg c4] at H
      exact absurd H (by simp)
  · rw [if_neg c3] at H
    exact absurd H (by simp)

/-! ### spec_IsPlay: function 75 -/
mutual
def spec_IsPlay.l0 : Nat → List (S88) → Int → Option (Bool)
  | 0, _, _ => none
  | k + 1, x0, x3 => if x3 < (x0.length : Int) then (spec_IsPlay.j1 k x0 x3 (decide ((x0.length : Int) ≤ 9))) else (spec_IsPlay.j1 k x0 x3 false)
def spec_IsPlay.j1 : Nat → List (S88) → Int → Bool → Option (Bool)
  | 0, _, _, _ => none
  | k + 1, x0, x3, x12 => if x12 = true then ((spec_l15Ok.f k x0 x3).bind fun t133 => (if t133 = true then (spec_IsPlay.l0 k x0 (wrap64 (x3 + 1))) else (some false))) else ((spec_l1In.f (x0.length : Int) 1 9).bind fun t134 => (some t134))
end
def spec_IsPlay.f (k : Nat) (l0 : List (S88)) : Option (Bool) := spec_IsPlay.l0 k l0 0
theorem spec_IsPlay.mono_l : ∀ k, (∀ y0 y1, LeO (spec_IsPlay.l0 k y0 y1) (spec_IsPlay.l0 (k + 1) y0 y1)) ∧ (∀ y0 y1 y2, LeO (spec_IsPlay.j1 k y0 y1 y2) (spec_IsPlay.j1 (k + 1) y0 y1 y2))
  | 0 => ⟨fun _ _ r h => by simp [spec_IsPlay.l0] at h, fun _ _ _ r h => by simp [spec_IsPlay.j1] at h⟩
  | k + 1 => by
    obtain ⟨ih0, ih1⟩ := spec_IsPlay.mono_l k
    refine ⟨?_, ?_⟩
    · intro y0 y1
      unfold spec_IsPlay.l0
      repeat' first
      | (with_reducible exact ih0 _ _)
      | (with_reducible exact ih1 _ _ _)
      | (with_reducible exact spec_l15Ok.mono _ _ _)
      | (with_reducible exact LeO.refl _)
      | (with_reducible exact LeO.none _)
      | (with_reducible refine LeO.ite ?_ ?_)
      | (with_reducible refine LeO.bind ?_ (fun _ => ?_))
      | exact ih0 _ _
      | exact ih1 _ _ _
      | exact spec_l15Ok.mono _ _ _
      | exact LeO.none _
      | refine LeO.ite ?_ ?_
      | refine LeO.bind ?_ (fun _ => ?_)
    · intro y0 y1 y2
      unfold spec_IsPlay.j1
      repeat' first
      | (with_reducible exact ih0 _ _)
      | (with_reducible exact ih1 _ _ _)
      | (with_reducible exact spec_l15Ok.mono _ _ _)
      | (with_reducible exact LeO.refl _)
      | (with_reducible exact LeO.none _)
      | (with_reducible refine LeO.ite ?_ ?_)
      | (with_reducible refine LeO.bind ?_ (fun _ => ?_))
      | exact ih0 _ _
      | exact ih1 _ _ _
      | exact spec_l15Ok.mono _ _ _
      | exact LeO.none _
      | refine LeO.ite ?_ ?_
      | refine LeO.bind ?_ (fun _ => ?_)
theorem spec_IsPlay.mono : ∀ a0 k, LeO (spec_IsPlay.f k a0) (spec_IsPlay.f (k + 1) a0) := by
  intro a0 k
  obtain ⟨ih0, ih1⟩ := spec_IsPlay.mono_l k
  unfold spec_IsPlay.f
  repeat' first
      | (with_reducible exact ih0 _ _)
      | (with_reducible exact ih1 _ _ _)
      | (with_reducible exact spec_l15Ok.mono _ _ _)
      | (with_reducible exact LeO.refl _)
      | (with_reducible exact LeO.none _)
      | (with_reducible refine LeO.ite ?_ ?_)
      | (with_reducible refine LeO.bind ?_ (fun _ => ?_))
      | exact ih0 _ _
      | exact ih1 _ _ _
      | exact spec_l15Ok.mono _ _ _
      | exact LeO.none _
      | refine LeO.ite ?_ ?_
      | refine LeO.bind ?_ (fun _ => ?_)
set_option maxHeartbeats 8000000 in
set_option maxRecDepth 100000 in
theorem spec_IsPlay.calls (k : Nat) (A0 : Option Addr) (c0 : Nat) (l0 : List (S88)) (r : Bool) (w : World) (hr0 : Kd.C k88 w A0 l0.length l0) (hc0 : l0.length ≤ c0) (h : spec_IsPlay.f k l0 = some r) :
    Calls Try.prog 75 #[.slice A0 l0.length c0] w fun e w' => e = .returned (.bool r) ∧ Below w.heap.size w w' := by
  have HR0 := Aside0.mk hr0
  have HC0 := Aside0.mk hc0
  clear hr0 hc0
  have HB := Aside0.mk (Below.refl w.heap.size w)
  have H : (spec_IsPlay.l0 k l0 0) = some r := h
  clear h
  have H' := Aside0.mk H
  clear H
  go_enter Try.func75, Try.ntmps75
  go_wp2
  go_loopg [3] k (fun kq v3 w' => ∃ (x3_1 : Int), v3 = .int .i64 x3_1 ∧ Aside0 (spec_IsPlay.l0 kq l0 x3_1 = some r) ∧ Aside0 (kq ≤ k) ∧ Aside0 (Below w.heap.size w w'))
  case atStart => exact ⟨(0), (by first | rfl | (simp; done) | (simp [*]; done)), H', ⟨Nat.le_refl _⟩, ⟨by repeat (first | (with_reducible first | exact HB.out | apply below_alloc | apply pw_below_drewN | apply below_drew1) | exact HB.out)⟩⟩
  case round =>
    clear H'
    obtain ⟨x3_1, rfl, HA, HK1, HB⟩ := hrel
    cases gk with
    | zero => exact absurd HA.out (by simp [spec_IsPlay.l0])
    | succ k1 =>
      have H := HA.out
      clear HA
      simp only [spec_IsPlay.l0] at H
      have HC2 := Aside0.mk H
      clear H
      go_upto_region 2 with (fail)
      go_cut [12] (fun v12 wc => ∃ (kq : Nat) (x12_1 : Bool), v12 = .bool x12_1 ∧ Aside0 (spec_IsPlay.j1 kq l0 x3_1 x12_1 = some r) ∧ Aside0 (kq ≤ k1) ∧ Aside0 (Below w.heap.size w wc))
      case first =>
        have H := HC2.out
        clear HC2
        by_cases c3 : x3_1 < (l0.length : Int)
        · rw [if_pos c3] at H
          have c3b0 : decide (x3_1 < (l0.length : Int)) = true := decide_eq_true c3
          clear c3
          (first | rw [c3b0] | (simp only [i64_w, i32_w]; rw [c3b0]) | skip)
          have H' := Aside0.mk H
          clear H
          go_wp2
          go_meet
          case rel => exact ⟨_, (decide ((l0.length : Int) ≤ 9)), (by first | rfl | (simp; done) | (simp [*]; done)), H', ⟨by have := HK1.out; first | omega | exact Nat.le_refl _⟩, ⟨by repeat (first | (with_reducible first | exact HB.out | apply below_alloc | apply pw_below_drewN | apply below_drew1) | exact HB.out)⟩⟩
        · rw [if_neg c3] at H
          have c3b0 : decide (x3_1 < (l0.length : Int)) = false := decide_eq_false c3
          clear c3
          (first | rw [c3b0] | (simp only [i64_w, i32_w]; rw [c3b0]) | skip)
          have H' := Aside0.mk H
          clear H
          go_wp2
          go_meet
          case rel => exact ⟨_, (false), (by first | rfl | (simp; done) | (simp [*]; done)), H', ⟨by have := HK1.out; first | omega | exact Nat.le_refl _⟩, ⟨by repeat (first | (with_reducible first | exact HB.out | apply below_alloc | apply pw_below_drewN | apply below_drew1) | exact HB.out)⟩⟩
      case rest =>
        clear HC2
        try clear p2
        try clear c3
        try clear c3b0
        obtain ⟨kq, x12_1, rfl, HA, HJ1, HB⟩ := hcut
        cases kq with
        | zero => exact absurd HA.out (by simp [spec_IsPlay.j1])
        | succ kj1 =>
          have H := HA.out
          clear HA
          simp only [spec_IsPlay.j1] at H
          by_cases c4 : x12_1 = true
          · subst c4
            have H1 : ((spec_l15Ok.f kj1 l0 x3_1).bind fun t133 => (if t133 = true then (spec_IsPlay.l0 kj1 l0 (wrap64 (x3_1 + 1))) else (some false))) = some r := by rw [if_pos rfl] at H; exact H
            clear H
            have H := H1
            clear H1
            replace H := Option.bind_eq_some_iff.mp H
            obtain ⟨t133, A50, H⟩ := H
            replace H : (if t133 = true then (spec_IsPlay.l0 kj1 l0 (wrap64 (x3_1 + 1))) else (some false)) = some r := H
            have A5 := Aside0.mk A50
            clear A50
            by_cases c6 : t133 = true
            · subst c6
              have H1 : (spec_IsPlay.l0 kj1 l0 (wrap64 (x3_1 + 1))) = some r := by rw [if_pos rfl] at H; exact H
              clear H
              have H := H1
              clear H1
              have H' := Aside0.mk H
              clear H
              go_wp2_with (first | ((with_reducible refine gate_callee (f := 97) rfl ?_); refine goesL_ (some 17) rfl rfl Try.func97 (by kernel_rfl) rfl #[.slice A0 l0.length c0, .int .i64 x3_1] rfl (by (try simp only [List.map_toArray, List.map_cons, List.map_nil]); first | done | rfl | (simp only [List.length_drop, List.length_take]; rfl)) ?_; (with_reducible refine (spec_l15Ok.calls kj1 _ _ l0 x3_1 true _ ?side1 ?side2 A5.out).mono ?_); (case side1 => repeat (first | exact (Kd.C_below HR0.out HB.out) | (with_reducible refine Kd.C_alloc ?_ _) | (with_reducible refine Kd.C_drewN ?_ _) | (with_reducible refine Kd.C_drew ?_))); (case side2 => exact HC0.out); rintro e w7 ⟨rfl, hb⟩; refine ⟨_, rfl, ?_⟩; have n0_ := Aside0.mk (below_step (by repeat (first | (with_reducible first | exact HB.out | apply below_alloc | apply pw_below_drewN | apply below_drew1) | exact HB.out)) hb); clear HB; have HB := n0_; clear n0_; (try clear hb); (try clear hb2); (try clear hk); (try clear hi)))
              go_roundg kj1
              case measure => have := HK1.out; have := HJ1.out; omega
              case rel => exact ⟨(wrap64 (x3_1 + 1)), (by first | rfl | (simp; done) | (simp [*]; done)), H', ⟨by have := HK1.out; have := HJ1.out; omega⟩, ⟨by repeat (first | (with_reducible first | exact HB.out | apply below_alloc | apply pw_below_drewN | apply below_drew1) | exact HB.out)⟩⟩
            · replace c6 := Bool.eq_false_iff.mpr c6
              subst c6
              have H1 : (some false) = some r := by rw [if_neg (show ¬ (false = true) by decide)] at H; exact H
              clear H
              have H := H1
              clear H1
              obtain rfl := Option.some.inj H
              go_wp2_with (first | ((with_reducible refine gate_callee (f := 97) rfl ?_); refine goesL_ (some 17) rfl rfl Try.func97 (by kernel_rfl) rfl #[.slice A0 l0.length c0, .int .i64 x3_1] rfl (by (try simp only [List.map_toArray, List.map_cons, List.map_nil]); first | done | rfl | (simp only [List.length_drop, List.length_take]; rfl)) ?_; (with_reducible refine (spec_l15Ok.calls kj1 _ _ l0 x3_1 false _ ?side1 ?side2 A5.out).mono ?_); (case side1 => repeat (first | exact (Kd.C_below HR0.out HB.out) | (with_reducible refine Kd.C_alloc ?_ _) | (with_reducible refine Kd.C_drewN ?_ _) | (with_reducible refine Kd.C_drew ?_))); (case side2 => exact HC0.out); rintro e w8 ⟨rfl, hb⟩; refine ⟨_, rfl, ?_⟩; have n0_ := Aside0.mk (below_step (by repeat (first | (with_reducible first | exact HB.out | apply below_alloc | apply pw_below_drewN | apply below_drew1) | exact HB.out)) hb); clear HB; have HB := n0_; clear n0_; (try clear hb); (try clear hb2); (try clear hk); (try clear hi)))
              go_ret
              exact ⟨by first | rfl | (simp [errW_none, errW_some] <;> rfl) | (simp [*, errW_none, errW_some] <;> rfl), by repeat (first | (with_reducible first | exact HB.out | apply below_alloc | apply pw_below_drewN | apply below_drew1) | exact HB.out)⟩
          · replace c4 := Bool.eq_false_iff.mpr c4
            subst c4
            have H1 : ((spec_l1In.f (l0.length : Int) 1 9).bind fun t134 => (some t134)) = some r := by rw [if_neg (show ¬ (false = true) by decide)] at H; exact H
            clear H
            have H := H1
            clear H1
            replace H := Option.bind_eq_some_iff.mp H
            obtain ⟨t134, A90, H⟩ := H
            replace H : (some t134) = some r := H
            have A9 := Aside0.mk A90
            clear A90
            obtain rfl := Option.some.inj H
            go_wp2_with (first | ((with_reducible refine gate_callee (f := 67) rfl ?_); refine goesL_ (some 21) rfl rfl Try.func67 (by kernel_rfl) rfl #[.int .i64 (l0.length : Int), .int .i64 1, .int .i64 9] rfl (by (try simp only [List.map_toArray, List.map_cons, List.map_nil]); first | done | rfl | (simp only [List.length_drop, List.length_take]; rfl)) ?_; (with_reducible refine (spec_l1In.calls (l0.length : Int) 1 9 t134 _ A9.out).mono ?_); rintro e w' ⟨rfl, ⟨nd, rfl⟩⟩; refine ⟨_, rfl, ?_⟩))
            go_ret
            exact ⟨by first | rfl | (simp [errW_none, errW_some] <;> rfl) | (simp [*, errW_none, errW_some] <;> rfl), by repeat (first | (with_reducible first | exact HB.out | apply below_alloc | apply pw_below_drewN | apply below_drew1) | exact HB.out)⟩

end Go.Proofs.Ytfnpmkmdpbgjkaa.PFnExactStepsUsed
