/- Walks of functions: what each computes. -/
import Derived.Test.YthjcicmmbmagbaaZIsSolvedP0
import Derived.Test.YthjcicmmbmagbaaZIsSolvedP19
import Derived.Test.YthjcicmmbmagbaaZIsSolvedW
import Derived.Test.YthjcicmmbmagbaaZIsSolvedShelf
import Derived.Test.YthjcicmmbmagbaaZIsSolvedHandSort
import Derived.Test.YthjcicmmbmagbaaZIsSolvedHandForm
import Derived.Test.YthjcicmmbmagbaaZIsSolvedHandAlone
import Derived.Test.YthjcicmmbmagbaaZIsSolvedHandReach
namespace Go.Proofs.Ythjcicmmbmagbaa.PFnExactIsSolved
open Go.RowKit Go.Proofs.YthjcicmmbmagbaaW.PrintWords Go.Proofs.YthjcicmmbmagbaaW.PrintLast Go.Proofs.YthjcicmmbmagbaaW.PrintMore Go.Proofs.Ythjcicmmbmagbaa.Sq
attribute [local go_sem] max2_int min2_int max_two min_two max_three min_three max_four min_four
set_option linter.unusedVariables false
set_option linter.unusedSimpArgs false
mutual
def impl_cells.j0 : Nat → Int → Int → Bool → Int → Int → Option (List Int)
 | 0, _, _, _, _, _ => none
 | k + 1, x5, x447000, x447001, x447002, x447003 => impl_cells.l0 k x5 ([] : List Int) x447003 0 x447000 x447001 x447002 x447003
def impl_cells.l0 : Nat → Int → List Int → Int → Int → Int → Bool → Int → Int → Option (List Int)
 | 0, _, _, _, _, _, _, _, _ => none
 | k + 1, x5, x6, x13, x14, x447000, x447001, x447002, x447003 => if x14 < x13 then (if x6.length < 17592186044416 then (impl_cells.l0 k x5 (x6 ++ [wrap64 (x447002 + (wrap64 (x14 * x5)))]) x13 (wrap64 (x14 + 1)) x447000 x447001 x447002 x447003) else (none)) else (some x6)
end
def impl_cells.f (k : Nat) (a0_0 : Int) (a0_1 : Int) (a0_2 : ByteArray) (a1_0 : Int) (a1_1 : Bool) (a1_2 : Int) (a1_3 : Int) : Option (List Int) := if a1_1 = true then (impl_cells.j0 k a0_1 a1_0 a1_1 a1_2 a1_3) else (impl_cells.j0 k 1 a1_0 a1_1 a1_2 a1_3)
set_option maxHeartbeats 8000000 in
set_option maxRecDepth 100000 in
theorem impl_cells.calls (k : Nat) (a0_0 : Int) (a0_1 : Int) (a0_2 : ByteArray) (a1_0 : Int) (a1_1 : Bool) (a1_2 : Int) (a1_3 : Int) (r : List Int) (w : World) (h : impl_cells.f k a0_0 a0_1 a0_2 a1_0 a1_1 a1_2 a1_3 = some r) :
  Calls Try.prog 200 #[.agg #[.int .i64 a0_0, .int .i64 a0_1, .string a0_2], .agg #[.int .i64 a1_0, .bool a1_1, .int .i64 a1_2, .int .i64 a1_3]] w fun e w' => ∃ v0_ : Value, e = .returned (v0_) ∧ Kd.R (Kd.int .i64) 3 w' w.heap.size (fun _ => True) v0_ r ∧ Below w.heap.size w w' := by
 have hu66 := Try.underlying66
 have hu153 := Try.underlying153
 have HB := Aside0.mk (Below.refl w.heap.size w)
 have H : (if a1_1 = true then (impl_cells.j0 k a0_1 a1_0 a1_1 a1_2 a1_3) else (impl_cells.j0 k 1 a1_0 a1_1 a1_2 a1_3)) = some r := h
 clear h
 have HC3 := Aside0.mk H
 clear H
 go_enter Try.func200, Try.ntmps200
 go_upto_if 9 with (first | ((with_reducible refine gate_dst (N := 2) rfl ?_); refine box_ev (N := 2) (cs := #[.int .i64 a0_0, .int .i64 a0_1, .string a0_2]) (t := 66) ?_; intro gb445 hg w4 hbox hb; have n0_ := BS (w := w) hb; have n1_ := Aside0.mk (hbox); have n2_ := SZ (w := w) hg; have n3_ := SZ (w := w) hg; clear HB; have HB := n0_; have BK445 := n1_; have GW445 := n2_; have GE445 := n3_; clear n0_ n1_ n2_ n3_; clear hb hbox hg) | ((with_reducible refine gate_dst (N := 3) rfl ?_); refine box_ev (N := 3) (cs := #[.int .i64 a1_0, .bool a1_1, .int .i64 a1_2, .int .i64 a1_3]) (t := 153) ?_; intro gb446 hg w5 hbox hb; have n0_ := KB BK445 hb; have n1_ := BS (w := w) hb; have n2_ := Aside0.mk (hbox); have n3_ := SZ (w := w) hg; have n4_ := SZ (w := w) hg; have n5_ := NL BK445 hg; have n6_ := NG BK445 hg; clear BK445 HB; have BK445 := n0_; have HB := n1_; have BK446 := n2_; have GW446 := n3_; have GE446 := n4_; have NB445_446 := n5_; have NB446_445 := n6_; clear n0_ n1_ n2_ n3_ n4_ n5_ n6_; clear hb hbox hg; have hnb6 := NB446_445.out; have hnc6 := NB445_446.out; obtain ⟨hcz7_0, hcz7_1, hcz7_2, hcz7_3, hfz7_0, hfz7_1, hfz7_2, hfz7_3⟩ := cz4 BK446.out))
 (try simp only [Act.put, List.setIfInBounds_toArray, List.set_cons_zero, List.set_cons_succ])
 go_cut [5] (fun v5 wc => ∃ (kq : Nat) (x5_2 : Int), v5 = .int .i64 x5_2 ∧ Aside0 (impl_cells.j0 kq x5_2 a1_0 a1_1 a1_2 a1_3 = some r) ∧ Aside0 (kq ≤ k) ∧ Aside0 (wc.heap[gb445]? = some (.cells #[.int .i64 a0_0, .int .i64 a0_1, .string a0_2] 66 (0, 0))) ∧ Aside0 (wc.heap[gb446]? = some (.cells #[.int .i64 a1_0, .bool a1_1, .int .i64 a1_2, .int .i64 a1_3] 153 (0, 0))) ∧ Aside0 (Below w.heap.size w wc))
 case first =>
  have H := HC3.out
  clear HC3
  by_cases c8 : a1_1 = true
  ·subst c8
   rw [if_pos rfl] at H
   have H' := Aside0.mk H
   clear H
   have hnb8000 := NB445_446.out
   have hnc8000 := NB446_445.out
   obtain ⟨hcz8001_0, hcz8001_1, hcz8001_2, hfz8001_0, hfz8001_1, hfz8001_2⟩ := cz3 BK445.out
   go_wp2
   go_meet
   case rel => exact ⟨_, (a0_1), EQ, H', ⟨by first | omega | exact Nat.le_refl _⟩, ⟨BK⟩, ⟨BK⟩, ⟨BL⟩⟩
  ·replace c8 := Bool.eq_false_iff.mpr c8
   subst c8
   rw [if_neg Bool.false_ne_true] at H
   have H' := Aside0.mk H
   clear H
   go_wp2
   go_meet
   case rel => exact ⟨_, (1), EQ, H', ⟨by first | omega | exact Nat.le_refl _⟩, ⟨BK⟩, ⟨BK⟩, ⟨BL⟩⟩
 case rest =>
  clear HC3
  try clear hcz7_0
  try clear hcz7_1
  try clear hcz7_2
  try clear hcz7_3
  try clear hfz7_0
  try clear hfz7_1
  try clear hfz7_2
  try clear hfz7_3
  obtain ⟨kq, x5_2, rfl, HA, HJ2, BK445, BK446, HB⟩ := hcut
  cases kq with
  | zero => exact absurd HA.out (by simp [impl_cells.j0])
  | succ kj2 =>
   have H := HA.out
   clear HA
   simp only [impl_cells.j0] at H
   have H' := Aside0.mk H
   clear H
   have hnb11 := NB446_445.out
   have hnc11 := NB445_446.out
   obtain ⟨hcz12_0, hcz12_1, hcz12_2, hcz12_3, hfz12_0, hfz12_1, hfz12_2, hfz12_3⟩ := cz4 BK446.out
   go_wp2
   go_loopg [6, 14] kj2 (fun kq v6 v14 w' => ∃ (x6_2 : List Int) (x14_2 : Int), v14 = .int .i64 x14_2 ∧ Aside0 (impl_cells.l0 kq x5_2 x6_2 a1_3 x14_2 a1_0 a1_1 a1_2 a1_3 = some r) ∧ Aside0 (kq ≤ kj2) ∧ Aside0 (Kd.R (Kd.int .i64) 3 w' w.heap.size (fun _ => True) v6 x6_2) ∧ Aside0 (w'.heap[gb445]? = some (.cells #[.int .i64 a0_0, .int .i64 a0_1, .string a0_2] 66 (0, 0))) ∧ Aside0 (w'.heap[gb446]? = some (.cells #[.int .i64 a1_0, .bool a1_1, .int .i64 a1_2, .int .i64 a1_3] 153 (0, 0))) ∧ Aside0 (Below w.heap.size w w'))
   case atStart => exact ⟨(([] : List Int)), (0), EQ, H', ⟨Nat.le_refl _⟩, ⟨by first | exact Kd.R_nil _ _ _ _ _ | exact Kd.N_nil _ _ _ _ _ | exact Kd.V_nil _ _ _ _ _ | exact Kd.Q_nil _ _ _ _ _ | exact Kd.S_nil _ _ _ _ _⟩, ⟨BK⟩, ⟨BK⟩, ⟨BL⟩⟩
   case round =>
    clear H'
    try clear hcz12_0
    try clear hcz12_1
    try clear hcz12_2
    try clear hcz12_3
    try clear hcz7_0
    try clear hcz7_1
    try clear hcz7_2
    try clear hcz7_3
    try clear hfz12_0
    try clear hfz12_1
    try clear hfz12_2
    try clear hfz12_3
    try clear hfz7_0
    try clear hfz7_1
    try clear hfz7_2
    try clear hfz7_3
    obtain ⟨x6_2, x14_2, rfl, HA, HK2, HO_6, BK445, BK446, HB⟩ := hrel
    cases gk with
    | zero => exact absurd HA.out (by simp [impl_cells.l0])
    | succ k2 =>
     have H := HA.out
     clear HA
     simp only [impl_cells.l0] at H
     replace H := ifD H; rcases H with ⟨c13b0, H⟩ | ⟨c13b0, H⟩
     ·replace H := ifP H; obtain ⟨c14, H⟩ := H
      have LMc14 := Aside0.mk c14
      clear c14
      obtain ⟨y447, hy447⟩ : ∃ y_ : List Int, y_ = (x6_2 ++ [wrap64 (a1_2 + (wrap64 (x14_2 * x5_2)))]) := ⟨_, rfl⟩
      replace H : (impl_cells.l0 k2 x5_2 y447 a1_3 (wrap64 (x14_2 + 1)) a1_0 a1_1 a1_2 a1_3) = some r := by first | (rw [hy447]; with_reducible exact H) | (have H2_ := (Option.bind_some _ _).symm.trans H; rw [hy447]; with_reducible exact H2_) | (have H2_ := (Option.bind_some _ _).symm.trans H; with_reducible exact H2_) | with_reducible exact H | (rw [hy447]; exact H) | exact H
      have Ny447 := Aside0.mk hy447
      clear hy447
      have H' := Aside0.mk H
      clear H
      have hnb5000 := NB446_445.out
      have hnc5000 := NB445_446.out
      obtain ⟨hcz5001_0, hcz5001_1, hcz5001_2, hcz5001_3, hfz5001_0, hfz5001_1, hfz5001_2, hfz5001_3⟩ := cz4 BK446.out
      go_wp2_with (first | ((with_reducible refine gate_builtin (b := .append) (xs := #[.tmp 17, .tmp 24]) rfl ?_); at_builtin; refine Kd.R_append (Kd.int .i64) (w0 := w) w.heap.size rfl (.tmp 17) (.tmp 24) 45 3 (.int .i64 0) 8 rfl Try.underlying45 info3 rfl (by decide) (by omega) u6 x6_2 (wrap64 (a1_2 + (wrap64 (x14_2 * x5_2)))) [.int .i64 (wrap64 (a1_2 + (wrap64 (x14_2 * x5_2))))] (fun _ => True) (fun _ => False) rfl rfl ?aP (fun _ hk => hk.elim) ?aF ?aO ?aB ?aS ?aL ?_; (case aP => exact rfl); (case aB => exact BL); (case aF => exact (fun _ _ => trivial)); (case aO => exact (RR HO_6)); (case aS => exact (below_size BL)); (case aL => have := LMc14.out; omega); intro v448 w5002 ho hb hg hat; rw [← Ny447.out] at ho; have n0_ := Aside0.mk (blk_grown (g := gb445) (o := .cells #[.int .i64 a0_0, .int .i64 a0_1, .string a0_2] 66 (0, 0)) BK hg (Kd.R_ne HO_6.out BK445.out (by decide))); have n1_ := Aside0.mk (blk_grown (g := gb446) (o := .cells #[.int .i64 a1_0, .bool a1_1, .int .i64 a1_2, .int .i64 a1_3] 153 (0, 0)) BK hg (Kd.R_ne HO_6.out BK446.out (by decide))); have n2_ := Aside0.mk (hb); have n3_ := Aside0.mk (ho); clear BK445 BK446 HB HO_6; have BK445 := n0_; have BK446 := n1_; have HB := n2_; have HO449 := n3_; clear n0_ n1_ n2_ n3_; clear ho hb hg hat))
      go_roundg k2
      case measure => have := HJ2.out; have := HK2.out; omega
      case rel => exact ⟨(y447), (wrap64 (x14_2 + 1)), EQ, H', ⟨by have := HJ2.out; have := HK2.out; omega⟩, ⟨(RR HO449)⟩, ⟨BK⟩, ⟨BK⟩, ⟨BL⟩⟩
     ·obtain rfl := Option.some.inj H
      go_wp2
      go_ret
      exact ⟨_, EWW, (RR HO_6), BL⟩
def impl_layout.l0 : Nat → List (List Int) → List (S153) → Int → Int → Int → Int → ByteArray → Option ((List (List Int)))
 | 0, _, _, _, _, _, _, _ => none
 | k + 1, x3, x7, x8, x9, x451000, x451001, x451002 => if x9 < x8 then (if 0 ≤ x9 then (if x9 < (x7.length : Int) then ((impl_cells.f k x451000 x451001 x451002 ((rd_T153 x7 x9).f0) ((rd_T153 x7 x9).f1) ((rd_T153 x7 x9).f2) ((rd_T153 x7 x9).f3)).bind fun t456 => (if x3.length < 5864062014805 then (impl_layout.l0 k (x3 ++ [t456]) x7 x8 (wrap64 (x9 + 1)) x451000 x451001 x451002) else (none))) else (none)) else (none)) else (some x3)
def impl_layout.f (k : Nat) (a0_0 : Int) (a0_1 : Int) (a0_2 : ByteArray) : Option ((List (List Int))) := (impl_SlotsOf.f k a0_0 a0_1 a0_2).bind fun t451 => (impl_layout.l0 k ([] : List (List Int)) t451 (t451.length : Int) 0 a0_0 a0_1 a0_2)
set_option maxHeartbeats 8000000 in
set_option maxRecDepth 100000 in
theorem impl_layout.calls (k : Nat) (a0_0 : Int) (a0_1 : Int) (a0_2 : ByteArray) (r : List (List Int)) (w : World) (h : impl_layout.f k a0_0 a0_1 a0_2 = some r) :
  Calls Try.prog 178 #[.agg #[.int .i64 a0_0, .int .i64 a0_1, .string a0_2]] w fun e w' => ∃ v0_ : Value, e = .returned (v0_) ∧ Kd.S (Kd.slice 3 (Kd.int .i64)) 45 w' w.heap.size (fun _ => True) v0_ r ∧ Below w.heap.size w w' := by
 have hu66 := Try.underlying66
 have hu153 := Try.underlying153
 have HB := Aside0.mk (Below.refl w.heap.size w)
 have H : ((impl_SlotsOf.f k a0_0 a0_1 a0_2).bind fun t451 => (impl_layout.l0 k ([] : List (List Int)) t451 (t451.length : Int) 0 a0_0 a0_1 a0_2)) = some r := h
 clear h
 replace H := be H; obtain ⟨t451, A2, H⟩ := H
 have H' := Aside0.mk H
 clear H
 go_enter Try.func178, Try.ntmps178
 go_wp2_with (first | ((with_reducible refine gate_dst (N := 1) rfl ?_); refine box_ev (N := 1) (cs := #[.int .i64 a0_0, .int .i64 a0_1, .string a0_2]) (t := 66) ?_; intro gb450 hg w3 hbox hb; have n0_ := BS (w := w) hb; have n1_ := Aside0.mk (hbox); have n2_ := SZ (w := w) hg; have n3_ := SZ (w := w) hg; clear HB; have HB := n0_; have BK450 := n1_; have GW450 := n2_; have GE450 := n3_; clear n0_ n1_ n2_ n3_; clear hb hbox hg; obtain ⟨hcz4_0, hcz4_1, hcz4_2, hfz4_0, hfz4_1, hfz4_2⟩ := cz3 BK450.out) | ((with_reducible refine gate_callee (f := 91) rfl ?_); refine goesS (some 7) Try.func91 #[.agg #[.int .i64 a0_0, .int .i64 a0_1, .string a0_2]] ?_; (with_reducible refine (impl_SlotsOf.calls k a0_0 a0_1 a0_2 t451 _ A2.out).mono ?_); rintro e w5 ⟨v452, rfl, ho0, hb⟩; refine ⟨_, rfl, ?_⟩; have n0_ := Aside0.mk (Kd.R_lower ho0 (below_size BL)); replace BK450 := KB BK450 hb; replace HB := BS (w := w) hb; have HO453 := n0_; clear n0_; (try clear hb); (try clear ho0); obtain ⟨Ao6, co6, eo6⟩ := Kd.R_slice HO453.out; subst eo6))
 go_loopg [3, 9] k (fun kq v3 v9 w' => ∃ (x3_1 : List (List Int)) (x9_1 : Int), v9 = .int .i64 x9_1 ∧ Aside0 (impl_layout.l0 kq x3_1 t451 (t451.length : Int) x9_1 a0_0 a0_1 a0_2 = some r) ∧ Aside0 (kq ≤ k) ∧ Aside0 (Kd.S (Kd.slice 3 (Kd.int .i64)) 45 w' w.heap.size (fun _ => True) v3 x3_1) ∧ Aside0 (Kd.R k153 153 w' w.heap.size (fun _ => True) (.slice Ao6 t451.length co6) t451) ∧ Aside0 (w'.heap[gb450]? = some (.cells #[.int .i64 a0_0, .int .i64 a0_1, .string a0_2] 66 (0, 0))) ∧ Aside0 (Below w.heap.size w w'))
 case atStart => exact ⟨(([] : List (List Int))), (0), EQ, H', ⟨Nat.le_refl _⟩, ⟨by first | exact Kd.S_nil _ _ _ _ _ | exact Kd.N_nil _ _ _ _ _ | exact Kd.V_nil _ _ _ _ _ | exact Kd.Q_nil _ _ _ _ _ | exact Kd.R_nil _ _ _ _ _⟩, ⟨(RR HO453)⟩, ⟨BK⟩, ⟨BL⟩⟩
 case round =>
  clear H'
  try clear hcz4_0
  try clear hcz4_1
  try clear hcz4_2
  try clear hfz4_0
  try clear hfz4_1
  try clear hfz4_2
  obtain ⟨x3_1, x9_1, rfl, HA, HK1, HO_3, HO_7, BK450, HB⟩ := hrel
  cases gk with
  | zero => exact absurd HA.out (by simp [impl_layout.l0])
  | succ k1 =>
   have H := HA.out
   clear HA
   simp only [impl_layout.l0] at H
   replace H := ifD H; rcases H with ⟨c7b0, H⟩ | ⟨c7b0, H⟩
   ·replace H := ifN H; obtain ⟨c8b0, H⟩ := H
    replace H := ifN H; obtain ⟨c9b0, H⟩ := H
    replace H := be H; obtain ⟨t456, A10, H⟩ := H
    replace H := ifP H; obtain ⟨c11, H⟩ := H
    have LMc11 := Aside0.mk c11
    clear c11
    obtain ⟨y459, hy459⟩ : ∃ y_ : List (List Int), y_ = (x3_1 ++ [t456]) := ⟨_, rfl⟩
    replace H : (impl_layout.l0 k1 y459 t451 (t451.length : Int) (wrap64 (x9_1 + 1)) a0_0 a0_1 a0_2) = some r := by first | (rw [hy459]; with_reducible exact H) | (have H2_ := (Option.bind_some _ _).symm.trans H; rw [hy459]; with_reducible exact H2_) | (have H2_ := (Option.bind_some _ _).symm.trans H; with_reducible exact H2_) | with_reducible exact H | (rw [hy459]; exact H) | exact H
    have Ny459 := Aside0.mk hy459
    clear hy459
    have H' := Aside0.mk H
    clear H
    have p454 : 0 ≤ (x9_1 : Int) := OD
    have q454 : x9_1 < (t451.length : Int) := OD
    obtain ⟨ad454, e454, hx454_0, hx454_1, hx454_2, hx454_3⟩ := at_T153 (Kd.R_reads' HO_7.out).2.2 x9_1 p454 q454
    cases e454
    replace p454 := eq_true p454
    replace q454 := eq_true q454
    go_wp2_with (first | ((with_reducible refine gate_dst (N := 5) rfl ?_); refine box_ev (N := 5) (cs := #[.int .i64 0, .bool false, .int .i64 0, .int .i64 0]) (t := 153) ?_; intro gb455 hg w7000 hbox hb; have n0_ := Aside0.mk (Kd.S_below (SR HO_3) hb); have n1_ := Aside0.mk (Kd.R_below (Kd.R_elderB (RR HO_7) gb455 (Nat.le_of_eq hg.symm)) hb); have n2_ := KB BK450 hb; have n3_ := BS (w := w) hb; have n4_ := Aside0.mk (hbox); have n5_ := SZ (w := w) hg; have n6_ := SZ (w := w) hg; have n7_ := NL BK450 hg; have n8_ := NG BK450 hg; clear HO_3 HO_7 BK450 HB; have HO_3 := n0_; have HO_7 := n1_; have BK450 := n2_; have HB := n3_; have BK455 := n4_; have GW455 := n5_; have GE455 := n6_; have NB450_455 := n7_; have NB455_450 := n8_; clear n0_ n1_ n2_ n3_ n4_ n5_ n6_ n7_ n8_; clear hb hbox hg; have hnb7001 := NB455_450.out; have hnc7001 := NB450_455.out; obtain ⟨hcz7002_0, hcz7002_1, hcz7002_2, hcz7002_3, hfz7002_0, hfz7002_1, hfz7002_2, hfz7002_3⟩ := cz4 BK455.out; obtain ⟨hcz7003_0, hcz7003_1, hcz7003_2, hfz7003_0, hfz7003_1, hfz7003_2⟩ := cz3 BK450.out) | ((with_reducible refine gate_callee (f := 200) rfl ?_); refine goesS (some 16) Try.func200 #[.agg #[.int .i64 a0_0, .int .i64 a0_1, .string a0_2], .agg #[.int .i64 ((rd_T153 t451 x9_1).f0), .bool ((rd_T153 t451 x9_1).f1), .int .i64 ((rd_T153 t451 x9_1).f2), .int .i64 ((rd_T153 t451 x9_1).f3)]] ?_; (with_reducible refine (impl_cells.calls k1 a0_0 a0_1 a0_2 ((rd_T153 t451 x9_1).f0) ((rd_T153 t451 x9_1).f1) ((rd_T153 t451 x9_1).f2) ((rd_T153 t451 x9_1).f3) t456 _ A10.out).mono ?_); rintro e w7004 ⟨v457, rfl, ho0, hb⟩; refine ⟨_, rfl, ?_⟩; have n0_ := Aside0.mk (Kd.S_elder' (by (with_reducible repeat (first | apply Kd.S_alloc | apply Kd.S_drewN | apply Kd.S_drew)); exact (Kd.S_mono (Kd.S_far (p := ⟨gb455, 3, none⟩) (Kd.S_far (p := ⟨gb455, 2, none⟩) (Kd.S_far (p := ⟨gb455, 1, none⟩) (Kd.S_far (p := ⟨gb455, 0, none⟩) (Kd.S_types HO_3.out BK455.out (by decide)) (fun _ hk => hk.2) (.int .i64 ((rd_T153 t451 x9_1).f0))) (fun _ hk => hk.2) (.bool ((rd_T153 t451 x9_1).f1))) (fun _ hk => hk.2) (.int .i64 ((rd_T153 t451 x9_1).f2))) (fun _ hk => hk.2) (.int .i64 ((rd_T153 t451 x9_1).f3))) (fun _ h_ => h_.1))) (Kd.R_base ho0) hb); have n1_ := Aside0.mk (Kd.R_below (by (with_reducible repeat (first | apply Kd.R_alloc | apply Kd.R_drewN | apply Kd.R_drew)); exact (Kd.R_mono (Kd.R_far (p := ⟨gb455, 3, none⟩) (Kd.R_far (p := ⟨gb455, 2, none⟩) (Kd.R_far (p := ⟨gb455, 1, none⟩) (Kd.R_far (p := ⟨gb455, 0, none⟩) (Kd.R_mono HO_7.out (fun k_ hk => (⟨hk, hk.2⟩ : _ ∧ k_ ≠ gb455))) (fun _ hk => hk.2) (.int .i64 ((rd_T153 t451 x9_1).f0))) (fun _ hk => hk.2) (.bool ((rd_T153 t451 x9_1).f1))) (fun _ hk => hk.2) (.int .i64 ((rd_T153 t451 x9_1).f2))) (fun _ hk => hk.2) (.int .i64 ((rd_T153 t451 x9_1).f3))) (fun _ h_ => h_.1))) hb); have n2_ := Aside0.mk (Kd.R_lower ho0 (below_size BL)); have n3_ := Aside0.mk (blk_below (g := gb450) (o := .cells #[.int .i64 a0_0, .int .i64 a0_1, .string a0_2] 66 (0, 0)) (by (with_reducible repeat (first | refine blk_drewN ?_ _ | refine blk_drew ?_ | refine blk_alloc ?_ _)); refine blk_far ?_ NB450_455.out _; (with_reducible repeat (first | refine blk_drewN ?_ _ | refine blk_drew ?_ | refine blk_alloc ?_ _)); refine blk_far ?_ NB450_455.out _; (with_reducible repeat (first | refine blk_drewN ?_ _ | refine blk_drew ?_ | refine blk_alloc ?_ _)); refine blk_far ?_ NB450_455.out _; (with_reducible repeat (first | refine blk_drewN ?_ _ | refine blk_drew ?_ | refine blk_alloc ?_ _)); refine blk_far ?_ NB450_455.out _; (with_reducible repeat (first | refine blk_drewN ?_ _ | refine blk_drew ?_ | refine blk_alloc ?_ _)); exact BK450.out) hb); have n4_ := Aside0.mk (blk_below (g := gb455) (o := .cells #[.int .i64 ((rd_T153 t451 x9_1).f0), .bool ((rd_T153 t451 x9_1).f1), .int .i64 ((rd_T153 t451 x9_1).f2), .int .i64 ((rd_T153 t451 x9_1).f3)] 153 (0, 0)) (by (with_reducible repeat (first | refine blk_drewN ?_ _ | refine blk_drew ?_ | refine blk_alloc ?_ _)); refine blk_put (cs := #[.int .i64 ((rd_T153 t451 x9_1).f0), .bool ((rd_T153 t451 x9_1).f1), .int .i64 ((rd_T153 t451 x9_1).f2), .int .i64 0]) ?_ 3 _ rfl; (with_reducible repeat (first | refine blk_drewN ?_ _ | refine blk_drew ?_ | refine blk_alloc ?_ _)); refine blk_put (cs := #[.int .i64 ((rd_T153 t451 x9_1).f0), .bool ((rd_T153 t451 x9_1).f1), .int .i64 0, .int .i64 0]) ?_ 2 _ rfl; (with_reducible repeat (first | refine blk_drewN ?_ _ | refine blk_drew ?_ | refine blk_alloc ?_ _)); refine blk_put (cs := #[.int .i64 ((rd_T153 t451 x9_1).f0), .bool false, .int .i64 0, .int .i64 0]) ?_ 1 _ rfl; (with_reducible repeat (first | refine blk_drewN ?_ _ | refine blk_drew ?_ | refine blk_alloc ?_ _)); refine blk_put (cs := #[.int .i64 0, .bool false, .int .i64 0, .int .i64 0]) ?_ 0 _ rfl; (with_reducible repeat (first | refine blk_drewN ?_ _ | refine blk_drew ?_ | refine blk_alloc ?_ _)); exact BK455.out) hb); replace HB := BS (w := w) hb; clear HO_3 HO_7 BK450 BK455; have HO_3 := n0_; have HO_7 := n1_; have HO458 := n2_; have BK450 := n3_; have BK455 := n4_; clear n0_ n1_ n2_ n3_ n4_; (try clear hb); (try clear hk); (try clear ho0); obtain ⟨Ao7005, co7005, eo7005⟩ := Kd.R_slice HO458.out; subst eo7005) | ((with_reducible refine gate_builtin (b := .append) (xs := #[.tmp 13, .tmp 17]) rfl ?_); at_builtin; refine Kd.S_append (Kd.slice 3 (Kd.int .i64)) (w0 := w) w.heap.size rfl (.tmp 13) (.tmp 17) 173 45 (.slice none 0 0) 24 rfl Try.underlying173 info45 rfl (by decide) (by omega) u3 x3_1 t456 [.slice Ao7005 t456.length co7005] (fun _ => True) (fun k_ => some k_ = (.slice Ao7005 t456.length co7005 : Value).ownBlock) rfl rfl ?aP (fun k_ hk_ => ((Kd.R_mono (ok' := fun k_ => ((fun _ => True)) k_ ∧ some k_ ≠ (u3 : Value).ownBlock) (Kd.R_apart' (HO458.out) (Kd.S_typed HO_3.out) (by decide)) (fun k_ hk => ⟨trivial, hk.2⟩))).1 k_ hk_.symm) ?aF ?aO ?aB ?aS ?aL ?_; (case aP => exact Kd.M_row (Kd.R_mono (Kd.R_tight rfl (Kd.R_mono (ok' := fun k_ => ((fun _ => True)) k_ ∧ some k_ ≠ (u3 : Value).ownBlock) (Kd.R_apart' (HO458.out) (Kd.S_typed HO_3.out) (by decide)) (fun k_ hk => ⟨trivial, hk.2⟩))) (fun _ h_ => h_))); (case aB => exact BL); (case aF => exact (fun _ _ => trivial)); (case aO => exact (by (with_reducible repeat (first | apply Kd.S_alloc | apply Kd.S_drewN | apply Kd.S_drew)); exact Kd.S_mono HO_3.out (fun k_ hk => ⟨trivial, fun e_ => hk.2 e_⟩))); (case aS => exact (below_size BL)); (case aL => have := LMc11.out; omega); intro v460 w7006 ho hb hg hat; rw [← Ny459.out] at ho; have n0_ := Aside0.mk (Kd.R_over' (RR HO_7) (Kd.S_typed (SR HO_3)) (by decide) hg); have n1_ := Aside0.mk (blk_grown (g := gb450) (o := .cells #[.int .i64 a0_0, .int .i64 a0_1, .string a0_2] 66 (0, 0)) BK hg (Kd.S_ne HO_3.out BK450.out (by decide))); have n2_ := Aside0.mk (blk_grown (g := gb455) (o := .cells #[.int .i64 ((rd_T153 t451 x9_1).f0), .bool ((rd_T153 t451 x9_1).f1), .int .i64 ((rd_T153 t451 x9_1).f2), .int .i64 ((rd_T153 t451 x9_1).f3)] 153 (0, 0)) BK hg (Kd.S_ne HO_3.out BK455.out (by decide))); have n3_ := Aside0.mk (hb); have n4_ := Aside0.mk (ho); clear HO_7 BK450 BK455 HB HO_3 HO458; have HO_7 := n0_; have BK450 := n1_; have BK455 := n2_; have HB := n3_; have HO461 := n4_; clear n0_ n1_ n2_ n3_ n4_; clear ho hb hg hat))
    go_roundg k1
    case measure => have := HK1.out; omega
    case rel => exact ⟨(y459), (wrap64 (x9_1 + 1)), EQ, H', ⟨by have := HK1.out; omega⟩, ⟨(SR HO461)⟩, ⟨by (with_reducible repeat (first | apply Kd.R_alloc | apply Kd.R_drewN | apply Kd.R_drew)); exact Kd.R_mono HO_7.out (fun _ hk => trivial)⟩, ⟨BK⟩, ⟨BL⟩⟩
   ·obtain rfl := Option.some.inj H
    go_wp2
    go_ret
    exact ⟨_, EWW, (SR HO_3), BL⟩
def slices_Index_int_int.l0 : Nat → List Int → Int → Int → Int → Option (Int)
 | 0, _, _, _, _ => none
 | k + 1, x0, x1, x7, x8 => if x8 < x7 then (if 0 ≤ x8 then (if x8 < (x0.length : Int) then (if x1 = (rd x0 x8) then (some x8) else (slices_Index_int_int.l0 k x0 x1 x7 (wrap64 (x8 + 1)))) else (none)) else (none)) else (some (-1))
def slices_Index_int_int.f (k : Nat) (l0 : List Int) (a1 : Int) : Option (Int) := slices_Index_int_int.l0 k l0 a1 (l0.length : Int) 0
set_option maxHeartbeats 8000000 in
set_option maxRecDepth 100000 in
theorem slices_Index_int_int.calls (k : Nat) (A0 : Option Addr) (c0 : Nat) (l0 : List Int) (a1 : Int) (r : Int) (w : World) (hr0 : Kd.C (Kd.int .i64) w A0 l0.length l0) (hc0 : l0.length ≤ c0) (h : slices_Index_int_int.f k l0 a1 = some r) :
  Calls Try.prog 215 #[.slice A0 l0.length c0, .int .i64 a1] w fun e w' => e = .returned (.int .i64 r) ∧ Drawn0 w w' := by
 have HR0 := Aside0.mk hr0
 have HC0 := Aside0.mk hc0
 clear hr0 hc0
 have H : (slices_Index_int_int.l0 k l0 a1 (l0.length : Int) 0) = some r := h
 clear h
 have H' := Aside0.mk H
 clear H
 go_enter Try.func215, Try.ntmps215
 go_wp2
 go_loopg [8] k (fun kq v8 w' => ∃ (x8_1 : Int), v8 = .int .i64 x8_1 ∧ Aside0 (slices_Index_int_int.l0 kq l0 a1 (l0.length : Int) x8_1 = some r) ∧ Aside0 (kq ≤ k) ∧ Drawn0 w w')
 case atStart => exact ⟨(0), EQ, H', ⟨Nat.le_refl _⟩, by repeat (first | exact Drawn0.refl _ | apply Drawn0.step)⟩
 case round =>
  clear H'
  obtain ⟨x8_1, rfl, HA, HK1, ⟨m1, rfl⟩⟩ := hrel
  cases gk with
  | zero => exact absurd HA.out (by simp [slices_Index_int_int.l0])
  | succ k1 =>
   have H := HA.out
   clear HA
   simp only [slices_Index_int_int.l0] at H
   replace H := ifD H; rcases H with ⟨c3b0, H⟩ | ⟨c3b0, H⟩
   ·replace H := ifN H; obtain ⟨c4b0, H⟩ := H
    replace H := ifN H; obtain ⟨c5b0, H⟩ := H
    have p462 : 0 ≤ (x8_1 : Int) := OD
    have q462 : x8_1 < (l0.length : Int) := OD
    obtain ⟨ad462, e462, hx462_0⟩ := Kd.at_int HR0.out x8_1 p462 q462
    cases e462
    replace p462 := eq_true p462
    replace q462 := eq_true q462
    replace H := ifE H; rcases H with ⟨c6b0, c6b1, H⟩ | ⟨c6, c6b0, c6b1, H⟩
    ·obtain rfl := Option.some.inj H
     go_wp2
     go_ret
     exact ⟨by first | rfl | (simp; done) | (simp [*]; done), by repeat (first | exact Drawn0.refl _ | apply Drawn0.step)⟩
    ·have H' := Aside0.mk H
     clear H
     go_wp2
     go_roundg k1
     case measure => have := HK1.out; omega
     case rel => exact ⟨(wrap64 (x8_1 + 1)), EQ, H', ⟨by have := HK1.out; omega⟩, by repeat (first | exact Drawn0.refl _ | apply Drawn0.step)⟩
   ·obtain rfl := Option.some.inj H
    go_wp2
    go_ret
    exact ⟨by first | rfl | (simp; done) | (simp [*]; done), by repeat (first | exact Drawn0.refl _ | apply Drawn0.step)⟩
def slices_Contains_int_int.f (k : Nat) (l0 : List Int) (a1 : Int) : Option (Bool) := (slices_Index_int_int.f k l0 a1).bind fun t463 => (some (decide (t463 ≥ 0)))
set_option maxHeartbeats 8000000 in
set_option maxRecDepth 100000 in
theorem slices_Contains_int_int.calls (k : Nat) (A0 : Option Addr) (c0 : Nat) (l0 : List Int) (a1 : Int) (r : Bool) (w : World) (hr0 : Kd.C (Kd.int .i64) w A0 l0.length l0) (hc0 : l0.length ≤ c0) (h : slices_Contains_int_int.f k l0 a1 = some r) :
  Calls Try.prog 210 #[.slice A0 l0.length c0, .int .i64 a1] w fun e w' => e = .returned (.bool r) ∧ Drawn0 w w' := by
 have HR0 := Aside0.mk hr0
 have HC0 := Aside0.mk hc0
 clear hr0 hc0
 have H : ((slices_Index_int_int.f k l0 a1).bind fun t463 => (some (decide (t463 ≥ 0)))) = some r := h
 clear h
 replace H := be H; obtain ⟨t463, A3, H⟩ := H
 obtain rfl := Option.some.inj H
 go_enter Try.func210, Try.ntmps210
 go_wp2_with (first | ((with_reducible refine gate_callee (f := 215) rfl ?_); refine goesS (some 7) Try.func215 #[.slice A0 l0.length c0, .int .i64 a1] ?_; (with_reducible refine (slices_Index_int_int.calls k _ _ l0 a1 t463 _ ?side1 ?side2 A3.out).mono ?_); (case side1 => repeat (first | exact HR0.out | (with_reducible refine Kd.C_alloc ?_ _) | (with_reducible refine Kd.C_drewN ?_ _) | (with_reducible refine Kd.C_drew ?_))); (case side2 => exact HC0.out); rintro e w' ⟨rfl, ⟨nd, rfl⟩⟩; refine ⟨_, rfl, ?_⟩))
 go_ret
 exact ⟨by first | rfl | (simp; done) | (simp [*]; done), by repeat (first | exact Drawn0.refl _ | apply Drawn0.step)⟩
def impl_SlotsAt.l0 : Nat → Int → List Int → List (List Int) → Int → Int → Option (List Int)
 | 0, _, _, _, _, _ => none
 | k + 1, x1, x5, x9, x10, x11 => if x11 < x10 then (if 0 ≤ x11 then (if x11 < (x9.length : Int) then ((slices_Contains_int_int.f k (rd_L10 x9 x11) x1).bind fun t469 => (if t469 = true then (if x5.length < 17592186044416 then (impl_SlotsAt.l0 k x1 (x5 ++ [x11]) x9 x10 (wrap64 (x11 + 1))) else (none)) else (impl_SlotsAt.l0 k x1 x5 x9 x10 (wrap64 (x11 + 1))))) else (none)) else (none)) else (some x5)
def impl_SlotsAt.f (k : Nat) (a0_0 : Int) (a0_1 : Int) (a0_2 : ByteArray) (a1 : Int) : Option (List Int) := (impl_layout.f k a0_0 a0_1 a0_2).bind fun t465 => (impl_SlotsAt.l0 k a1 ([] : List Int) t465 (t465.length : Int) 0)
set_option maxHeartbeats 8000000 in
set_option maxRecDepth 100000 in
theorem impl_SlotsAt.calls (k : Nat) (a0_0 : Int) (a0_1 : Int) (a0_2 : ByteArray) (a1 : Int) (r : List Int) (w : World) (h : impl_SlotsAt.f k a0_0 a0_1 a0_2 a1 = some r) :
  Calls Try.prog 201 #[.agg #[.int .i64 a0_0, .int .i64 a0_1, .string a0_2], .int .i64 a1] w fun e w' => ∃ v0_ : Value, e = .returned (v0_) ∧ Kd.R (Kd.int .i64) 3 w' w.heap.size (fun _ => True) v0_ r ∧ Below w.heap.size w w' := by
 have hu66 := Try.underlying66
 have HB := Aside0.mk (Below.refl w.heap.size w)
 have H : ((impl_layout.f k a0_0 a0_1 a0_2).bind fun t465 => (impl_SlotsAt.l0 k a1 ([] : List Int) t465 (t465.length : Int) 0)) = some r := h
 clear h
 replace H := be H; obtain ⟨t465, A3, H⟩ := H
 have H' := Aside0.mk H
 clear H
 go_enter Try.func201, Try.ntmps201
 go_wp2_with (first | ((with_reducible refine gate_dst (N := 2) rfl ?_); refine box_ev (N := 2) (cs := #[.int .i64 a0_0, .int .i64 a0_1, .string a0_2]) (t := 66) ?_; intro gb464 hg w4 hbox hb; have n0_ := BS (w := w) hb; have n1_ := Aside0.mk (hbox); have n2_ := SZ (w := w) hg; have n3_ := SZ (w := w) hg; clear HB; have HB := n0_; have BK464 := n1_; have GW464 := n2_; have GE464 := n3_; clear n0_ n1_ n2_ n3_; clear hb hbox hg; obtain ⟨hcz5_0, hcz5_1, hcz5_2, hfz5_0, hfz5_1, hfz5_2⟩ := cz3 BK464.out) | ((with_reducible refine gate_callee (f := 178) rfl ?_); refine goesS (some 9) Try.func178 #[.agg #[.int .i64 a0_0, .int .i64 a0_1, .string a0_2]] ?_; (with_reducible refine (impl_layout.calls k a0_0 a0_1 a0_2 t465 _ A3.out).mono ?_); rintro e w6 ⟨v466, rfl, ho0, hb⟩; refine ⟨_, rfl, ?_⟩; have n0_ := Aside0.mk (Kd.S_lower ho0 (below_size BL)); replace BK464 := KB BK464 hb; replace HB := BS (w := w) hb; have HO467 := n0_; clear n0_; (try clear hb); (try clear ho0); obtain ⟨Ao7, co7, eo7⟩ := Kd.S_slice HO467.out; subst eo7))
 go_loopg [5, 11] k (fun kq v5 v11 w' => ∃ (x5_1 : List Int) (x11_1 : Int), v11 = .int .i64 x11_1 ∧ Aside0 (impl_SlotsAt.l0 kq a1 x5_1 t465 (t465.length : Int) x11_1 = some r) ∧ Aside0 (kq ≤ k) ∧ Aside0 (Kd.R (Kd.int .i64) 3 w' w.heap.size (fun _ => True) v5 x5_1) ∧ Aside0 (Kd.S (Kd.slice 3 (Kd.int .i64)) 45 w' w.heap.size (fun k_ => some k_ ≠ (v5 : Value).ownBlock) (.slice Ao7 t465.length co7) t465) ∧ Aside0 (w'.heap[gb464]? = some (.cells #[.int .i64 a0_0, .int .i64 a0_1, .string a0_2] 66 (0, 0))) ∧ Aside0 (Below w.heap.size w w'))
 case atStart => exact ⟨(([] : List Int)), (0), EQ, H', ⟨Nat.le_refl _⟩, ⟨by first | exact Kd.R_nil _ _ _ _ _ | exact Kd.N_nil _ _ _ _ _ | exact Kd.V_nil _ _ _ _ _ | exact Kd.Q_nil _ _ _ _ _ | exact Kd.S_nil _ _ _ _ _⟩, ⟨by (with_reducible repeat (first | apply Kd.S_alloc | apply Kd.S_drewN | apply Kd.S_drew)); exact Kd.S_mono HO467.out (fun _ hk => (by simp [Value.ownBlock]))⟩, ⟨BK⟩, ⟨BL⟩⟩
 case round =>
  clear H'
  try clear hcz5_0
  try clear hcz5_1
  try clear hcz5_2
  try clear hfz5_0
  try clear hfz5_1
  try clear hfz5_2
  obtain ⟨x5_1, x11_1, rfl, HA, HK1, HO_5, HO_9, BK464, HB⟩ := hrel
  cases gk with
  | zero => exact absurd HA.out (by simp [impl_SlotsAt.l0])
  | succ k1 =>
   have H := HA.out
   clear HA
   simp only [impl_SlotsAt.l0] at H
   replace H := ifD H; rcases H with ⟨c8b0, H⟩ | ⟨c8b0, H⟩
   ·replace H := ifN H; obtain ⟨c9b0, H⟩ := H
    replace H := ifN H; obtain ⟨c10b0, H⟩ := H
    replace H := be H; obtain ⟨t469, A11, H⟩ := H
    have p468 : 0 ≤ (x11_1 : Int) := OD
    have q468 : x11_1 < (t465.length : Int) := OD
    obtain ⟨ad468, A468_0, c468_0, e468, hx468_0, hl468_0, hi468_0⟩ := at_L10 (Kd.S_reads' HO_9.out).2.2 x11_1 p468 q468
    cases e468
    obtain ⟨ce468, hce468, hMe468, hcc468⟩ := Kd.S_get HO_9.out [] x11_1 p468 (by first | exact q468 | exact OD | (have e_ := (Kd.S_reads' HO_9.out).1; omega))
    obtain ⟨ve468_0, rfl, ge468_0⟩ := hMe468
    have hv468_0 := hcc468 0 _ rfl
    rw [Nat.add_zero, show ((Kd.slice 3 (Kd.int .i64))).sz = 1 from rfl, Nat.mul_one] at hv468_0
    replace hv468_0 := Option.some.inj (hv468_0.symm.trans hx468_0)
    rw [hv468_0] at ge468_0
    have HL468_0 := Aside0.mk (show Kd.R (Kd.int .i64) 3 _ _ _ _ (rd_L10 t465 x11_1) from ge468_0)
    clear hv468_0 ge468_0
    clear hcc468 hce468
    have HR468_0 := Aside0.mk hi468_0
    have HC468_0 := Aside0.mk hl468_0
    clear hi468_0 hl468_0
    replace p468 := eq_true p468
    replace q468 := eq_true q468
    replace H := Aside0.mk H
    go_wp2_with (first | ((with_reducible refine gate_callee (f := 210) rfl ?_); refine goesS (some 18) Try.func210 #[.slice A468_0 (rd_L10 t465 x11_1).length c468_0, .int .i64 a1] ?_; (with_reducible refine (slices_Contains_int_int.calls k1 _ _ (rd_L10 t465 x11_1) a1 _ _ ?side1 ?side2 A11.out).mono ?_); (case side1 => repeat (first | exact (by repeat (first | (with_reducible exact HR468_0.out) | (with_reducible refine Kd.C_alloc ?_ _) | (with_reducible refine Kd.C_drewN ?_ _) | (with_reducible refine Kd.C_drew ?_) | exact HR468_0.out)) | (with_reducible refine Kd.C_alloc ?_ _) | (with_reducible refine Kd.C_drewN ?_ _) | (with_reducible refine Kd.C_drew ?_))); (case side2 => exact HC468_0.out); rintro e w' ⟨rfl, ⟨nd, rfl⟩⟩; refine ⟨_, rfl, ?_⟩; refine stop_ ?_))
    refine Hide.mk ?_
    replace H := H.out
    replace H := ifB H; rcases H with ⟨rfl, H⟩ | ⟨rfl, H⟩
    ·replace H := ifP H; obtain ⟨c13, H⟩ := H
     have LMc13 := Aside0.mk c13
     clear c13
     obtain ⟨y470, hy470⟩ : ∃ y_ : List Int, y_ = (x5_1 ++ [x11_1]) := ⟨_, rfl⟩
     replace H : (impl_SlotsAt.l0 k1 a1 y470 t465 (t465.length : Int) (wrap64 (x11_1 + 1))) = some r := by first | (rw [hy470]; with_reducible exact H) | (have H2_ := (Option.bind_some _ _).symm.trans H; rw [hy470]; with_reducible exact H2_) | (have H2_ := (Option.bind_some _ _).symm.trans H; with_reducible exact H2_) | with_reducible exact H | (rw [hy470]; exact H) | exact H
     have Ny470 := Aside0.mk hy470
     clear hy470
     have H' := Aside0.mk H
     clear H
     try go_wp2_with (first | ((with_reducible refine gate_builtin (b := .append) (xs := #[.tmp 19, .tmp 21]) rfl ?_); at_builtin; refine Kd.R_append (Kd.int .i64) (w0 := w) w.heap.size rfl (.tmp 19) (.tmp 21) 45 3 (.int .i64 0) 8 rfl Try.underlying45 info3 rfl (by decide) (by omega) u5 x5_1 x11_1 [.int .i64 x11_1] (fun _ => True) (fun _ => False) rfl rfl ?aP (fun _ hk => hk.elim) ?aF ?aO ?aB ?aS ?aL ?_; (case aP => exact rfl); (case aB => exact BL); (case aF => exact (fun _ _ => trivial)); (case aO => exact (RR HO_5)); (case aS => exact (below_size BL)); (case aL => have := LMc13.out; omega); intro v471 w7000 ho hb hg hat; rw [← Ny470.out] at ho; have n0_ := Aside0.mk (Kd.S_after (ok := (fun _ => True)) (by (with_reducible repeat (first | apply Kd.S_alloc | apply Kd.S_drewN | apply Kd.S_drew)); exact Kd.S_mono HO_9.out (fun _ hk => ⟨trivial, hk⟩)) hg hat); have n1_ := Aside0.mk (blk_grown (g := gb464) (o := .cells #[.int .i64 a0_0, .int .i64 a0_1, .string a0_2] 66 (0, 0)) BK hg (Kd.R_ne HO_5.out BK464.out (by decide))); have n2_ := Aside0.mk (Kd.R_after (ok := (fun k_ => some k_ ≠ (.slice (some ad468) t465.length co7 : Value).ownBlock)) (by (with_reducible repeat (first | apply Kd.R_alloc | apply Kd.R_drewN | apply Kd.R_drew)); exact Kd.R_mono HL468_0.out (fun _ hk => ⟨hk.2, hk.1⟩)) hg hat); have n3_ := Aside0.mk (hb); have n4_ := Aside0.mk (ho); clear HO_9 BK464 HL468_0 HB HO_5; have HO_9 := n0_; have BK464 := n1_; have HL468_0 := n2_; have HB := n3_; have HO472 := n4_; clear n0_ n1_ n2_ n3_ n4_; clear ho hb hg hat))
     go_roundg k1
     case measure => have := HK1.out; omega
     case rel => exact ⟨(y470), (wrap64 (x11_1 + 1)), EQ, H', ⟨by have := HK1.out; omega⟩, ⟨(RR HO472)⟩, ⟨by (with_reducible repeat (first | apply Kd.S_alloc | apply Kd.S_drewN | apply Kd.S_drew)); exact Kd.S_mono HO_9.out (fun _ hk => hk.2)⟩, ⟨BK⟩, ⟨BL⟩⟩
    ·have H' := Aside0.mk H
     clear H
     try go_wp2
     go_roundg k1
     case measure => have := HK1.out; omega
     case rel => exact ⟨(x5_1), (wrap64 (x11_1 + 1)), EQ, H', ⟨by have := HK1.out; omega⟩, ⟨(RR HO_5)⟩, ⟨(SR HO_9)⟩, ⟨BK⟩, ⟨BL⟩⟩
   ·obtain rfl := Option.some.inj H
    go_wp2
    go_ret
    exact ⟨_, EWW, (RR HO_5), BL⟩
def impl_IsChecked.f (k : Nat) (a0_0 : Int) (a0_1 : Int) (a0_2 : ByteArray) (a1 : Int) : Option (Bool) := (impl_SlotsAt.f k a0_0 a0_1 a0_2 a1).bind fun t474 => (some ((t474.length : Int) == 2))
set_option maxHeartbeats 8000000 in
set_option maxRecDepth 100000 in
theorem impl_IsChecked.calls (k : Nat) (a0_0 : Int) (a0_1 : Int) (a0_2 : ByteArray) (a1 : Int) (r : Bool) (w : World) (h : impl_IsChecked.f k a0_0 a0_1 a0_2 a1 = some r) :
  Calls Try.prog 179 #[.agg #[.int .i64 a0_0, .int .i64 a0_1, .string a0_2], .int .i64 a1] w fun e w' => e = .returned (.bool r) ∧ Below w.heap.size w w' := by
 have hu66 := Try.underlying66
 have HB := Aside0.mk (Below.refl w.heap.size w)
 have H : ((impl_SlotsAt.f k a0_0 a0_1 a0_2 a1).bind fun t474 => (some ((t474.length : Int) == 2))) = some r := h
 clear h
 replace H := be H; obtain ⟨t474, A3, H⟩ := H
 obtain rfl := Option.some.inj H
 go_enter Try.func179, Try.ntmps179
 go_wp2_with (first | ((with_reducible refine gate_dst (N := 2) rfl ?_); refine box_ev (N := 2) (cs := #[.int .i64 a0_0, .int .i64 a0_1, .string a0_2]) (t := 66) ?_; intro gb473 hg w4 hbox hb; have n0_ := BS (w := w) hb; have n1_ := Aside0.mk (hbox); have n2_ := SZ (w := w) hg; have n3_ := SZ (w := w) hg; clear HB; have HB := n0_; have BK473 := n1_; have GW473 := n2_; have GE473 := n3_; clear n0_ n1_ n2_ n3_; clear hb hbox hg; obtain ⟨hcz5_0, hcz5_1, hcz5_2, hfz5_0, hfz5_1, hfz5_2⟩ := cz3 BK473.out) | ((with_reducible refine gate_callee (f := 201) rfl ?_); refine goesS (some 7) Try.func201 #[.agg #[.int .i64 a0_0, .int .i64 a0_1, .string a0_2], .int .i64 a1] ?_; (with_reducible refine (impl_SlotsAt.calls k a0_0 a0_1 a0_2 a1 t474 _ A3.out).mono ?_); rintro e w6 ⟨v475, rfl, ho0, hb⟩; refine ⟨_, rfl, ?_⟩; have n0_ := Aside0.mk (Kd.R_lower ho0 (below_size BL)); replace BK473 := KB BK473 hb; replace HB := BS (w := w) hb; have HO476 := n0_; clear n0_; (try clear hb); (try clear ho0); obtain ⟨Ao7, co7, eo7⟩ := Kd.R_slice HO476.out; subst eo7))
 go_ret
 exact ⟨EWW, BL⟩
def impl_UncheckedIn.l0 : Nat → Int → List Int → Int → Int → Int → Int → ByteArray → Option (Int)
 | 0, _, _, _, _, _, _, _ => none
 | k + 1, x6, x19, x20, x21, x478000, x478001, x478002 => if x21 < x20 then (if 0 ≤ x21 then (if x21 < (x19.length : Int) then ((impl_IsChecked.f k x478000 x478001 x478002 (rd x19 x21)).bind fun t484 => (if t484 = true then (impl_UncheckedIn.l0 k x6 x19 x20 (wrap64 (x21 + 1)) x478000 x478001 x478002) else (impl_UncheckedIn.l0 k (wrap64 (x6 + 1)) x19 x20 (wrap64 (x21 + 1)) x478000 x478001 x478002))) else (none)) else (none)) else (some x6)
def impl_UncheckedIn.f (k : Nat) (a0_0 : Int) (a0_1 : Int) (a0_2 : ByteArray) (a1 : Int) : Option (Int) := (impl_layout.f k a0_0 a0_1 a0_2).bind fun t478 => ((impl_at.f a1 (t478.length : Int)).bind fun t481 => (if t481 = true then (if 0 ≤ a1 then (if a1 < (t478.length : Int) then (impl_UncheckedIn.l0 k 0 (rd_L10 t478 a1) ((rd_L10 t478 a1).length : Int) 0 a0_0 a0_1 a0_2) else (none)) else (none)) else (some (-1))))
set_option maxHeartbeats 8000000 in
set_option maxRecDepth 100000 in
theorem impl_UncheckedIn.calls (k : Nat) (a0_0 : Int) (a0_1 : Int) (a0_2 : ByteArray) (a1 : Int) (r : Int) (w : World) (h : impl_UncheckedIn.f k a0_0 a0_1 a0_2 a1 = some r) :
  Calls Try.prog 141 #[.agg #[.int .i64 a0_0, .int .i64 a0_1, .string a0_2], .int .i64 a1] w fun e w' => e = .returned (.int .i64 r) ∧ Below w.heap.size w w' := by
 have hu66 := Try.underlying66
 have HB := Aside0.mk (Below.refl w.heap.size w)
 have H : ((impl_layout.f k a0_0 a0_1 a0_2).bind fun t478 => ((impl_at.f a1 (t478.length : Int)).bind fun t481 => (if t481 = true then (if 0 ≤ a1 then (if a1 < (t478.length : Int) then (impl_UncheckedIn.l0 k 0 (rd_L10 t478 a1) ((rd_L10 t478 a1).length : Int) 0 a0_0 a0_1 a0_2) else (none)) else (none)) else (some (-1))))) = some r := h
 clear h
 replace H := be H; obtain ⟨t478, A3, H⟩ := H
 replace H := be H; obtain ⟨t481, A4, H⟩ := H
 replace H := Aside0.mk H
 go_enter Try.func141, Try.ntmps141
 go_wp2_with (first | ((with_reducible refine gate_dst (N := 2) rfl ?_); refine box_ev (N := 2) (cs := #[.int .i64 a0_0, .int .i64 a0_1, .string a0_2]) (t := 66) ?_; intro gb477 hg w9000 hbox hb; have n0_ := BS (w := w) hb; have n1_ := Aside0.mk (hbox); have n2_ := SZ (w := w) hg; have n3_ := SZ (w := w) hg; clear HB; have HB := n0_; have BK477 := n1_; have GW477 := n2_; have GE477 := n3_; clear n0_ n1_ n2_ n3_; clear hb hbox hg; obtain ⟨hcz9001_0, hcz9001_1, hcz9001_2, hfz9001_0, hfz9001_1, hfz9001_2⟩ := cz3 BK477.out) | ((with_reducible refine gate_callee (f := 178) rfl ?_); refine goesS (some 10) Try.func178 #[.agg #[.int .i64 a0_0, .int .i64 a0_1, .string a0_2]] ?_; (with_reducible refine (impl_layout.calls k a0_0 a0_1 a0_2 t478 _ A3.out).mono ?_); rintro e w9002 ⟨v479, rfl, ho0, hb⟩; refine ⟨_, rfl, ?_⟩; have n0_ := Aside0.mk (Kd.S_lower ho0 (below_size BL)); replace BK477 := KB BK477 hb; replace HB := BS (w := w) hb; have HO480 := n0_; clear n0_; (try clear hb); (try clear ho0); obtain ⟨Ao9003, co9003, eo9003⟩ := Kd.S_slice HO480.out; subst eo9003) | ((with_reducible refine gate_callee (f := 109) rfl ?_); refine goesS (some 14) Try.func109 #[.int .i64 a1, .int .i64 (t478.length : Int)] ?_; (with_reducible refine (impl_at.calls a1 (t478.length : Int) _ _ A4.out).mono ?_); rintro e w' ⟨rfl, ⟨nd, rfl⟩⟩; refine ⟨_, rfl, ?_⟩; refine stop_ ?_))
 refine Hide.mk ?_
 replace H := H.out
 replace H := ifB H; rcases H with ⟨rfl, H⟩ | ⟨rfl, H⟩
 ·replace H := ifN H; obtain ⟨c6b0, H⟩ := H
  replace H := ifN H; obtain ⟨c7b0, H⟩ := H
  have H' := Aside0.mk H
  clear H
  have p482 : 0 ≤ (a1 : Int) := OD
  have q482 : a1 < (t478.length : Int) := OD
  obtain ⟨ad482, A482_0, c482_0, e482, hx482_0, hl482_0, hi482_0⟩ := at_L10 (Kd.S_reads' HO480.out).2.2 a1 p482 q482
  cases e482
  obtain ⟨ce482, hce482, hMe482, hcc482⟩ := Kd.S_get HO480.out [] a1 p482 (by first | exact q482 | exact OD | (have e_ := (Kd.S_reads' HO480.out).1; omega))
  obtain ⟨ve482_0, rfl, ge482_0⟩ := hMe482
  have hv482_0 := hcc482 0 _ rfl
  rw [Nat.add_zero, show ((Kd.slice 3 (Kd.int .i64))).sz = 1 from rfl, Nat.mul_one] at hv482_0
  replace hv482_0 := Option.some.inj (hv482_0.symm.trans hx482_0)
  rw [hv482_0] at ge482_0
  have HL482_0 := Aside0.mk (show Kd.R (Kd.int .i64) 3 _ _ _ _ (rd_L10 t478 a1) from ge482_0)
  clear hv482_0 ge482_0
  clear hcc482 hce482
  have HR482_0 := Aside0.mk hi482_0
  have HC482_0 := Aside0.mk hl482_0
  clear hi482_0 hl482_0
  replace p482 := eq_true p482
  replace q482 := eq_true q482
  go_wp2
  go_loopg [6, 21] k (fun kq v6 v21 w' => ∃ (x6_1 : Int) (x21_1 : Int), v6 = .int .i64 x6_1 ∧ v21 = .int .i64 x21_1 ∧ Aside0 (impl_UncheckedIn.l0 kq x6_1 (rd_L10 t478 a1) ((rd_L10 t478 a1).length : Int) x21_1 a0_0 a0_1 a0_2 = some r) ∧ Aside0 (kq ≤ k) ∧ Aside0 (w'.heap[gb477]? = some (.cells #[.int .i64 a0_0, .int .i64 a0_1, .string a0_2] 66 (0, 0))) ∧ Aside0 (Kd.C (Kd.int .i64) w' A482_0 (rd_L10 t478 a1).length (rd_L10 t478 a1)) ∧ Aside0 (Below w.heap.size w w'))
  case atStart => exact ⟨(0), (0), EQ, EQ, H', ⟨Nat.le_refl _⟩, ⟨BK⟩, ⟨by repeat (first | (with_reducible exact HR482_0.out) | (with_reducible refine Kd.C_alloc ?_ _) | (with_reducible refine Kd.C_drewN ?_ _) | (with_reducible refine Kd.C_drew ?_) | exact HR482_0.out)⟩, ⟨BL⟩⟩
  case round =>
   clear H'
   try clear c5
   try clear c6
   try clear c6b0
   try clear c7
   try clear c7b0
   try clear hcz9001_0
   try clear hcz9001_1
   try clear hcz9001_2
   try clear hfz9001_0
   try clear hfz9001_1
   try clear hfz9001_2
   try clear hx482_0
   try clear p482
   try clear q482
   obtain ⟨x6_1, x21_1, rfl, rfl, HA, HK1, BK477, HR482_0, HB⟩ := hrel
   cases gk with
   | zero => exact absurd HA.out (by simp [impl_UncheckedIn.l0])
   | succ k1 =>
    have H := HA.out
    clear HA
    simp only [impl_UncheckedIn.l0] at H
    replace H := ifD H; rcases H with ⟨c12b0, H⟩ | ⟨c12b0, H⟩
    ·replace H := ifN H; obtain ⟨c13b0, H⟩ := H
     replace H := ifN H; obtain ⟨c14b0, H⟩ := H
     replace H := be H; obtain ⟨t484, A15, H⟩ := H
     have p483 : 0 ≤ (x21_1 : Int) := OD
     have q483 : x21_1 < ((rd_L10 t478 a1).length : Int) := OD
     obtain ⟨ad483, e483, hx483_0⟩ := Kd.at_int HR482_0.out x21_1 p483 q483
     cases e483
     try replace hx483_0 := (HB.out.cell (World.block_lt_of_cell? w _ hx483_0)).trans hx483_0
     replace p483 := eq_true p483
     replace q483 := eq_true q483
     obtain ⟨hcz9004_0, hcz9004_1, hcz9004_2, hfz9004_0, hfz9004_1, hfz9004_2⟩ := cz3 BK477.out
     replace H := Aside0.mk H
     go_wp2_with (first | ((with_reducible refine gate_callee (f := 179) rfl ?_); refine goesS (some 27) Try.func179 #[.agg #[.int .i64 a0_0, .int .i64 a0_1, .string a0_2], .int .i64 (rd (rd_L10 t478 a1) x21_1)] ?_; (with_reducible refine (impl_IsChecked.calls k1 a0_0 a0_1 a0_2 (rd (rd_L10 t478 a1) x21_1) _ _ A15.out).mono ?_); rintro e w9005 ⟨rfl, hb⟩; refine ⟨_, rfl, ?_⟩; have n0_ := KB BK477 hb; have n1_ := Aside0.mk (Kd.C_below (by repeat (first | (with_reducible exact HR482_0.out) | (with_reducible refine Kd.C_alloc ?_ _) | (with_reducible refine Kd.C_drewN ?_ _) | (with_reducible refine Kd.C_drew ?_) | exact HR482_0.out)) hb); have n2_ := BS (w := w) hb; clear BK477 HR482_0 HB; have BK477 := n0_; have HR482_0 := n1_; have HB := n2_; clear n0_ n1_ n2_; (try clear hb); refine stop_ ?_))
     refine Hide.mk ?_
     replace H := H.out
     replace H := ifB H; rcases H with ⟨rfl, H⟩ | ⟨rfl, H⟩
     ·have H' := Aside0.mk H
      clear H
      try go_wp2
      go_roundg k1
      case measure => have := HK1.out; omega
      case rel => exact ⟨(x6_1), (wrap64 (x21_1 + 1)), EQ, EQ, H', ⟨by have := HK1.out; omega⟩, ⟨BK⟩, ⟨by repeat (first | (with_reducible exact HR482_0.out) | (with_reducible refine Kd.C_alloc ?_ _) | (with_reducible refine Kd.C_drewN ?_ _) | (with_reducible refine Kd.C_drew ?_) | exact HR482_0.out)⟩, ⟨BL⟩⟩
     ·have H' := Aside0.mk H
      clear H
      try go_wp2
      go_roundg k1
      case measure => have := HK1.out; omega
      case rel => exact ⟨(wrap64 (x6_1 + 1)), (wrap64 (x21_1 + 1)), EQ, EQ, H', ⟨by have := HK1.out; omega⟩, ⟨BK⟩, ⟨by repeat (first | (with_reducible exact HR482_0.out) | (with_reducible refine Kd.C_alloc ?_ _) | (with_reducible refine Kd.C_drewN ?_ _) | (with_reducible refine Kd.C_drew ?_) | exact HR482_0.out)⟩, ⟨BL⟩⟩
    ·obtain rfl := Option.some.inj H
     go_wp2
     go_ret
     exact ⟨EWW, BL⟩
 ·obtain rfl := Option.some.inj H
  try go_wp2
  go_ret
  exact ⟨EWW, BL⟩
def impl_isLetter.f (a0 : Int) : Option (Bool) := if a0 ≥ 97 then (some (decide (a0 ≤ 122))) else (some false)
set_option maxHeartbeats 8000000 in
set_option maxRecDepth 100000 in
theorem impl_isLetter.calls (a0 : Int) (r : Bool) (w : World) (h : impl_isLetter.f a0 = some r) :
  Calls Try.prog 122 #[.int .u8 a0] w fun e w' => e = .returned (.bool r) ∧ Drawn0 w w' := by
 have H : (if a0 ≥ 97 then (some (decide (a0 ≤ 122))) else (some false)) = some r := h
 clear h
 replace H := Aside0.mk H
 go_enter Try.func122, Try.ntmps122
 replace H := H.out
 by_cases c2 : a0 ≥ 97
 ·rw [if_pos c2] at H
  have c2b0 : decide (97 ≤ a0) = true := decide_eq_true c2
  clear c2
  obtain rfl := Option.some.inj H
  try go_wp2
  go_ret
  exact ⟨by first | rfl | (simp; done) | (simp [*]; done), by repeat (first | exact Drawn0.refl _ | apply Drawn0.step)⟩
 ·rw [if_neg c2] at H
  have c2b0 : decide (97 ≤ a0) = false := decide_eq_false c2
  clear c2
  obtain rfl := Option.some.inj H
  try go_wp2
  go_ret
  exact ⟨by first | rfl | (simp; done) | (simp [*]; done), by repeat (first | exact Drawn0.refl _ | apply Drawn0.step)⟩
def impl_alone.f (k : Nat) (a0_0 : Int) (a0_1 : Int) (a0_2 : ByteArray) (a1 : ByteArray) : Option Bool := (impl_layout.f k a0_0 a0_1 a0_2).bind fun rows => HandAlone.aloneF impl_isLetter.f k rows a0_2 a1
theorem impl_alone.calls (k : Nat) (a0_0 : Int) (a0_1 : Int) (a0_2 : ByteArray) (a1 : ByteArray) (r : Bool) (w : World) (h : impl_alone.f k a0_0 a0_1 a0_2 a1 = some r) :
  Calls Try.prog 142 #[.agg #[.int .i64 a0_0, .int .i64 a0_1, .string a0_2], .string a1] w fun e w' => e = .returned (.bool r) ∧ Below w.heap.size w w' := by
 obtain ⟨rows, h1, h2⟩ := Option.bind_eq_some_iff.mp h
 exact HandAlone.alone_u k a0_0 a0_1 a0_2 a1 impl_isLetter.f rows r w (fun x b hx V => impl_isLetter.calls x b V hx) (fun V => impl_layout.calls k a0_0 a0_1 a0_2 rows V h1) h2
end Go.Proofs.Ythjcicmmbmagbaa.PFnExactIsSolved
