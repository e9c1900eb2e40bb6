/- Walks of functions: what each computes. -/
import Derived.Test.YthjcicmmbmagbaaZIsSolvedP0
import Derived.Test.YthjcicmmbmagbaaZIsSolvedP7
import Derived.Test.YthjcicmmbmagbaaZIsSolvedP8
import Derived.Test.YthjcicmmbmagbaaZIsSolvedW
import Derived.Test.YthjcicmmbmagbaaZIsSolvedShelf
import Derived.Test.YthjcicmmbmagbaaZIsSolvedHandSort
import Derived.Test.YthjcicmmbmagbaaZIsSolvedHandForm
import Derived.Test.YthjcicmmbmagbaaZIsSolvedHandAlone
import Derived.Test.YthjcicmmbmagbaaZIsSolvedHandReach
namespace Go.Proofs.Ythjcicmmbmagbaa.PFnExactIsSolved
open Go.RowKit Go.Proofs.YthjcicmmbmagbaaW.PrintWords Go.Proofs.YthjcicmmbmagbaaW.PrintLast Go.Proofs.YthjcicmmbmagbaaW.PrintMore Go.Proofs.Ythjcicmmbmagbaa.Sq
attribute [local go_sem] max2_int min2_int max_two min_two max_three min_three max_four min_four
set_option linter.unusedVariables false
set_option linter.unusedSimpArgs false
mutual
def spec_PartsOf.l0 : Nat → Int → List Bool → Int → Int → Int → ByteArray → Option (Int)
 | 0, _, _, _, _, _, _ => none
 | k + 1, x3, x4, x5, x256000, x256001, x256002 => if x5 < (x256002.size : Int) then (if x4.length < 140737488355328 then (spec_PartsOf.l0 k x3 (x4 ++ [false]) (wrap64 (x5 + 1)) x256000 x256001 x256002) else (none)) else (spec_PartsOf.l1 k x3 x4 0 x256000 x256001 x256002)
def spec_PartsOf.l1 : Nat → Int → List Bool → Int → Int → Int → ByteArray → Option (Int)
 | 0, _, _, _, _, _, _ => none
 | k + 1, x3, x4, x6, x256000, x256001, x256002 => if x6 < (x256002.size : Int) then ((spec_IsGrid.f k x256000 x256001 x256002).bind fun t262 => (spec_PartsOf.j2 k x3 x4 x6 t262 x256000 x256001 x256002)) else (spec_PartsOf.j2 k x3 x4 x6 false x256000 x256001 x256002)
def spec_PartsOf.j2 : Nat → Int → List Bool → Int → Bool → Int → Int → ByteArray → Option (Int)
 | 0, _, _, _, _, _, _, _ => none
 | k + 1, x3, x4, x6, x29, x256000, x256001, x256002 => if x29 = true then (if 0 ≤ x6 then (if x6 < (x256002.size : Int) then (if (bt x256002 x6) = 46 then (if x6 < (x4.length : Int) then (spec_PartsOf.j3 k x3 x4 x6 (!(rdOf false x4 x6)) x256000 x256001 x256002) else (none)) else (spec_PartsOf.j3 k x3 x4 x6 false x256000 x256001 x256002)) else (none)) else (none)) else (some x3)
def spec_PartsOf.j3 : Nat → Int → List Bool → Int → Bool → Int → Int → ByteArray → Option (Int)
 | 0, _, _, _, _, _, _, _ => none
 | k + 1, x3, x4, x6, x43, x256000, x256001, x256002 => if x43 = true then (spec_PartsOf.l2 k (wrap64 (x3 + 1)) x4 x6 (([] : List Bool)) 0 x256000 x256001 x256002) else (spec_PartsOf.l1 k x3 x4 (wrap64 (x6 + 1)) x256000 x256001 x256002)
def spec_PartsOf.l2 : Nat → Int → List Bool → Int → List Bool → Int → Int → Int → ByteArray → Option (Int)
 | 0, _, _, _, _, _, _, _, _ => none
 | k + 1, x3, x4, x6, x7, x8, x256000, x256001, x256002 => if x8 < (x4.length : Int) then (if x7.length < 140737488355328 then (spec_PartsOf.l2 k x3 x4 x6 (x7 ++ [false]) (wrap64 (x8 + 1)) x256000 x256001 x256002) else (none)) else ((spec_l10Reach.f k x256000 x256001 x256002 x7 x6).bind fun t270 => (spec_PartsOf.l3 k x3 x4 x6 t270 0 x256000 x256001 x256002))
def spec_PartsOf.l3 : Nat → Int → List Bool → Int → List Bool → Int → Int → Int → ByteArray → Option (Int)
 | 0, _, _, _, _, _, _, _, _ => none
 | k + 1, x3, x4, x6, x7, x9, x256000, x256001, x256002 => if x9 < (x4.length : Int) then (if 0 ≤ x9 then (if rdOf false x4 x9 = true then (spec_PartsOf.l3 k x3 (x4.set (x9 : Int).toNat true) x6 x7 (wrap64 (x9 + 1)) x256000 x256001 x256002) else (if x9 < (x7.length : Int) then (spec_PartsOf.l3 k x3 (x4.set (x9 : Int).toNat (rdOf false x7 x9)) x6 x7 (wrap64 (x9 + 1)) x256000 x256001 x256002) else (none))) else (none)) else (spec_PartsOf.l1 k x3 x4 (wrap64 (x6 + 1)) x256000 x256001 x256002)
end
def spec_PartsOf.f (k : Nat) (a0_0 : Int) (a0_1 : Int) (a0_2 : ByteArray) : Option (Int) := spec_PartsOf.l0 k 0 (([] : List Bool)) 0 a0_0 a0_1 a0_2
set_option maxHeartbeats 8000000 in
set_option maxRecDepth 100000 in
theorem spec_PartsOf.calls (k : Nat) (a0_0 : Int) (a0_1 : Int) (a0_2 : ByteArray) (r : Int) (w : World) (h : spec_PartsOf.f k a0_0 a0_1 a0_2 = some r) :
  Calls Try.prog 171 #[.agg #[.int .i64 a0_0, .int .i64 a0_1, .string a0_2]] w fun e w' => e = .returned (.int .i64 r) ∧ Below w.heap.size w w' := by
 have hu66 := Try.underlying66
 have HB := Aside0.mk (Below.refl w.heap.size w)
 have H : (spec_PartsOf.l0 k 0 (([] : List Bool)) 0 a0_0 a0_1 a0_2) = some r := h
 clear h
 obtain ⟨y256, hy256⟩ : ∃ y_ : List Bool, y_ = (([] : List Bool)) := ⟨_, rfl⟩
 replace H : (spec_PartsOf.l0 k 0 y256 0 a0_0 a0_1 a0_2) = some r := by first | (rw [hy256]; with_reducible exact H) | (have H2_ := (Option.bind_some _ _).symm.trans H; rw [hy256]; with_reducible exact H2_) | (have H2_ := (Option.bind_some _ _).symm.trans H; with_reducible exact H2_) | with_reducible exact H | (rw [hy256]; exact H) | exact H
 have Ny256 := Aside0.mk hy256
 clear hy256
 have H' := Aside0.mk H
 clear H
 go_enter Try.func171, Try.ntmps171
 go_wp2_with (first | ((with_reducible refine gate_dst (N := 1) rfl ?_); refine box_ev (N := 1) (cs := #[.int .i64 a0_0, .int .i64 a0_1, .string a0_2]) (t := 66) ?_; intro gb255 hg w2 hbox hb; have n0_ := BS (w := w) hb; have n1_ := Aside0.mk (hbox); have n2_ := SZ (w := w) hg; have n3_ := SZ (w := w) hg; clear HB; have HB := n0_; have BK255 := n1_; have GW255 := n2_; have GE255 := n3_; clear n0_ n1_ n2_ n3_; clear hb hbox hg) | ((with_reducible refine gate_dst (N := 10) rfl ?_); refine Kd.R_lit Kd.bool _ 4 ?hg (N := 10) ?hd (xs := ([] : List Bool)) (inner := []) (ok := fun _ => True) (okp := fun _ => True) ?hr ?hp (fun _ hk => hk) trivial (Below.refl _ _) (Nat.le_refl _) (by simp) ?_; (case hd => rfl); (case hg => rfl); (case hr => first | (go_simp; done) | (go_simp; rfl)); (case hp => exact (Reps.none _ _)); intro v257 w3 ho4 hb hg_ hnew_; clear hg_ hnew_; (first | rw [← Ny256.out] at ho4 | (simp only [Int.reduceToNat] at ho4; rw [← Ny256.out] at ho4)); have n0_ := Aside0.mk (Kd.R_lower ho4 (below_size BL)); replace BK255 := KB BK255 hb; replace HB := BS (w := w) hb; have HO258 := n0_; clear n0_; clear hb ho4))
 go_loopg [4, 5] k (fun kq v4 v5 w' => ∃ (x4_1 : List Bool) (x5_1 : Int), v5 = .int .i64 x5_1 ∧ Aside0 (spec_PartsOf.l0 kq 0 x4_1 x5_1 a0_0 a0_1 a0_2 = some r) ∧ Aside0 (kq ≤ k) ∧ Aside0 (Kd.R Kd.bool 4 w' w.heap.size (fun _ => True) v4 x4_1) ∧ Aside0 (w'.heap[gb255]? = some (.cells #[.int .i64 a0_0, .int .i64 a0_1, .string a0_2] 66 (0, 0))) ∧ Aside0 (Below w.heap.size w w'))
 case atStart => exact ⟨(y256), (0), EQ, H', ⟨Nat.le_refl _⟩, ⟨(RR HO258)⟩, ⟨BK⟩, ⟨BL⟩⟩
 case round =>
  clear H'
  obtain ⟨x4_1, x5_1, rfl, HA, HK1, HO_4, BK255, HB⟩ := hrel
  cases gk with
  | zero => exact absurd HA.out (by simp [spec_PartsOf.l0])
  | succ k1 =>
   have H := HA.out
   clear HA
   simp only [spec_PartsOf.l0] at H
   obtain ⟨hcz7000_0, hcz7000_1, hcz7000_2, hfz7000_0, hfz7000_1, hfz7000_2⟩ := cz3 BK255.out
   replace H := ifD H; rcases H with ⟨c5b0, H⟩ | ⟨c5b0, H⟩
   ·replace H := ifP H; obtain ⟨c6, H⟩ := H
    have LMc6 := Aside0.mk c6
    clear c6
    obtain ⟨y259, hy259⟩ : ∃ y_ : List Bool, y_ = (x4_1 ++ [false]) := ⟨_, rfl⟩
    replace H : (spec_PartsOf.l0 k1 0 y259 (wrap64 (x5_1 + 1)) a0_0 a0_1 a0_2) = some r := by first | (rw [hy259]; with_reducible exact H) | (have H2_ := (Option.bind_some _ _).symm.trans H; rw [hy259]; with_reducible exact H2_) | (have H2_ := (Option.bind_some _ _).symm.trans H; with_reducible exact H2_) | with_reducible exact H | (rw [hy259]; exact H) | exact H
    have Ny259 := Aside0.mk hy259
    clear hy259
    have H' := Aside0.mk H
    clear H
    go_wp2_with (first | ((with_reducible refine gate_builtin (b := .append) (xs := #[.tmp 18, .tmp 19]) rfl ?_); at_builtin; refine Kd.R_append Kd.bool (w0 := w) w.heap.size rfl (.tmp 18) (.tmp 19) 131 4 (.bool false) 1 rfl Try.underlying131 info4 rfl (by decide) (by omega) u4 x4_1 false [.bool false] (fun _ => True) (fun _ => False) rfl rfl ?aP (fun _ hk => hk.elim) ?aF ?aO ?aB ?aS ?aL ?_; (case aP => exact rfl); (case aB => exact BL); (case aF => exact (fun _ _ => trivial)); (case aO => exact (RR HO_4)); (case aS => exact (below_size BL)); (case aL => have := LMc6.out; omega); intro v260 w7001 ho hb hg hat; rw [← Ny259.out] at ho; have n0_ := Aside0.mk (blk_grown (g := gb255) (o := .cells #[.int .i64 a0_0, .int .i64 a0_1, .string a0_2] 66 (0, 0)) BK hg (Kd.R_ne HO_4.out BK255.out (by decide))); have n1_ := Aside0.mk (hb); have n2_ := Aside0.mk (ho); clear BK255 HB HO_4; have BK255 := n0_; have HB := n1_; have HO261 := n2_; clear n0_ n1_ n2_; clear ho hb hg hat))
    go_roundg k1
    case measure => have := HK1.out; omega
    case rel => exact ⟨(y259), (wrap64 (x5_1 + 1)), EQ, H', ⟨by have := HK1.out; omega⟩, ⟨(RR HO261)⟩, ⟨BK⟩, ⟨BL⟩⟩
   ·have H' := Aside0.mk H
    clear H
    go_wp2
    go_loopg [3, 6] k1 (fun kq v3 v6 w' => ∃ (x3_2 : Int) (x4_2 : List Bool) (x6_2 : Int), v3 = .int .i64 x3_2 ∧ v6 = .int .i64 x6_2 ∧ Aside0 (spec_PartsOf.l1 kq x3_2 x4_2 x6_2 a0_0 a0_1 a0_2 = some r) ∧ Aside0 (kq ≤ k1) ∧ Aside0 (Kd.R Kd.bool 4 w' w.heap.size (fun _ => True) u4 x4_2) ∧ Aside0 (w'.heap[gb255]? = some (.cells #[.int .i64 a0_0, .int .i64 a0_1, .string a0_2] 66 (0, 0))) ∧ Aside0 (Below w.heap.size w w'))
    case atStart => exact ⟨(0), (x4_1), (0), EQ, EQ, H', ⟨Nat.le_refl _⟩, ⟨(RR HO_4)⟩, ⟨BK⟩, ⟨BL⟩⟩
    case round =>
     clear H'
     try clear c5
     try clear c5b0
     try clear hcz7000_0
     try clear hcz7000_1
     try clear hcz7000_2
     try clear hfz7000_0
     try clear hfz7000_1
     try clear hfz7000_2
     obtain ⟨x3_2, x4_2, x6_2, rfl, rfl, HA, HK2, HO_4, BK255, HB⟩ := hrel
     cases gk with
     | zero => exact absurd HA.out (by simp [spec_PartsOf.l1])
     | succ k2 =>
      have H := HA.out
      clear HA
      simp only [spec_PartsOf.l1] at H
      have HC10 := Aside0.mk H
      clear H
      go_upto_region 8 with (fail)
      go_cut [29] (fun v29 wc => ∃ (kq : Nat) (x29_9 : Bool), v29 = .bool x29_9 ∧ Aside0 (spec_PartsOf.j2 kq x3_2 x4_2 x6_2 x29_9 a0_0 a0_1 a0_2 = some r) ∧ Aside0 (kq ≤ k2) ∧ Aside0 (Kd.R Kd.bool 4 wc w.heap.size (fun _ => True) u4 x4_2) ∧ Aside0 (wc.heap[gb255]? = some (.cells #[.int .i64 a0_0, .int .i64 a0_1, .string a0_2] 66 (0, 0))) ∧ Aside0 (Below w.heap.size w wc))
      case first =>
       have H := HC10.out
       clear HC10
       obtain ⟨hcz7001_0, hcz7001_1, hcz7001_2, hfz7001_0, hfz7001_1, hfz7001_2⟩ := cz3 BK255.out
       replace H := ifD H; rcases H with ⟨c11b0, H⟩ | ⟨c11b0, H⟩
       ·(first | rw [c11b0] | (simp only [i64_w, i32_w]; rw [c11b0]) | skip)
        replace H := be H; obtain ⟨t262, A12, H⟩ := H
        have H' := Aside0.mk H
        clear H
        go_wp2_with (first | (go_at_call 131; (with_reducible refine (spec_IsGrid.calls k2 a0_0 a0_1 a0_2 t262 _ A12.out).mono ?_); rintro e w7002 ⟨rfl, hb⟩; replace HO_4 := RB HO_4 hb; replace BK255 := KB BK255 hb; replace HB := BS (w := w) hb; (try clear hb); (try clear hb2); (try clear hk); (try clear hi)))
        go_meet
        case rel => exact ⟨_, (t262), EQ, H', ⟨by have := HK1.out; have := HK2.out; first | omega | exact Nat.le_refl _⟩, ⟨(RR HO_4)⟩, ⟨BK⟩, ⟨BL⟩⟩
       ·(first | rw [c11b0] | (simp only [i64_w, i32_w]; rw [c11b0]) | skip)
        have H' := Aside0.mk H
        clear H
        go_wp2
        go_meet
        case rel => exact ⟨_, (false), EQ, H', ⟨by have := HK1.out; have := HK2.out; first | omega | exact Nat.le_refl _⟩, ⟨(RR HO_4)⟩, ⟨BK⟩, ⟨BL⟩⟩
      case rest =>
       clear HC10
       try clear c5
       try clear c5b0
       try clear hcz7000_0
       try clear hcz7000_1
       try clear hcz7000_2
       try clear hfz7000_0
       try clear hfz7000_1
       try clear hfz7000_2
       obtain ⟨kq, x29_9, rfl, HA, HJ9, HO_4, BK255, HB⟩ := hcut
       cases kq with
       | zero => exact absurd HA.out (by simp [spec_PartsOf.j2])
       | succ kj9 =>
        have H := HA.out
        clear HA
        simp only [spec_PartsOf.j2] at H
        replace H := ifB H; rcases H with ⟨rfl, H⟩ | ⟨rfl, H⟩
        ·have HC17 := Aside0.mk H
         clear H
         go_upto_region 10 with (fail)
         go_cut [43] (fun v43 wc => ∃ (kq : Nat) (x43_16 : Bool), v43 = .bool x43_16 ∧ Aside0 (spec_PartsOf.j3 kq x3_2 x4_2 x6_2 x43_16 a0_0 a0_1 a0_2 = some r) ∧ Aside0 (kq ≤ kj9) ∧ Aside0 (Kd.R Kd.bool 4 wc w.heap.size (fun _ => True) u4 x4_2) ∧ Aside0 (wc.heap[gb255]? = some (.cells #[.int .i64 a0_0, .int .i64 a0_1, .string a0_2] 66 (0, 0))) ∧ Aside0 (Below w.heap.size w wc))
         case first =>
          have H := HC17.out
          clear HC17
          replace H := ifN H; obtain ⟨c18b0, H⟩ := H
          (first | rw [c18b0] | (simp only [i64_w, i32_w]; rw [c18b0]) | skip)
          replace H := ifN H; obtain ⟨c19b0, H⟩ := H
          obtain ⟨hcz7003_0, hcz7003_1, hcz7003_2, hfz7003_0, hfz7003_1, hfz7003_2⟩ := cz3 BK255.out
          replace H := ifE H; rcases H with ⟨c21b0, c21b1, H⟩ | ⟨c21, c21b0, c21b1, H⟩
          ·replace H := ifN H; obtain ⟨c22b0, H⟩ := H
           have H' := Aside0.mk H
           clear H
           have p20 : (0 ≤ (x6_2 : Int)) = True := OT
           have q20 : (x6_2 < (a0_2.size : Int)) = True := OT
           have hx20 := bt_at a0_2 x6_2
           obtain ⟨Ao7004, co7004, eo7004⟩ := Kd.R_slice HO_4.out
           subst eo7004
           have p263 : 0 ≤ (x6_2 : Int) := OD
           have q263 : x6_2 < (x4_2.length : Int) := OD
           obtain ⟨ad263, e263, hx263_0⟩ := Kd.at_bool (Kd.R_reads' HO_4.out).2.2 x6_2 p263 q263
           cases e263
           replace p263 := eq_true p263
           replace q263 := eq_true q263
           go_wp2
           go_meet
           case rel => exact ⟨_, (!(rdOf false x4_2 x6_2)), EQ, H', ⟨by have := HK1.out; have := HK2.out; have := HJ9.out; first | omega | exact Nat.le_refl _⟩, ⟨(RR HO_4)⟩, ⟨BK⟩, ⟨BL⟩⟩
          ·have H' := Aside0.mk H
           clear H
           have p20 : (0 ≤ (x6_2 : Int)) = True := OT
           have q20 : (x6_2 < (a0_2.size : Int)) = True := OT
           have hx20 := bt_at a0_2 x6_2
           go_wp2
           go_meet
           case rel => exact ⟨_, (false), EQ, H', ⟨by have := HK1.out; have := HK2.out; have := HJ9.out; first | omega | exact Nat.le_refl _⟩, ⟨(RR HO_4)⟩, ⟨BK⟩, ⟨BL⟩⟩
         case rest =>
          clear HC17
          try clear c5
          try clear c5b0
          try clear c16
          try clear hcz7000_0
          try clear hcz7000_1
          try clear hcz7000_2
          try clear hfz7000_0
          try clear hfz7000_1
          try clear hfz7000_2
          obtain ⟨kq, x43_16, rfl, HA, HJ16, HO_4, BK255, HB⟩ := hcut
          cases kq with
          | zero => exact absurd HA.out (by simp [spec_PartsOf.j3])
          | succ kj16 =>
           have H := HA.out
           clear HA
           simp only [spec_PartsOf.j3] at H
           replace H := ifB H; rcases H with ⟨rfl, H⟩ | ⟨rfl, H⟩
           ·obtain ⟨y264, hy264⟩ : ∃ y_ : List Bool, y_ = (([] : List Bool)) := ⟨_, rfl⟩
            replace H : (spec_PartsOf.l2 kj16 (wrap64 (x3_2 + 1)) x4_2 x6_2 y264 0 a0_0 a0_1 a0_2) = some r := by first | (rw [hy264]; with_reducible exact H) | (have H2_ := (Option.bind_some _ _).symm.trans H; rw [hy264]; with_reducible exact H2_) | (have H2_ := (Option.bind_some _ _).symm.trans H; with_reducible exact H2_) | with_reducible exact H | (rw [hy264]; exact H) | exact H
            have Ny264 := Aside0.mk hy264
            clear hy264
            have H' := Aside0.mk H
            clear H
            go_wp2_with (first | ((with_reducible refine gate_dst (N := 46) rfl ?_); refine Kd.R_lit Kd.bool _ 4 ?hg (N := 46) ?hd (xs := ([] : List Bool)) (inner := []) (ok := fun _ => True) (okp := fun _ => True) ?hr ?hp (fun _ hk => hk) trivial (Below.refl _ _) (Nat.le_refl _) (by simp) ?_; (case hd => rfl); (case hg => rfl); (case hr => first | (go_simp; done) | (go_simp; rfl)); (case hp => exact (Reps.none _ _)); intro v265 w7005 ho28 hb hg_ hnew_; clear hg_ hnew_; (first | rw [← Ny264.out] at ho28 | (simp only [Int.reduceToNat] at ho28; rw [← Ny264.out] at ho28)); have n0_ := Aside0.mk (Kd.R_elder' (RR HO_4) (Kd.R_base ho28) hb); have n1_ := Aside0.mk (Kd.R_lower (Kd.R_new' ho28 (Kd.R_lt (RR HO_4))) (below_size BL)); replace BK255 := KB BK255 hb; replace HB := BS (w := w) hb; clear HO_4; have HO_4 := n0_; have HO266 := n1_; clear n0_ n1_; clear hb ho28))
            go_loopg [7, 8] kj16 (fun kq v7 v8 w' => ∃ (x7_5 : List Bool) (x8_5 : Int), v8 = .int .i64 x8_5 ∧ Aside0 (spec_PartsOf.l2 kq (wrap64 (x3_2 + 1)) x4_2 x6_2 x7_5 x8_5 a0_0 a0_1 a0_2 = some r) ∧ Aside0 (kq ≤ kj16) ∧ Aside0 (Kd.R Kd.bool 4 w' w.heap.size (fun k_ => some k_ ≠ (v7 : Value).ownBlock) u4 x4_2) ∧ Aside0 (Kd.R Kd.bool 4 w' w.heap.size (fun k_ => some k_ ≠ (u4 : Value).ownBlock) v7 x7_5) ∧ Aside0 (w'.heap[gb255]? = some (.cells #[.int .i64 a0_0, .int .i64 a0_1, .string a0_2] 66 (0, 0))) ∧ Aside0 (Below w.heap.size w w'))
            case atStart => exact ⟨(y264), (0), EQ, H', ⟨Nat.le_refl _⟩, ⟨by (with_reducible repeat (first | apply Kd.R_alloc | apply Kd.R_drewN | apply Kd.R_drew)); exact Kd.R_mono HO_4.out (fun _ hk => hk.2)⟩, ⟨by (with_reducible repeat (first | apply Kd.R_alloc | apply Kd.R_drewN | apply Kd.R_drew)); exact Kd.R_mono HO266.out (fun _ hk => hk.2)⟩, ⟨BK⟩, ⟨BL⟩⟩
            case round =>
             clear H'
             try clear c5
             try clear c5b0
             try clear c16
             try clear c26
             try clear hcz7000_0
             try clear hcz7000_1
             try clear hcz7000_2
             try clear hfz7000_0
             try clear hfz7000_1
             try clear hfz7000_2
             obtain ⟨x7_5, x8_5, rfl, HA, HK5, HO_4, HO_7, BK255, HB⟩ := hrel
             cases gk with
             | zero => exact absurd HA.out (by simp [spec_PartsOf.l2])
             | succ k5 =>
              have H := HA.out
              clear HA
              simp only [spec_PartsOf.l2] at H
              replace H := ifD H; rcases H with ⟨c29b0, H⟩ | ⟨c29b0, H⟩
              ·replace H := ifP H; obtain ⟨c30, H⟩ := H
               have LMc30 := Aside0.mk c30
               clear c30
               obtain ⟨y267, hy267⟩ : ∃ y_ : List Bool, y_ = (x7_5 ++ [false]) := ⟨_, rfl⟩
               replace H : (spec_PartsOf.l2 k5 (wrap64 (x3_2 + 1)) x4_2 x6_2 y267 (wrap64 (x8_5 + 1)) a0_0 a0_1 a0_2) = some r := by first | (rw [hy267]; with_reducible exact H) | (have H2_ := (Option.bind_some _ _).symm.trans H; rw [hy267]; with_reducible exact H2_) | (have H2_ := (Option.bind_some _ _).symm.trans H; with_reducible exact H2_) | with_reducible exact H | (rw [hy267]; exact H) | exact H
               have Ny267 := Aside0.mk hy267
               clear hy267
               have H' := Aside0.mk H
               clear H
               obtain ⟨Ao7006, co7006, eo7006⟩ := Kd.R_slice HO_4.out
               subst eo7006
               go_wp2_with (first | ((with_reducible refine gate_builtin (b := .append) (xs := #[.tmp 53, .tmp 54]) rfl ?_); at_builtin; refine Kd.R_append Kd.bool (w0 := w) w.heap.size rfl (.tmp 53) (.tmp 54) 131 4 (.bool false) 1 rfl Try.underlying131 info4 rfl (by decide) (by omega) u7 x7_5 false [.bool false] (fun k_ => some k_ ≠ (.slice Ao7006 x4_2.length co7006 : Value).ownBlock) (fun _ => False) rfl rfl ?aP (fun _ hk => hk.elim) ?aF ?aO ?aB ?aS ?aL ?_; (case aP => exact rfl); (case aB => exact BL); (case aF => exact (fun k_ hk => Kd.fresh' (Kd.R_lt (RR HO_4)) k_ hk)); (case aO => exact (RR HO_7)); (case aS => exact (below_size BL)); (case aL => have := LMc30.out; omega); intro v268 w7007 ho hb hg hat; rw [← Ny267.out] at ho; have n0_ := Aside0.mk (Kd.R_after (ok := (fun _ => True)) (by (with_reducible repeat (first | apply Kd.R_alloc | apply Kd.R_drewN | apply Kd.R_drew)); exact Kd.R_mono HO_4.out (fun _ hk => ⟨trivial, hk⟩)) hg hat); have n1_ := Aside0.mk (blk_grown (g := gb255) (o := .cells #[.int .i64 a0_0, .int .i64 a0_1, .string a0_2] 66 (0, 0)) BK hg (Kd.R_ne HO_7.out BK255.out (by decide))); have n2_ := Aside0.mk (hb); have n3_ := Aside0.mk (ho); clear HO_4 BK255 HB HO_7; have HO_4 := n0_; have BK255 := n1_; have HB := n2_; have HO269 := n3_; clear n0_ n1_ n2_ n3_; clear ho hb hg hat))
               go_roundg k5
               case measure => have := HK1.out; have := HK2.out; have := HJ9.out; have := HJ16.out; have := HK5.out; omega
               case rel => exact ⟨(y267), (wrap64 (x8_5 + 1)), EQ, H', ⟨by have := HK1.out; have := HK2.out; have := HJ9.out; have := HJ16.out; have := HK5.out; omega⟩, ⟨by (with_reducible repeat (first | apply Kd.R_alloc | apply Kd.R_drewN | apply Kd.R_drew)); exact Kd.R_mono HO_4.out (fun _ hk => hk.2)⟩, ⟨(RR HO269)⟩, ⟨BK⟩, ⟨BL⟩⟩
              ·replace H := be H; obtain ⟨t270, A33, H⟩ := H
               have H' := Aside0.mk H
               clear H
               obtain ⟨Ao7006, co7006, eo7006⟩ := Kd.R_slice HO_4.out
               subst eo7006
               obtain ⟨hcz7007_0, hcz7007_1, hcz7007_2, hfz7007_0, hfz7007_1, hfz7007_2⟩ := cz3 BK255.out
               obtain ⟨Ao7008, co7008, eo7008⟩ := Kd.R_slice HO_7.out
               subst eo7008
               go_wp2_with (first | ((with_reducible refine gate_callee (f := 195) rfl ?_); refine goesS (some 59) Try.func195 #[.agg #[.int .i64 a0_0, .int .i64 a0_1, .string a0_2], .slice Ao7008 x7_5.length co7008, .int .i64 x6_2] ?_; (with_reducible refine (spec_l10Reach.calls k5 a0_0 a0_1 a0_2 (fun k_ => some k_ = (.slice Ao7008 x7_5.length co7008 : Value).ownBlock) (.slice Ao7008 x7_5.length co7008) x7_5 x6_2 t270 w _ ?side1 ?side2 A33.out).mono ?_); (case side1 => exact BL); (case side2 => exact Kd.R_tight rfl HO_7.out); rintro e w7009 ⟨v271, rfl, ho0, hb, hkp⟩; refine ⟨_, rfl, ?_⟩; have n0_ := Aside0.mk (Kd.R_mono (ok' := fun k_ => some k_ ≠ (v271 : Value).ownBlock) (Kd.R_keptB (HO_4.out) hkp (fun k_ hk_ hs_ => (hk_) hs_)) (fun k_ hk_ => fun e_ => Or.elim (ho0.1 k_ e_.symm) (fun hs_ => hk_.2.1 hs_) (fun hn_ => Nat.not_le.2 hk_.2.2 hn_))); have n1_ := Aside0.mk (blk_kept BK hkp (fun hs_ => (fun e_ => (Kd.R_ne HO_7.out BK255.out (by decide)) e_) hs_)); have n2_ := Aside0.mk (Kd.R_mono (ok' := fun k_ => some k_ ≠ (.slice Ao7006 x4_2.length co7006 : Value).ownBlock) ho0 (fun k_ hk_ => Or.elim hk_ (fun hs_ => fun e_ => (((HO_4.out).1 k_ e_.symm)) hs_) (fun hn_ => (Kd.fresh' (Kd.R_lt (RR HO_4)) k_ hn_)))); have n3_ := Aside0.mk (hb); clear HO_4 BK255 HB HO_7; have HO_4 := n0_; have BK255 := n1_; have HO272 := n2_; have HB := n3_; clear n0_ n1_ n2_ n3_; (try clear hb); (try clear hkp); (try clear ho0)))
               go_loopg [9] k5 (fun kq v9 w' => ∃ (x4_6 : List Bool) (x9_6 : Int), v9 = .int .i64 x9_6 ∧ Aside0 (spec_PartsOf.l3 kq (wrap64 (x3_2 + 1)) x4_6 x6_2 t270 x9_6 a0_0 a0_1 a0_2 = some r) ∧ Aside0 (kq ≤ k5) ∧ Aside0 (Kd.R Kd.bool 4 w' w.heap.size (fun k_ => some k_ ≠ (v271 : Value).ownBlock) (.slice Ao7006 x4_2.length co7006) x4_6) ∧ Aside0 (Kd.R Kd.bool 4 w' w.heap.size (fun k_ => some k_ ≠ ((.slice Ao7006 x4_2.length co7006) : Value).ownBlock) v271 t270) ∧ Aside0 (w'.heap[gb255]? = some (.cells #[.int .i64 a0_0, .int .i64 a0_1, .string a0_2] 66 (0, 0))) ∧ Aside0 (Below w.heap.size w w'))
               case atStart => exact ⟨(x4_2), (0), EQ, H', ⟨Nat.le_refl _⟩, ⟨(RR HO_4)⟩, ⟨(RR HO272)⟩, ⟨BK⟩, ⟨BL⟩⟩
               case round =>
                clear H'
                try clear c5
                try clear c5b0
                try clear c16
                try clear c26
                try clear c29
                try clear c29b0
                try clear hcz7007_0
                try clear hcz7007_1
                try clear hcz7007_2
                try clear hcz7000_0
                try clear hcz7000_1
                try clear hcz7000_2
                try clear hfz7007_0
                try clear hfz7007_1
                try clear hfz7007_2
                try clear hfz7000_0
                try clear hfz7000_1
                try clear hfz7000_2
                obtain ⟨x4_6, x9_6, rfl, HA, HK6, HO_4, HO_7, BK255, HB⟩ := hrel
                have hl4_6 := (Kd.R_reads' HO_4.out).1
                rw [hl4_6] at HO_4
                (try simp only [hl4_6])
                (try simp only [hl4_6] at BK255)
                (try simp only [hl4_6] at HO_7)
                cases gk with
                | zero => exact absurd HA.out (by simp [spec_PartsOf.l3])
                | succ k6 =>
                 have H := HA.out
                 clear HA
                 simp only [spec_PartsOf.l3] at H
                 replace H := ifD H; rcases H with ⟨c38b0, H⟩ | ⟨c38b0, H⟩
                 ·replace H := ifN H; obtain ⟨c39b0, H⟩ := H
                  obtain ⟨bq40, hbq40⟩ : ∃ b_ : Bool, b_ = (rdOf false x4_6 x9_6) := ⟨_, rfl⟩
                  replace H : (if bq40 = true then (spec_PartsOf.l3 k6 (wrap64 (x3_2 + 1)) (x4_6.set (x9_6 : Int).toNat true) x6_2 t270 (wrap64 (x9_6 + 1)) a0_0 a0_1 a0_2) else (if x9_6 < (t270.length : Int) then (spec_PartsOf.l3 k6 (wrap64 (x3_2 + 1)) (x4_6.set (x9_6 : Int).toNat (rdOf false t270 x9_6)) x6_2 t270 (wrap64 (x9_6 + 1)) a0_0 a0_1 a0_2) else (none))) = some r := by rw [← hbq40] at H; exact H
                  have Nbq40 := Aside0.mk hbq40
                  clear hbq40
                  by_cases c41 : bq40 = true
                  ·subst c41
                   rw [if_pos rfl] at H
                   obtain ⟨y274, hy274⟩ : ∃ y_ : List Bool, y_ = (x4_6.set (x9_6 : Int).toNat true) := ⟨_, rfl⟩
                   replace H : (spec_PartsOf.l3 k6 (wrap64 (x3_2 + 1)) y274 x6_2 t270 (wrap64 (x9_6 + 1)) a0_0 a0_1 a0_2) = some r := by first | (rw [hy274]; with_reducible exact H) | (have H2_ := (Option.bind_some _ _).symm.trans H; rw [hy274]; with_reducible exact H2_) | (have H2_ := (Option.bind_some _ _).symm.trans H; with_reducible exact H2_) | with_reducible exact H | (rw [hy274]; exact H) | exact H
                   have Ny274 := Aside0.mk hy274
                   clear hy274
                   have H' := Aside0.mk H
                   clear H
                   have p273 : 0 ≤ (x9_6 : Int) := OD
                   have q273 : x9_6 < (x4_6.length : Int) := OD
                   obtain ⟨ad273, e273, hx273_0⟩ := Kd.at_bool (Kd.R_reads' HO_4.out).2.2 x9_6 p273 q273
                   (try rw [← Nbq40.out] at hx273_0)
                   cases e273
                   replace p273 := eq_true p273
                   replace q273 := eq_true q273
                   have p42 : 0 ≤ (x9_6 : Int) := OD
                   have q42 : (x9_6 : Int) < ((x4_6.length : Int) : Int) := OD
                   obtain ⟨go42, co7010, eo7010, gb42, gl42, cl42, HG42⟩ := Kd.R_form HO_4.out (by omega)
                   (first | cases eo7010 | (injection eo7010 with ea_ en_ ec_; (first | subst ea_ | (injection ea_ with ea_; subst ea_)); subst ec_; clear en_))
                   have GB42 := Aside0.mk gb42
                   have GG42 := Aside0.mk HG42
                   clear gb42 gl42 HG42
                   (first | simp only [add_plain] at hx273_0 | skip)
                   obtain ⟨hx42_0, hf42_0⟩ := Kd.R_celln false HO_4.out (x9_6 : Int) p42 q42
                   replace p42 := eq_true p42
                   replace q42 := eq_true q42
                   have HP43 := Kd.R_putg HO_4.out (x9_6 : Int) true
                   go_wp2_with (first | ((with_reducible refine gate_store (t := 4) (p := 78) rfl ?_); refine store_event (t := 4) (p := 78) (v := ?vo_w44) (w1 := (wr.setCell ⟨go42, (x9_6 : Int).toNat, none⟩ (.bool true))) ?hg ?ho ?hn ?hr ?_; (case ho => rfl); (case hg => rfl); (case hn => rfl); (case hr => first | (go_simp; done) | (go_simp; rfl)); intro w7011 hw; have hg : wr.grownBy w7011 (some go42) := (by rw [hw]; exact HP43.2); have hp_ : Kd.R Kd.bool 4 w7011 w.heap.size (fun k_ => some k_ ≠ (v271 : Value).ownBlock) (.slice (some ⟨go42, 0, none⟩) x4_6.length co7006) y274 := (by rw [hw, Ny274.out]; exact HP43.1); clear HP43; have n0_ := Aside0.mk (hp_); have n1_ := Aside0.mk (Kd.R_after (v := (.slice (some ⟨go42, 0, none⟩) x4_6.length co7006)) (v1 := (.slice (some ⟨go42, 0, none⟩) x4_6.length co7006)) (ok := (fun _ => True)) (by (with_reducible repeat (first | apply Kd.R_alloc | apply Kd.R_drewN | apply Kd.R_drew)); exact Kd.R_mono HO_7.out (fun _ hk => ⟨trivial, hk⟩)) hg (.inl rfl)); have n2_ := Aside0.mk (blk_grown (g := gb255) (o := .cells #[.int .i64 a0_0, .int .i64 a0_1, .string a0_2] 66 (0, 0)) BK hg (Kd.R_ne HO_4.out BK255.out (by decide))); have n3_ := Aside0.mk ((by rw [hw]; exact below_set (HB.out) GB42.out : Below w.heap.size w w7011)); clear HO_4 HO_7 BK255 HB; have HO_4 := n0_; have HO_7 := n1_; have BK255 := n2_; have HB := n3_; clear n0_ n1_ n2_ n3_; clear hg hw hp_))
                   (try simp only [← hl4_6])
                   go_roundg k6
                   case measure => have := HK1.out; have := HK2.out; have := HJ9.out; have := HJ16.out; have := HK5.out; have := HK6.out; omega
                   case rel => exact ⟨(y274), (wrap64 (x9_6 + 1)), EQ, H', ⟨by have := HK1.out; have := HK2.out; have := HJ9.out; have := HJ16.out; have := HK5.out; have := HK6.out; omega⟩, ⟨by (try simp only [hl4_6]); (with_reducible repeat (first | apply Kd.R_alloc | apply Kd.R_drewN | apply Kd.R_drew)); exact HO_4.out⟩, ⟨by (try simp only [hl4_6]); (with_reducible repeat (first | apply Kd.R_alloc | apply Kd.R_drewN | apply Kd.R_drew)); exact Kd.R_mono HO_7.out (fun _ hk => hk.2)⟩, ⟨by (try simp only [hl4_6]); (with_reducible repeat (first | refine blk_drewN ?_ _ | refine blk_drew ?_ | refine blk_alloc ?_ _)); exact BK255.out⟩, ⟨BL⟩⟩
                  ·replace c41 := Bool.eq_false_iff.mpr c41
                   subst c41
                   rw [if_neg Bool.false_ne_true] at H
                   replace H := ifN H; obtain ⟨c45b0, H⟩ := H
                   obtain ⟨y276, hy276⟩ : ∃ y_ : List Bool, y_ = (x4_6.set (x9_6 : Int).toNat (rdOf false t270 x9_6)) := ⟨_, rfl⟩
                   replace H : (spec_PartsOf.l3 k6 (wrap64 (x3_2 + 1)) y276 x6_2 t270 (wrap64 (x9_6 + 1)) a0_0 a0_1 a0_2) = some r := by first | (rw [hy276]; with_reducible exact H) | (have H2_ := (Option.bind_some _ _).symm.trans H; rw [hy276]; with_reducible exact H2_) | (have H2_ := (Option.bind_some _ _).symm.trans H; with_reducible exact H2_) | with_reducible exact H | (rw [hy276]; exact H) | exact H
                   have Ny276 := Aside0.mk hy276
                   clear hy276
                   have H' := Aside0.mk H
                   clear H
                   have p273 : 0 ≤ (x9_6 : Int) := OD
                   have q273 : x9_6 < (x4_6.length : Int) := OD
                   obtain ⟨ad273, e273, hx273_0⟩ := Kd.at_bool (Kd.R_reads' HO_4.out).2.2 x9_6 p273 q273
                   (try rw [← Nbq40.out] at hx273_0)
                   cases e273
                   replace p273 := eq_true p273
                   replace q273 := eq_true q273
                   obtain ⟨Ao7010, co7010, eo7010⟩ := Kd.R_slice HO_7.out
                   subst eo7010
                   have p275 : 0 ≤ (x9_6 : Int) := OD
                   have q275 : x9_6 < (t270.length : Int) := OD
                   obtain ⟨ad275, e275, hx275_0⟩ := Kd.at_bool (Kd.R_reads' HO_7.out).2.2 x9_6 p275 q275
                   (try rw [← Nbq40.out] at hx275_0)
                   cases e275
                   replace p275 := eq_true p275
                   replace q275 := eq_true q275
                   have p46 : 0 ≤ (x9_6 : Int) := OD
                   have q46 : (x9_6 : Int) < ((x4_6.length : Int) : Int) := OD
                   obtain ⟨go46, co7011, eo7011, gb46, gl46, cl46, HG46⟩ := Kd.R_form HO_4.out (by omega)
                   (first | cases eo7011 | (injection eo7011 with ea_ en_ ec_; (first | subst ea_ | (injection ea_ with ea_; subst ea_)); subst ec_; clear en_))
                   have GB46 := Aside0.mk gb46
                   have GG46 := Aside0.mk HG46
                   clear gb46 gl46 HG46
                   (first | simp only [add_plain] at hx273_0 | skip)
                   obtain ⟨hx46_0, hf46_0⟩ := Kd.R_celln false HO_4.out (x9_6 : Int) p46 q46
                   replace p46 := eq_true p46
                   replace q46 := eq_true q46
                   have HP48 := Kd.R_putg HO_4.out (x9_6 : Int) (rdOf false t270 x9_6)
                   go_wp2_with (first | ((with_reducible refine gate_store (t := 4) (p := 78) rfl ?_); refine store_event (t := 4) (p := 78) (v := ?vo_w49) (w1 := (wr.setCell ⟨go46, (x9_6 : Int).toNat, none⟩ (.bool (rdOf false t270 x9_6)))) ?hg ?ho ?hn ?hr ?_; (case ho => rfl); (case hg => rfl); (case hn => rfl); (case hr => first | (go_simp; done) | (go_simp; rfl)); intro w7012 hw; have hg : wr.grownBy w7012 (some go46) := (by rw [hw]; exact HP48.2); have hp_ : Kd.R Kd.bool 4 w7012 w.heap.size (fun k_ => some k_ ≠ (.slice (some ad275) t270.length co7010 : Value).ownBlock) (.slice (some ⟨go46, 0, none⟩) x4_6.length co7006) y276 := (by rw [hw, Ny276.out]; exact HP48.1); clear HP48; have n0_ := Aside0.mk (hp_); have n1_ := Aside0.mk (Kd.R_after (v := (.slice (some ⟨go46, 0, none⟩) x4_6.length co7006)) (v1 := (.slice (some ⟨go46, 0, none⟩) x4_6.length co7006)) (ok := (fun _ => True)) (by (with_reducible repeat (first | apply Kd.R_alloc | apply Kd.R_drewN | apply Kd.R_drew)); exact Kd.R_mono HO_7.out (fun _ hk => ⟨trivial, hk⟩)) hg (.inl rfl)); have n2_ := Aside0.mk (blk_grown (g := gb255) (o := .cells #[.int .i64 a0_0, .int .i64 a0_1, .string a0_2] 66 (0, 0)) BK hg (Kd.R_ne HO_4.out BK255.out (by decide))); have n3_ := Aside0.mk ((by rw [hw]; exact below_set (HB.out) GB46.out : Below w.heap.size w w7012)); clear HO_4 HO_7 BK255 HB; have HO_4 := n0_; have HO_7 := n1_; have BK255 := n2_; have HB := n3_; clear n0_ n1_ n2_ n3_; clear hg hw hp_))
                   (try simp only [← hl4_6])
                   go_roundg k6
                   case measure => have := HK1.out; have := HK2.out; have := HJ9.out; have := HJ16.out; have := HK5.out; have := HK6.out; omega
                   case rel => exact ⟨(y276), (wrap64 (x9_6 + 1)), EQ, H', ⟨by have := HK1.out; have := HK2.out; have := HJ9.out; have := HJ16.out; have := HK5.out; have := HK6.out; omega⟩, ⟨by (try simp only [hl4_6]); (with_reducible repeat (first | apply Kd.R_alloc | apply Kd.R_drewN | apply Kd.R_drew)); exact HO_4.out⟩, ⟨by (try simp only [hl4_6]); (with_reducible repeat (first | apply Kd.R_alloc | apply Kd.R_drewN | apply Kd.R_drew)); exact Kd.R_mono HO_7.out (fun _ hk => hk.2)⟩, ⟨by (try simp only [hl4_6]); (with_reducible repeat (first | refine blk_drewN ?_ _ | refine blk_drew ?_ | refine blk_alloc ?_ _)); exact BK255.out⟩, ⟨BL⟩⟩
                 ·have H' := Aside0.mk H
                  clear H
                  go_wp2
                  (try simp only [← hl4_6])
                  go_roundg k6
                  case measure => have := HK1.out; have := HK2.out; have := HJ9.out; have := HJ16.out; have := HK5.out; have := HK6.out; omega
                  case rel => exact ⟨((wrap64 (x3_2 + 1))), (x4_6), (wrap64 (x6_2 + 1)), EQ, EQ, H', ⟨by have := HK1.out; have := HK2.out; have := HJ9.out; have := HJ16.out; have := HK5.out; have := HK6.out; omega⟩, ⟨by (try simp only [hl4_6]); (with_reducible repeat (first | apply Kd.R_alloc | apply Kd.R_drewN | apply Kd.R_drew)); exact Kd.R_mono HO_4.out (fun _ hk => trivial)⟩, ⟨by (try simp only [hl4_6]); (with_reducible repeat (first | refine blk_drewN ?_ _ | refine blk_drew ?_ | refine blk_alloc ?_ _)); exact BK255.out⟩, ⟨BL⟩⟩
           ·have H' := Aside0.mk H
            clear H
            go_wp2
            go_roundg kj16
            case measure => have := HK1.out; have := HK2.out; have := HJ9.out; have := HJ16.out; omega
            case rel => exact ⟨(x3_2), (x4_2), (wrap64 (x6_2 + 1)), EQ, EQ, H', ⟨by have := HK1.out; have := HK2.out; have := HJ9.out; have := HJ16.out; omega⟩, ⟨(RR HO_4)⟩, ⟨BK⟩, ⟨BL⟩⟩
        ·obtain rfl := Option.some.inj H
         go_wp2
         go_ret
         exact ⟨EWW, BL⟩
def spec_IsConnected.f (k : Nat) (a0_0 : Int) (a0_1 : Int) (a0_2 : ByteArray) : Option (Bool) := (spec_PartsOf.f k a0_0 a0_1 a0_2).bind fun t278 => (some (t278 == 1))
set_option maxHeartbeats 8000000 in
set_option maxRecDepth 100000 in
theorem spec_IsConnected.calls (k : Nat) (a0_0 : Int) (a0_1 : Int) (a0_2 : ByteArray) (r : Bool) (w : World) (h : spec_IsConnected.f k a0_0 a0_1 a0_2 = some r) :
  Calls Try.prog 134 #[.agg #[.int .i64 a0_0, .int .i64 a0_1, .string a0_2]] w fun e w' => e = .returned (.bool r) ∧ Below w.heap.size w w' := by
 have hu66 := Try.underlying66
 have HB := Aside0.mk (Below.refl w.heap.size w)
 have H : ((spec_PartsOf.f k a0_0 a0_1 a0_2).bind fun t278 => (some (t278 == 1))) = some r := h
 clear h
 replace H := be H; obtain ⟨t278, A2, H⟩ := H
 obtain rfl := Option.some.inj H
 go_enter Try.func134, Try.ntmps134
 go_wp2_with (first | ((with_reducible refine gate_dst (N := 1) rfl ?_); refine box_ev (N := 1) (cs := #[.int .i64 a0_0, .int .i64 a0_1, .string a0_2]) (t := 66) ?_; intro gb277 hg w3 hbox hb; have n0_ := BS (w := w) hb; have n1_ := Aside0.mk (hbox); have n2_ := SZ (w := w) hg; have n3_ := SZ (w := w) hg; clear HB; have HB := n0_; have BK277 := n1_; have GW277 := n2_; have GE277 := n3_; clear n0_ n1_ n2_ n3_; clear hb hbox hg; obtain ⟨hcz4_0, hcz4_1, hcz4_2, hfz4_0, hfz4_1, hfz4_2⟩ := cz3 BK277.out) | ((with_reducible refine gate_callee (f := 171) rfl ?_); refine goesS (some 4) Try.func171 #[.agg #[.int .i64 a0_0, .int .i64 a0_1, .string a0_2]] ?_; (with_reducible refine (spec_PartsOf.calls k a0_0 a0_1 a0_2 t278 _ A2.out).mono ?_); rintro e w5 ⟨rfl, hb⟩; refine ⟨_, rfl, ?_⟩; replace BK277 := KB BK277 hb; replace HB := BS (w := w) hb; (try clear hb)))
 go_ret
 exact ⟨EWW, BL⟩
def spec_l10Short.l0 : Nat → List (S153) → Int → Option (Bool)
 | 0, _, _ => none
 | k + 1, x3, x4 => if x4 < (x3.length : Int) then (if 0 ≤ x4 then (if ((rd_T153 x3 x4).f3) < 3 then (some true) else (spec_l10Short.l0 k x3 (wrap64 (x4 + 1)))) else (none)) else (some false)
def spec_l10Short.f (k : Nat) (a0_0 : Int) (a0_1 : Int) (a0_2 : ByteArray) : Option (Bool) := (spec_SlotsOf.f k a0_0 a0_1 a0_2).bind fun t280 => (spec_l10Short.l0 k t280 0)
set_option maxHeartbeats 8000000 in
set_option maxRecDepth 100000 in
theorem spec_l10Short.calls (k : Nat) (a0_0 : Int) (a0_1 : Int) (a0_2 : ByteArray) (r : Bool) (w : World) (h : spec_l10Short.f k a0_0 a0_1 a0_2 = some r) :
  Calls Try.prog 135 #[.agg #[.int .i64 a0_0, .int .i64 a0_1, .string a0_2]] w fun e w' => e = .returned (.bool r) ∧ Below w.heap.size w w' := by
 have hu66 := Try.underlying66
 have HB := Aside0.mk (Below.refl w.heap.size w)
 have H : ((spec_SlotsOf.f k a0_0 a0_1 a0_2).bind fun t280 => (spec_l10Short.l0 k t280 0)) = some r := h
 clear h
 replace H := be H; obtain ⟨t280, A2, H⟩ := H
 have H' := Aside0.mk H
 clear H
 go_enter Try.func135, Try.ntmps135
 go_wp2_with (first | ((with_reducible refine gate_dst (N := 1) rfl ?_); refine box_ev (N := 1) (cs := #[.int .i64 a0_0, .int .i64 a0_1, .string a0_2]) (t := 66) ?_; intro gb279 hg w3 hbox hb; have n0_ := BS (w := w) hb; have n1_ := Aside0.mk (hbox); have n2_ := SZ (w := w) hg; have n3_ := SZ (w := w) hg; clear HB; have HB := n0_; have BK279 := n1_; have GW279 := n2_; have GE279 := n3_; clear n0_ n1_ n2_ n3_; clear hb hbox hg; obtain ⟨hcz4_0, hcz4_1, hcz4_2, hfz4_0, hfz4_1, hfz4_2⟩ := cz3 BK279.out) | ((with_reducible refine gate_callee (f := 84) rfl ?_); refine goesS (some 6) Try.func84 #[.agg #[.int .i64 a0_0, .int .i64 a0_1, .string a0_2]] ?_; (with_reducible refine (spec_SlotsOf.calls k a0_0 a0_1 a0_2 t280 _ A2.out).mono ?_); rintro e w5 ⟨v281, rfl, ho0, hb⟩; refine ⟨_, rfl, ?_⟩; have n0_ := Aside0.mk (Kd.R_lower ho0 (below_size BL)); replace BK279 := KB BK279 hb; replace HB := BS (w := w) hb; have HO282 := n0_; clear n0_; (try clear hb); (try clear ho0)))
 go_loopg [4] k (fun kq v4 w' => ∃ (x4_1 : Int), v4 = .int .i64 x4_1 ∧ Aside0 (spec_l10Short.l0 kq t280 x4_1 = some r) ∧ Aside0 (kq ≤ k) ∧ Aside0 (Kd.R k153 153 w' w.heap.size (fun _ => True) v281 t280) ∧ Aside0 (w'.heap[gb279]? = some (.cells #[.int .i64 a0_0, .int .i64 a0_1, .string a0_2] 66 (0, 0))) ∧ Aside0 (Below w.heap.size w w'))
 case atStart => exact ⟨(0), EQ, H', ⟨Nat.le_refl _⟩, ⟨(RR HO282)⟩, ⟨BK⟩, ⟨BL⟩⟩
 case round =>
  clear H'
  try clear hcz4_0
  try clear hcz4_1
  try clear hcz4_2
  try clear hfz4_0
  try clear hfz4_1
  try clear hfz4_2
  obtain ⟨x4_1, rfl, HA, HK1, HO_3, BK279, HB⟩ := hrel
  cases gk with
  | zero => exact absurd HA.out (by simp [spec_l10Short.l0])
  | succ k1 =>
   have H := HA.out
   clear HA
   simp only [spec_l10Short.l0] at H
   obtain ⟨Ao7000, co7000, eo7000⟩ := Kd.R_slice HO_3.out
   subst eo7000
   replace H := ifD H; rcases H with ⟨c6b0, H⟩ | ⟨c6b0, H⟩
   ·replace H := ifN H; obtain ⟨c7b0, H⟩ := H
    have p283 : 0 ≤ (x4_1 : Int) := OD
    have q283 : x4_1 < (t280.length : Int) := OD
    obtain ⟨ad283, e283, hx283_0, hx283_1, hx283_2, hx283_3⟩ := at_T153 (Kd.R_reads' HO_3.out).2.2 x4_1 p283 q283
    cases e283
    replace p283 := eq_true p283
    replace q283 := eq_true q283
    replace H := ifD H; rcases H with ⟨c8b0, H⟩ | ⟨c8b0, H⟩
    ·obtain rfl := Option.some.inj H
     go_wp2
     go_ret
     exact ⟨EWW, BL⟩
    ·have H' := Aside0.mk H
     clear H
     go_wp2
     go_roundg k1
     case measure => have := HK1.out; omega
     case rel => exact ⟨(wrap64 (x4_1 + 1)), EQ, H', ⟨by have := HK1.out; omega⟩, ⟨(RR HO_3)⟩, ⟨BK⟩, ⟨BL⟩⟩
   ·obtain rfl := Option.some.inj H
    go_wp2
    go_ret
    exact ⟨EWW, BL⟩
end Go.Proofs.Ythjcicmmbmagbaa.PFnExactIsSolved
