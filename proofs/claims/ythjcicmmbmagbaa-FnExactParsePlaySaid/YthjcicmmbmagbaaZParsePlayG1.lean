/- Walks of functions: what each computes. -/
import Derived.Test.YthjcicmmbmagbaaZParsePlayG0
import Derived.Test.YthjcicmmbmagbaaZParsePlayW
import Derived.Test.YthjcicmmbmagbaaZParsePlayShelf
import Derived.Test.YthjcicmmbmagbaaZParsePlayHandSort
import Derived.Test.YthjcicmmbmagbaaZParsePlayHandForm
import Derived.Test.YthjcicmmbmagbaaZParsePlayHandAlone
import Derived.Test.YthjcicmmbmagbaaZParsePlayHandRead
namespace Go.Proofs.Ythjcicmmbmagbaa.PFnExactParsePlay
open Go.RowKit Go.Proofs.YthjcicmmbmagbaaW.PrintWords Go.Proofs.YthjcicmmbmagbaaW.PrintLast Go.Proofs.YthjcicmmbmagbaaW.PrintMore Go.Proofs.Ythjcicmmbmagbaa.Sq
attribute [local go_sem] iA gZ jr jf gJ gG gX iF
set_option maxHeartbeats 8000000
set_option maxRecDepth 100000
set_option linter.unusedVariables false
set_option linter.unusedSimpArgs false
mutual
def ak.j0 : Nat → ByteArray → Int → List (aA) → Bool → Option ((List (aA)) × Int)
 | 0, _, _, _, _ => none
 | k + 1, a, b, c, d => if d = true then (some (c, (-1))) else (if (wrap64 (b + 1)) ≥ (a.size : Int) then (ak.j1 k a b c true) else (if 0 ≤ (wrap64 (b + 1)) then (if (wrap64 (b + 1)) < (a.size : Int) then (ak.j1 k a b c ((bt a (wrap64 (b + 1))) != 40)) else (none)) else (none)))
def ak.j1 : Nat → ByteArray → Int → List (aA) → Bool → Option ((List (aA)) × Int)
 | 0, _, _, _, _ => none
 | k + 1, a, b, c, d => if d = true then (ak.l0 k a b c b) else (ak.l1 k a b c 2 0 (⟨#[]⟩ : ByteArray) 0 0)
def ak.l0 : Nat → ByteArray → Int → List (aA) → Int → Option ((List (aA)) × Int)
 | 0, _, _, _, _ => none
 | k + 1, a, b, c, d => if d < (a.size : Int) then (if 0 ≤ d then (if (bt a d) ≥ 97 then (if (bt a d) ≤ 122 then (ak.l0 k a b c (wrap64 (d + 1))) else (if 0 ≤ b then (if b ≤ d then (if d ≤ (a.size : Int) then ((aD.f k (a.extract (b : Int).toNat (d : Int).toNat)).bind fun e => (if e = true then (if c.length < 3518437208883 then (some ((c ++ [(⟨1, a.extract (b : Int).toNat (d : Int).toNat, 0, 0⟩ : aA)]), d)) else (none)) else (some (c, (-1))))) else (none)) else (none)) else (none))) else (if 0 ≤ b then (if b ≤ d then (if d ≤ (a.size : Int) then ((aD.f k (a.extract (b : Int).toNat (d : Int).toNat)).bind fun f => (if f = true then (if c.length < 3518437208883 then (some ((c ++ [(⟨1, a.extract (b : Int).toNat (d : Int).toNat, 0, 0⟩ : aA)]), d)) else (none)) else (some (c, (-1))))) else (none)) else (none)) else (none))) else (none)) else (if 0 ≤ b then (if b ≤ d then (if d ≤ (a.size : Int) then ((aD.f k (a.extract (b : Int).toNat (d : Int).toNat)).bind fun g => (if g = true then (if c.length < 3518437208883 then (some ((c ++ [(⟨1, a.extract (b : Int).toNat (d : Int).toNat, 0, 0⟩ : aA)]), d)) else (none)) else (some (c, (-1))))) else (none)) else (none)) else (none))
def ak.l1 : Nat → ByteArray → Int → List (aA) → Int → Int → ByteArray → Int → Int → Option ((List (aA)) × Int)
 | 0, _, _, _, _, _, _, _, _ => none
 | k + 1, a, b, c, d, e, f, g, h => if d ≤ 9 then (if 0 ≤ d then (if d < 10 then (if 0 ≤ b then (if b < (a.size : Int) then (if (bt (⟨#[32, 32, 98, 109, 106, 105, 104, 110, 116, 100]⟩ : ByteArray) d) = (bt a b) then (ak.l1 k a b c (wrap64 (d + 1)) d f g h) else (ak.l1 k a b c (wrap64 (d + 1)) e f g h)) else (none)) else (none)) else (none)) else (none)) else ((ak.f k a (wrap64 (b + 2)) c).bind fun i => (if i.2 ≥ 0 then (if e = 4 then (ak.j4 k a i.2 i.1 true e f (wrap64 ((i.1.length : Int) - 1)) h) else (ak.j4 k a i.2 i.1 (e == 5) e f (wrap64 ((i.1.length : Int) - 1)) h)) else (ak.j4 k a i.2 i.1 false e f (wrap64 ((i.1.length : Int) - 1)) h)))
def ak.j4 : Nat → ByteArray → Int → List (aA) → Bool → Int → ByteArray → Int → Int → Option ((List (aA)) × Int)
 | 0, _, _, _, _, _, _, _, _ => none
 | k + 1, a, b, c, d, e, f, g, h => if d = true then (if b ≥ (a.size : Int) then (ak.j5 k a b c true e f g h) else (if 0 ≤ b then (if b < (a.size : Int) then (ak.j5 k a b c ((bt a b) != 44) e f g h) else (none)) else (none))) else (if b < 0 then (some (c, (-1))) else (if b ≥ (a.size : Int) then (some (c, (-1))) else (if 0 ≤ b then (if b < (a.size : Int) then (if (bt a b) = 41 then (if e = 0 then (some (c, (-1))) else (if c.length < 3518437208883 then (some ((c ++ [(⟨e, f, g, h⟩ : aA)]), wrap64 (b + 1))) else (none))) else (some (c, (-1)))) else (none)) else (none))))
def ak.j5 : Nat → ByteArray → Int → List (aA) → Bool → Int → ByteArray → Int → Int → Option ((List (aA)) × Int)
 | 0, _, _, _, _, _, _, _, _ => none
 | k + 1, a, b, c, d, e, f, g, h => if d = true then (some (c, (-1))) else ((ak.f k a (wrap64 (b + 1)) c).bind fun i => (if i.2 < 0 then (some (i.1, (-1))) else (if i.2 ≥ (a.size : Int) then (some (i.1, (-1))) else (if 0 ≤ i.2 then (if i.2 < (a.size : Int) then (if (bt a i.2) = 41 then (if e = 0 then (some (i.1, (-1))) else (if i.1.length < 3518437208883 then (some ((i.1 ++ [(⟨e, f, g, wrap64 ((i.1.length : Int) - 1)⟩ : aA)]), wrap64 (i.2 + 1))) else (none))) else (some (i.1, (-1)))) else (none)) else (none)))))
def ak.f : Nat → ByteArray → Int → List (aA) → Option ((List (aA)) × Int)
 | 0, _, _, _ => none
 | k + 1, a, b, c => if b ≥ (a.size : Int) then (ak.j0 k a b c true) else (ak.j0 k a b c (decide ((c.length : Int) ≥ 9)))
end
theorem ak.calls (k : Nat) : ∀ (a0 : ByteArray) (a1 : Int) (P2_ : Nat → Prop) (u9000_ : Value) (l2 r1 : List (aA)) (r2 : Int) (w0 w : World) (hB : Below w0.heap.size w0 w) (ho2 : Kd.R bQ 110 w w0.heap.size P2_ u9000_ l2) (h : ak.f k a0 a1 l2 = some (r1, r2)),
  Calls Try.prog 75 #[.string a0, .int .i64 a1, u9000_] w fun e w' => ∃ v0_ : Value, e = .returned (.tuple #[v0_, .int .i64 r2]) ∧ Kd.R bQ 110 w' w0.heap.size (fun k_ => (P2_ k_ ∨ w.heap.size ≤ k_)) v0_ r1 ∧ Below w0.heap.size w0 w' ∧ Kept w w' (fun k_ => P2_ k_) := by
 induction k using Nat.strongRecOn with
 | _ k ih =>
 intro a0 a1 P2_ u9000_ l2 r1 r2 w0 w hB ho2 h
 cases k with
 | zero => exact absurd h (by simp [ak.f])
 | succ k =>
 simp only [ak.f] at h
 have hu110 := Try.underlying110
 have HO2 := aj.mk (show Kd.R bQ 110 w w0.heap.size (fun k_ => (P2_ k_ ∨ w.heap.size ≤ k_)) u9000_ l2 from Kd.aQ ho2 (fun k_ hk => (.inl hk)))
 have HK := aj.mk (Kept.refl w (fun k_ => P2_ k_))
 have HW0 := aj.mk hB.size
 have HB := aj.mk hB
 clear hB
 have H : (if a1 ≥ (a0.size : Int) then (ak.j0 k a0 a1 l2 true) else (ak.j0 k a0 a1 l2 (decide ((l2.length : Int) ≥ 9)))) = some (r1, r2) := h
 clear h
 have HC4 := aj.mk H
 clear H
 go_enter Try.func75, Try.ntmps75
 go_upto_region 1 with (fail)
 repeat (go_quiet (fail); go_upto_region 1 with (fail))
 go_cut [19] (fun v19 wc => ∃ (kq : Nat) (x19_3 : Bool), v19 = .bool x19_3 ∧ aj (ak.j0 kq a0 a1 l2 x19_3 = some (r1, r2)) ∧ aj (kq ≤ k) ∧ aj (Kd.R bQ 110 wc w0.heap.size (fun k_ => (P2_ k_ ∨ w.heap.size ≤ k_)) u9000_ l2) ∧ aj (Kept w wc (fun k_ => P2_ k_)) ∧ aj (Below w0.heap.size w0 wc))
 case first =>
  have H := HC4.out
  clear HC4
  by_cases c5 : a1 ≥ (a0.size : Int)
  ·rw [if_pos c5] at H
   have c5b0 : decide ((a0.size : Int) ≤ a1) = true := decide_eq_true c5
   clear c5
   (first | rw [c5b0] | (simp only [bL, bN]; rw [c5b0]) | skip)
   have H' := aj.mk H
   clear H
   go_wp2
   repeat (go_quiet (fail); try go_wp2)
   go_meet
   case rel => exact ⟨_, (true), EQ, H', ⟨by first | omega | exact Nat.le_refl _⟩, ⟨(RR HO2)⟩, ⟨by repeat (first | (with_reducible first | exact HK.out | apply Kept.alloc | apply Kept.drewN | apply Kept.drew) | exact HK.out)⟩, ⟨BL⟩⟩
  ·rw [if_neg c5] at H
   have c5b0 : decide ((a0.size : Int) ≤ a1) = false := decide_eq_false c5
   clear c5
   (first | rw [c5b0] | (simp only [bL, bN]; rw [c5b0]) | skip)
   have H' := aj.mk H
   clear H
   obtain ⟨Ao8000, co8000, eo8000⟩ := Kd.bG HO2.out
   subst eo8000
   go_wp2
   repeat (go_quiet (fail); try go_wp2)
   go_meet
   case rel => exact ⟨_, (decide ((l2.length : Int) ≥ 9)), EQ, H', ⟨by first | omega | exact Nat.le_refl _⟩, ⟨(RR HO2)⟩, ⟨by repeat (first | (with_reducible first | exact HK.out | apply Kept.alloc | apply Kept.drewN | apply Kept.drew) | exact HK.out)⟩, ⟨BL⟩⟩
 case rest =>
  clear HC4
  obtain ⟨kq, x19_3, rfl, HA, HJ3, HO_2, HK, HB⟩ := hcut
  cases kq with
  | zero => exact absurd HA.out (by simp [ak.j0])
  | succ kj3 =>
   have H := HA.out
   clear HA
   simp only [ak.j0] at H
   replace H := ifB H; rcases H with ⟨rfl, H⟩ | ⟨rfl, H⟩
   ·simp only [Option.some.injEq, Prod.mk.injEq] at H
    obtain ⟨rfl, rfl⟩ := H
    go_wp2
    repeat (go_quiet (fail); try go_wp2)
    go_ret2
    exact ⟨_, EWW, (RR HO_2), BL, by repeat (first | (with_reducible first | exact HK.out | apply Kept.alloc | apply Kept.drewN | apply Kept.drew) | exact HK.out)⟩
   ·have HC8 := aj.mk H
    clear H
    go_upto_region 3 with (fail)
    repeat (go_quiet (fail); go_upto_region 3 with (fail))
    go_cut [32] (fun v32 wc => ∃ (kq : Nat) (x32_7 : Bool), v32 = .bool x32_7 ∧ aj (ak.j1 kq a0 a1 l2 x32_7 = some (r1, r2)) ∧ aj (kq ≤ kj3) ∧ aj (Kd.R bQ 110 wc w0.heap.size (fun k_ => (P2_ k_ ∨ w.heap.size ≤ k_)) u9000_ l2) ∧ aj (Kept w wc (fun k_ => P2_ k_)) ∧ aj (Below w0.heap.size w0 wc))
    case first =>
     have H := HC8.out
     clear HC8
     by_cases c9 : (wrap64 (a1 + 1)) ≥ (a0.size : Int)
     ·rw [if_pos c9] at H
      have c9b0 : decide ((a0.size : Int) ≤ (wrap64 (a1 + 1))) = true := decide_eq_true c9
      clear c9
      (first | rw [c9b0] | (simp only [bL, bN]; rw [c9b0]) | skip)
      have H' := aj.mk H
      clear H
      go_wp2
      repeat (go_quiet (fail); try go_wp2)
      go_meet
      case rel => exact ⟨_, (true), EQ, H', ⟨by have := HJ3.out; first | omega | exact Nat.le_refl _⟩, ⟨(RR HO_2)⟩, ⟨by repeat (first | (with_reducible first | exact HK.out | apply Kept.alloc | apply Kept.drewN | apply Kept.drew) | exact HK.out)⟩, ⟨BL⟩⟩
     ·rw [if_neg c9] at H
      have c9b0 : decide ((a0.size : Int) ≤ (wrap64 (a1 + 1))) = false := decide_eq_false c9
      clear c9
      (first | rw [c9b0] | (simp only [bL, bN]; rw [c9b0]) | skip)
      obtain ⟨ji10, hji10⟩ : ∃ j_ : Int, (wrap64 (a1 + 1)) = j_ := ⟨_, rfl⟩
      replace H : (if 0 ≤ (ji10) then (if (ji10) < (a0.size : Int) then (ak.j1 kj3 a0 a1 l2 ((bt a0 (ji10)) != 40)) else (none)) else (none)) = some (r1, r2) := by first | (rw [hji10] at H; exact H) | (simp only [hji10] at H ⊢; exact H)
      (try rw [hji10] at c9b0)
      have hji10w : (IntKind.i64.wrap (a1 + 1)) = ji10 := (bL _).trans hji10
      replace H := ifN H; obtain ⟨c11b0, H⟩ := H
      replace H := ifN H; obtain ⟨c12b0, H⟩ := H
      have H' := aj.mk H
      clear H
      have p13 : (0 ≤ ((ji10) : Int)) = True := OT
      have q13 : ((ji10) < (a0.size : Int)) = True := OT
      have hx13 := eF a0 (ji10)
      go_wp2
      repeat (go_quiet (fail); try go_wp2)
      go_meet
      case rel => exact ⟨_, (((bt a0 (ji10)) != 40)), (by first | rfl | (simp; done) | (simp only [← hji10] <;> (first | rfl | simp)) | (simp [*]; done)), H', ⟨by have := HJ3.out; first | omega | exact Nat.le_refl _⟩, ⟨(RR HO_2)⟩, ⟨by repeat (first | (with_reducible first | exact HK.out | apply Kept.alloc | apply Kept.drewN | apply Kept.drew) | exact HK.out)⟩, ⟨BL⟩⟩
    case rest =>
     clear HC8
     try clear c7
     obtain ⟨kq, x32_7, rfl, HA, HJ7, HO_2, HK, HB⟩ := hcut
     cases kq with
     | zero => exact absurd HA.out (by simp [ak.j1])
     | succ kj7 =>
      have H := HA.out
      clear HA
      simp only [ak.j1] at H
      replace H := ifB H; rcases H with ⟨rfl, H⟩ | ⟨rfl, H⟩
      ·have H' := aj.mk H
       clear H
       go_wp2
       repeat (go_quiet (fail); try go_wp2)
       go_loopg [8] kj7 (fun kq v8 w' => ∃ (x8_3 : Int), v8 = .int .i64 x8_3 ∧ aj (ak.l0 kq a0 a1 l2 x8_3 = some (r1, r2)) ∧ aj (kq ≤ kj7) ∧ aj (Kd.R bQ 110 w' w0.heap.size (fun k_ => (P2_ k_ ∨ w.heap.size ≤ k_)) u9000_ l2) ∧ aj (Kept w w' (fun k_ => P2_ k_)) ∧ aj (Below w0.heap.size w0 w'))
       case atStart => exact ⟨(a1), EQ, H', ⟨Nat.le_refl _⟩, ⟨(RR HO_2)⟩, ⟨by repeat (first | (with_reducible first | exact HK.out | apply Kept.alloc | apply Kept.drewN | apply Kept.drew) | exact HK.out)⟩, ⟨BL⟩⟩
       case round =>
        clear H'
        try clear c7
        try clear c14
        obtain ⟨x8_3, rfl, HA, HK3, HO_2, HK, HB⟩ := hrel
        cases gk with
        | zero => exact absurd HA.out (by simp [ak.l0])
        | succ k3 =>
         have H := HA.out
         clear HA
         simp only [ak.l0] at H
         replace H := ifD H; rcases H with ⟨c15b0, H⟩ | ⟨c15b0, H⟩
         ·replace H := ifN H; obtain ⟨c16b0, H⟩ := H
          have p17 : (0 ≤ (x8_3 : Int)) = True := OT
          have q17 : (x8_3 < (a0.size : Int)) = True := OT
          have hx17 := eF a0 x8_3
          by_cases c18 : (bt a0 x8_3) ≥ 97
          ·rw [if_pos c18] at H
           have c18b0 : decide (97 ≤ (bt a0 x8_3)) = true := decide_eq_true c18
           clear c18
           have p19 : (0 ≤ (x8_3 : Int)) = True := OT
           have q19 : (x8_3 < (a0.size : Int)) = True := OT
           have hx19 := eF a0 x8_3
           replace H := ifD H; rcases H with ⟨c20b0, H⟩ | ⟨c20b0, H⟩
           ·have H' := aj.mk H
            clear H
            go_wp2
            repeat (go_quiet (fail); try go_wp2)
            go_roundg k3
            case measure => have := HJ3.out; have := HJ7.out; have := HK3.out; omega
            case rel => exact ⟨(wrap64 (x8_3 + 1)), EQ, H', ⟨by have := HJ3.out; have := HJ7.out; have := HK3.out; omega⟩, ⟨(RR HO_2)⟩, ⟨by repeat (first | (with_reducible first | exact HK.out | apply Kept.alloc | apply Kept.drewN | apply Kept.drew) | exact HK.out)⟩, ⟨BL⟩⟩
           ·replace H := ifP H; obtain ⟨c21, H⟩ := H
            have c21b0 := eq_true c21
            have c21b1 : decide (0 ≤ a1) = true := decide_eq_true c21
            clear c21
            replace H := ifP H; obtain ⟨c22, H⟩ := H
            have c22b0 := eq_true c22
            have c22b1 : decide (a1 ≤ x8_3) = true := decide_eq_true c22
            clear c22
            replace H := ifP H; obtain ⟨c23, H⟩ := H
            have c23b0 := eq_true c23
            have c23b1 : decide (x8_3 ≤ (a0.size : Int)) = true := decide_eq_true c23
            clear c23
            replace H := be H; obtain ⟨t102, A24, H⟩ := H
            replace H := ifB H; rcases H with ⟨rfl, H⟩ | ⟨rfl, H⟩
            ·have c26b0 := eq_true (OD : 0 ≤ a1)
             have c27b0 := eq_true (OD : a1 ≤ x8_3)
             have c28b0 := eq_true (OD : x8_3 ≤ (a0.size : Int))
             replace H := ifP H; obtain ⟨c29, H⟩ := H
             have LMc29 := aj.mk c29
             clear c29
             obtain ⟨y103, hy103⟩ : ∃ y_ : List (aA), y_ = (l2 ++ [(⟨1, a0.extract (a1 : Int).toNat (x8_3 : Int).toNat, 0, 0⟩ : aA)]) := ⟨_, rfl⟩
             replace H : (some (y103, x8_3)) = some (r1, r2) := by first | (rw [hy103]; with_reducible exact H) | (have H2_ := (Option.bind_some _ _).symm.trans H; rw [hy103]; with_reducible exact H2_) | (have H2_ := (Option.bind_some _ _).symm.trans H; with_reducible exact H2_) | with_reducible exact H | (rw [hy103]; exact H) | exact H
             have Ny103 := aj.mk hy103
             clear hy103
             simp only [Option.some.injEq, Prod.mk.injEq] at H
             obtain ⟨rfl, rfl⟩ := H
             repeat (go_wp2_with (first | (go_at_call 112; (with_reducible refine (aD.calls k3 (a0.extract (a1 : Int).toNat (x8_3 : Int).toNat) _ _ A24.out).mono ?_); rintro e w' ⟨rfl, ⟨nd, rfl⟩⟩; (try first | exact da | exact DD)) | ((with_reducible refine bH (b := .append) (xs := #[.tmp 59, .tmp 65]) rfl ?_); (try (refine bP (by rfl) ?_; dsimp only)); at_builtin; refine Kd.dh bQ (w0 := w0) w0.heap.size rfl (.tmp 59) (.tmp 65) 53 110 (.agg #[(.int .i64 0), (.string ⟨#[]⟩), (.int .i64 0), (.int .i64 0)]) 40 rfl Try.underlying53 dR rfl (by decide) (by omega) u9000_ l2 (⟨1, a0.extract (a1 : Int).toNat (x8_3 : Int).toNat, 0, 0⟩ : aA) [.int .i64 1, .string (a0.extract (a1 : Int).toNat (x8_3 : Int).toNat), .int .i64 0, .int .i64 0] (fun k_ => (P2_ k_ ∨ w.heap.size ≤ k_)) (fun _ => False) rfl rfl ?aP (fun _ hk => hk.elim) ?aF ?aO ?aB ?aS ?aL ?_; (case aP => exact bX _ _ _ (⟨1, a0.extract (a1 : Int).toNat (x8_3 : Int).toNat, 0, 0⟩ : aA)); (case aB => exact BL); (case aF => exact (fun k_ hk => (.inr (Nat.le_trans (by first | exact HK.out.1 | exact (show Kept w _ (fun k_ => P2_ k_) from by repeat (first | (with_reducible first | exact HK.out | apply Kept.alloc | apply Kept.drewN | apply Kept.drew) | exact HK.out)).1) hk)))); (case aO => exact (RR HO_2)); (case aS => exact (aW BL)); (case aL => have := LMc29.out; omega); intro v104 w7000 ho hb hg hat; rw [← Ny103.out] at ho; have n0_ := aj.mk (hb); have n1_ := aj.mk (Kept.bY (S := (fun k_ => P2_ k_)) hg (by repeat (first | (with_reducible first | exact HK.out | apply Kept.alloc | apply Kept.drewN | apply Kept.drew) | exact HK.out)) (fun k_ e_ => (HO_2.out.1 k_ e_))); have n2_ := aj.mk (ho); clear HB HK HO_2; have HB := n0_; have HK := n1_; have HO105 := n2_; clear n0_ n1_ n2_; clear ho hb hg hat)); go_quiet (first | (go_at_call 112; (with_reducible refine (aD.calls k3 (a0.extract (a1 : Int).toNat (x8_3 : Int).toNat) _ _ A24.out).mono ?_); rintro e w' ⟨rfl, ⟨nd, rfl⟩⟩; (try first | exact da | exact DD)) | ((with_reducible refine bH (b := .append) (xs := #[.tmp 59, .tmp 65]) rfl ?_); (try (refine bP (by rfl) ?_; dsimp only)); at_builtin; refine Kd.dh bQ (w0 := w0) w0.heap.size rfl (.tmp 59) (.tmp 65) 53 110 (.agg #[(.int .i64 0), (.string ⟨#[]⟩), (.int .i64 0), (.int .i64 0)]) 40 rfl Try.underlying53 dR rfl (by decide) (by omega) u9000_ l2 (⟨1, a0.extract (a1 : Int).toNat (x8_3 : Int).toNat, 0, 0⟩ : aA) [.int .i64 1, .string (a0.extract (a1 : Int).toNat (x8_3 : Int).toNat), .int .i64 0, .int .i64 0] (fun k_ => (P2_ k_ ∨ w.heap.size ≤ k_)) (fun _ => False) rfl rfl ?aP (fun _ hk => hk.elim) ?aF ?aO ?aB ?aS ?aL ?_; (case aP => exact bX _ _ _ (⟨1, a0.extract (a1 : Int).toNat (x8_3 : Int).toNat, 0, 0⟩ : aA)); (case aB => exact BL); (case aF => exact (fun k_ hk => (.inr (Nat.le_trans (by first | exact HK.out.1 | exact (show Kept w _ (fun k_ => P2_ k_) from by repeat (first | (with_reducible first | exact HK.out | apply Kept.alloc | apply Kept.drewN | apply Kept.drew) | exact HK.out)).1) hk)))); (case aO => exact (RR HO_2)); (case aS => exact (aW BL)); (case aL => have := LMc29.out; omega); intro v104 w7000 ho hb hg hat; rw [← Ny103.out] at ho; have n0_ := aj.mk (hb); have n1_ := aj.mk (Kept.bY (S := (fun k_ => P2_ k_)) hg (by repeat (first | (with_reducible first | exact HK.out | apply Kept.alloc | apply Kept.drewN | apply Kept.drew) | exact HK.out)) (fun k_ e_ => (HO_2.out.1 k_ e_))); have n2_ := aj.mk (ho); clear HB HK HO_2; have HB := n0_; have HK := n1_; have HO105 := n2_; clear n0_ n1_ n2_; clear ho hb hg hat)))
             go_wp2_with (first | (go_at_call 112; (with_reducible refine (aD.calls k3 (a0.extract (a1 : Int).toNat (x8_3 : Int).toNat) _ _ A24.out).mono ?_); rintro e w' ⟨rfl, ⟨nd, rfl⟩⟩; (try first | exact da | exact DD)) | ((with_reducible refine bH (b := .append) (xs := #[.tmp 59, .tmp 65]) rfl ?_); (try (refine bP (by rfl) ?_; dsimp only)); at_builtin; refine Kd.dh bQ (w0 := w0) w0.heap.size rfl (.tmp 59) (.tmp 65) 53 110 (.agg #[(.int .i64 0), (.string ⟨#[]⟩), (.int .i64 0), (.int .i64 0)]) 40 rfl Try.underlying53 dR rfl (by decide) (by omega) u9000_ l2 (⟨1, a0.extract (a1 : Int).toNat (x8_3 : Int).toNat, 0, 0⟩ : aA) [.int .i64 1, .string (a0.extract (a1 : Int).toNat (x8_3 : Int).toNat), .int .i64 0, .int .i64 0] (fun k_ => (P2_ k_ ∨ w.heap.size ≤ k_)) (fun _ => False) rfl rfl ?aP (fun _ hk => hk.elim) ?aF ?aO ?aB ?aS ?aL ?_; (case aP => exact bX _ _ _ (⟨1, a0.extract (a1 : Int).toNat (x8_3 : Int).toNat, 0, 0⟩ : aA)); (case aB => exact BL); (case aF => exact (fun k_ hk => (.inr (Nat.le_trans (by first | exact HK.out.1 | exact (show Kept w _ (fun k_ => P2_ k_) from by repeat (first | (with_reducible first | exact HK.out | apply Kept.alloc | apply Kept.drewN | apply Kept.drew) | exact HK.out)).1) hk)))); (case aO => exact (RR HO_2)); (case aS => exact (aW BL)); (case aL => have := LMc29.out; omega); intro v104 w7000 ho hb hg hat; rw [← Ny103.out] at ho; have n0_ := aj.mk (hb); have n1_ := aj.mk (Kept.bY (S := (fun k_ => P2_ k_)) hg (by repeat (first | (with_reducible first | exact HK.out | apply Kept.alloc | apply Kept.drewN | apply Kept.drew) | exact HK.out)) (fun k_ e_ => (HO_2.out.1 k_ e_))); have n2_ := aj.mk (ho); clear HB HK HO_2; have HB := n0_; have HK := n1_; have HO105 := n2_; clear n0_ n1_ n2_; clear ho hb hg hat))
             go_ret2
             exact ⟨_, EWW, (RR HO105), BL, by repeat (first | (with_reducible first | exact HK.out | apply Kept.alloc | apply Kept.drewN | apply Kept.drew) | exact HK.out)⟩
            ·simp only [Option.some.injEq, Prod.mk.injEq] at H
             obtain ⟨rfl, rfl⟩ := H
             repeat (go_wp2_with (first | (go_at_call 112; (with_reducible refine (aD.calls k3 (a0.extract (a1 : Int).toNat (x8_3 : Int).toNat) _ _ A24.out).mono ?_); rintro e w' ⟨rfl, ⟨nd, rfl⟩⟩; (try first | exact da | exact DD))); go_quiet (first | (go_at_call 112; (with_reducible refine (aD.calls k3 (a0.extract (a1 : Int).toNat (x8_3 : Int).toNat) _ _ A24.out).mono ?_); rintro e w' ⟨rfl, ⟨nd, rfl⟩⟩; (try first | exact da | exact DD))))
             go_wp2_with (first | (go_at_call 112; (with_reducible refine (aD.calls k3 (a0.extract (a1 : Int).toNat (x8_3 : Int).toNat) _ _ A24.out).mono ?_); rintro e w' ⟨rfl, ⟨nd, rfl⟩⟩; (try first | exact da | exact DD)))
             go_ret2
             exact ⟨_, EWW, (RR HO_2), BL, by repeat (first | (with_reducible first | exact HK.out | apply Kept.alloc | apply Kept.drewN | apply Kept.drew) | exact HK.out)⟩
          ·rw [if_neg c18] at H
           have c18b0 : decide (97 ≤ (bt a0 x8_3)) = false := decide_eq_false c18
           clear c18
           replace H := ifP H; obtain ⟨c31, H⟩ := H
           have c31b0 := eq_true c31
           have c31b1 : decide (0 ≤ a1) = true := decide_eq_true c31
           clear c31
           replace H := ifP H; obtain ⟨c32, H⟩ := H
           have c32b0 := eq_true c32
           have c32b1 : decide (a1 ≤ x8_3) = true := decide_eq_true c32
           clear c32
           replace H := ifP H; obtain ⟨c33, H⟩ := H
           have c33b0 := eq_true c33
           have c33b1 : decide (x8_3 ≤ (a0.size : Int)) = true := decide_eq_true c33
           clear c33
           replace H := be H; obtain ⟨t106, A34, H⟩ := H
           replace H := ifB H; rcases H with ⟨rfl, H⟩ | ⟨rfl, H⟩
           ·have c36b0 := eq_true (OD : 0 ≤ a1)
            have c37b0 := eq_true (OD : a1 ≤ x8_3)
            have c38b0 := eq_true (OD : x8_3 ≤ (a0.size : Int))
            replace H := ifP H; obtain ⟨c39, H⟩ := H
            have LMc39 := aj.mk c39
            clear c39
            obtain ⟨y107, hy107⟩ : ∃ y_ : List (aA), y_ = (l2 ++ [(⟨1, a0.extract (a1 : Int).toNat (x8_3 : Int).toNat, 0, 0⟩ : aA)]) := ⟨_, rfl⟩
            replace H : (some (y107, x8_3)) = some (r1, r2) := by first | (rw [hy107]; with_reducible exact H) | (have H2_ := (Option.bind_some _ _).symm.trans H; rw [hy107]; with_reducible exact H2_) | (have H2_ := (Option.bind_some _ _).symm.trans H; with_reducible exact H2_) | with_reducible exact H | (rw [hy107]; exact H) | exact H
            have Ny107 := aj.mk hy107
            clear hy107
            simp only [Option.some.injEq, Prod.mk.injEq] at H
            obtain ⟨rfl, rfl⟩ := H
            repeat (go_wp2_with (first | (go_at_call 112; (with_reducible refine (aD.calls k3 (a0.extract (a1 : Int).toNat (x8_3 : Int).toNat) _ _ A34.out).mono ?_); rintro e w' ⟨rfl, ⟨nd, rfl⟩⟩; (try first | exact da | exact DD)) | ((with_reducible refine bH (b := .append) (xs := #[.tmp 59, .tmp 65]) rfl ?_); (try (refine bP (by rfl) ?_; dsimp only)); at_builtin; refine Kd.dh bQ (w0 := w0) w0.heap.size rfl (.tmp 59) (.tmp 65) 53 110 (.agg #[(.int .i64 0), (.string ⟨#[]⟩), (.int .i64 0), (.int .i64 0)]) 40 rfl Try.underlying53 dR rfl (by decide) (by omega) u9000_ l2 (⟨1, a0.extract (a1 : Int).toNat (x8_3 : Int).toNat, 0, 0⟩ : aA) [.int .i64 1, .string (a0.extract (a1 : Int).toNat (x8_3 : Int).toNat), .int .i64 0, .int .i64 0] (fun k_ => (P2_ k_ ∨ w.heap.size ≤ k_)) (fun _ => False) rfl rfl ?aP (fun _ hk => hk.elim) ?aF ?aO ?aB ?aS ?aL ?_; (case aP => exact bX _ _ _ (⟨1, a0.extract (a1 : Int).toNat (x8_3 : Int).toNat, 0, 0⟩ : aA)); (case aB => exact BL); (case aF => exact (fun k_ hk => (.inr (Nat.le_trans (by first | exact HK.out.1 | exact (show Kept w _ (fun k_ => P2_ k_) from by repeat (first | (with_reducible first | exact HK.out | apply Kept.alloc | apply Kept.drewN | apply Kept.drew) | exact HK.out)).1) hk)))); (case aO => exact (RR HO_2)); (case aS => exact (aW BL)); (case aL => have := LMc39.out; omega); intro v108 w7000 ho hb hg hat; rw [← Ny107.out] at ho; have n0_ := aj.mk (hb); have n1_ := aj.mk (Kept.bY (S := (fun k_ => P2_ k_)) hg (by repeat (first | (with_reducible first | exact HK.out | apply Kept.alloc | apply Kept.drewN | apply Kept.drew) | exact HK.out)) (fun k_ e_ => (HO_2.out.1 k_ e_))); have n2_ := aj.mk (ho); clear HB HK HO_2; have HB := n0_; have HK := n1_; have HO109 := n2_; clear n0_ n1_ n2_; clear ho hb hg hat)); go_quiet (first | (go_at_call 112; (with_reducible refine (aD.calls k3 (a0.extract (a1 : Int).toNat (x8_3 : Int).toNat) _ _ A34.out).mono ?_); rintro e w' ⟨rfl, ⟨nd, rfl⟩⟩; (try first | exact da | exact DD)) | ((with_reducible refine bH (b := .append) (xs := #[.tmp 59, .tmp 65]) rfl ?_); (try (refine bP (by rfl) ?_; dsimp only)); at_builtin; refine Kd.dh bQ (w0 := w0) w0.heap.size rfl (.tmp 59) (.tmp 65) 53 110 (.agg #[(.int .i64 0), (.string ⟨#[]⟩), (.int .i64 0), (.int .i64 0)]) 40 rfl Try.underlying53 dR rfl (by decide) (by omega) u9000_ l2 (⟨1, a0.extract (a1 : Int).toNat (x8_3 : Int).toNat, 0, 0⟩ : aA) [.int .i64 1, .string (a0.extract (a1 : Int).toNat (x8_3 : Int).toNat), .int .i64 0, .int .i64 0] (fun k_ => (P2_ k_ ∨ w.heap.size ≤ k_)) (fun _ => False) rfl rfl ?aP (fun _ hk => hk.elim) ?aF ?aO ?aB ?aS ?aL ?_; (case aP => exact bX _ _ _ (⟨1, a0.extract (a1 : Int).toNat (x8_3 : Int).toNat, 0, 0⟩ : aA)); (case aB => exact BL); (case aF => exact (fun k_ hk => (.inr (Nat.le_trans (by first | exact HK.out.1 | exact (show Kept w _ (fun k_ => P2_ k_) from by repeat (first | (with_reducible first | exact HK.out | apply Kept.alloc | apply Kept.drewN | apply Kept.drew) | exact HK.out)).1) hk)))); (case aO => exact (RR HO_2)); (case aS => exact (aW BL)); (case aL => have := LMc39.out; omega); intro v108 w7000 ho hb hg hat; rw [← Ny107.out] at ho; have n0_ := aj.mk (hb); have n1_ := aj.mk (Kept.bY (S := (fun k_ => P2_ k_)) hg (by repeat (first | (with_reducible first | exact HK.out | apply Kept.alloc | apply Kept.drewN | apply Kept.drew) | exact HK.out)) (fun k_ e_ => (HO_2.out.1 k_ e_))); have n2_ := aj.mk (ho); clear HB HK HO_2; have HB := n0_; have HK := n1_; have HO109 := n2_; clear n0_ n1_ n2_; clear ho hb hg hat)))
            go_wp2_with (first | (go_at_call 112; (with_reducible refine (aD.calls k3 (a0.extract (a1 : Int).toNat (x8_3 : Int).toNat) _ _ A34.out).mono ?_); rintro e w' ⟨rfl, ⟨nd, rfl⟩⟩; (try first | exact da | exact DD)) | ((with_reducible refine bH (b := .append) (xs := #[.tmp 59, .tmp 65]) rfl ?_); (try (refine bP (by rfl) ?_; dsimp only)); at_builtin; refine Kd.dh bQ (w0 := w0) w0.heap.size rfl (.tmp 59) (.tmp 65) 53 110 (.agg #[(.int .i64 0), (.string ⟨#[]⟩), (.int .i64 0), (.int .i64 0)]) 40 rfl Try.underlying53 dR rfl (by decide) (by omega) u9000_ l2 (⟨1, a0.extract (a1 : Int).toNat (x8_3 : Int).toNat, 0, 0⟩ : aA) [.int .i64 1, .string (a0.extract (a1 : Int).toNat (x8_3 : Int).toNat), .int .i64 0, .int .i64 0] (fun k_ => (P2_ k_ ∨ w.heap.size ≤ k_)) (fun _ => False) rfl rfl ?aP (fun _ hk => hk.elim) ?aF ?aO ?aB ?aS ?aL ?_; (case aP => exact bX _ _ _ (⟨1, a0.extract (a1 : Int).toNat (x8_3 : Int).toNat, 0, 0⟩ : aA)); (case aB => exact BL); (case aF => exact (fun k_ hk => (.inr (Nat.le_trans (by first | exact HK.out.1 | exact (show Kept w _ (fun k_ => P2_ k_) from by repeat (first | (with_reducible first | exact HK.out | apply Kept.alloc | apply Kept.drewN | apply Kept.drew) | exact HK.out)).1) hk)))); (case aO => exact (RR HO_2)); (case aS => exact (aW BL)); (case aL => have := LMc39.out; omega); intro v108 w7000 ho hb hg hat; rw [← Ny107.out] at ho; have n0_ := aj.mk (hb); have n1_ := aj.mk (Kept.bY (S := (fun k_ => P2_ k_)) hg (by repeat (first | (with_reducible first | exact HK.out | apply Kept.alloc | apply Kept.drewN | apply Kept.drew) | exact HK.out)) (fun k_ e_ => (HO_2.out.1 k_ e_))); have n2_ := aj.mk (ho); clear HB HK HO_2; have HB := n0_; have HK := n1_; have HO109 := n2_; clear n0_ n1_ n2_; clear ho hb hg hat))
            go_ret2
            exact ⟨_, EWW, (RR HO109), BL, by repeat (first | (with_reducible first | exact HK.out | apply Kept.alloc | apply Kept.drewN | apply Kept.drew) | exact HK.out)⟩
           ·simp only [Option.some.injEq, Prod.mk.injEq] at H
            obtain ⟨rfl, rfl⟩ := H
            repeat (go_wp2_with (first | (go_at_call 112; (with_reducible refine (aD.calls k3 (a0.extract (a1 : Int).toNat (x8_3 : Int).toNat) _ _ A34.out).mono ?_); rintro e w' ⟨rfl, ⟨nd, rfl⟩⟩; (try first | exact da | exact DD))); go_quiet (first | (go_at_call 112; (with_reducible refine (aD.calls k3 (a0.extract (a1 : Int).toNat (x8_3 : Int).toNat) _ _ A34.out).mono ?_); rintro e w' ⟨rfl, ⟨nd, rfl⟩⟩; (try first | exact da | exact DD))))
            go_wp2_with (first | (go_at_call 112; (with_reducible refine (aD.calls k3 (a0.extract (a1 : Int).toNat (x8_3 : Int).toNat) _ _ A34.out).mono ?_); rintro e w' ⟨rfl, ⟨nd, rfl⟩⟩; (try first | exact da | exact DD)))
            go_ret2
            exact ⟨_, EWW, (RR HO_2), BL, by repeat (first | (with_reducible first | exact HK.out | apply Kept.alloc | apply Kept.drewN | apply Kept.drew) | exact HK.out)⟩
         ·replace H := ifP H; obtain ⟨c41, H⟩ := H
          have c41b0 := eq_true c41
          have c41b1 : decide (0 ≤ a1) = true := decide_eq_true c41
          clear c41
          replace H := ifP H; obtain ⟨c42, H⟩ := H
          have c42b0 := eq_true c42
          have c42b1 : decide (a1 ≤ x8_3) = true := decide_eq_true c42
          clear c42
          replace H := ifP H; obtain ⟨c43, H⟩ := H
          have c43b0 := eq_true c43
          have c43b1 : decide (x8_3 ≤ (a0.size : Int)) = true := decide_eq_true c43
          clear c43
          replace H := be H; obtain ⟨t110, A44, H⟩ := H
          replace H := ifB H; rcases H with ⟨rfl, H⟩ | ⟨rfl, H⟩
          ·have c46b0 := eq_true (OD : 0 ≤ a1)
           have c47b0 := eq_true (OD : a1 ≤ x8_3)
           have c48b0 := eq_true (OD : x8_3 ≤ (a0.size : Int))
           replace H := ifP H; obtain ⟨c49, H⟩ := H
           have LMc49 := aj.mk c49
           clear c49
           obtain ⟨y111, hy111⟩ : ∃ y_ : List (aA), y_ = (l2 ++ [(⟨1, a0.extract (a1 : Int).toNat (x8_3 : Int).toNat, 0, 0⟩ : aA)]) := ⟨_, rfl⟩
           replace H : (some (y111, x8_3)) = some (r1, r2) := by first | (rw [hy111]; with_reducible exact H) | (have H2_ := (Option.bind_some _ _).symm.trans H; rw [hy111]; with_reducible exact H2_) | (have H2_ := (Option.bind_some _ _).symm.trans H; with_reducible exact H2_) | with_reducible exact H | (rw [hy111]; exact H) | exact H
           have Ny111 := aj.mk hy111
           clear hy111
           simp only [Option.some.injEq, Prod.mk.injEq] at H
           obtain ⟨rfl, rfl⟩ := H
           repeat (go_wp2_with (first | (go_at_call 112; (with_reducible refine (aD.calls k3 (a0.extract (a1 : Int).toNat (x8_3 : Int).toNat) _ _ A44.out).mono ?_); rintro e w' ⟨rfl, ⟨nd, rfl⟩⟩; (try first | exact da | exact DD)) | ((with_reducible refine bH (b := .append) (xs := #[.tmp 59, .tmp 65]) rfl ?_); (try (refine bP (by rfl) ?_; dsimp only)); at_builtin; refine Kd.dh bQ (w0 := w0) w0.heap.size rfl (.tmp 59) (.tmp 65) 53 110 (.agg #[(.int .i64 0), (.string ⟨#[]⟩), (.int .i64 0), (.int .i64 0)]) 40 rfl Try.underlying53 dR rfl (by decide) (by omega) u9000_ l2 (⟨1, a0.extract (a1 : Int).toNat (x8_3 : Int).toNat, 0, 0⟩ : aA) [.int .i64 1, .string (a0.extract (a1 : Int).toNat (x8_3 : Int).toNat), .int .i64 0, .int .i64 0] (fun k_ => (P2_ k_ ∨ w.heap.size ≤ k_)) (fun _ => False) rfl rfl ?aP (fun _ hk => hk.elim) ?aF ?aO ?aB ?aS ?aL ?_; (case aP => exact bX _ _ _ (⟨1, a0.extract (a1 : Int).toNat (x8_3 : Int).toNat, 0, 0⟩ : aA)); (case aB => exact BL); (case aF => exact (fun k_ hk => (.inr (Nat.le_trans (by first | exact HK.out.1 | exact (show Kept w _ (fun k_ => P2_ k_) from by repeat (first | (with_reducible first | exact HK.out | apply Kept.alloc | apply Kept.drewN | apply Kept.drew) | exact HK.out)).1) hk)))); (case aO => exact (RR HO_2)); (case aS => exact (aW BL)); (case aL => have := LMc49.out; omega); intro v112 w7000 ho hb hg hat; rw [← Ny111.out] at ho; have n0_ := aj.mk (hb); have n1_ := aj.mk (Kept.bY (S := (fun k_ => P2_ k_)) hg (by repeat (first | (with_reducible first | exact HK.out | apply Kept.alloc | apply Kept.drewN | apply Kept.drew) | exact HK.out)) (fun k_ e_ => (HO_2.out.1 k_ e_))); have n2_ := aj.mk (ho); clear HB HK HO_2; have HB := n0_; have HK := n1_; have HO113 := n2_; clear n0_ n1_ n2_; clear ho hb hg hat)); go_quiet (first | (go_at_call 112; (with_reducible refine (aD.calls k3 (a0.extract (a1 : Int).toNat (x8_3 : Int).toNat) _ _ A44.out).mono ?_); rintro e w' ⟨rfl, ⟨nd, rfl⟩⟩; (try first | exact da | exact DD)) | ((with_reducible refine bH (b := .append) (xs := #[.tmp 59, .tmp 65]) rfl ?_); (try (refine bP (by rfl) ?_; dsimp only)); at_builtin; refine Kd.dh bQ (w0 := w0) w0.heap.size rfl (.tmp 59) (.tmp 65) 53 110 (.agg #[(.int .i64 0), (.string ⟨#[]⟩), (.int .i64 0), (.int .i64 0)]) 40 rfl Try.underlying53 dR rfl (by decide) (by omega) u9000_ l2 (⟨1, a0.extract (a1 : Int).toNat (x8_3 : Int).toNat, 0, 0⟩ : aA) [.int .i64 1, .string (a0.extract (a1 : Int).toNat (x8_3 : Int).toNat), .int .i64 0, .int .i64 0] (fun k_ => (P2_ k_ ∨ w.heap.size ≤ k_)) (fun _ => False) rfl rfl ?aP (fun _ hk => hk.elim) ?aF ?aO ?aB ?aS ?aL ?_; (case aP => exact bX _ _ _ (⟨1, a0.extract (a1 : Int).toNat (x8_3 : Int).toNat, 0, 0⟩ : aA)); (case aB => exact BL); (case aF => exact (fun k_ hk => (.inr (Nat.le_trans (by first | exact HK.out.1 | exact (show Kept w _ (fun k_ => P2_ k_) from by repeat (first | (with_reducible first | exact HK.out | apply Kept.alloc | apply Kept.drewN | apply Kept.drew) | exact HK.out)).1) hk)))); (case aO => exact (RR HO_2)); (case aS => exact (aW BL)); (case aL => have := LMc49.out; omega); intro v112 w7000 ho hb hg hat; rw [← Ny111.out] at ho; have n0_ := aj.mk (hb); have n1_ := aj.mk (Kept.bY (S := (fun k_ => P2_ k_)) hg (by repeat (first | (with_reducible first | exact HK.out | apply Kept.alloc | apply Kept.drewN | apply Kept.drew) | exact HK.out)) (fun k_ e_ => (HO_2.out.1 k_ e_))); have n2_ := aj.mk (ho); clear HB HK HO_2; have HB := n0_; have HK := n1_; have HO113 := n2_; clear n0_ n1_ n2_; clear ho hb hg hat)))
           go_wp2_with (first | (go_at_call 112; (with_reducible refine (aD.calls k3 (a0.extract (a1 : Int).toNat (x8_3 : Int).toNat) _ _ A44.out).mono ?_); rintro e w' ⟨rfl, ⟨nd, rfl⟩⟩; (try first | exact da | exact DD)) | ((with_reducible refine bH (b := .append) (xs := #[.tmp 59, .tmp 65]) rfl ?_); (try (refine bP (by rfl) ?_; dsimp only)); at_builtin; refine Kd.dh bQ (w0 := w0) w0.heap.size rfl (.tmp 59) (.tmp 65) 53 110 (.agg #[(.int .i64 0), (.string ⟨#[]⟩), (.int .i64 0), (.int .i64 0)]) 40 rfl Try.underlying53 dR rfl (by decide) (by omega) u9000_ l2 (⟨1, a0.extract (a1 : Int).toNat (x8_3 : Int).toNat, 0, 0⟩ : aA) [.int .i64 1, .string (a0.extract (a1 : Int).toNat (x8_3 : Int).toNat), .int .i64 0, .int .i64 0] (fun k_ => (P2_ k_ ∨ w.heap.size ≤ k_)) (fun _ => False) rfl rfl ?aP (fun _ hk => hk.elim) ?aF ?aO ?aB ?aS ?aL ?_; (case aP => exact bX _ _ _ (⟨1, a0.extract (a1 : Int).toNat (x8_3 : Int).toNat, 0, 0⟩ : aA)); (case aB => exact BL); (case aF => exact (fun k_ hk => (.inr (Nat.le_trans (by first | exact HK.out.1 | exact (show Kept w _ (fun k_ => P2_ k_) from by repeat (first | (with_reducible first | exact HK.out | apply Kept.alloc | apply Kept.drewN | apply Kept.drew) | exact HK.out)).1) hk)))); (case aO => exact (RR HO_2)); (case aS => exact (aW BL)); (case aL => have := LMc49.out; omega); intro v112 w7000 ho hb hg hat; rw [← Ny111.out] at ho; have n0_ := aj.mk (hb); have n1_ := aj.mk (Kept.bY (S := (fun k_ => P2_ k_)) hg (by repeat (first | (with_reducible first | exact HK.out | apply Kept.alloc | apply Kept.drewN | apply Kept.drew) | exact HK.out)) (fun k_ e_ => (HO_2.out.1 k_ e_))); have n2_ := aj.mk (ho); clear HB HK HO_2; have HB := n0_; have HK := n1_; have HO113 := n2_; clear n0_ n1_ n2_; clear ho hb hg hat))
           go_ret2
           exact ⟨_, EWW, (RR HO113), BL, by repeat (first | (with_reducible first | exact HK.out | apply Kept.alloc | apply Kept.drewN | apply Kept.drew) | exact HK.out)⟩
          ·simp only [Option.some.injEq, Prod.mk.injEq] at H
           obtain ⟨rfl, rfl⟩ := H
           repeat (go_wp2_with (first | (go_at_call 112; (with_reducible refine (aD.calls k3 (a0.extract (a1 : Int).toNat (x8_3 : Int).toNat) _ _ A44.out).mono ?_); rintro e w' ⟨rfl, ⟨nd, rfl⟩⟩; (try first | exact da | exact DD))); go_quiet (first | (go_at_call 112; (with_reducible refine (aD.calls k3 (a0.extract (a1 : Int).toNat (x8_3 : Int).toNat) _ _ A44.out).mono ?_); rintro e w' ⟨rfl, ⟨nd, rfl⟩⟩; (try first | exact da | exact DD))))
           go_wp2_with (first | (go_at_call 112; (with_reducible refine (aD.calls k3 (a0.extract (a1 : Int).toNat (x8_3 : Int).toNat) _ _ A44.out).mono ?_); rintro e w' ⟨rfl, ⟨nd, rfl⟩⟩; (try first | exact da | exact DD)))
           go_ret2
           exact ⟨_, EWW, (RR HO_2), BL, by repeat (first | (with_reducible first | exact HK.out | apply Kept.alloc | apply Kept.drewN | apply Kept.drew) | exact HK.out)⟩
      ·have H' := aj.mk H
       clear H
       repeat (go_wp2_with (first | ((with_reducible refine bR (N := 9) rfl ?_); (try (refine bP (by rfl) ?_; dsimp only)); refine fC (N := 9) (cs := #[.int .i64 0, .string (⟨#[]⟩ : ByteArray), .int .i64 0, .int .i64 0]) (t := 110) ?_; intro gb114 hg w7000 hbox hb; have n0_ := aj.mk (Kd.fO (Kd.kV (RR HO_2) gb114 (Nat.le_of_eq hg.symm)) hb); have n1_ := aj.mk (Kept.below (S := (fun k_ => P2_ k_)) (by repeat (first | (with_reducible first | exact HK.out | apply Kept.alloc | apply Kept.drewN | apply Kept.drew) | exact HK.out)) hb); have n2_ := BS (w := w0) hb; have n3_ := aj.mk (hbox); have n4_ := aj.mk ((by rw [hg]; exact (by first | exact HK.out.1 | exact (show Kept w _ (fun k_ => P2_ k_) from by repeat (first | (with_reducible first | exact HK.out | apply Kept.alloc | apply Kept.drewN | apply Kept.drew) | exact HK.out)).1) : w.heap.size ≤ gb114)); have n5_ := aj.mk ((by rw [hg]; exact (aW BL) : w0.heap.size ≤ gb114)); clear HO_2 HK HB; have HO_2 := n0_; have HK := n1_; have HB := n2_; have BK114 := n3_; have GW114 := n4_; have GE114 := n5_; clear n0_ n1_ n2_ n3_ n4_ n5_; clear hb hbox hg; obtain ⟨hcz7001_0, hcz7001_1, hcz7001_2, hcz7001_3, hfz7001_0, hfz7001_1, hfz7001_2, hfz7001_3⟩ := cz4 BK114.out)); go_quiet (first | ((with_reducible refine bR (N := 9) rfl ?_); (try (refine bP (by rfl) ?_; dsimp only)); refine fC (N := 9) (cs := #[.int .i64 0, .string (⟨#[]⟩ : ByteArray), .int .i64 0, .int .i64 0]) (t := 110) ?_; intro gb114 hg w7000 hbox hb; have n0_ := aj.mk (Kd.fO (Kd.kV (RR HO_2) gb114 (Nat.le_of_eq hg.symm)) hb); have n1_ := aj.mk (Kept.below (S := (fun k_ => P2_ k_)) (by repeat (first | (with_reducible first | exact HK.out | apply Kept.alloc | apply Kept.drewN | apply Kept.drew) | exact HK.out)) hb); have n2_ := BS (w := w0) hb; have n3_ := aj.mk (hbox); have n4_ := aj.mk ((by rw [hg]; exact (by first | exact HK.out.1 | exact (show Kept w _ (fun k_ => P2_ k_) from by repeat (first | (with_reducible first | exact HK.out | apply Kept.alloc | apply Kept.drewN | apply Kept.drew) | exact HK.out)).1) : w.heap.size ≤ gb114)); have n5_ := aj.mk ((by rw [hg]; exact (aW BL) : w0.heap.size ≤ gb114)); clear HO_2 HK HB; have HO_2 := n0_; have HK := n1_; have HB := n2_; have BK114 := n3_; have GW114 := n4_; have GE114 := n5_; clear n0_ n1_ n2_ n3_ n4_ n5_; clear hb hbox hg; obtain ⟨hcz7001_0, hcz7001_1, hcz7001_2, hcz7001_3, hfz7001_0, hfz7001_1, hfz7001_2, hfz7001_3⟩ := cz4 BK114.out)))
       go_wp2_with (first | ((with_reducible refine bR (N := 9) rfl ?_); (try (refine bP (by rfl) ?_; dsimp only)); refine fC (N := 9) (cs := #[.int .i64 0, .string (⟨#[]⟩ : ByteArray), .int .i64 0, .int .i64 0]) (t := 110) ?_; intro gb114 hg w7000 hbox hb; have n0_ := aj.mk (Kd.fO (Kd.kV (RR HO_2) gb114 (Nat.le_of_eq hg.symm)) hb); have n1_ := aj.mk (Kept.below (S := (fun k_ => P2_ k_)) (by repeat (first | (with_reducible first | exact HK.out | apply Kept.alloc | apply Kept.drewN | apply Kept.drew) | exact HK.out)) hb); have n2_ := BS (w := w0) hb; have n3_ := aj.mk (hbox); have n4_ := aj.mk ((by rw [hg]; exact (by first | exact HK.out.1 | exact (show Kept w _ (fun k_ => P2_ k_) from by repeat (first | (with_reducible first | exact HK.out | apply Kept.alloc | apply Kept.drewN | apply Kept.drew) | exact HK.out)).1) : w.heap.size ≤ gb114)); have n5_ := aj.mk ((by rw [hg]; exact (aW BL) : w0.heap.size ≤ gb114)); clear HO_2 HK HB; have HO_2 := n0_; have HK := n1_; have HB := n2_; have BK114 := n3_; have GW114 := n4_; have GE114 := n5_; clear n0_ n1_ n2_ n3_ n4_ n5_; clear hb hbox hg; obtain ⟨hcz7001_0, hcz7001_1, hcz7001_2, hcz7001_3, hfz7001_0, hfz7001_1, hfz7001_2, hfz7001_3⟩ := cz4 BK114.out))
       go_loopg [10] kj7 (fun kq v10 w' => ∃ (x10_3 : Int) (x115000_3 : Int), v10 = .int .i64 x10_3 ∧ aj (ak.l1 kq a0 a1 l2 x10_3 x115000_3 (⟨#[]⟩ : ByteArray) 0 0 = some (r1, r2)) ∧ aj (kq ≤ kj7) ∧ aj (Kd.R bQ 110 w' w0.heap.size (fun k_ => (P2_ k_ ∨ w.heap.size ≤ k_) ∧ k_ ≠ gb114) u9000_ l2) ∧ aj (w'.heap[gb114]? = some (.cells #[.int .i64 x115000_3, .string (⟨#[]⟩ : ByteArray), .int .i64 0, .int .i64 0] 110 (0, 0))) ∧ aj (Kept w w' (fun k_ => P2_ k_)) ∧ aj (Below w0.heap.size w0 w'))
       case atStart => exact ⟨(2), (0), EQ, H', ⟨Nat.le_refl _⟩, ⟨by (with_reducible repeat (first | apply Kd.bJ | apply Kd.bK | apply Kd.bV)); exact Kd.aQ (Kd.dK (p := ⟨gb114, 3, none⟩) (Kd.dK (p := ⟨gb114, 2, none⟩) (Kd.dK (p := ⟨gb114, 1, none⟩) (Kd.dK (p := ⟨gb114, 0, none⟩) (Kd.aQ HO_2.out (fun k_ hk => (⟨hk, hk.2⟩ : _ ∧ k_ ≠ gb114))) (fun _ hk => hk.2) (.int .i64 0)) (fun _ hk => hk.2) (.string (⟨#[]⟩ : ByteArray))) (fun _ hk => hk.2) (.int .i64 0)) (fun _ hk => hk.2) (.int .i64 0)) (fun _ hk => ⟨hk.1.1, hk.1.2⟩)⟩, ⟨by (with_reducible repeat (first | refine av ?_ _ | refine ay ?_ | refine au ?_ _)); refine aM (cs := #[.int .i64 0, .string (⟨#[]⟩ : ByteArray), .int .i64 0, .int .i64 0]) ?_ 3 _ rfl; (with_reducible repeat (first | refine av ?_ _ | refine ay ?_ | refine au ?_ _)); refine aM (cs := #[.int .i64 0, .string (⟨#[]⟩ : ByteArray), .int .i64 0, .int .i64 0]) ?_ 2 _ rfl; (with_reducible repeat (first | refine av ?_ _ | refine ay ?_ | refine au ?_ _)); refine aM (cs := #[.int .i64 0, .string (⟨#[]⟩ : ByteArray), .int .i64 0, .int .i64 0]) ?_ 1 _ rfl; (with_reducible repeat (first | refine av ?_ _ | refine ay ?_ | refine au ?_ _)); refine aM (cs := #[.int .i64 0, .string (⟨#[]⟩ : ByteArray), .int .i64 0, .int .i64 0]) ?_ 0 _ rfl; (with_reducible repeat (first | refine av ?_ _ | refine ay ?_ | refine au ?_ _)); exact BK114.out⟩, ⟨by repeat (first | (with_reducible first | exact HK.out | apply Kept.alloc | apply Kept.drewN | apply Kept.drew | refine Kept.setCell ?_ (.inr GW114.out) _) | exact HK.out)⟩, ⟨BL⟩⟩
       case round =>
        clear H'
        try clear c7
        try clear c14
        try clear hcz7001_0
        try clear hcz7001_1
        try clear hcz7001_2
        try clear hcz7001_3
        try clear hfz7001_0
        try clear hfz7001_1
        try clear hfz7001_2
        try clear hfz7001_3
        obtain ⟨x10_3, x115000_3, rfl, HA, HK3, HO_2, BK114, HK, HB⟩ := hrel
        cases gk with
        | zero => exact absurd HA.out (by simp [ak.l1])
        | succ k3 =>
         have H := HA.out
         clear HA
         simp only [ak.l1] at H
         replace H := ifD H; rcases H with ⟨c53b0, H⟩ | ⟨c53b0, H⟩
         ·replace H := ifN H; obtain ⟨c54b0, H⟩ := H
          replace H := ifN H; obtain ⟨c55b0, H⟩ := H
          replace H := ifN H; obtain ⟨c57b0, H⟩ := H
          replace H := ifN H; obtain ⟨c58b0, H⟩ := H
          have p56 : (0 ≤ (x10_3 : Int)) = True := OT
          have q56 : (x10_3 < (10 : Int)) = True := OT
          have hx56 := eF (⟨#[32, 32, 98, 109, 106, 105, 104, 110, 116, 100]⟩ : ByteArray) x10_3
          replace H := ifE H; rcases H with ⟨c60b0, c60b1, H⟩ | ⟨c60, c60b0, c60b1, H⟩
          ·have H' := aj.mk H
           clear H
           have p59 : (0 ≤ (a1 : Int)) = True := OT
           have q59 : (a1 < (a0.size : Int)) = True := OT
           have hx59 := eF a0 a1
           obtain ⟨hcz7002_0, hcz7002_1, hcz7002_2, hcz7002_3, hfz7002_0, hfz7002_1, hfz7002_2, hfz7002_3⟩ := cz4 BK114.out
           go_wp2
           repeat (go_quiet (fail); try go_wp2)
           go_roundg k3
           case measure => have := HJ3.out; have := HJ7.out; have := HK3.out; omega
           case rel => exact ⟨(wrap64 (x10_3 + 1)), (x10_3), EQ, H', ⟨by have := HJ3.out; have := HJ7.out; have := HK3.out; omega⟩, ⟨by (with_reducible repeat (first | apply Kd.bJ | apply Kd.bK | apply Kd.bV)); exact Kd.aQ (Kd.dK (p := ⟨gb114, 0, none⟩) (Kd.aQ HO_2.out (fun k_ hk => (⟨hk, hk.2⟩ : _ ∧ k_ ≠ gb114))) (fun _ hk => hk.2) (.int .i64 x10_3)) (fun _ hk => ⟨hk.1.1, hk.1.2⟩)⟩, ⟨by (with_reducible repeat (first | refine av ?_ _ | refine ay ?_ | refine au ?_ _)); refine aM (cs := #[.int .i64 x115000_3, .string (⟨#[]⟩ : ByteArray), .int .i64 0, .int .i64 0]) ?_ 0 _ rfl; (with_reducible repeat (first | refine av ?_ _ | refine ay ?_ | refine au ?_ _)); exact BK114.out⟩, ⟨by repeat (first | (with_reducible first | exact HK.out | apply Kept.alloc | apply Kept.drewN | apply Kept.drew | refine Kept.setCell ?_ (.inr GW114.out) _) | exact HK.out)⟩, ⟨BL⟩⟩
          ·have H' := aj.mk H
           clear H
           have p59 : (0 ≤ (a1 : Int)) = True := OT
           have q59 : (a1 < (a0.size : Int)) = True := OT
           have hx59 := eF a0 a1
           go_wp2
           repeat (go_quiet (fail); try go_wp2)
           go_roundg k3
           case measure => have := HJ3.out; have := HJ7.out; have := HK3.out; omega
           case rel => exact ⟨(wrap64 (x10_3 + 1)), (x115000_3), EQ, H', ⟨by have := HJ3.out; have := HJ7.out; have := HK3.out; omega⟩, ⟨(RR HO_2)⟩, ⟨BK⟩, ⟨by repeat (first | (with_reducible first | exact HK.out | apply Kept.alloc | apply Kept.drewN | apply Kept.drew | refine Kept.setCell ?_ (.inr GW114.out) _) | exact HK.out)⟩, ⟨BL⟩⟩
         ·replace H := be H; obtain ⟨⟨t115, t118⟩, A62, H⟩ := H
          dsimp only at H
          have HC63 := aj.mk H
          clear H
          obtain ⟨Ao7002, co7002, eo7002⟩ := Kd.bG HO_2.out
          subst eo7002
          go_upto_region 18 with (first | (go_at_call 75; (with_reducible refine (ih k3 (by have := HJ3.out; have := HJ7.out; have := HK3.out; omega) a0 (wrap64 (a1 + 2)) (fun k_ => some k_ = (.slice Ao7002 l2.length co7002 : Value).ownBlock) (.slice Ao7002 l2.length co7002) l2 t115 t118 w0 _ ?side1 ?side2 A62.out).mono ?_); (case side1 => exact BL); (case side2 => exact Kd.bZ rfl HO_2.out); rintro e w7003 ⟨v116, rfl, ho0, hb, hkp⟩; have n0_ := aj.mk (cK BK hkp (fun hs_ => (fun e_ => (Kd.bI HO_2.out (fun _ hk => hk.2)) e_) hs_)); have n1_ := aj.mk (Kd.aQ (ok' := fun k_ => (P2_ k_ ∨ w.heap.size ≤ k_) ∧ k_ ≠ gb114) ho0 (fun k_ hk_ => ⟨Or.elim hk_ (fun hs_ => (HO_2.out.1 k_ (hs_).symm).1) (fun hn_ => (.inr (Nat.le_trans (by first | exact HK.out.1 | exact (show Kept w _ (fun k_ => P2_ k_) from by repeat (first | (with_reducible first | exact HK.out | apply Kept.alloc | apply Kept.drewN | apply Kept.drew | refine Kept.setCell ?_ (.inr GW114.out) _) | exact HK.out)).1) hn_))), Or.elim hk_ (fun hs_ => fun e_ => (Kd.bI HO_2.out (fun _ hk => hk.2)) (by rw [← e_]; exact hs_)) (fun hn_ => (Kd.dx (g := gb114) (o := .cells #[.int .i64 x115000_3, .string (⟨#[]⟩ : ByteArray), .int .i64 0, .int .i64 0] 110 (0, 0)) BK k_ hn_))⟩)); have n2_ := aj.mk (Kept.then_ (S := (fun k_ => P2_ k_)) (by repeat (first | (with_reducible first | exact HK.out | apply Kept.alloc | apply Kept.drewN | apply Kept.drew | refine Kept.setCell ?_ (.inr GW114.out) _) | exact HK.out)) hkp (fun k_ hs_ => (fun e_ => (HO_2.out.1 k_ e_.symm).1) hs_)); have n3_ := aj.mk (hb); clear BK114 HK HB HO_2; have BK114 := n0_; have HO117 := n1_; have HK := n2_; have HB := n3_; clear n0_ n1_ n2_ n3_; (try clear hb); (try clear hkp); (try clear ho0); obtain ⟨Ao7004, co7004, eo7004⟩ := Kd.bG HO117.out; subst eo7004; obtain ⟨hcz7005_0, hcz7005_1, hcz7005_2, hcz7005_3, hfz7005_0, hfz7005_1, hfz7005_2, hfz7005_3⟩ := cz4 BK114.out))
          repeat (go_quiet (first | (go_at_call 75; (with_reducible refine (ih k3 (by have := HJ3.out; have := HJ7.out; have := HK3.out; omega) a0 (wrap64 (a1 + 2)) (fun k_ => some k_ = (.slice Ao7002 l2.length co7002 : Value).ownBlock) (.slice Ao7002 l2.length co7002) l2 t115 t118 w0 _ ?side1 ?side2 A62.out).mono ?_); (case side1 => exact BL); (case side2 => exact Kd.bZ rfl HO_2.out); rintro e w7003 ⟨v116, rfl, ho0, hb, hkp⟩; have n0_ := aj.mk (cK BK hkp (fun hs_ => (fun e_ => (Kd.bI HO_2.out (fun _ hk => hk.2)) e_) hs_)); have n1_ := aj.mk (Kd.aQ (ok' := fun k_ => (P2_ k_ ∨ w.heap.size ≤ k_) ∧ k_ ≠ gb114) ho0 (fun k_ hk_ => ⟨Or.elim hk_ (fun hs_ => (HO_2.out.1 k_ (hs_).symm).1) (fun hn_ => (.inr (Nat.le_trans (by first | exact HK.out.1 | exact (show Kept w _ (fun k_ => P2_ k_) from by repeat (first | (with_reducible first | exact HK.out | apply Kept.alloc | apply Kept.drewN | apply Kept.drew | refine Kept.setCell ?_ (.inr GW114.out) _) | exact HK.out)).1) hn_))), Or.elim hk_ (fun hs_ => fun e_ => (Kd.bI HO_2.out (fun _ hk => hk.2)) (by rw [← e_]; exact hs_)) (fun hn_ => (Kd.dx (g := gb114) (o := .cells #[.int .i64 x115000_3, .string (⟨#[]⟩ : ByteArray), .int .i64 0, .int .i64 0] 110 (0, 0)) BK k_ hn_))⟩)); have n2_ := aj.mk (Kept.then_ (S := (fun k_ => P2_ k_)) (by repeat (first | (with_reducible first | exact HK.out | apply Kept.alloc | apply Kept.drewN | apply Kept.drew | refine Kept.setCell ?_ (.inr GW114.out) _) | exact HK.out)) hkp (fun k_ hs_ => (fun e_ => (HO_2.out.1 k_ e_.symm).1) hs_)); have n3_ := aj.mk (hb); clear BK114 HK HB HO_2; have BK114 := n0_; have HO117 := n1_; have HK := n2_; have HB := n3_; clear n0_ n1_ n2_ n3_; (try clear hb); (try clear hkp); (try clear ho0); obtain ⟨Ao7004, co7004, eo7004⟩ := Kd.bG HO117.out; subst eo7004; obtain ⟨hcz7005_0, hcz7005_1, hcz7005_2, hcz7005_3, hfz7005_0, hfz7005_1, hfz7005_2, hfz7005_3⟩ := cz4 BK114.out)); go_upto_region 18 with (first | (go_at_call 75; (with_reducible refine (ih k3 (by have := HJ3.out; have := HJ7.out; have := HK3.out; omega) a0 (wrap64 (a1 + 2)) (fun k_ => some k_ = (.slice Ao7002 l2.length co7002 : Value).ownBlock) (.slice Ao7002 l2.length co7002) l2 t115 t118 w0 _ ?side1 ?side2 A62.out).mono ?_); (case side1 => exact BL); (case side2 => exact Kd.bZ rfl HO_2.out); rintro e w7003 ⟨v116, rfl, ho0, hb, hkp⟩; have n0_ := aj.mk (cK BK hkp (fun hs_ => (fun e_ => (Kd.bI HO_2.out (fun _ hk => hk.2)) e_) hs_)); have n1_ := aj.mk (Kd.aQ (ok' := fun k_ => (P2_ k_ ∨ w.heap.size ≤ k_) ∧ k_ ≠ gb114) ho0 (fun k_ hk_ => ⟨Or.elim hk_ (fun hs_ => (HO_2.out.1 k_ (hs_).symm).1) (fun hn_ => (.inr (Nat.le_trans (by first | exact HK.out.1 | exact (show Kept w _ (fun k_ => P2_ k_) from by repeat (first | (with_reducible first | exact HK.out | apply Kept.alloc | apply Kept.drewN | apply Kept.drew | refine Kept.setCell ?_ (.inr GW114.out) _) | exact HK.out)).1) hn_))), Or.elim hk_ (fun hs_ => fun e_ => (Kd.bI HO_2.out (fun _ hk => hk.2)) (by rw [← e_]; exact hs_)) (fun hn_ => (Kd.dx (g := gb114) (o := .cells #[.int .i64 x115000_3, .string (⟨#[]⟩ : ByteArray), .int .i64 0, .int .i64 0] 110 (0, 0)) BK k_ hn_))⟩)); have n2_ := aj.mk (Kept.then_ (S := (fun k_ => P2_ k_)) (by repeat (first | (with_reducible first | exact HK.out | apply Kept.alloc | apply Kept.drewN | apply Kept.drew | refine Kept.setCell ?_ (.inr GW114.out) _) | exact HK.out)) hkp (fun k_ hs_ => (fun e_ => (HO_2.out.1 k_ e_.symm).1) hs_)); have n3_ := aj.mk (hb); clear BK114 HK HB HO_2; have BK114 := n0_; have HO117 := n1_; have HK := n2_; have HB := n3_; clear n0_ n1_ n2_ n3_; (try clear hb); (try clear hkp); (try clear ho0); obtain ⟨Ao7004, co7004, eo7004⟩ := Kd.bG HO117.out; subst eo7004; obtain ⟨hcz7005_0, hcz7005_1, hcz7005_2, hcz7005_3, hfz7005_0, hfz7005_1, hfz7005_2, hfz7005_3⟩ := cz4 BK114.out)))
          (try simp only [Act.put, List.setIfInBounds_toArray, List.set_cons_zero, List.set_cons_succ])
          go_cut [104] (fun v104 wc => ∃ (kq : Nat) (x104_62 : Bool), v104 = .bool x104_62 ∧ aj (ak.j4 kq a0 t118 t115 x104_62 x115000_3 (⟨#[]⟩ : ByteArray) (wrap64 ((t115.length : Int) - 1)) 0 = some (r1, r2)) ∧ aj (kq ≤ k3) ∧ aj (Kd.R bQ 110 wc w0.heap.size (fun k_ => (P2_ k_ ∨ w.heap.size ≤ k_) ∧ k_ ≠ gb114) (.slice Ao7004 t115.length co7004) t115) ∧ aj (wc.heap[gb114]? = some (.cells #[.int .i64 x115000_3, .string (⟨#[]⟩ : ByteArray), .int .i64 (wrap64 ((t115.length : Int) - 1)), .int .i64 0] 110 (0, 0))) ∧ aj (Kept w wc (fun k_ => P2_ k_)) ∧ aj (Below w0.heap.size w0 wc))
          case first =>
           have H := HC63.out
           clear HC63
           by_cases c68 : t118 ≥ 0
           ·rw [if_pos c68] at H
            have c68b0 : decide (0 ≤ t118) = true := decide_eq_true c68
            clear c68
            (first | rw [c68b0] | (simp only [bL, bN]; rw [c68b0]) | skip)
            obtain ⟨hcz7006_0, hcz7006_1, hcz7006_2, hcz7006_3, hfz7006_0, hfz7006_1, hfz7006_2, hfz7006_3⟩ := cz4 BK114.out
            replace H := ifE H; rcases H with ⟨c69b0, c69b1, H⟩ | ⟨c69, c69b0, c69b1, H⟩
            ·have H' := aj.mk H
             clear H
             go_wp2
             repeat (go_quiet (fail); try go_wp2)
             go_meet
             case rel => exact ⟨_, (true), EQ, H', ⟨by have := HJ3.out; have := HJ7.out; have := HK3.out; first | omega | exact Nat.le_refl _⟩, ⟨by (with_reducible repeat (first | apply Kd.bJ | apply Kd.bK | apply Kd.bV)); exact Kd.aQ (Kd.dK (p := ⟨gb114, 2, none⟩) (Kd.aQ HO117.out (fun k_ hk => (⟨hk, hk.2⟩ : _ ∧ k_ ≠ gb114))) (fun _ hk => hk.2) (.int .i64 (wrap64 ((t115.length : Int) - 1)))) (fun _ hk => ⟨hk.1.1, hk.1.2⟩)⟩, ⟨by (with_reducible repeat (first | refine av ?_ _ | refine ay ?_ | refine au ?_ _)); refine aM (cs := #[.int .i64 x115000_3, .string (⟨#[]⟩ : ByteArray), .int .i64 0, .int .i64 0]) ?_ 2 _ rfl; (with_reducible repeat (first | refine av ?_ _ | refine ay ?_ | refine au ?_ _)); exact BK114.out⟩, ⟨by repeat (first | (with_reducible first | exact HK.out | apply Kept.alloc | apply Kept.drewN | apply Kept.drew | refine Kept.setCell ?_ (.inr GW114.out) _) | exact HK.out)⟩, ⟨BL⟩⟩
            ·have H' := aj.mk H
             clear H
             go_wp2
             repeat (go_quiet (fail); try go_wp2)
             go_meet
             case rel => exact ⟨_, ((x115000_3 == 5)), EQ, H', ⟨by have := HJ3.out; have := HJ7.out; have := HK3.out; first | omega | exact Nat.le_refl _⟩, ⟨by (with_reducible repeat (first | apply Kd.bJ | apply Kd.bK | apply Kd.bV)); exact Kd.aQ (Kd.dK (p := ⟨gb114, 2, none⟩) (Kd.aQ HO117.out (fun k_ hk => (⟨hk, hk.2⟩ : _ ∧ k_ ≠ gb114))) (fun _ hk => hk.2) (.int .i64 (wrap64 ((t115.length : Int) - 1)))) (fun _ hk => ⟨hk.1.1, hk.1.2⟩)⟩, ⟨by (with_reducible repeat (first | refine av ?_ _ | refine ay ?_ | refine au ?_ _)); refine aM (cs := #[.int .i64 x115000_3, .string (⟨#[]⟩ : ByteArray), .int .i64 0, .int .i64 0]) ?_ 2 _ rfl; (with_reducible repeat (first | refine av ?_ _ | refine ay ?_ | refine au ?_ _)); exact BK114.out⟩, ⟨by repeat (first | (with_reducible first | exact HK.out | apply Kept.alloc | apply Kept.drewN | apply Kept.drew | refine Kept.setCell ?_ (.inr GW114.out) _) | exact HK.out)⟩, ⟨BL⟩⟩
           ·rw [if_neg c68] at H
            have c68b0 : decide (0 ≤ t118) = false := decide_eq_false c68
            clear c68
            (first | rw [c68b0] | (simp only [bL, bN]; rw [c68b0]) | skip)
            have H' := aj.mk H
            clear H
            go_wp2
            repeat (go_quiet (fail); try go_wp2)
            go_meet
            case rel => exact ⟨_, (false), EQ, H', ⟨by have := HJ3.out; have := HJ7.out; have := HK3.out; first | omega | exact Nat.le_refl _⟩, ⟨by (with_reducible repeat (first | apply Kd.bJ | apply Kd.bK | apply Kd.bV)); exact Kd.aQ (Kd.dK (p := ⟨gb114, 2, none⟩) (Kd.aQ HO117.out (fun k_ hk => (⟨hk, hk.2⟩ : _ ∧ k_ ≠ gb114))) (fun _ hk => hk.2) (.int .i64 (wrap64 ((t115.length : Int) - 1)))) (fun _ hk => ⟨hk.1.1, hk.1.2⟩)⟩, ⟨by (with_reducible repeat (first | refine av ?_ _ | refine ay ?_ | refine au ?_ _)); refine aM (cs := #[.int .i64 x115000_3, .string (⟨#[]⟩ : ByteArray), .int .i64 0, .int .i64 0]) ?_ 2 _ rfl; (with_reducible repeat (first | refine av ?_ _ | refine ay ?_ | refine au ?_ _)); exact BK114.out⟩, ⟨by repeat (first | (with_reducible first | exact HK.out | apply Kept.alloc | apply Kept.drewN | apply Kept.drew | refine Kept.setCell ?_ (.inr GW114.out) _) | exact HK.out)⟩, ⟨BL⟩⟩
          case rest =>
           clear HC63
           try clear c7
           try clear c14
           try clear c53
           try clear c53b0
           try clear hcz7001_0
           try clear hcz7001_1
           try clear hcz7001_2
           try clear hcz7001_3
           try clear hcz7005_0
           try clear hcz7005_1
           try clear hcz7005_2
           try clear hcz7005_3
           try clear hfz7001_0
           try clear hfz7001_1
           try clear hfz7001_2
           try clear hfz7001_3
           try clear hfz7005_0
           try clear hfz7005_1
           try clear hfz7005_2
           try clear hfz7005_3
           obtain ⟨kq, x104_62, rfl, HA, HJ62, HO_2, BK114, HK, HB⟩ := hcut
           cases kq with
           | zero => exact absurd HA.out (by simp [ak.j4])
           | succ kj62 =>
            have H := HA.out
            clear HA
            simp only [ak.j4] at H
            replace H := ifB H; rcases H with ⟨rfl, H⟩ | ⟨rfl, H⟩
            ·have HC73 := aj.mk H
             clear H
             go_upto_region 19 with (fail)
             repeat (go_quiet (fail); go_upto_region 19 with (fail))
             go_cut [114] (fun v114 wc => ∃ (kq : Nat) (x114_72 : Bool), v114 = .bool x114_72 ∧ aj (ak.j5 kq a0 t118 t115 x114_72 x115000_3 (⟨#[]⟩ : ByteArray) (wrap64 ((t115.length : Int) - 1)) 0 = some (r1, r2)) ∧ aj (kq ≤ kj62) ∧ aj (Kd.R bQ 110 wc w0.heap.size (fun k_ => (P2_ k_ ∨ w.heap.size ≤ k_) ∧ k_ ≠ gb114) (.slice Ao7004 t115.length co7004) t115) ∧ aj (wc.heap[gb114]? = some (.cells #[.int .i64 x115000_3, .string (⟨#[]⟩ : ByteArray), .int .i64 (wrap64 ((t115.length : Int) - 1)), .int .i64 0] 110 (0, 0))) ∧ aj (Kept w wc (fun k_ => P2_ k_)) ∧ aj (Below w0.heap.size w0 wc))
             case first =>
              have H := HC73.out
              clear HC73
              by_cases c74 : t118 ≥ (a0.size : Int)
              ·rw [if_pos c74] at H
               have c74b0 : decide ((a0.size : Int) ≤ t118) = true := decide_eq_true c74
               clear c74
               (first | rw [c74b0] | (simp only [bL, bN]; rw [c74b0]) | skip)
               have H' := aj.mk H
               clear H
               go_wp2
               repeat (go_quiet (fail); try go_wp2)
               go_meet
               case rel => exact ⟨_, (true), EQ, H', ⟨by have := HJ3.out; have := HJ7.out; have := HK3.out; have := HJ62.out; first | omega | exact Nat.le_refl _⟩, ⟨(RR HO_2)⟩, ⟨BK⟩, ⟨by repeat (first | (with_reducible first | exact HK.out | apply Kept.alloc | apply Kept.drewN | apply Kept.drew | refine Kept.setCell ?_ (.inr GW114.out) _) | exact HK.out)⟩, ⟨BL⟩⟩
              ·rw [if_neg c74] at H
               have c74b0 : decide ((a0.size : Int) ≤ t118) = false := decide_eq_false c74
               clear c74
               (first | rw [c74b0] | (simp only [bL, bN]; rw [c74b0]) | skip)
               replace H := ifN H; obtain ⟨c75b0, H⟩ := H
               replace H := ifN H; obtain ⟨c76b0, H⟩ := H
               have H' := aj.mk H
               clear H
               have p77 : (0 ≤ (t118 : Int)) = True := OT
               have q77 : (t118 < (a0.size : Int)) = True := OT
               have hx77 := eF a0 t118
               go_wp2
               repeat (go_quiet (fail); try go_wp2)
               go_meet
               case rel => exact ⟨_, (((bt a0 t118) != 44)), EQ, H', ⟨by have := HJ3.out; have := HJ7.out; have := HK3.out; have := HJ62.out; first | omega | exact Nat.le_refl _⟩, ⟨(RR HO_2)⟩, ⟨BK⟩, ⟨by repeat (first | (with_reducible first | exact HK.out | apply Kept.alloc | apply Kept.drewN | apply Kept.drew | refine Kept.setCell ?_ (.inr GW114.out) _) | exact HK.out)⟩, ⟨BL⟩⟩
             case rest =>
              clear HC73
              try clear c7
              try clear c14
              try clear c53
              try clear c53b0
              try clear c72
              try clear hcz7001_0
              try clear hcz7001_1
              try clear hcz7001_2
              try clear hcz7001_3
              try clear hcz7005_0
              try clear hcz7005_1
              try clear hcz7005_2
              try clear hcz7005_3
              try clear hfz7001_0
              try clear hfz7001_1
              try clear hfz7001_2
              try clear hfz7001_3
              try clear hfz7005_0
              try clear hfz7005_1
              try clear hfz7005_2
              try clear hfz7005_3
              obtain ⟨kq, x114_72, rfl, HA, HJ72, HO_2, BK114, HK, HB⟩ := hcut
              cases kq with
              | zero => exact absurd HA.out (by simp [ak.j5])
              | succ kj72 =>
               have H := HA.out
               clear HA
               simp only [ak.j5] at H
               replace H := ifB H; rcases H with ⟨rfl, H⟩ | ⟨rfl, H⟩
               ·simp only [Option.some.injEq, Prod.mk.injEq] at H
                obtain ⟨rfl, rfl⟩ := H
                go_wp2
                repeat (go_quiet (fail); try go_wp2)
                go_ret2
                exact ⟨_, EWW, by (with_reducible repeat (first | apply Kd.bJ | apply Kd.bK | apply Kd.bV)); exact Kd.aQ HO_2.out (fun _ hk => hk.1), BL, by repeat (first | (with_reducible first | exact HK.out | apply Kept.alloc | apply Kept.drewN | apply Kept.drew | refine Kept.setCell ?_ (.inr GW114.out) _) | exact HK.out)⟩
               ·replace H := be H; obtain ⟨⟨t119, t122⟩, A79, H⟩ := H
                dsimp only at H
                replace H := ifD H; rcases H with ⟨c80b0, H⟩ | ⟨c80b0, H⟩
                ·simp only [Option.some.injEq, Prod.mk.injEq] at H
                 obtain ⟨rfl, rfl⟩ := H
                 repeat (go_wp2_with (first | (go_at_call 75; (with_reducible refine (ih kj72 (by have := HJ3.out; have := HJ7.out; have := HK3.out; have := HJ62.out; have := HJ72.out; omega) a0 (wrap64 (t118 + 1)) (fun k_ => some k_ = (.slice Ao7004 t115.length co7004 : Value).ownBlock) (.slice Ao7004 t115.length co7004) t115 t119 t122 w0 _ ?side1 ?side2 A79.out).mono ?_); (case side1 => exact BL); (case side2 => exact Kd.bZ rfl HO_2.out); rintro e w7007 ⟨v120, rfl, ho0, hb, hkp⟩; have n0_ := aj.mk (cK BK hkp (fun hs_ => (fun e_ => (Kd.bI HO_2.out (fun _ hk => hk.2)) e_) hs_)); have n1_ := aj.mk (Kd.aQ (ok' := fun k_ => (P2_ k_ ∨ w.heap.size ≤ k_) ∧ k_ ≠ gb114) ho0 (fun k_ hk_ => ⟨Or.elim hk_ (fun hs_ => (HO_2.out.1 k_ (hs_).symm).1) (fun hn_ => (.inr (Nat.le_trans (by first | exact HK.out.1 | exact (show Kept w _ (fun k_ => P2_ k_) from by repeat (first | (with_reducible first | exact HK.out | apply Kept.alloc | apply Kept.drewN | apply Kept.drew | refine Kept.setCell ?_ (.inr GW114.out) _) | exact HK.out)).1) hn_))), Or.elim hk_ (fun hs_ => fun e_ => (Kd.bI HO_2.out (fun _ hk => hk.2)) (by rw [← e_]; exact hs_)) (fun hn_ => (Kd.dx (g := gb114) (o := .cells #[.int .i64 x115000_3, .string (⟨#[]⟩ : ByteArray), .int .i64 (wrap64 ((t115.length : Int) - 1)), .int .i64 0] 110 (0, 0)) BK k_ hn_))⟩)); have n2_ := aj.mk (Kept.then_ (S := (fun k_ => P2_ k_)) (by repeat (first | (with_reducible first | exact HK.out | apply Kept.alloc | apply Kept.drewN | apply Kept.drew | refine Kept.setCell ?_ (.inr GW114.out) _) | exact HK.out)) hkp (fun k_ hs_ => (fun e_ => (HO_2.out.1 k_ e_.symm).1) hs_)); have n3_ := aj.mk (hb); clear BK114 HK HB HO_2; have BK114 := n0_; have HO121 := n1_; have HK := n2_; have HB := n3_; clear n0_ n1_ n2_ n3_; (try clear hb); (try clear hkp); (try clear ho0); obtain ⟨Ao7008, co7008, eo7008⟩ := Kd.bG HO121.out; subst eo7008; obtain ⟨hcz7009_0, hcz7009_1, hcz7009_2, hcz7009_3, hfz7009_0, hfz7009_1, hfz7009_2, hfz7009_3⟩ := cz4 BK114.out)); go_quiet (first | (go_at_call 75; (with_reducible refine (ih kj72 (by have := HJ3.out; have := HJ7.out; have := HK3.out; have := HJ62.out; have := HJ72.out; omega) a0 (wrap64 (t118 + 1)) (fun k_ => some k_ = (.slice Ao7004 t115.length co7004 : Value).ownBlock) (.slice Ao7004 t115.length co7004) t115 t119 t122 w0 _ ?side1 ?side2 A79.out).mono ?_); (case side1 => exact BL); (case side2 => exact Kd.bZ rfl HO_2.out); rintro e w7007 ⟨v120, rfl, ho0, hb, hkp⟩; have n0_ := aj.mk (cK BK hkp (fun hs_ => (fun e_ => (Kd.bI HO_2.out (fun _ hk => hk.2)) e_) hs_)); have n1_ := aj.mk (Kd.aQ (ok' := fun k_ => (P2_ k_ ∨ w.heap.size ≤ k_) ∧ k_ ≠ gb114) ho0 (fun k_ hk_ => ⟨Or.elim hk_ (fun hs_ => (HO_2.out.1 k_ (hs_).symm).1) (fun hn_ => (.inr (Nat.le_trans (by first | exact HK.out.1 | exact (show Kept w _ (fun k_ => P2_ k_) from by repeat (first | (with_reducible first | exact HK.out | apply Kept.alloc | apply Kept.drewN | apply Kept.drew | refine Kept.setCell ?_ (.inr GW114.out) _) | exact HK.out)).1) hn_))), Or.elim hk_ (fun hs_ => fun e_ => (Kd.bI HO_2.out (fun _ hk => hk.2)) (by rw [← e_]; exact hs_)) (fun hn_ => (Kd.dx (g := gb114) (o := .cells #[.int .i64 x115000_3, .string (⟨#[]⟩ : ByteArray), .int .i64 (wrap64 ((t115.length : Int) - 1)), .int .i64 0] 110 (0, 0)) BK k_ hn_))⟩)); have n2_ := aj.mk (Kept.then_ (S := (fun k_ => P2_ k_)) (by repeat (first | (with_reducible first | exact HK.out | apply Kept.alloc | apply Kept.drewN | apply Kept.drew | refine Kept.setCell ?_ (.inr GW114.out) _) | exact HK.out)) hkp (fun k_ hs_ => (fun e_ => (HO_2.out.1 k_ e_.symm).1) hs_)); have n3_ := aj.mk (hb); clear BK114 HK HB HO_2; have BK114 := n0_; have HO121 := n1_; have HK := n2_; have HB := n3_; clear n0_ n1_ n2_ n3_; (try clear hb); (try clear hkp); (try clear ho0); obtain ⟨Ao7008, co7008, eo7008⟩ := Kd.bG HO121.out; subst eo7008; obtain ⟨hcz7009_0, hcz7009_1, hcz7009_2, hcz7009_3, hfz7009_0, hfz7009_1, hfz7009_2, hfz7009_3⟩ := cz4 BK114.out)))
                 go_wp2_with (first | (go_at_call 75; (with_reducible refine (ih kj72 (by have := HJ3.out; have := HJ7.out; have := HK3.out; have := HJ62.out; have := HJ72.out; omega) a0 (wrap64 (t118 + 1)) (fun k_ => some k_ = (.slice Ao7004 t115.length co7004 : Value).ownBlock) (.slice Ao7004 t115.length co7004) t115 t119 t122 w0 _ ?side1 ?side2 A79.out).mono ?_); (case side1 => exact BL); (case side2 => exact Kd.bZ rfl HO_2.out); rintro e w7007 ⟨v120, rfl, ho0, hb, hkp⟩; have n0_ := aj.mk (cK BK hkp (fun hs_ => (fun e_ => (Kd.bI HO_2.out (fun _ hk => hk.2)) e_) hs_)); have n1_ := aj.mk (Kd.aQ (ok' := fun k_ => (P2_ k_ ∨ w.heap.size ≤ k_) ∧ k_ ≠ gb114) ho0 (fun k_ hk_ => ⟨Or.elim hk_ (fun hs_ => (HO_2.out.1 k_ (hs_).symm).1) (fun hn_ => (.inr (Nat.le_trans (by first | exact HK.out.1 | exact (show Kept w _ (fun k_ => P2_ k_) from by repeat (first | (with_reducible first | exact HK.out | apply Kept.alloc | apply Kept.drewN | apply Kept.drew | refine Kept.setCell ?_ (.inr GW114.out) _) | exact HK.out)).1) hn_))), Or.elim hk_ (fun hs_ => fun e_ => (Kd.bI HO_2.out (fun _ hk => hk.2)) (by rw [← e_]; exact hs_)) (fun hn_ => (Kd.dx (g := gb114) (o := .cells #[.int .i64 x115000_3, .string (⟨#[]⟩ : ByteArray), .int .i64 (wrap64 ((t115.length : Int) - 1)), .int .i64 0] 110 (0, 0)) BK k_ hn_))⟩)); have n2_ := aj.mk (Kept.then_ (S := (fun k_ => P2_ k_)) (by repeat (first | (with_reducible first | exact HK.out | apply Kept.alloc | apply Kept.drewN | apply Kept.drew | refine Kept.setCell ?_ (.inr GW114.out) _) | exact HK.out)) hkp (fun k_ hs_ => (fun e_ => (HO_2.out.1 k_ e_.symm).1) hs_)); have n3_ := aj.mk (hb); clear BK114 HK HB HO_2; have BK114 := n0_; have HO121 := n1_; have HK := n2_; have HB := n3_; clear n0_ n1_ n2_ n3_; (try clear hb); (try clear hkp); (try clear ho0); obtain ⟨Ao7008, co7008, eo7008⟩ := Kd.bG HO121.out; subst eo7008; obtain ⟨hcz7009_0, hcz7009_1, hcz7009_2, hcz7009_3, hfz7009_0, hfz7009_1, hfz7009_2, hfz7009_3⟩ := cz4 BK114.out))
                 go_ret2
                 exact ⟨_, EWW, by (with_reducible repeat (first | apply Kd.bJ | apply Kd.bK | apply Kd.bV)); exact Kd.aQ (Kd.dK (p := ⟨gb114, 3, none⟩) (Kd.aQ HO121.out (fun k_ hk => (⟨hk, hk.2⟩ : _ ∧ k_ ≠ gb114))) (fun _ hk => hk.2) (.int .i64 (wrap64 ((t119.length : Int) - 1)))) (fun _ hk => hk.1.1), BL, by repeat (first | (with_reducible first | exact HK.out | apply Kept.alloc | apply Kept.drewN | apply Kept.drew | refine Kept.setCell ?_ (.inr GW114.out) _) | exact HK.out)⟩
                ·by_cases c84 : t122 ≥ (a0.size : Int)
                 ·rw [if_pos c84] at H
                  have c84b0 : decide ((a0.size : Int) ≤ t122) = true := decide_eq_true c84
                  clear c84
                  simp only [Option.some.injEq, Prod.mk.injEq] at H
                  obtain ⟨rfl, rfl⟩ := H
                  repeat (go_wp2_with (first | (go_at_call 75; (with_reducible refine (ih kj72 (by have := HJ3.out; have := HJ7.out; have := HK3.out; have := HJ62.out; have := HJ72.out; omega) a0 (wrap64 (t118 + 1)) (fun k_ => some k_ = (.slice Ao7004 t115.length co7004 : Value).ownBlock) (.slice Ao7004 t115.length co7004) t115 t119 t122 w0 _ ?side1 ?side2 A79.out).mono ?_); (case side1 => exact BL); (case side2 => exact Kd.bZ rfl HO_2.out); rintro e w7007 ⟨v120, rfl, ho0, hb, hkp⟩; have n0_ := aj.mk (cK BK hkp (fun hs_ => (fun e_ => (Kd.bI HO_2.out (fun _ hk => hk.2)) e_) hs_)); have n1_ := aj.mk (Kd.aQ (ok' := fun k_ => (P2_ k_ ∨ w.heap.size ≤ k_) ∧ k_ ≠ gb114) ho0 (fun k_ hk_ => ⟨Or.elim hk_ (fun hs_ => (HO_2.out.1 k_ (hs_).symm).1) (fun hn_ => (.inr (Nat.le_trans (by first | exact HK.out.1 | exact (show Kept w _ (fun k_ => P2_ k_) from by repeat (first | (with_reducible first | exact HK.out | apply Kept.alloc | apply Kept.drewN | apply Kept.drew | refine Kept.setCell ?_ (.inr GW114.out) _) | exact HK.out)).1) hn_))), Or.elim hk_ (fun hs_ => fun e_ => (Kd.bI HO_2.out (fun _ hk => hk.2)) (by rw [← e_]; exact hs_)) (fun hn_ => (Kd.dx (g := gb114) (o := .cells #[.int .i64 x115000_3, .string (⟨#[]⟩ : ByteArray), .int .i64 (wrap64 ((t115.length : Int) - 1)), .int .i64 0] 110 (0, 0)) BK k_ hn_))⟩)); have n2_ := aj.mk (Kept.then_ (S := (fun k_ => P2_ k_)) (by repeat (first | (with_reducible first | exact HK.out | apply Kept.alloc | apply Kept.drewN | apply Kept.drew | refine Kept.setCell ?_ (.inr GW114.out) _) | exact HK.out)) hkp (fun k_ hs_ => (fun e_ => (HO_2.out.1 k_ e_.symm).1) hs_)); have n3_ := aj.mk (hb); clear BK114 HK HB HO_2; have BK114 := n0_; have HO121 := n1_; have HK := n2_; have HB := n3_; clear n0_ n1_ n2_ n3_; (try clear hb); (try clear hkp); (try clear ho0); obtain ⟨Ao7008, co7008, eo7008⟩ := Kd.bG HO121.out; subst eo7008; obtain ⟨hcz7009_0, hcz7009_1, hcz7009_2, hcz7009_3, hfz7009_0, hfz7009_1, hfz7009_2, hfz7009_3⟩ := cz4 BK114.out)); go_quiet (first | (go_at_call 75; (with_reducible refine (ih kj72 (by have := HJ3.out; have := HJ7.out; have := HK3.out; have := HJ62.out; have := HJ72.out; omega) a0 (wrap64 (t118 + 1)) (fun k_ => some k_ = (.slice Ao7004 t115.length co7004 : Value).ownBlock) (.slice Ao7004 t115.length co7004) t115 t119 t122 w0 _ ?side1 ?side2 A79.out).mono ?_); (case side1 => exact BL); (case side2 => exact Kd.bZ rfl HO_2.out); rintro e w7007 ⟨v120, rfl, ho0, hb, hkp⟩; have n0_ := aj.mk (cK BK hkp (fun hs_ => (fun e_ => (Kd.bI HO_2.out (fun _ hk => hk.2)) e_) hs_)); have n1_ := aj.mk (Kd.aQ (ok' := fun k_ => (P2_ k_ ∨ w.heap.size ≤ k_) ∧ k_ ≠ gb114) ho0 (fun k_ hk_ => ⟨Or.elim hk_ (fun hs_ => (HO_2.out.1 k_ (hs_).symm).1) (fun hn_ => (.inr (Nat.le_trans (by first | exact HK.out.1 | exact (show Kept w _ (fun k_ => P2_ k_) from by repeat (first | (with_reducible first | exact HK.out | apply Kept.alloc | apply Kept.drewN | apply Kept.drew | refine Kept.setCell ?_ (.inr GW114.out) _) | exact HK.out)).1) hn_))), Or.elim hk_ (fun hs_ => fun e_ => (Kd.bI HO_2.out (fun _ hk => hk.2)) (by rw [← e_]; exact hs_)) (fun hn_ => (Kd.dx (g := gb114) (o := .cells #[.int .i64 x115000_3, .string (⟨#[]⟩ : ByteArray), .int .i64 (wrap64 ((t115.length : Int) - 1)), .int .i64 0] 110 (0, 0)) BK k_ hn_))⟩)); have n2_ := aj.mk (Kept.then_ (S := (fun k_ => P2_ k_)) (by repeat (first | (with_reducible first | exact HK.out | apply Kept.alloc | apply Kept.drewN | apply Kept.drew | refine Kept.setCell ?_ (.inr GW114.out) _) | exact HK.out)) hkp (fun k_ hs_ => (fun e_ => (HO_2.out.1 k_ e_.symm).1) hs_)); have n3_ := aj.mk (hb); clear BK114 HK HB HO_2; have BK114 := n0_; have HO121 := n1_; have HK := n2_; have HB := n3_; clear n0_ n1_ n2_ n3_; (try clear hb); (try clear hkp); (try clear ho0); obtain ⟨Ao7008, co7008, eo7008⟩ := Kd.bG HO121.out; subst eo7008; obtain ⟨hcz7009_0, hcz7009_1, hcz7009_2, hcz7009_3, hfz7009_0, hfz7009_1, hfz7009_2, hfz7009_3⟩ := cz4 BK114.out)))
                  go_wp2_with (first | (go_at_call 75; (with_reducible refine (ih kj72 (by have := HJ3.out; have := HJ7.out; have := HK3.out; have := HJ62.out; have := HJ72.out; omega) a0 (wrap64 (t118 + 1)) (fun k_ => some k_ = (.slice Ao7004 t115.length co7004 : Value).ownBlock) (.slice Ao7004 t115.length co7004) t115 t119 t122 w0 _ ?side1 ?side2 A79.out).mono ?_); (case side1 => exact BL); (case side2 => exact Kd.bZ rfl HO_2.out); rintro e w7007 ⟨v120, rfl, ho0, hb, hkp⟩; have n0_ := aj.mk (cK BK hkp (fun hs_ => (fun e_ => (Kd.bI HO_2.out (fun _ hk => hk.2)) e_) hs_)); have n1_ := aj.mk (Kd.aQ (ok' := fun k_ => (P2_ k_ ∨ w.heap.size ≤ k_) ∧ k_ ≠ gb114) ho0 (fun k_ hk_ => ⟨Or.elim hk_ (fun hs_ => (HO_2.out.1 k_ (hs_).symm).1) (fun hn_ => (.inr (Nat.le_trans (by first | exact HK.out.1 | exact (show Kept w _ (fun k_ => P2_ k_) from by repeat (first | (with_reducible first | exact HK.out | apply Kept.alloc | apply Kept.drewN | apply Kept.drew | refine Kept.setCell ?_ (.inr GW114.out) _) | exact HK.out)).1) hn_))), Or.elim hk_ (fun hs_ => fun e_ => (Kd.bI HO_2.out (fun _ hk => hk.2)) (by rw [← e_]; exact hs_)) (fun hn_ => (Kd.dx (g := gb114) (o := .cells #[.int .i64 x115000_3, .string (⟨#[]⟩ : ByteArray), .int .i64 (wrap64 ((t115.length : Int) - 1)), .int .i64 0] 110 (0, 0)) BK k_ hn_))⟩)); have n2_ := aj.mk (Kept.then_ (S := (fun k_ => P2_ k_)) (by repeat (first | (with_reducible first | exact HK.out | apply Kept.alloc | apply Kept.drewN | apply Kept.drew | refine Kept.setCell ?_ (.inr GW114.out) _) | exact HK.out)) hkp (fun k_ hs_ => (fun e_ => (HO_2.out.1 k_ e_.symm).1) hs_)); have n3_ := aj.mk (hb); clear BK114 HK HB HO_2; have BK114 := n0_; have HO121 := n1_; have HK := n2_; have HB := n3_; clear n0_ n1_ n2_ n3_; (try clear hb); (try clear hkp); (try clear ho0); obtain ⟨Ao7008, co7008, eo7008⟩ := Kd.bG HO121.out; subst eo7008; obtain ⟨hcz7009_0, hcz7009_1, hcz7009_2, hcz7009_3, hfz7009_0, hfz7009_1, hfz7009_2, hfz7009_3⟩ := cz4 BK114.out))
                  go_ret2
                  exact ⟨_, EWW, by (with_reducible repeat (first | apply Kd.bJ | apply Kd.bK | apply Kd.bV)); exact Kd.aQ (Kd.dK (p := ⟨gb114, 3, none⟩) (Kd.aQ HO121.out (fun k_ hk => (⟨hk, hk.2⟩ : _ ∧ k_ ≠ gb114))) (fun _ hk => hk.2) (.int .i64 (wrap64 ((t119.length : Int) - 1)))) (fun _ hk => hk.1.1), BL, by repeat (first | (with_reducible first | exact HK.out | apply Kept.alloc | apply Kept.drewN | apply Kept.drew | refine Kept.setCell ?_ (.inr GW114.out) _) | exact HK.out)⟩
                 ·rw [if_neg c84] at H
                  have c84b0 : decide ((a0.size : Int) ≤ t122) = false := decide_eq_false c84
                  clear c84
                  replace H := ifN H; obtain ⟨c88b0, H⟩ := H
                  replace H := ifN H; obtain ⟨c89b0, H⟩ := H
                  replace H := ifE H; rcases H with ⟨c91b0, c91b1, H⟩ | ⟨c91, c91b0, c91b1, H⟩
                  ·replace H := ifE H; rcases H with ⟨c92b0, c92b1, H⟩ | ⟨c92, c92b0, c92b1, H⟩
                   ·simp only [Option.some.injEq, Prod.mk.injEq] at H
                    obtain ⟨rfl, rfl⟩ := H
                    repeat (go_wp2_with (first | (go_at_call 75; (with_reducible refine (ih kj72 (by have := HJ3.out; have := HJ7.out; have := HK3.out; have := HJ62.out; have := HJ72.out; omega) a0 (wrap64 (t118 + 1)) (fun k_ => some k_ = (.slice Ao7004 t115.length co7004 : Value).ownBlock) (.slice Ao7004 t115.length co7004) t115 t119 t122 w0 _ ?side1 ?side2 A79.out).mono ?_); (case side1 => exact BL); (case side2 => exact Kd.bZ rfl HO_2.out); rintro e w7007 ⟨v120, rfl, ho0, hb, hkp⟩; have n0_ := aj.mk (cK BK hkp (fun hs_ => (fun e_ => (Kd.bI HO_2.out (fun _ hk => hk.2)) e_) hs_)); have n1_ := aj.mk (Kd.aQ (ok' := fun k_ => (P2_ k_ ∨ w.heap.size ≤ k_) ∧ k_ ≠ gb114) ho0 (fun k_ hk_ => ⟨Or.elim hk_ (fun hs_ => (HO_2.out.1 k_ (hs_).symm).1) (fun hn_ => (.inr (Nat.le_trans (by first | exact HK.out.1 | exact (show Kept w _ (fun k_ => P2_ k_) from by repeat (first | (with_reducible first | exact HK.out | apply Kept.alloc | apply Kept.drewN | apply Kept.drew | refine Kept.setCell ?_ (.inr GW114.out) _) | exact HK.out)).1) hn_))), Or.elim hk_ (fun hs_ => fun e_ => (Kd.bI HO_2.out (fun _ hk => hk.2)) (by rw [← e_]; exact hs_)) (fun hn_ => (Kd.dx (g := gb114) (o := .cells #[.int .i64 x115000_3, .string (⟨#[]⟩ : ByteArray), .int .i64 (wrap64 ((t115.length : Int) - 1)), .int .i64 0] 110 (0, 0)) BK k_ hn_))⟩)); have n2_ := aj.mk (Kept.then_ (S := (fun k_ => P2_ k_)) (by repeat (first | (with_reducible first | exact HK.out | apply Kept.alloc | apply Kept.drewN | apply Kept.drew | refine Kept.setCell ?_ (.inr GW114.out) _) | exact HK.out)) hkp (fun k_ hs_ => (fun e_ => (HO_2.out.1 k_ e_.symm).1) hs_)); have n3_ := aj.mk (hb); clear BK114 HK HB HO_2; have BK114 := n0_; have HO121 := n1_; have HK := n2_; have HB := n3_; clear n0_ n1_ n2_ n3_; (try clear hb); (try clear hkp); (try clear ho0); obtain ⟨Ao7008, co7008, eo7008⟩ := Kd.bG HO121.out; subst eo7008; obtain ⟨hcz7009_0, hcz7009_1, hcz7009_2, hcz7009_3, hfz7009_0, hfz7009_1, hfz7009_2, hfz7009_3⟩ := cz4 BK114.out; have p90 : 0 ≤ (t122 : Int) := OD; have q90 : t122 < (a0.size : Int) := OD; have hx90 := eF a0 t122; replace p90 := eq_true p90; replace q90 := eq_true q90)); go_quiet (first | (go_at_call 75; (with_reducible refine (ih kj72 (by have := HJ3.out; have := HJ7.out; have := HK3.out; have := HJ62.out; have := HJ72.out; omega) a0 (wrap64 (t118 + 1)) (fun k_ => some k_ = (.slice Ao7004 t115.length co7004 : Value).ownBlock) (.slice Ao7004 t115.length co7004) t115 t119 t122 w0 _ ?side1 ?side2 A79.out).mono ?_); (case side1 => exact BL); (case side2 => exact Kd.bZ rfl HO_2.out); rintro e w7007 ⟨v120, rfl, ho0, hb, hkp⟩; have n0_ := aj.mk (cK BK hkp (fun hs_ => (fun e_ => (Kd.bI HO_2.out (fun _ hk => hk.2)) e_) hs_)); have n1_ := aj.mk (Kd.aQ (ok' := fun k_ => (P2_ k_ ∨ w.heap.size ≤ k_) ∧ k_ ≠ gb114) ho0 (fun k_ hk_ => ⟨Or.elim hk_ (fun hs_ => (HO_2.out.1 k_ (hs_).symm).1) (fun hn_ => (.inr (Nat.le_trans (by first | exact HK.out.1 | exact (show Kept w _ (fun k_ => P2_ k_) from by repeat (first | (with_reducible first | exact HK.out | apply Kept.alloc | apply Kept.drewN | apply Kept.drew | refine Kept.setCell ?_ (.inr GW114.out) _) | exact HK.out)).1) hn_))), Or.elim hk_ (fun hs_ => fun e_ => (Kd.bI HO_2.out (fun _ hk => hk.2)) (by rw [← e_]; exact hs_)) (fun hn_ => (Kd.dx (g := gb114) (o := .cells #[.int .i64 x115000_3, .string (⟨#[]⟩ : ByteArray), .int .i64 (wrap64 ((t115.length : Int) - 1)), .int .i64 0] 110 (0, 0)) BK k_ hn_))⟩)); have n2_ := aj.mk (Kept.then_ (S := (fun k_ => P2_ k_)) (by repeat (first | (with_reducible first | exact HK.out | apply Kept.alloc | apply Kept.drewN | apply Kept.drew | refine Kept.setCell ?_ (.inr GW114.out) _) | exact HK.out)) hkp (fun k_ hs_ => (fun e_ => (HO_2.out.1 k_ e_.symm).1) hs_)); have n3_ := aj.mk (hb); clear BK114 HK HB HO_2; have BK114 := n0_; have HO121 := n1_; have HK := n2_; have HB := n3_; clear n0_ n1_ n2_ n3_; (try clear hb); (try clear hkp); (try clear ho0); obtain ⟨Ao7008, co7008, eo7008⟩ := Kd.bG HO121.out; subst eo7008; obtain ⟨hcz7009_0, hcz7009_1, hcz7009_2, hcz7009_3, hfz7009_0, hfz7009_1, hfz7009_2, hfz7009_3⟩ := cz4 BK114.out; have p90 : 0 ≤ (t122 : Int) := OD; have q90 : t122 < (a0.size : Int) := OD; have hx90 := eF a0 t122; replace p90 := eq_true p90; replace q90 := eq_true q90)))
                    go_wp2_with (first | (go_at_call 75; (with_reducible refine (ih kj72 (by have := HJ3.out; have := HJ7.out; have := HK3.out; have := HJ62.out; have := HJ72.out; omega) a0 (wrap64 (t118 + 1)) (fun k_ => some k_ = (.slice Ao7004 t115.length co7004 : Value).ownBlock) (.slice Ao7004 t115.length co7004) t115 t119 t122 w0 _ ?side1 ?side2 A79.out).mono ?_); (case side1 => exact BL); (case side2 => exact Kd.bZ rfl HO_2.out); rintro e w7007 ⟨v120, rfl, ho0, hb, hkp⟩; have n0_ := aj.mk (cK BK hkp (fun hs_ => (fun e_ => (Kd.bI HO_2.out (fun _ hk => hk.2)) e_) hs_)); have n1_ := aj.mk (Kd.aQ (ok' := fun k_ => (P2_ k_ ∨ w.heap.size ≤ k_) ∧ k_ ≠ gb114) ho0 (fun k_ hk_ => ⟨Or.elim hk_ (fun hs_ => (HO_2.out.1 k_ (hs_).symm).1) (fun hn_ => (.inr (Nat.le_trans (by first | exact HK.out.1 | exact (show Kept w _ (fun k_ => P2_ k_) from by repeat (first | (with_reducible first | exact HK.out | apply Kept.alloc | apply Kept.drewN | apply Kept.drew | refine Kept.setCell ?_ (.inr GW114.out) _) | exact HK.out)).1) hn_))), Or.elim hk_ (fun hs_ => fun e_ => (Kd.bI HO_2.out (fun _ hk => hk.2)) (by rw [← e_]; exact hs_)) (fun hn_ => (Kd.dx (g := gb114) (o := .cells #[.int .i64 x115000_3, .string (⟨#[]⟩ : ByteArray), .int .i64 (wrap64 ((t115.length : Int) - 1)), .int .i64 0] 110 (0, 0)) BK k_ hn_))⟩)); have n2_ := aj.mk (Kept.then_ (S := (fun k_ => P2_ k_)) (by repeat (first | (with_reducible first | exact HK.out | apply Kept.alloc | apply Kept.drewN | apply Kept.drew | refine Kept.setCell ?_ (.inr GW114.out) _) | exact HK.out)) hkp (fun k_ hs_ => (fun e_ => (HO_2.out.1 k_ e_.symm).1) hs_)); have n3_ := aj.mk (hb); clear BK114 HK HB HO_2; have BK114 := n0_; have HO121 := n1_; have HK := n2_; have HB := n3_; clear n0_ n1_ n2_ n3_; (try clear hb); (try clear hkp); (try clear ho0); obtain ⟨Ao7008, co7008, eo7008⟩ := Kd.bG HO121.out; subst eo7008; obtain ⟨hcz7009_0, hcz7009_1, hcz7009_2, hcz7009_3, hfz7009_0, hfz7009_1, hfz7009_2, hfz7009_3⟩ := cz4 BK114.out; have p90 : 0 ≤ (t122 : Int) := OD; have q90 : t122 < (a0.size : Int) := OD; have hx90 := eF a0 t122; replace p90 := eq_true p90; replace q90 := eq_true q90))
                    go_ret2
                    exact ⟨_, EWW, by (with_reducible repeat (first | apply Kd.bJ | apply Kd.bK | apply Kd.bV)); exact Kd.aQ (Kd.dK (p := ⟨gb114, 3, none⟩) (Kd.aQ HO121.out (fun k_ hk => (⟨hk, hk.2⟩ : _ ∧ k_ ≠ gb114))) (fun _ hk => hk.2) (.int .i64 (wrap64 ((t119.length : Int) - 1)))) (fun _ hk => hk.1.1), BL, by repeat (first | (with_reducible first | exact HK.out | apply Kept.alloc | apply Kept.drewN | apply Kept.drew | refine Kept.setCell ?_ (.inr GW114.out) _) | exact HK.out)⟩
                   ·replace H := ifP H; obtain ⟨c96, H⟩ := H
                    have LMc96 := aj.mk c96
                    clear c96
                    obtain ⟨y123, hy123⟩ : ∃ y_ : List (aA), y_ = (t119 ++ [(⟨x115000_3, (⟨#[]⟩ : ByteArray), (wrap64 ((t115.length : Int) - 1)), wrap64 ((t119.length : Int) - 1)⟩ : aA)]) := ⟨_, rfl⟩
                    replace H : (some (y123, wrap64 (t122 + 1))) = some (r1, r2) := by first | (rw [hy123]; with_reducible exact H) | (have H2_ := (Option.bind_some _ _).symm.trans H; rw [hy123]; with_reducible exact H2_) | (have H2_ := (Option.bind_some _ _).symm.trans H; with_reducible exact H2_) | with_reducible exact H | (rw [hy123]; exact H) | exact H
                    have Ny123 := aj.mk hy123
                    clear hy123
                    simp only [Option.some.injEq, Prod.mk.injEq] at H
                    obtain ⟨rfl, rfl⟩ := H
                    repeat (go_wp2_with (first | (go_at_call 75; (with_reducible refine (ih kj72 (by have := HJ3.out; have := HJ7.out; have := HK3.out; have := HJ62.out; have := HJ72.out; omega) a0 (wrap64 (t118 + 1)) (fun k_ => some k_ = (.slice Ao7004 t115.length co7004 : Value).ownBlock) (.slice Ao7004 t115.length co7004) t115 t119 t122 w0 _ ?side1 ?side2 A79.out).mono ?_); (case side1 => exact BL); (case side2 => exact Kd.bZ rfl HO_2.out); rintro e w7007 ⟨v120, rfl, ho0, hb, hkp⟩; have n0_ := aj.mk (cK BK hkp (fun hs_ => (fun e_ => (Kd.bI HO_2.out (fun _ hk => hk.2)) e_) hs_)); have n1_ := aj.mk (Kd.aQ (ok' := fun k_ => (P2_ k_ ∨ w.heap.size ≤ k_) ∧ k_ ≠ gb114) ho0 (fun k_ hk_ => ⟨Or.elim hk_ (fun hs_ => (HO_2.out.1 k_ (hs_).symm).1) (fun hn_ => (.inr (Nat.le_trans (by first | exact HK.out.1 | exact (show Kept w _ (fun k_ => P2_ k_) from by repeat (first | (with_reducible first | exact HK.out | apply Kept.alloc | apply Kept.drewN | apply Kept.drew | refine Kept.setCell ?_ (.inr GW114.out) _) | exact HK.out)).1) hn_))), Or.elim hk_ (fun hs_ => fun e_ => (Kd.bI HO_2.out (fun _ hk => hk.2)) (by rw [← e_]; exact hs_)) (fun hn_ => (Kd.dx (g := gb114) (o := .cells #[.int .i64 x115000_3, .string (⟨#[]⟩ : ByteArray), .int .i64 (wrap64 ((t115.length : Int) - 1)), .int .i64 0] 110 (0, 0)) BK k_ hn_))⟩)); have n2_ := aj.mk (Kept.then_ (S := (fun k_ => P2_ k_)) (by repeat (first | (with_reducible first | exact HK.out | apply Kept.alloc | apply Kept.drewN | apply Kept.drew | refine Kept.setCell ?_ (.inr GW114.out) _) | exact HK.out)) hkp (fun k_ hs_ => (fun e_ => (HO_2.out.1 k_ e_.symm).1) hs_)); have n3_ := aj.mk (hb); clear BK114 HK HB HO_2; have BK114 := n0_; have HO121 := n1_; have HK := n2_; have HB := n3_; clear n0_ n1_ n2_ n3_; (try clear hb); (try clear hkp); (try clear ho0); obtain ⟨Ao7008, co7008, eo7008⟩ := Kd.bG HO121.out; subst eo7008; obtain ⟨hcz7009_0, hcz7009_1, hcz7009_2, hcz7009_3, hfz7009_0, hfz7009_1, hfz7009_2, hfz7009_3⟩ := cz4 BK114.out; have p90 : 0 ≤ (t122 : Int) := OD; have q90 : t122 < (a0.size : Int) := OD; have hx90 := eF a0 t122; replace p90 := eq_true p90; replace q90 := eq_true q90) | ((with_reducible refine bH (b := .append) (xs := #[.tmp 148, .tmp 150]) rfl ?_); (try (refine bP (by rfl) ?_; dsimp only)); at_builtin; refine Kd.dh bQ (w0 := w0) w0.heap.size rfl (.tmp 148) (.tmp 150) 53 110 (.agg #[(.int .i64 0), (.string ⟨#[]⟩), (.int .i64 0), (.int .i64 0)]) 40 rfl Try.underlying53 dR rfl (by decide) (by omega) (.slice Ao7008 t119.length co7008) t119 (⟨x115000_3, (⟨#[]⟩ : ByteArray), (wrap64 ((t115.length : Int) - 1)), wrap64 ((t119.length : Int) - 1)⟩ : aA) [.int .i64 x115000_3, .string (⟨#[]⟩ : ByteArray), .int .i64 (wrap64 ((t115.length : Int) - 1)), .int .i64 (wrap64 ((t119.length : Int) - 1))] (fun k_ => (P2_ k_ ∨ w.heap.size ≤ k_) ∧ k_ ≠ gb114) (fun _ => False) rfl (by first | (go_simp; done) | (go_simp; rfl)) ?aP (fun _ hk => hk.elim) ?aF ?aO ?aB ?aS ?aL ?_; (case aP => exact bX _ _ _ (⟨x115000_3, (⟨#[]⟩ : ByteArray), (wrap64 ((t115.length : Int) - 1)), wrap64 ((t119.length : Int) - 1)⟩ : aA)); (case aB => exact BL); (case aF => exact (fun k_ hk => ⟨(.inr (Nat.le_trans (show Kept w _ (fun k_ => P2_ k_) from by repeat (first | (with_reducible first | exact HK.out | apply Kept.alloc | apply Kept.drewN | apply Kept.drew | refine Kept.setCell ?_ (.inr GW114.out) _) | exact HK.out)).1 hk)), Kd.dx (g := gb114) (o := .cells #[.int .i64 x115000_3, .string (⟨#[]⟩ : ByteArray), .int .i64 (wrap64 ((t115.length : Int) - 1)), .int .i64 (wrap64 ((t119.length : Int) - 1))] 110 (0, 0)) (by (with_reducible repeat (first | refine av ?_ _ | refine ay ?_ | refine au ?_ _)); refine aM (cs := #[.int .i64 x115000_3, .string (⟨#[]⟩ : ByteArray), .int .i64 (wrap64 ((t115.length : Int) - 1)), .int .i64 0]) ?_ 3 _ rfl; (with_reducible repeat (first | refine av ?_ _ | refine ay ?_ | refine au ?_ _)); exact BK114.out) k_ hk⟩)); (case aO => exact (by (with_reducible repeat (first | apply Kd.bJ | apply Kd.bK | apply Kd.bV)); exact Kd.aQ (Kd.dK (p := ⟨gb114, 3, none⟩) (Kd.aQ HO121.out (fun k_ hk => (⟨hk, hk.2⟩ : _ ∧ k_ ≠ gb114))) (fun _ hk => hk.2) (.int .i64 (wrap64 ((t119.length : Int) - 1)))) (fun _ hk => ⟨hk.1.1, hk.1.2⟩))); (case aS => exact (aW BL)); (case aL => have := LMc96.out; omega); intro v124 w7010 ho hb hg hat; rw [← Ny123.out] at ho; have n0_ := aj.mk (d9 (g := gb114) (o := .cells #[.int .i64 x115000_3, .string (⟨#[]⟩ : ByteArray), .int .i64 (wrap64 ((t115.length : Int) - 1)), .int .i64 (wrap64 ((t119.length : Int) - 1))] 110 (0, 0)) (by (with_reducible repeat (first | refine av ?_ _ | refine ay ?_ | refine au ?_ _)); refine aM (cs := #[.int .i64 x115000_3, .string (⟨#[]⟩ : ByteArray), .int .i64 (wrap64 ((t115.length : Int) - 1)), .int .i64 0]) ?_ 3 _ rfl; (with_reducible repeat (first | refine av ?_ _ | refine ay ?_ | refine au ?_ _)); exact BK114.out) hg (Kd.bI HO121.out (fun _ hk => hk.2))); have n1_ := aj.mk (hb); have n2_ := aj.mk (Kept.bY (S := (fun k_ => P2_ k_)) hg (by repeat (first | (with_reducible first | exact HK.out | apply Kept.alloc | apply Kept.drewN | apply Kept.drew | refine Kept.setCell ?_ (.inr GW114.out) _) | exact HK.out)) (fun k_ e_ => (HO121.out.1 k_ e_).1)); have n3_ := aj.mk (ho); clear BK114 HB HK HO121; have BK114 := n0_; have HB := n1_; have HK := n2_; have HO125 := n3_; clear n0_ n1_ n2_ n3_; clear ho hb hg hat)); go_quiet (first | (go_at_call 75; (with_reducible refine (ih kj72 (by have := HJ3.out; have := HJ7.out; have := HK3.out; have := HJ62.out; have := HJ72.out; omega) a0 (wrap64 (t118 + 1)) (fun k_ => some k_ = (.slice Ao7004 t115.length co7004 : Value).ownBlock) (.slice Ao7004 t115.length co7004) t115 t119 t122 w0 _ ?side1 ?side2 A79.out).mono ?_); (case side1 => exact BL); (case side2 => exact Kd.bZ rfl HO_2.out); rintro e w7007 ⟨v120, rfl, ho0, hb, hkp⟩; have n0_ := aj.mk (cK BK hkp (fun hs_ => (fun e_ => (Kd.bI HO_2.out (fun _ hk => hk.2)) e_) hs_)); have n1_ := aj.mk (Kd.aQ (ok' := fun k_ => (P2_ k_ ∨ w.heap.size ≤ k_) ∧ k_ ≠ gb114) ho0 (fun k_ hk_ => ⟨Or.elim hk_ (fun hs_ => (HO_2.out.1 k_ (hs_).symm).1) (fun hn_ => (.inr (Nat.le_trans (by first | exact HK.out.1 | exact (show Kept w _ (fun k_ => P2_ k_) from by repeat (first | (with_reducible first | exact HK.out | apply Kept.alloc | apply Kept.drewN | apply Kept.drew | refine Kept.setCell ?_ (.inr GW114.out) _) | exact HK.out)).1) hn_))), Or.elim hk_ (fun hs_ => fun e_ => (Kd.bI HO_2.out (fun _ hk => hk.2)) (by rw [← e_]; exact hs_)) (fun hn_ => (Kd.dx (g := gb114) (o := .cells #[.int .i64 x115000_3, .string (⟨#[]⟩ : ByteArray), .int .i64 (wrap64 ((t115.length : Int) - 1)), .int .i64 0] 110 (0, 0)) BK k_ hn_))⟩)); have n2_ := aj.mk (Kept.then_ (S := (fun k_ => P2_ k_)) (by repeat (first | (with_reducible first | exact HK.out | apply Kept.alloc | apply Kept.drewN | apply Kept.drew | refine Kept.setCell ?_ (.inr GW114.out) _) | exact HK.out)) hkp (fun k_ hs_ => (fun e_ => (HO_2.out.1 k_ e_.symm).1) hs_)); have n3_ := aj.mk (hb); clear BK114 HK HB HO_2; have BK114 := n0_; have HO121 := n1_; have HK := n2_; have HB := n3_; clear n0_ n1_ n2_ n3_; (try clear hb); (try clear hkp); (try clear ho0); obtain ⟨Ao7008, co7008, eo7008⟩ := Kd.bG HO121.out; subst eo7008; obtain ⟨hcz7009_0, hcz7009_1, hcz7009_2, hcz7009_3, hfz7009_0, hfz7009_1, hfz7009_2, hfz7009_3⟩ := cz4 BK114.out; have p90 : 0 ≤ (t122 : Int) := OD; have q90 : t122 < (a0.size : Int) := OD; have hx90 := eF a0 t122; replace p90 := eq_true p90; replace q90 := eq_true q90) | ((with_reducible refine bH (b := .append) (xs := #[.tmp 148, .tmp 150]) rfl ?_); (try (refine bP (by rfl) ?_; dsimp only)); at_builtin; refine Kd.dh bQ (w0 := w0) w0.heap.size rfl (.tmp 148) (.tmp 150) 53 110 (.agg #[(.int .i64 0), (.string ⟨#[]⟩), (.int .i64 0), (.int .i64 0)]) 40 rfl Try.underlying53 dR rfl (by decide) (by omega) (.slice Ao7008 t119.length co7008) t119 (⟨x115000_3, (⟨#[]⟩ : ByteArray), (wrap64 ((t115.length : Int) - 1)), wrap64 ((t119.length : Int) - 1)⟩ : aA) [.int .i64 x115000_3, .string (⟨#[]⟩ : ByteArray), .int .i64 (wrap64 ((t115.length : Int) - 1)), .int .i64 (wrap64 ((t119.length : Int) - 1))] (fun k_ => (P2_ k_ ∨ w.heap.size ≤ k_) ∧ k_ ≠ gb114) (fun _ => False) rfl (by first | (go_simp; done) | (go_simp; rfl)) ?aP (fun _ hk => hk.elim) ?aF ?aO ?aB ?aS ?aL ?_; (case aP => exact bX _ _ _ (⟨x115000_3, (⟨#[]⟩ : ByteArray), (wrap64 ((t115.length : Int) - 1)), wrap64 ((t119.length : Int) - 1)⟩ : aA)); (case aB => exact BL); (case aF => exact (fun k_ hk => ⟨(.inr (Nat.le_trans (show Kept w _ (fun k_ => P2_ k_) from by repeat (first | (with_reducible first | exact HK.out | apply Kept.alloc | apply Kept.drewN | apply Kept.drew | refine Kept.setCell ?_ (.inr GW114.out) _) | exact HK.out)).1 hk)), Kd.dx (g := gb114) (o := .cells #[.int .i64 x115000_3, .string (⟨#[]⟩ : ByteArray), .int .i64 (wrap64 ((t115.length : Int) - 1)), .int .i64 (wrap64 ((t119.length : Int) - 1))] 110 (0, 0)) (by (with_reducible repeat (first | refine av ?_ _ | refine ay ?_ | refine au ?_ _)); refine aM (cs := #[.int .i64 x115000_3, .string (⟨#[]⟩ : ByteArray), .int .i64 (wrap64 ((t115.length : Int) - 1)), .int .i64 0]) ?_ 3 _ rfl; (with_reducible repeat (first | refine av ?_ _ | refine ay ?_ | refine au ?_ _)); exact BK114.out) k_ hk⟩)); (case aO => exact (by (with_reducible repeat (first | apply Kd.bJ | apply Kd.bK | apply Kd.bV)); exact Kd.aQ (Kd.dK (p := ⟨gb114, 3, none⟩) (Kd.aQ HO121.out (fun k_ hk => (⟨hk, hk.2⟩ : _ ∧ k_ ≠ gb114))) (fun _ hk => hk.2) (.int .i64 (wrap64 ((t119.length : Int) - 1)))) (fun _ hk => ⟨hk.1.1, hk.1.2⟩))); (case aS => exact (aW BL)); (case aL => have := LMc96.out; omega); intro v124 w7010 ho hb hg hat; rw [← Ny123.out] at ho; have n0_ := aj.mk (d9 (g := gb114) (o := .cells #[.int .i64 x115000_3, .string (⟨#[]⟩ : ByteArray), .int .i64 (wrap64 ((t115.length : Int) - 1)), .int .i64 (wrap64 ((t119.length : Int) - 1))] 110 (0, 0)) (by (with_reducible repeat (first | refine av ?_ _ | refine ay ?_ | refine au ?_ _)); refine aM (cs := #[.int .i64 x115000_3, .string (⟨#[]⟩ : ByteArray), .int .i64 (wrap64 ((t115.length : Int) - 1)), .int .i64 0]) ?_ 3 _ rfl; (with_reducible repeat (first | refine av ?_ _ | refine ay ?_ | refine au ?_ _)); exact BK114.out) hg (Kd.bI HO121.out (fun _ hk => hk.2))); have n1_ := aj.mk (hb); have n2_ := aj.mk (Kept.bY (S := (fun k_ => P2_ k_)) hg (by repeat (first | (with_reducible first | exact HK.out | apply Kept.alloc | apply Kept.drewN | apply Kept.drew | refine Kept.setCell ?_ (.inr GW114.out) _) | exact HK.out)) (fun k_ e_ => (HO121.out.1 k_ e_).1)); have n3_ := aj.mk (ho); clear BK114 HB HK HO121; have BK114 := n0_; have HB := n1_; have HK := n2_; have HO125 := n3_; clear n0_ n1_ n2_ n3_; clear ho hb hg hat)))
                    go_wp2_with (first | (go_at_call 75; (with_reducible refine (ih kj72 (by have := HJ3.out; have := HJ7.out; have := HK3.out; have := HJ62.out; have := HJ72.out; omega) a0 (wrap64 (t118 + 1)) (fun k_ => some k_ = (.slice Ao7004 t115.length co7004 : Value).ownBlock) (.slice Ao7004 t115.length co7004) t115 t119 t122 w0 _ ?side1 ?side2 A79.out).mono ?_); (case side1 => exact BL); (case side2 => exact Kd.bZ rfl HO_2.out); rintro e w7007 ⟨v120, rfl, ho0, hb, hkp⟩; have n0_ := aj.mk (cK BK hkp (fun hs_ => (fun e_ => (Kd.bI HO_2.out (fun _ hk => hk.2)) e_) hs_)); have n1_ := aj.mk (Kd.aQ (ok' := fun k_ => (P2_ k_ ∨ w.heap.size ≤ k_) ∧ k_ ≠ gb114) ho0 (fun k_ hk_ => ⟨Or.elim hk_ (fun hs_ => (HO_2.out.1 k_ (hs_).symm).1) (fun hn_ => (.inr (Nat.le_trans (by first | exact HK.out.1 | exact (show Kept w _ (fun k_ => P2_ k_) from by repeat (first | (with_reducible first | exact HK.out | apply Kept.alloc | apply Kept.drewN | apply Kept.drew | refine Kept.setCell ?_ (.inr GW114.out) _) | exact HK.out)).1) hn_))), Or.elim hk_ (fun hs_ => fun e_ => (Kd.bI HO_2.out (fun _ hk => hk.2)) (by rw [← e_]; exact hs_)) (fun hn_ => (Kd.dx (g := gb114) (o := .cells #[.int .i64 x115000_3, .string (⟨#[]⟩ : ByteArray), .int .i64 (wrap64 ((t115.length : Int) - 1)), .int .i64 0] 110 (0, 0)) BK k_ hn_))⟩)); have n2_ := aj.mk (Kept.then_ (S := (fun k_ => P2_ k_)) (by repeat (first | (with_reducible first | exact HK.out | apply Kept.alloc | apply Kept.drewN | apply Kept.drew | refine Kept.setCell ?_ (.inr GW114.out) _) | exact HK.out)) hkp (fun k_ hs_ => (fun e_ => (HO_2.out.1 k_ e_.symm).1) hs_)); have n3_ := aj.mk (hb); clear BK114 HK HB HO_2; have BK114 := n0_; have HO121 := n1_; have HK := n2_; have HB := n3_; clear n0_ n1_ n2_ n3_; (try clear hb); (try clear hkp); (try clear ho0); obtain ⟨Ao7008, co7008, eo7008⟩ := Kd.bG HO121.out; subst eo7008; obtain ⟨hcz7009_0, hcz7009_1, hcz7009_2, hcz7009_3, hfz7009_0, hfz7009_1, hfz7009_2, hfz7009_3⟩ := cz4 BK114.out; have p90 : 0 ≤ (t122 : Int) := OD; have q90 : t122 < (a0.size : Int) := OD; have hx90 := eF a0 t122; replace p90 := eq_true p90; replace q90 := eq_true q90) | ((with_reducible refine bH (b := .append) (xs := #[.tmp 148, .tmp 150]) rfl ?_); (try (refine bP (by rfl) ?_; dsimp only)); at_builtin; refine Kd.dh bQ (w0 := w0) w0.heap.size rfl (.tmp 148) (.tmp 150) 53 110 (.agg #[(.int .i64 0), (.string ⟨#[]⟩), (.int .i64 0), (.int .i64 0)]) 40 rfl Try.underlying53 dR rfl (by decide) (by omega) (.slice Ao7008 t119.length co7008) t119 (⟨x115000_3, (⟨#[]⟩ : ByteArray), (wrap64 ((t115.length : Int) - 1)), wrap64 ((t119.length : Int) - 1)⟩ : aA) [.int .i64 x115000_3, .string (⟨#[]⟩ : ByteArray), .int .i64 (wrap64 ((t115.length : Int) - 1)), .int .i64 (wrap64 ((t119.length : Int) - 1))] (fun k_ => (P2_ k_ ∨ w.heap.size ≤ k_) ∧ k_ ≠ gb114) (fun _ => False) rfl (by first | (go_simp; done) | (go_simp; rfl)) ?aP (fun _ hk => hk.elim) ?aF ?aO ?aB ?aS ?aL ?_; (case aP => exact bX _ _ _ (⟨x115000_3, (⟨#[]⟩ : ByteArray), (wrap64 ((t115.length : Int) - 1)), wrap64 ((t119.length : Int) - 1)⟩ : aA)); (case aB => exact BL); (case aF => exact (fun k_ hk => ⟨(.inr (Nat.le_trans (show Kept w _ (fun k_ => P2_ k_) from by repeat (first | (with_reducible first | exact HK.out | apply Kept.alloc | apply Kept.drewN | apply Kept.drew | refine Kept.setCell ?_ (.inr GW114.out) _) | exact HK.out)).1 hk)), Kd.dx (g := gb114) (o := .cells #[.int .i64 x115000_3, .string (⟨#[]⟩ : ByteArray), .int .i64 (wrap64 ((t115.length : Int) - 1)), .int .i64 (wrap64 ((t119.length : Int) - 1))] 110 (0, 0)) (by (with_reducible repeat (first | refine av ?_ _ | refine ay ?_ | refine au ?_ _)); refine aM (cs := #[.int .i64 x115000_3, .string (⟨#[]⟩ : ByteArray), .int .i64 (wrap64 ((t115.length : Int) - 1)), .int .i64 0]) ?_ 3 _ rfl; (with_reducible repeat (first | refine av ?_ _ | refine ay ?_ | refine au ?_ _)); exact BK114.out) k_ hk⟩)); (case aO => exact (by (with_reducible repeat (first | apply Kd.bJ | apply Kd.bK | apply Kd.bV)); exact Kd.aQ (Kd.dK (p := ⟨gb114, 3, none⟩) (Kd.aQ HO121.out (fun k_ hk => (⟨hk, hk.2⟩ : _ ∧ k_ ≠ gb114))) (fun _ hk => hk.2) (.int .i64 (wrap64 ((t119.length : Int) - 1)))) (fun _ hk => ⟨hk.1.1, hk.1.2⟩))); (case aS => exact (aW BL)); (case aL => have := LMc96.out; omega); intro v124 w7010 ho hb hg hat; rw [← Ny123.out] at ho; have n0_ := aj.mk (d9 (g := gb114) (o := .cells #[.int .i64 x115000_3, .string (⟨#[]⟩ : ByteArray), .int .i64 (wrap64 ((t115.length : Int) - 1)), .int .i64 (wrap64 ((t119.length : Int) - 1))] 110 (0, 0)) (by (with_reducible repeat (first | refine av ?_ _ | refine ay ?_ | refine au ?_ _)); refine aM (cs := #[.int .i64 x115000_3, .string (⟨#[]⟩ : ByteArray), .int .i64 (wrap64 ((t115.length : Int) - 1)), .int .i64 0]) ?_ 3 _ rfl; (with_reducible repeat (first | refine av ?_ _ | refine ay ?_ | refine au ?_ _)); exact BK114.out) hg (Kd.bI HO121.out (fun _ hk => hk.2))); have n1_ := aj.mk (hb); have n2_ := aj.mk (Kept.bY (S := (fun k_ => P2_ k_)) hg (by repeat (first | (with_reducible first | exact HK.out | apply Kept.alloc | apply Kept.drewN | apply Kept.drew | refine Kept.setCell ?_ (.inr GW114.out) _) | exact HK.out)) (fun k_ e_ => (HO121.out.1 k_ e_).1)); have n3_ := aj.mk (ho); clear BK114 HB HK HO121; have BK114 := n0_; have HB := n1_; have HK := n2_; have HO125 := n3_; clear n0_ n1_ n2_ n3_; clear ho hb hg hat))
                    go_ret2
                    exact ⟨_, EWW, by (with_reducible repeat (first | apply Kd.bJ | apply Kd.bK | apply Kd.bV)); exact Kd.aQ HO125.out (fun _ hk => hk.1), BL, by repeat (first | (with_reducible first | exact HK.out | apply Kept.alloc | apply Kept.drewN | apply Kept.drew | refine Kept.setCell ?_ (.inr GW114.out) _) | exact HK.out)⟩
                  ·simp only [Option.some.injEq, Prod.mk.injEq] at H
                   obtain ⟨rfl, rfl⟩ := H
                   repeat (go_wp2_with (first | (go_at_call 75; (with_reducible refine (ih kj72 (by have := HJ3.out; have := HJ7.out; have := HK3.out; have := HJ62.out; have := HJ72.out; omega) a0 (wrap64 (t118 + 1)) (fun k_ => some k_ = (.slice Ao7004 t115.length co7004 : Value).ownBlock) (.slice Ao7004 t115.length co7004) t115 t119 t122 w0 _ ?side1 ?side2 A79.out).mono ?_); (case side1 => exact BL); (case side2 => exact Kd.bZ rfl HO_2.out); rintro e w7007 ⟨v120, rfl, ho0, hb, hkp⟩; have n0_ := aj.mk (cK BK hkp (fun hs_ => (fun e_ => (Kd.bI HO_2.out (fun _ hk => hk.2)) e_) hs_)); have n1_ := aj.mk (Kd.aQ (ok' := fun k_ => (P2_ k_ ∨ w.heap.size ≤ k_) ∧ k_ ≠ gb114) ho0 (fun k_ hk_ => ⟨Or.elim hk_ (fun hs_ => (HO_2.out.1 k_ (hs_).symm).1) (fun hn_ => (.inr (Nat.le_trans (by first | exact HK.out.1 | exact (show Kept w _ (fun k_ => P2_ k_) from by repeat (first | (with_reducible first | exact HK.out | apply Kept.alloc | apply Kept.drewN | apply Kept.drew | refine Kept.setCell ?_ (.inr GW114.out) _) | exact HK.out)).1) hn_))), Or.elim hk_ (fun hs_ => fun e_ => (Kd.bI HO_2.out (fun _ hk => hk.2)) (by rw [← e_]; exact hs_)) (fun hn_ => (Kd.dx (g := gb114) (o := .cells #[.int .i64 x115000_3, .string (⟨#[]⟩ : ByteArray), .int .i64 (wrap64 ((t115.length : Int) - 1)), .int .i64 0] 110 (0, 0)) BK k_ hn_))⟩)); have n2_ := aj.mk (Kept.then_ (S := (fun k_ => P2_ k_)) (by repeat (first | (with_reducible first | exact HK.out | apply Kept.alloc | apply Kept.drewN | apply Kept.drew | refine Kept.setCell ?_ (.inr GW114.out) _) | exact HK.out)) hkp (fun k_ hs_ => (fun e_ => (HO_2.out.1 k_ e_.symm).1) hs_)); have n3_ := aj.mk (hb); clear BK114 HK HB HO_2; have BK114 := n0_; have HO121 := n1_; have HK := n2_; have HB := n3_; clear n0_ n1_ n2_ n3_; (try clear hb); (try clear hkp); (try clear ho0); obtain ⟨Ao7008, co7008, eo7008⟩ := Kd.bG HO121.out; subst eo7008; obtain ⟨hcz7009_0, hcz7009_1, hcz7009_2, hcz7009_3, hfz7009_0, hfz7009_1, hfz7009_2, hfz7009_3⟩ := cz4 BK114.out; have p90 : 0 ≤ (t122 : Int) := OD; have q90 : t122 < (a0.size : Int) := OD; have hx90 := eF a0 t122; replace p90 := eq_true p90; replace q90 := eq_true q90)); go_quiet (first | (go_at_call 75; (with_reducible refine (ih kj72 (by have := HJ3.out; have := HJ7.out; have := HK3.out; have := HJ62.out; have := HJ72.out; omega) a0 (wrap64 (t118 + 1)) (fun k_ => some k_ = (.slice Ao7004 t115.length co7004 : Value).ownBlock) (.slice Ao7004 t115.length co7004) t115 t119 t122 w0 _ ?side1 ?side2 A79.out).mono ?_); (case side1 => exact BL); (case side2 => exact Kd.bZ rfl HO_2.out); rintro e w7007 ⟨v120, rfl, ho0, hb, hkp⟩; have n0_ := aj.mk (cK BK hkp (fun hs_ => (fun e_ => (Kd.bI HO_2.out (fun _ hk => hk.2)) e_) hs_)); have n1_ := aj.mk (Kd.aQ (ok' := fun k_ => (P2_ k_ ∨ w.heap.size ≤ k_) ∧ k_ ≠ gb114) ho0 (fun k_ hk_ => ⟨Or.elim hk_ (fun hs_ => (HO_2.out.1 k_ (hs_).symm).1) (fun hn_ => (.inr (Nat.le_trans (by first | exact HK.out.1 | exact (show Kept w _ (fun k_ => P2_ k_) from by repeat (first | (with_reducible first | exact HK.out | apply Kept.alloc | apply Kept.drewN | apply Kept.drew | refine Kept.setCell ?_ (.inr GW114.out) _) | exact HK.out)).1) hn_))), Or.elim hk_ (fun hs_ => fun e_ => (Kd.bI HO_2.out (fun _ hk => hk.2)) (by rw [← e_]; exact hs_)) (fun hn_ => (Kd.dx (g := gb114) (o := .cells #[.int .i64 x115000_3, .string (⟨#[]⟩ : ByteArray), .int .i64 (wrap64 ((t115.length : Int) - 1)), .int .i64 0] 110 (0, 0)) BK k_ hn_))⟩)); have n2_ := aj.mk (Kept.then_ (S := (fun k_ => P2_ k_)) (by repeat (first | (with_reducible first | exact HK.out | apply Kept.alloc | apply Kept.drewN | apply Kept.drew | refine Kept.setCell ?_ (.inr GW114.out) _) | exact HK.out)) hkp (fun k_ hs_ => (fun e_ => (HO_2.out.1 k_ e_.symm).1) hs_)); have n3_ := aj.mk (hb); clear BK114 HK HB HO_2; have BK114 := n0_; have HO121 := n1_; have HK := n2_; have HB := n3_; clear n0_ n1_ n2_ n3_; (try clear hb); (try clear hkp); (try clear ho0); obtain ⟨Ao7008, co7008, eo7008⟩ := Kd.bG HO121.out; subst eo7008; obtain ⟨hcz7009_0, hcz7009_1, hcz7009_2, hcz7009_3, hfz7009_0, hfz7009_1, hfz7009_2, hfz7009_3⟩ := cz4 BK114.out; have p90 : 0 ≤ (t122 : Int) := OD; have q90 : t122 < (a0.size : Int) := OD; have hx90 := eF a0 t122; replace p90 := eq_true p90; replace q90 := eq_true q90)))
                   go_wp2_with (first | (go_at_call 75; (with_reducible refine (ih kj72 (by have := HJ3.out; have := HJ7.out; have := HK3.out; have := HJ62.out; have := HJ72.out; omega) a0 (wrap64 (t118 + 1)) (fun k_ => some k_ = (.slice Ao7004 t115.length co7004 : Value).ownBlock) (.slice Ao7004 t115.length co7004) t115 t119 t122 w0 _ ?side1 ?side2 A79.out).mono ?_); (case side1 => exact BL); (case side2 => exact Kd.bZ rfl HO_2.out); rintro e w7007 ⟨v120, rfl, ho0, hb, hkp⟩; have n0_ := aj.mk (cK BK hkp (fun hs_ => (fun e_ => (Kd.bI HO_2.out (fun _ hk => hk.2)) e_) hs_)); have n1_ := aj.mk (Kd.aQ (ok' := fun k_ => (P2_ k_ ∨ w.heap.size ≤ k_) ∧ k_ ≠ gb114) ho0 (fun k_ hk_ => ⟨Or.elim hk_ (fun hs_ => (HO_2.out.1 k_ (hs_).symm).1) (fun hn_ => (.inr (Nat.le_trans (by first | exact HK.out.1 | exact (show Kept w _ (fun k_ => P2_ k_) from by repeat (first | (with_reducible first | exact HK.out | apply Kept.alloc | apply Kept.drewN | apply Kept.drew | refine Kept.setCell ?_ (.inr GW114.out) _) | exact HK.out)).1) hn_))), Or.elim hk_ (fun hs_ => fun e_ => (Kd.bI HO_2.out (fun _ hk => hk.2)) (by rw [← e_]; exact hs_)) (fun hn_ => (Kd.dx (g := gb114) (o := .cells #[.int .i64 x115000_3, .string (⟨#[]⟩ : ByteArray), .int .i64 (wrap64 ((t115.length : Int) - 1)), .int .i64 0] 110 (0, 0)) BK k_ hn_))⟩)); have n2_ := aj.mk (Kept.then_ (S := (fun k_ => P2_ k_)) (by repeat (first | (with_reducible first | exact HK.out | apply Kept.alloc | apply Kept.drewN | apply Kept.drew | refine Kept.setCell ?_ (.inr GW114.out) _) | exact HK.out)) hkp (fun k_ hs_ => (fun e_ => (HO_2.out.1 k_ e_.symm).1) hs_)); have n3_ := aj.mk (hb); clear BK114 HK HB HO_2; have BK114 := n0_; have HO121 := n1_; have HK := n2_; have HB := n3_; clear n0_ n1_ n2_ n3_; (try clear hb); (try clear hkp); (try clear ho0); obtain ⟨Ao7008, co7008, eo7008⟩ := Kd.bG HO121.out; subst eo7008; obtain ⟨hcz7009_0, hcz7009_1, hcz7009_2, hcz7009_3, hfz7009_0, hfz7009_1, hfz7009_2, hfz7009_3⟩ := cz4 BK114.out; have p90 : 0 ≤ (t122 : Int) := OD; have q90 : t122 < (a0.size : Int) := OD; have hx90 := eF a0 t122; replace p90 := eq_true p90; replace q90 := eq_true q90))
                   go_ret2
                   exact ⟨_, EWW, by (with_reducible repeat (first | apply Kd.bJ | apply Kd.bK | apply Kd.bV)); exact Kd.aQ (Kd.dK (p := ⟨gb114, 3, none⟩) (Kd.aQ HO121.out (fun k_ hk => (⟨hk, hk.2⟩ : _ ∧ k_ ≠ gb114))) (fun _ hk => hk.2) (.int .i64 (wrap64 ((t119.length : Int) - 1)))) (fun _ hk => hk.1.1), BL, by repeat (first | (with_reducible first | exact HK.out | apply Kept.alloc | apply Kept.drewN | apply Kept.drew | refine Kept.setCell ?_ (.inr GW114.out) _) | exact HK.out)⟩
            ·replace H := ifD H; rcases H with ⟨c104b0, H⟩ | ⟨c104b0, H⟩
             ·simp only [Option.some.injEq, Prod.mk.injEq] at H
              obtain ⟨rfl, rfl⟩ := H
              go_wp2
              repeat (go_quiet (fail); try go_wp2)
              go_ret2
              exact ⟨_, EWW, by (with_reducible repeat (first | apply Kd.bJ | apply Kd.bK | apply Kd.bV)); exact Kd.aQ HO_2.out (fun _ hk => hk.1), BL, by repeat (first | (with_reducible first | exact HK.out | apply Kept.alloc | apply Kept.drewN | apply Kept.drew | refine Kept.setCell ?_ (.inr GW114.out) _) | exact HK.out)⟩
             ·by_cases c105 : t118 ≥ (a0.size : Int)
              ·rw [if_pos c105] at H
               have c105b0 : decide ((a0.size : Int) ≤ t118) = true := decide_eq_true c105
               clear c105
               simp only [Option.some.injEq, Prod.mk.injEq] at H
               obtain ⟨rfl, rfl⟩ := H
               go_wp2
               repeat (go_quiet (fail); try go_wp2)
               go_ret2
               exact ⟨_, EWW, by (with_reducible repeat (first | apply Kd.bJ | apply Kd.bK | apply Kd.bV)); exact Kd.aQ HO_2.out (fun _ hk => hk.1), BL, by repeat (first | (with_reducible first | exact HK.out | apply Kept.alloc | apply Kept.drewN | apply Kept.drew | refine Kept.setCell ?_ (.inr GW114.out) _) | exact HK.out)⟩
              ·rw [if_neg c105] at H
               have c105b0 : decide ((a0.size : Int) ≤ t118) = false := decide_eq_false c105
               clear c105
               replace H := ifN H; obtain ⟨c106b0, H⟩ := H
               replace H := ifN H; obtain ⟨c107b0, H⟩ := H
               replace H := ifE H; rcases H with ⟨c109b0, c109b1, H⟩ | ⟨c109, c109b0, c109b1, H⟩
               ·have p108 : (0 ≤ (t118 : Int)) = True := OT
                have q108 : (t118 < (a0.size : Int)) = True := OT
                have hx108 := eF a0 t118
                obtain ⟨hcz7007_0, hcz7007_1, hcz7007_2, hcz7007_3, hfz7007_0, hfz7007_1, hfz7007_2, hfz7007_3⟩ := cz4 BK114.out
                replace H := ifE H; rcases H with ⟨c110b0, c110b1, H⟩ | ⟨c110, c110b0, c110b1, H⟩
                ·simp only [Option.some.injEq, Prod.mk.injEq] at H
                 obtain ⟨rfl, rfl⟩ := H
                 go_wp2
                 repeat (go_quiet (fail); try go_wp2)
                 go_ret2
                 exact ⟨_, EWW, by (with_reducible repeat (first | apply Kd.bJ | apply Kd.bK | apply Kd.bV)); exact Kd.aQ HO_2.out (fun _ hk => hk.1), BL, by repeat (first | (with_reducible first | exact HK.out | apply Kept.alloc | apply Kept.drewN | apply Kept.drew | refine Kept.setCell ?_ (.inr GW114.out) _) | exact HK.out)⟩
                ·replace H := ifP H; obtain ⟨c112, H⟩ := H
                 have LMc112 := aj.mk c112
                 clear c112
                 obtain ⟨y126, hy126⟩ : ∃ y_ : List (aA), y_ = (t115 ++ [(⟨x115000_3, (⟨#[]⟩ : ByteArray), (wrap64 ((t115.length : Int) - 1)), 0⟩ : aA)]) := ⟨_, rfl⟩
                 replace H : (some (y126, wrap64 (t118 + 1))) = some (r1, r2) := by first | (rw [hy126]; with_reducible exact H) | (have H2_ := (Option.bind_some _ _).symm.trans H; rw [hy126]; with_reducible exact H2_) | (have H2_ := (Option.bind_some _ _).symm.trans H; with_reducible exact H2_) | with_reducible exact H | (rw [hy126]; exact H) | exact H
                 have Ny126 := aj.mk hy126
                 clear hy126
                 simp only [Option.some.injEq, Prod.mk.injEq] at H
                 obtain ⟨rfl, rfl⟩ := H
                 repeat (go_wp2_with (first | ((with_reducible refine bH (b := .append) (xs := #[.tmp 148, .tmp 150]) rfl ?_); (try (refine bP (by rfl) ?_; dsimp only)); at_builtin; refine Kd.dh bQ (w0 := w0) w0.heap.size rfl (.tmp 148) (.tmp 150) 53 110 (.agg #[(.int .i64 0), (.string ⟨#[]⟩), (.int .i64 0), (.int .i64 0)]) 40 rfl Try.underlying53 dR rfl (by decide) (by omega) (.slice Ao7004 t115.length co7004) t115 (⟨x115000_3, (⟨#[]⟩ : ByteArray), (wrap64 ((t115.length : Int) - 1)), 0⟩ : aA) [.int .i64 x115000_3, .string (⟨#[]⟩ : ByteArray), .int .i64 (wrap64 ((t115.length : Int) - 1)), .int .i64 0] (fun k_ => (P2_ k_ ∨ w.heap.size ≤ k_) ∧ k_ ≠ gb114) (fun _ => False) rfl rfl ?aP (fun _ hk => hk.elim) ?aF ?aO ?aB ?aS ?aL ?_; (case aP => exact bX _ _ _ (⟨x115000_3, (⟨#[]⟩ : ByteArray), (wrap64 ((t115.length : Int) - 1)), 0⟩ : aA)); (case aB => exact BL); (case aF => exact (fun k_ hk => ⟨(.inr (Nat.le_trans (by first | exact HK.out.1 | exact (show Kept w _ (fun k_ => P2_ k_) from by repeat (first | (with_reducible first | exact HK.out | apply Kept.alloc | apply Kept.drewN | apply Kept.drew | refine Kept.setCell ?_ (.inr GW114.out) _) | exact HK.out)).1) hk)), Kd.dx (g := gb114) (o := .cells #[.int .i64 x115000_3, .string (⟨#[]⟩ : ByteArray), .int .i64 (wrap64 ((t115.length : Int) - 1)), .int .i64 0] 110 (0, 0)) BK k_ hk⟩)); (case aO => exact (RR HO_2)); (case aS => exact (aW BL)); (case aL => have := LMc112.out; omega); intro v127 w7008 ho hb hg hat; rw [← Ny126.out] at ho; have n0_ := aj.mk (d9 (g := gb114) (o := .cells #[.int .i64 x115000_3, .string (⟨#[]⟩ : ByteArray), .int .i64 (wrap64 ((t115.length : Int) - 1)), .int .i64 0] 110 (0, 0)) BK hg (Kd.bI HO_2.out (fun _ hk => hk.2))); have n1_ := aj.mk (hb); have n2_ := aj.mk (Kept.bY (S := (fun k_ => P2_ k_)) hg (by repeat (first | (with_reducible first | exact HK.out | apply Kept.alloc | apply Kept.drewN | apply Kept.drew | refine Kept.setCell ?_ (.inr GW114.out) _) | exact HK.out)) (fun k_ e_ => (HO_2.out.1 k_ e_).1)); have n3_ := aj.mk (ho); clear BK114 HB HK HO_2; have BK114 := n0_; have HB := n1_; have HK := n2_; have HO128 := n3_; clear n0_ n1_ n2_ n3_; clear ho hb hg hat)); go_quiet (first | ((with_reducible refine bH (b := .append) (xs := #[.tmp 148, .tmp 150]) rfl ?_); (try (refine bP (by rfl) ?_; dsimp only)); at_builtin; refine Kd.dh bQ (w0 := w0) w0.heap.size rfl (.tmp 148) (.tmp 150) 53 110 (.agg #[(.int .i64 0), (.string ⟨#[]⟩), (.int .i64 0), (.int .i64 0)]) 40 rfl Try.underlying53 dR rfl (by decide) (by omega) (.slice Ao7004 t115.length co7004) t115 (⟨x115000_3, (⟨#[]⟩ : ByteArray), (wrap64 ((t115.length : Int) - 1)), 0⟩ : aA) [.int .i64 x115000_3, .string (⟨#[]⟩ : ByteArray), .int .i64 (wrap64 ((t115.length : Int) - 1)), .int .i64 0] (fun k_ => (P2_ k_ ∨ w.heap.size ≤ k_) ∧ k_ ≠ gb114) (fun _ => False) rfl rfl ?aP (fun _ hk => hk.elim) ?aF ?aO ?aB ?aS ?aL ?_; (case aP => exact bX _ _ _ (⟨x115000_3, (⟨#[]⟩ : ByteArray), (wrap64 ((t115.length : Int) - 1)), 0⟩ : aA)); (case aB => exact BL); (case aF => exact (fun k_ hk => ⟨(.inr (Nat.le_trans (by first | exact HK.out.1 | exact (show Kept w _ (fun k_ => P2_ k_) from by repeat (first | (with_reducible first | exact HK.out | apply Kept.alloc | apply Kept.drewN | apply Kept.drew | refine Kept.setCell ?_ (.inr GW114.out) _) | exact HK.out)).1) hk)), Kd.dx (g := gb114) (o := .cells #[.int .i64 x115000_3, .string (⟨#[]⟩ : ByteArray), .int .i64 (wrap64 ((t115.length : Int) - 1)), .int .i64 0] 110 (0, 0)) BK k_ hk⟩)); (case aO => exact (RR HO_2)); (case aS => exact (aW BL)); (case aL => have := LMc112.out; omega); intro v127 w7008 ho hb hg hat; rw [← Ny126.out] at ho; have n0_ := aj.mk (d9 (g := gb114) (o := .cells #[.int .i64 x115000_3, .string (⟨#[]⟩ : ByteArray), .int .i64 (wrap64 ((t115.length : Int) - 1)), .int .i64 0] 110 (0, 0)) BK hg (Kd.bI HO_2.out (fun _ hk => hk.2))); have n1_ := aj.mk (hb); have n2_ := aj.mk (Kept.bY (S := (fun k_ => P2_ k_)) hg (by repeat (first | (with_reducible first | exact HK.out | apply Kept.alloc | apply Kept.drewN | apply Kept.drew | refine Kept.setCell ?_ (.inr GW114.out) _) | exact HK.out)) (fun k_ e_ => (HO_2.out.1 k_ e_).1)); have n3_ := aj.mk (ho); clear BK114 HB HK HO_2; have BK114 := n0_; have HB := n1_; have HK := n2_; have HO128 := n3_; clear n0_ n1_ n2_ n3_; clear ho hb hg hat)))
                 go_wp2_with (first | ((with_reducible refine bH (b := .append) (xs := #[.tmp 148, .tmp 150]) rfl ?_); (try (refine bP (by rfl) ?_; dsimp only)); at_builtin; refine Kd.dh bQ (w0 := w0) w0.heap.size rfl (.tmp 148) (.tmp 150) 53 110 (.agg #[(.int .i64 0), (.string ⟨#[]⟩), (.int .i64 0), (.int .i64 0)]) 40 rfl Try.underlying53 dR rfl (by decide) (by omega) (.slice Ao7004 t115.length co7004) t115 (⟨x115000_3, (⟨#[]⟩ : ByteArray), (wrap64 ((t115.length : Int) - 1)), 0⟩ : aA) [.int .i64 x115000_3, .string (⟨#[]⟩ : ByteArray), .int .i64 (wrap64 ((t115.length : Int) - 1)), .int .i64 0] (fun k_ => (P2_ k_ ∨ w.heap.size ≤ k_) ∧ k_ ≠ gb114) (fun _ => False) rfl rfl ?aP (fun _ hk => hk.elim) ?aF ?aO ?aB ?aS ?aL ?_; (case aP => exact bX _ _ _ (⟨x115000_3, (⟨#[]⟩ : ByteArray), (wrap64 ((t115.length : Int) - 1)), 0⟩ : aA)); (case aB => exact BL); (case aF => exact (fun k_ hk => ⟨(.inr (Nat.le_trans (by first | exact HK.out.1 | exact (show Kept w _ (fun k_ => P2_ k_) from by repeat (first | (with_reducible first | exact HK.out | apply Kept.alloc | apply Kept.drewN | apply Kept.drew | refine Kept.setCell ?_ (.inr GW114.out) _) | exact HK.out)).1) hk)), Kd.dx (g := gb114) (o := .cells #[.int .i64 x115000_3, .string (⟨#[]⟩ : ByteArray), .int .i64 (wrap64 ((t115.length : Int) - 1)), .int .i64 0] 110 (0, 0)) BK k_ hk⟩)); (case aO => exact (RR HO_2)); (case aS => exact (aW BL)); (case aL => have := LMc112.out; omega); intro v127 w7008 ho hb hg hat; rw [← Ny126.out] at ho; have n0_ := aj.mk (d9 (g := gb114) (o := .cells #[.int .i64 x115000_3, .string (⟨#[]⟩ : ByteArray), .int .i64 (wrap64 ((t115.length : Int) - 1)), .int .i64 0] 110 (0, 0)) BK hg (Kd.bI HO_2.out (fun _ hk => hk.2))); have n1_ := aj.mk (hb); have n2_ := aj.mk (Kept.bY (S := (fun k_ => P2_ k_)) hg (by repeat (first | (with_reducible first | exact HK.out | apply Kept.alloc | apply Kept.drewN | apply Kept.drew | refine Kept.setCell ?_ (.inr GW114.out) _) | exact HK.out)) (fun k_ e_ => (HO_2.out.1 k_ e_).1)); have n3_ := aj.mk (ho); clear BK114 HB HK HO_2; have BK114 := n0_; have HB := n1_; have HK := n2_; have HO128 := n3_; clear n0_ n1_ n2_ n3_; clear ho hb hg hat))
                 go_ret2
                 exact ⟨_, EWW, by (with_reducible repeat (first | apply Kd.bJ | apply Kd.bK | apply Kd.bV)); exact Kd.aQ HO128.out (fun _ hk => hk.1), BL, by repeat (first | (with_reducible first | exact HK.out | apply Kept.alloc | apply Kept.drewN | apply Kept.drew | refine Kept.setCell ?_ (.inr GW114.out) _) | exact HK.out)⟩
               ·simp only [Option.some.injEq, Prod.mk.injEq] at H
                obtain ⟨rfl, rfl⟩ := H
                have p108 : (0 ≤ (t118 : Int)) = True := OT
                have q108 : (t118 < (a0.size : Int)) = True := OT
                have hx108 := eF a0 t118
                go_wp2
                repeat (go_quiet (fail); try go_wp2)
                go_ret2
                exact ⟨_, EWW, by (with_reducible repeat (first | apply Kd.bJ | apply Kd.bK | apply Kd.bV)); exact Kd.aQ HO_2.out (fun _ hk => hk.1), BL, by repeat (first | (with_reducible first | exact HK.out | apply Kept.alloc | apply Kept.drewN | apply Kept.drew | refine Kept.setCell ?_ (.inr GW114.out) _) | exact HK.out)⟩
end Go.Proofs.Ythjcicmmbmagbaa.PFnExactParsePlay
