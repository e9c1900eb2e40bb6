/- Walks of functions: what each computes. -/
import Derived.Test.YtnfiedfaaaphoaaGreatZPuzzleCodeG0
import Derived.Test.YtnfiedfaaaphoaaGreatZPuzzleCodeG3
import Derived.Test.YtnfiedfaaaphoaaGreatZPuzzleCodeG5
import Derived.Test.YtnfiedfaaaphoaaGreatZPuzzleCodeG6
import Derived.Test.YtnfiedfaaaphoaaGreatZPuzzleCodeW
import Derived.Test.YtnfiedfaaaphoaaGreatZPuzzleCodeShelf
import Derived.Test.YtnfiedfaaaphoaaGreatZPuzzleCodeHandSort
import Derived.Test.YtnfiedfaaaphoaaGreatZPuzzleCodeHandForm
import Derived.Test.YtnfiedfaaaphoaaGreatZPuzzleCodeHandAlone
import Derived.Test.YtnfiedfaaaphoaaGreatZPuzzleCodeHandReach
import Derived.Test.YtnfiedfaaaphoaaGreatZPuzzleCodeHandPut
namespace Go.Proofs.YtnfiedfaaaphoaaGreat.PFnExactPuzzleCode
open Go.RowKit Go.Proofs.YtnfiedfaaaphoaaGreatW.PrintWords Go.Proofs.YtnfiedfaaaphoaaGreatW.PrintLast Go.Proofs.YtnfiedfaaaphoaaGreatW.PrintMore Go.Proofs.YtnfiedfaaaphoaaGreat.Sq
attribute [local go_sem] iH iJ jD jC gV gU iK iG
set_option maxHeartbeats 8000000
set_option maxRecDepth 100000
set_option linter.unusedVariables false
set_option linter.unusedSimpArgs false
def iw.f (k : Nat) (a0 : ByteArray) : Option (ByteArray) := (bH.f k a0).bind fun t331 => (if t331 = true then (if 0 ≤ (wrap64 ((a0.size : Int) - 1)) then (if (wrap64 ((a0.size : Int) - 1)) ≤ (a0.size : Int) then (some (a0.extract 0 ((wrap64 ((a0.size : Int) - 1)) : Int).toNat)) else (none)) else (none)) else (some (⟨#[]⟩ : ByteArray)))
theorem iw.calls (k : Nat) (a0 r : ByteArray) (w : World) (h : iw.f k a0 = some r) :
  Calls Tryz.prog 198 #[.string a0] w fun e w' => e = .returned (.string r) ∧ aC w w' := by
 unfold iw.f at h
 have H := h
 clear h
 replace H := be H; obtain ⟨t331, A2, H⟩ := H
 replace H := ah.mk H
 go_enter Tryz.func198, Tryz.ntmps198
 go_wp2_with (first | ((with_reducible refine ay (f := 140) rfl ?_); refine bq (some 4) Tryz.func140 #[.string a0] ?_; (with_reducible refine (bH.calls k a0 _ _ A2.out).mono ?_); rintro e w' ⟨rfl, ⟨nd, rfl⟩⟩; refine ⟨_, rfl, ?_⟩; refine bP ?_))
 refine Hide.mk ?_
 replace H := H.out
 replace H := ifB H; rcases H with ⟨rfl, H⟩ | ⟨rfl, H⟩
 ·obtain ⟨ji4, hji4⟩ : ∃ j_ : Int, (wrap64 ((a0.size : Int) - 1)) = j_ := ⟨_, rfl⟩
  replace H : (if 0 ≤ (ji4) then (if (ji4) ≤ (a0.size : Int) then (some (a0.extract 0 ((ji4) : Int).toNat)) else (none)) else (none)) = some r := by first | (rw [hji4] at H; exact H) | (simp only [hji4] at H ⊢; exact H)
  (try rw [hji4] at A2)
  have hji4w : (IntKind.i64.wrap ((a0.size : Int) - 1)) = ji4 := (iV _).trans hji4
  replace H := ifP H; obtain ⟨c5, H⟩ := H
  have c5b0 := eq_true c5
  have c5b1 : decide (0 ≤ (ji4)) = true := decide_eq_true c5
  clear c5
  replace H := ifP H; obtain ⟨c6, H⟩ := H
  have c6b0 := eq_true c6
  have c6b1 : decide ((ji4) ≤ (a0.size : Int)) = true := decide_eq_true c6
  clear c6
  obtain rfl := Option.some.inj H
  try go_wp2
  go_ret
  exact ⟨by first | rfl | (simp; done) | (simp only [← hji4] <;> (first | rfl | simp)) | (simp [*]; done), by repeat (first | exact aC.refl _ | apply aC.step)⟩
 ·obtain rfl := Option.some.inj H
  try go_wp2
  go_ret
  exact ⟨by first | rfl | (simp; done) | (simp [*]; done), by repeat (first | exact aC.refl _ | apply aC.step)⟩
mutual
def cK.j0 : Nat → ByteArray → ByteArray → Bool → Option (Bool)
 | 0, _, _, _ => none
 | k + 1, a, b, c => if c = true then (some false) else (cK.l0 k a b 1)
def cK.l0 : Nat → ByteArray → ByteArray → Int → Option (Bool)
 | 0, _, _, _ => none
 | k + 1, a, b, c => if (wrap64 (c + (a.size : Int))) < (b.size : Int) then (if 0 ≤ c then (if c ≤ (wrap64 (c + (a.size : Int))) then (if (wrap64 (c + (a.size : Int))) ≤ (b.size : Int) then (if (b.extract (c : Int).toNat ((wrap64 (c + (a.size : Int))) : Int).toNat).toList = a.toList then (some true) else (cK.l0 k a b (wrap64 (c + 1)))) else (none)) else (none)) else (none)) else (some false)
end
def cK.f (k : Nat) (a0 a1 : ByteArray) : Option (Bool) := (bH.f k a0).bind fun t332 => (if t332 = true then ((bH.f k a1).bind fun t333 => (cK.j0 k a0 a1 (!t333))) else (cK.j0 k a0 a1 true))
theorem cK.calls (k : Nat) (a0 a1 : ByteArray) (r : Bool) (w : World) (h : cK.f k a0 a1 = some r) :
  Calls Tryz.prog 199 #[.string a0, .string a1] w fun e w' => e = .returned (.bool r) ∧ aC w w' := by
 unfold cK.f at h
 have H := h
 clear h
 have HC3 := ah.mk H
 clear H
 go_enter Tryz.func199, Tryz.ntmps199
 go_upto_region 1 with (fail)
 go_cut [13] (fun v13 wc => ∃ (kq : Nat) (x13_2 : Bool), v13 = .bool x13_2 ∧ ah (cK.j0 kq a0 a1 x13_2 = some r) ∧ ah (kq ≤ k) ∧ aC w wc)
 case first =>
  have H := HC3.out
  clear HC3
  replace H := be H; obtain ⟨t332, A4, H⟩ := H
  replace H := ah.mk H
  go_wp2_with (first | ((with_reducible refine ay (f := 140) rfl ?_); refine bq (some 7) Tryz.func140 #[.string a0] ?_; (with_reducible refine (bH.calls k a0 _ _ A4.out).mono ?_); rintro e w' ⟨rfl, ⟨nd, rfl⟩⟩; refine ⟨_, rfl, ?_⟩; refine bP ?_))
  refine Hide.mk ?_
  replace H := H.out
  replace H := ifB H; rcases H with ⟨rfl, H⟩ | ⟨rfl, H⟩
  ·replace H := be H; obtain ⟨t333, A6, H⟩ := H
   have H' := ah.mk H
   clear H
   try go_wp2_with (first | (go_at_call 140; (with_reducible refine (bH.calls k a1 t333 _ A6.out).mono ?_); rintro e w' ⟨rfl, ⟨nd, rfl⟩⟩))
   go_meet
   case rel => exact ⟨_, (!t333), EQ, H', ⟨by first | omega | exact Nat.le_refl _⟩, by repeat (first | exact aC.refl _ | apply aC.step)⟩
  ·have H' := ah.mk H
   clear H
   try go_wp2
   go_meet
   case rel => exact ⟨_, (true), EQ, H', ⟨by first | omega | exact Nat.le_refl _⟩, by repeat (first | exact aC.refl _ | apply aC.step)⟩
 case rest =>
  clear HC3
  obtain ⟨kq, x13_2, rfl, HA, HJ2, ⟨mc2, rfl⟩⟩ := hcut
  cases kq with
  | zero => exact absurd HA.out (by simp [cK.j0])
  | succ kj2 =>
   have H := HA.out
   clear HA
   simp only [cK.j0] at H
   replace H := ifB H; rcases H with ⟨rfl, H⟩ | ⟨rfl, H⟩
   ·obtain rfl := Option.some.inj H
    go_wp2
    go_ret
    exact ⟨by first | rfl | (simp; done) | (simp [*]; done), by repeat (first | exact aC.refl _ | apply aC.step)⟩
   ·have H' := ah.mk H
    clear H
    go_wp2
    go_loopg [5] kj2 (fun kq v5 w' => ∃ (x5_2 : Int), v5 = .int .i64 x5_2 ∧ ah (cK.l0 kq a0 a1 x5_2 = some r) ∧ ah (kq ≤ kj2) ∧ aC w w')
    case atStart => exact ⟨(1), EQ, H', ⟨Nat.le_refl _⟩, by repeat (first | exact aC.refl _ | apply aC.step)⟩
    case round =>
     clear H'
     try clear c7
     obtain ⟨x5_2, rfl, HA, HK2, ⟨m2, rfl⟩⟩ := hrel
     cases gk with
     | zero => exact absurd HA.out (by simp [cK.l0])
     | succ k2 =>
      have H := HA.out
      clear HA
      simp only [cK.l0] at H
      replace H := ifD H; rcases H with ⟨c8b0, H⟩ | ⟨c8b0, H⟩
      ·replace H := ifP H; obtain ⟨c9, H⟩ := H
       have c9b0 := eq_true c9
       have c9b1 : decide (0 ≤ x5_2) = true := decide_eq_true c9
       clear c9
       replace H := ifP H; obtain ⟨c10, H⟩ := H
       have c10b0 := eq_true c10
       have c10b1 : decide (x5_2 ≤ (wrap64 (x5_2 + (a0.size : Int)))) = true := decide_eq_true c10
       replace H := ifP H; obtain ⟨c11, H⟩ := H
       have c11b0 := eq_true c11
       have c11b1 : decide ((wrap64 (x5_2 + (a0.size : Int))) ≤ (a1.size : Int)) = true := decide_eq_true c11
       replace H := ifE H; rcases H with ⟨c12b0, c12b1, H⟩ | ⟨c12, c12b0, c12b1, H⟩
       ·obtain rfl := Option.some.inj H
        go_wp2
        go_ret
        exact ⟨by first | rfl | (simp; done) | (simp [*]; done), by repeat (first | exact aC.refl _ | apply aC.step)⟩
       ·have H' := ah.mk H
        clear H
        go_wp2
        go_roundg k2
        case measure => have := HJ2.out; have := HK2.out; omega
        case rel => exact ⟨(wrap64 (x5_2 + 1)), EQ, H', ⟨by have := HJ2.out; have := HK2.out; omega⟩, by repeat (first | exact aC.refl _ | apply aC.step)⟩
      ·obtain rfl := Option.some.inj H
       go_wp2
       go_ret
       exact ⟨by first | rfl | (simp; done) | (simp [*]; done), by repeat (first | exact aC.refl _ | apply aC.step)⟩
def bM.f : Nat → List (bZ) → Int → ByteArray → Option (Bool)
 | 0, _, _, _ => none
 | k + 1, a, b, c => if 0 ≤ b then (if b < (a.length : Int) then (if ((aj a b).f0) = 1 then (some (((aj a b).f1).toList == c.toList)) else (if ((aj a b).f0) = 2 then ((dM.f k c).bind fun d => ((bM.f k a ((aj a b).f2) d).bind fun e => (some e))) else (if ((aj a b).f0) = 3 then (if 0 ≤ ((aj a b).f2) then (if ((aj a b).f2) < (a.length : Int) then ((gN.f k ((aj a ((aj a b).f2)).f1) c).bind fun f => (some f)) else (none)) else (none)) else (if ((aj a b).f0) = 4 then ((bT.f (fun _ => bM.f k) k a ((aj a b).f0) ((aj a b).f1) ((aj a b).f2) ((aj a b).f3) c).bind fun g => (some g)) else (if ((aj a b).f0) = 5 then ((bJ.f (fun _ => bM.f k) k a ((aj a b).f0) ((aj a b).f1) ((aj a b).f2) ((aj a b).f3) c).bind fun h => (some h)) else (if ((aj a b).f0) = 6 then (if 0 ≤ ((aj a b).f2) then (if ((aj a b).f2) < (a.length : Int) then ((jT.f k ((aj a ((aj a b).f2)).f1)).bind fun i => (some (i.toList == c.toList))) else (none)) else (none)) else (if ((aj a b).f0) = 7 then (if 0 ≤ ((aj a b).f2) then (if ((aj a b).f2) < (a.length : Int) then ((iy.f k ((aj a ((aj a b).f2)).f1)).bind fun j => (some (j.toList == c.toList))) else (none)) else (none)) else (if ((aj a b).f0) = 8 then (if 0 ≤ ((aj a b).f2) then (if ((aj a b).f2) < (a.length : Int) then ((iw.f k ((aj a ((aj a b).f2)).f1)).bind fun l => (some (l.toList == c.toList))) else (none)) else (none)) else (if 0 ≤ ((aj a b).f2) then (if ((aj a b).f2) < (a.length : Int) then ((cK.f k c ((aj a ((aj a b).f2)).f1)).bind fun m => (some m)) else (none)) else (none)))))))))) else (none)) else (none)
theorem bM.calls (k : Nat) : ∀ (A0 : Option Addr) (c0 : Nat) (l0 : List (bZ)) (a1 : Int) (a2 : ByteArray) (r : Bool) (w : World) (hr0 : Kd.C je w A0 l0.length l0) (hc0 : l0.length ≤ c0) (h : bM.f k l0 a1 a2 = some r),
  Calls Tryz.prog 159 #[.slice A0 l0.length c0, .int .i64 a1, .string a2] w fun e w' => e = .returned (.bool r) ∧ Below w.heap.size w w' := by
 induction k using Nat.strongRecOn with
 | _ k ih =>
 intro A0 c0 l0 a1 a2 r w hr0 hc0 h
 cases k with
 | zero => exact absurd h (by simp [bM.f])
 | succ k =>
 simp only [bM.f] at h
 have hu141 := Tryz.underlying141
 have HR0 := ah.mk hr0
 have HC0 := ah.mk hc0
 clear hr0 hc0
 have HB := ah.mk (Below.refl w.heap.size w)
 have H : (if 0 ≤ a1 then (if a1 < (l0.length : Int) then (if ((aj l0 a1).f0) = 1 then (some (((aj l0 a1).f1).toList == a2.toList)) else (if ((aj l0 a1).f0) = 2 then ((dM.f k a2).bind fun t336 => ((bM.f k l0 ((aj l0 a1).f2) t336).bind fun t337 => (some t337))) else (if ((aj l0 a1).f0) = 3 then (if 0 ≤ ((aj l0 a1).f2) then (if ((aj l0 a1).f2) < (l0.length : Int) then ((gN.f k ((aj l0 ((aj l0 a1).f2)).f1) a2).bind fun t339 => (some t339)) else (none)) else (none)) else (if ((aj l0 a1).f0) = 4 then ((bT.f (fun _ => bM.f k) k l0 ((aj l0 a1).f0) ((aj l0 a1).f1) ((aj l0 a1).f2) ((aj l0 a1).f3) a2).bind fun t340 => (some t340)) else (if ((aj l0 a1).f0) = 5 then ((bJ.f (fun _ => bM.f k) k l0 ((aj l0 a1).f0) ((aj l0 a1).f1) ((aj l0 a1).f2) ((aj l0 a1).f3) a2).bind fun t341 => (some t341)) else (if ((aj l0 a1).f0) = 6 then (if 0 ≤ ((aj l0 a1).f2) then (if ((aj l0 a1).f2) < (l0.length : Int) then ((jT.f k ((aj l0 ((aj l0 a1).f2)).f1)).bind fun t343 => (some (t343.toList == a2.toList))) else (none)) else (none)) else (if ((aj l0 a1).f0) = 7 then (if 0 ≤ ((aj l0 a1).f2) then (if ((aj l0 a1).f2) < (l0.length : Int) then ((iy.f k ((aj l0 ((aj l0 a1).f2)).f1)).bind fun t345 => (some (t345.toList == a2.toList))) else (none)) else (none)) else (if ((aj l0 a1).f0) = 8 then (if 0 ≤ ((aj l0 a1).f2) then (if ((aj l0 a1).f2) < (l0.length : Int) then ((iw.f k ((aj l0 ((aj l0 a1).f2)).f1)).bind fun t347 => (some (t347.toList == a2.toList))) else (none)) else (none)) else (if 0 ≤ ((aj l0 a1).f2) then (if ((aj l0 a1).f2) < (l0.length : Int) then ((cK.f k a2 ((aj l0 ((aj l0 a1).f2)).f1)).bind fun t349 => (some t349)) else (none)) else (none)))))))))) else (none)) else (none)) = some r := h
 clear h
 replace H := ifN H; obtain ⟨c4b0, H⟩ := H
 replace H := ifN H; obtain ⟨c5b0, H⟩ := H
 have p334 : 0 ≤ (a1 : Int) := OD
 have q334 : a1 < (l0.length : Int) := OD
 obtain ⟨ad334, e334, hx334_0, hx334_1, hx334_2, hx334_3⟩ := jh HR0.out a1 p334 q334
 cases e334
 replace p334 := eq_true p334
 replace q334 := eq_true q334
 replace H := ah.mk H
 go_enter Tryz.func159, Tryz.ntmps159
 replace H := H.out
 replace H := ifE H; rcases H with ⟨c6b0, c6b1, H⟩ | ⟨c6, c6b0, c6b1, H⟩
 ·obtain rfl := Option.some.inj H
  try go_wp2_with (first | ((with_reducible refine aN (N := 7) rfl ?_); refine bC (N := 7) (cs := #[.int .i64 0, .string (⟨#[]⟩ : ByteArray), .int .i64 0, .int .i64 0]) (t := 141) ?_; intro gb335 hg w9000 hbox hb; have BK335 := ah.mk hbox; have GW335 := SZ (w := w) hg; have GE335 := GW335; replace HB := BS (w := w) hb; clear hb hbox hg; obtain ⟨hcz9001_0, hcz9001_1, hcz9001_2, hcz9001_3, hfz9001_0, hfz9001_1, hfz9001_2, hfz9001_3⟩ := cz4 BK335.out))
  go_ret
  exact ⟨EWW, BL⟩
 ·replace H := ifE H; rcases H with ⟨c9b0, c9b1, H⟩ | ⟨c9, c9b0, c9b1, H⟩
  ·replace H := be H; obtain ⟨t336, A10, H⟩ := H
   replace H := be H; obtain ⟨t337, A11, H⟩ := H
   obtain rfl := Option.some.inj H
   try go_wp2_with (first | ((with_reducible refine aN (N := 7) rfl ?_); refine bC (N := 7) (cs := #[.int .i64 0, .string (⟨#[]⟩ : ByteArray), .int .i64 0, .int .i64 0]) (t := 141) ?_; intro gb335 hg w9000 hbox hb; have BK335 := ah.mk hbox; have GW335 := SZ (w := w) hg; have GE335 := GW335; replace HB := BS (w := w) hb; clear hb hbox hg; obtain ⟨hcz9001_0, hcz9001_1, hcz9001_2, hcz9001_3, hfz9001_0, hfz9001_1, hfz9001_2, hfz9001_3⟩ := cz4 BK335.out))
   have n0_ : ah (((((w9000.setCell ⟨gb335, 0, none⟩ (.int .i64 ((aj l0 a1).f0))).setCell ⟨gb335, 1, none⟩ (.string ((aj l0 a1).f1))).setCell ⟨gb335, 2, none⟩ (.int .i64 ((aj l0 a1).f2))).setCell ⟨gb335, 3, none⟩ (.int .i64 ((aj l0 a1).f3))).heap[gb335]? = some (.cells #[.int .i64 ((aj l0 a1).f0), .string ((aj l0 a1).f1), .int .i64 ((aj l0 a1).f2), .int .i64 ((aj l0 a1).f3)] 141 (0, 0))) := ⟨by (with_reducible repeat (first | refine aG ?_ _ | refine aI ?_ | refine aD ?_ _)); refine aX (cs := #[.int .i64 ((aj l0 a1).f0), .string ((aj l0 a1).f1), .int .i64 ((aj l0 a1).f2), .int .i64 0]) ?_ 3 _ rfl; (with_reducible repeat (first | refine aG ?_ _ | refine aI ?_ | refine aD ?_ _)); refine aX (cs := #[.int .i64 ((aj l0 a1).f0), .string ((aj l0 a1).f1), .int .i64 0, .int .i64 0]) ?_ 2 _ rfl; (with_reducible repeat (first | refine aG ?_ _ | refine aI ?_ | refine aD ?_ _)); refine aX (cs := #[.int .i64 ((aj l0 a1).f0), .string (⟨#[]⟩ : ByteArray), .int .i64 0, .int .i64 0]) ?_ 1 _ rfl; (with_reducible repeat (first | refine aG ?_ _ | refine aI ?_ | refine aD ?_ _)); refine aX (cs := #[.int .i64 0, .string (⟨#[]⟩ : ByteArray), .int .i64 0, .int .i64 0]) ?_ 0 _ rfl; (with_reducible repeat (first | refine aG ?_ _ | refine aI ?_ | refine aD ?_ _)); exact BK335.out⟩
   have n1_ : ah (Below w.heap.size w ((((w9000.setCell ⟨gb335, 0, none⟩ (.int .i64 ((aj l0 a1).f0))).setCell ⟨gb335, 1, none⟩ (.string ((aj l0 a1).f1))).setCell ⟨gb335, 2, none⟩ (.int .i64 ((aj l0 a1).f2))).setCell ⟨gb335, 3, none⟩ (.int .i64 ((aj l0 a1).f3)))) := ⟨BL⟩
   (try clear BK335)
   (try clear HB)
   generalize ((((w9000.setCell ⟨gb335, 0, none⟩ (.int .i64 ((aj l0 a1).f0))).setCell ⟨gb335, 1, none⟩ (.string ((aj l0 a1).f1))).setCell ⟨gb335, 2, none⟩ (.int .i64 ((aj l0 a1).f2))).setCell ⟨gb335, 3, none⟩ (.int .i64 ((aj l0 a1).f3))) = w9002 at n0_ n1_ ⊢
   have BK335 := n0_
   have HB := n1_
   clear n0_ n1_
   replace BK335 := ah.mk (aI BK335.out)
   replace HB := ah.mk (dL HB.out)
   refine ji (n := 7) (S := fun w' => w'.cell? ⟨gb335, 0, none⟩ = some (.int .i64 ((aj l0 a1).f0)) ∧ w'.cell? ⟨gb335, 1, none⟩ = some (.string ((aj l0 a1).f1)) ∧ w'.cell? ⟨gb335, 2, none⟩ = some (.int .i64 ((aj l0 a1).f2)) ∧ w'.cell? ⟨gb335, 3, none⟩ = some (.int .i64 ((aj l0 a1).f3))) (ds := []) #[F,F,F,F,F,F,F] (by kernel_rfl) rfl rfl ⟨(av BK335.out 0).trans rfl, (av BK335.out 1).trans rfl, (av BK335.out 2).trans rfl, (av BK335.out 3).trans rfl⟩ (fun hHeld => ?_)
   generalize w9002.drew = w9003 at BK335 HB hHeld ⊢
   refine puS (i := 0) (N := some 22) #[T,F,F,F,F,F,F] (by kernel_rfl) ?_
   refine puS (i := 1) (N := some 23) #[T,T,F,F,F,F,F] (by kernel_rfl) ?_
   refine puS (i := 3) (N := some 25) #[T,T,F,T,F,F,F] (by kernel_rfl) ?_
   refine taS (i := 2) (N := some 24) #[T,T,T,T,F,F,F] (by kernel_rfl) hHeld ?_
   refine kH (i := 4) (N := some 26) #[T,T,T,T,T,F,F] rfl rfl (by kernel_rfl) (by decide) (fun K hK => ?_)
   refine iU Tryz.func188 #[.string a2] ?_
   with_reducible refine (dM.calls k a2 t336 _ A10.out).mono ?_
   rintro e w' ⟨rfl, ⟨nd, rfl⟩⟩
   refine ⟨_, rfl, ?_⟩
   refine hK.out _ _ ⟨(av BK335.out 0).trans rfl, (av BK335.out 1).trans rfl, (av BK335.out 2).trans rfl, (av BK335.out 3).trans rfl⟩ (fun hHeld => ?_)
   clear hK K
   refine nrm (some 26) ?_
   refine kH (i := 5) (N := some 27) #[T,T,T,T,T,T,F] rfl rfl (by kernel_rfl) (by decide) (fun K hK => ?_)
   refine iU Tryz.func159 #[.slice (some ad334) l0.length c0, .int .i64 ((aj l0 a1).f2), .string t336] ?_
   with_reducible refine (ih k (by omega) _ _ l0 ((aj l0 a1).f2) t336 t337 _ ?side1 ?side2 A11.out).mono ?_
   (case side1 => repeat (first | exact (Kd.gP HR0.out BL) | (with_reducible refine Kd.eG ?_ _) | (with_reducible refine Kd.eH ?_ _) | (with_reducible refine Kd.fP ?_)))
   (case side2 => exact HC0.out)
   rintro e w9004 ⟨rfl, hb⟩
   refine ⟨_, rfl, ?_⟩
   replace BK335 := KB BK335 hb
   replace HB := BS (w := w) hb
   (try clear hb)
   refine hK.out _ _ ⟨(av BK335.out 0).trans rfl, (av BK335.out 1).trans rfl, (av BK335.out 2).trans rfl, (av BK335.out 3).trans rfl⟩ (fun hHeld => ?_)
   clear hK K
   refine nrm (some 27) ?_
   refine puS (i := 6) (N := some 6) #[T,T,T,T,T,T,T] (by kernel_rfl) ?_
   refine gX (by kernel_rfl) ?_
   try go_wp2
   go_ret
   exact ⟨EWW, BL⟩
  ·replace H := ifE H; rcases H with ⟨c17b0, c17b1, H⟩ | ⟨c17, c17b0, c17b1, H⟩
   ·replace H := ifN H; obtain ⟨c18b0, H⟩ := H
    replace H := ifN H; obtain ⟨c19b0, H⟩ := H
    replace H := be H; obtain ⟨t339, A20, H⟩ := H
    obtain rfl := Option.some.inj H
    try go_wp2_with (first | ((with_reducible refine aN (N := 7) rfl ?_); refine bC (N := 7) (cs := #[.int .i64 0, .string (⟨#[]⟩ : ByteArray), .int .i64 0, .int .i64 0]) (t := 141) ?_; intro gb335 hg w9000 hbox hb; have BK335 := ah.mk hbox; have GW335 := SZ (w := w) hg; have GE335 := GW335; replace HB := BS (w := w) hb; clear hb hbox hg; obtain ⟨hcz9001_0, hcz9001_1, hcz9001_2, hcz9001_3, hfz9001_0, hfz9001_1, hfz9001_2, hfz9001_3⟩ := cz4 BK335.out; have p338 : 0 ≤ (((aj l0 a1).f2) : Int) := OD; have q338 : ((aj l0 a1).f2) < (l0.length : Int) := OD; obtain ⟨ad338, e338, hx338_0, hx338_1, hx338_2, hx338_3⟩ := jh HR0.out ((aj l0 a1).f2) p338 q338; obtain rfl : ad334 = ad338 := (by injection e338); have hn338_0 : ad334.block ≠ gb335 := Nat.ne_of_lt (Nat.lt_of_lt_of_le (by have := World.block_lt_of_cell? _ _ hx338_0; first | rwa [add_block] at this | exact this) GW335.out); have hn338_1 : ad334.block ≠ gb335 := Nat.ne_of_lt (Nat.lt_of_lt_of_le (by have := World.block_lt_of_cell? _ _ hx338_0; first | rwa [add_block] at this | exact this) GW335.out); have hn338_2 : ad334.block ≠ gb335 := Nat.ne_of_lt (Nat.lt_of_lt_of_le (by have := World.block_lt_of_cell? _ _ hx338_0; first | rwa [add_block] at this | exact this) GW335.out); have hn338_3 : ad334.block ≠ gb335 := Nat.ne_of_lt (Nat.lt_of_lt_of_le (by have := World.block_lt_of_cell? _ _ hx338_0; first | rwa [add_block] at this | exact this) GW335.out); replace hx338_0 := (HB.out.cell (World.block_lt_of_cell? w _ hx338_0)).trans hx338_0; replace hx338_1 := (HB.out.cell (World.block_lt_of_cell? w _ hx338_1)).trans hx338_1; replace hx338_2 := (HB.out.cell (World.block_lt_of_cell? w _ hx338_2)).trans hx338_2; replace hx338_3 := (HB.out.cell (World.block_lt_of_cell? w _ hx338_3)).trans hx338_3; replace hx338_0 := (cell_far (p := ⟨gb335, 0, none⟩) AB (.int .i64 ((aj l0 a1).f0))).trans hx338_0; replace hx338_1 := (cell_far (p := ⟨gb335, 0, none⟩) AB (.int .i64 ((aj l0 a1).f0))).trans hx338_1; replace hx338_2 := (cell_far (p := ⟨gb335, 0, none⟩) AB (.int .i64 ((aj l0 a1).f0))).trans hx338_2; replace hx338_3 := (cell_far (p := ⟨gb335, 0, none⟩) AB (.int .i64 ((aj l0 a1).f0))).trans hx338_3; replace hx338_0 := (cell_far (p := ⟨gb335, 1, none⟩) AB (.string ((aj l0 a1).f1))).trans hx338_0; replace hx338_1 := (cell_far (p := ⟨gb335, 1, none⟩) AB (.string ((aj l0 a1).f1))).trans hx338_1; replace hx338_2 := (cell_far (p := ⟨gb335, 1, none⟩) AB (.string ((aj l0 a1).f1))).trans hx338_2; replace hx338_3 := (cell_far (p := ⟨gb335, 1, none⟩) AB (.string ((aj l0 a1).f1))).trans hx338_3; replace hx338_0 := (cell_far (p := ⟨gb335, 2, none⟩) AB (.int .i64 ((aj l0 a1).f2))).trans hx338_0; replace hx338_1 := (cell_far (p := ⟨gb335, 2, none⟩) AB (.int .i64 ((aj l0 a1).f2))).trans hx338_1; replace hx338_2 := (cell_far (p := ⟨gb335, 2, none⟩) AB (.int .i64 ((aj l0 a1).f2))).trans hx338_2; replace hx338_3 := (cell_far (p := ⟨gb335, 2, none⟩) AB (.int .i64 ((aj l0 a1).f2))).trans hx338_3; replace hx338_0 := (cell_far (p := ⟨gb335, 3, none⟩) AB (.int .i64 ((aj l0 a1).f3))).trans hx338_0; replace hx338_1 := (cell_far (p := ⟨gb335, 3, none⟩) AB (.int .i64 ((aj l0 a1).f3))).trans hx338_1; replace hx338_2 := (cell_far (p := ⟨gb335, 3, none⟩) AB (.int .i64 ((aj l0 a1).f3))).trans hx338_2; replace hx338_3 := (cell_far (p := ⟨gb335, 3, none⟩) AB (.int .i64 ((aj l0 a1).f3))).trans hx338_3; clear hn338_0 hn338_1 hn338_2 hn338_3; replace p338 := eq_true p338; replace q338 := eq_true q338) | ((with_reducible refine ay (f := 193) rfl ?_); refine bq (some 37) Tryz.func193 #[.string ((aj l0 ((aj l0 a1).f2)).f1), .string a2] ?_; (with_reducible refine (gN.calls k ((aj l0 ((aj l0 a1).f2)).f1) a2 t339 _ A20.out).mono ?_); rintro e w' ⟨rfl, ⟨nd, rfl⟩⟩; refine ⟨_, rfl, ?_⟩))
    go_ret
    exact ⟨EWW, BL⟩
   ·replace H := ifE H; rcases H with ⟨c23b0, c23b1, H⟩ | ⟨c23, c23b0, c23b1, H⟩
    ·replace H := be H; obtain ⟨t340, A24, H⟩ := H
     obtain rfl := Option.some.inj H
     try go_wp2_with (first | ((with_reducible refine aN (N := 7) rfl ?_); refine bC (N := 7) (cs := #[.int .i64 0, .string (⟨#[]⟩ : ByteArray), .int .i64 0, .int .i64 0]) (t := 141) ?_; intro gb335 hg w9000 hbox hb; have BK335 := ah.mk hbox; have GW335 := SZ (w := w) hg; have GE335 := GW335; replace HB := BS (w := w) hb; clear hb hbox hg; obtain ⟨hcz9001_0, hcz9001_1, hcz9001_2, hcz9001_3, hfz9001_0, hfz9001_1, hfz9001_2, hfz9001_3⟩ := cz4 BK335.out) | ((with_reducible refine ay (f := 194) rfl ?_); refine bq (some 43) Tryz.func194 #[.slice (some ad334) l0.length c0, .agg #[.int .i64 ((aj l0 a1).f0), .string ((aj l0 a1).f1), .int .i64 ((aj l0 a1).f2), .int .i64 ((aj l0 a1).f3)], .string a2] ?_; (with_reducible refine (bT.calls (fun _ => bM.f k) (fun _ A_ c_ l_ i_ s_ b_ W_ hr_ hc_ h_ => ih k (by omega) A_ c_ l_ i_ s_ b_ W_ hr_ hc_ h_) k _ _ l0 ((aj l0 a1).f0) ((aj l0 a1).f1) ((aj l0 a1).f2) ((aj l0 a1).f3) a2 t340 _ ?side1 ?side2 A24.out).mono ?_); (case side1 => exact Kd.gP HR0.out BL); (case side2 => exact HC0.out); rintro e w9002 ⟨rfl, hb⟩; refine ⟨_, rfl, ?_⟩; have n0_ := ah.mk (gW (g := gb335) (o := .cells #[.int .i64 ((aj l0 a1).f0), .string ((aj l0 a1).f1), .int .i64 ((aj l0 a1).f2), .int .i64 ((aj l0 a1).f3)] 141 (0, 0)) (by (with_reducible repeat (first | refine aG ?_ _ | refine aI ?_ | refine aD ?_ _)); refine aX (cs := #[.int .i64 ((aj l0 a1).f0), .string ((aj l0 a1).f1), .int .i64 ((aj l0 a1).f2), .int .i64 0]) ?_ 3 _ rfl; (with_reducible repeat (first | refine aG ?_ _ | refine aI ?_ | refine aD ?_ _)); refine aX (cs := #[.int .i64 ((aj l0 a1).f0), .string ((aj l0 a1).f1), .int .i64 0, .int .i64 0]) ?_ 2 _ rfl; (with_reducible repeat (first | refine aG ?_ _ | refine aI ?_ | refine aD ?_ _)); refine aX (cs := #[.int .i64 ((aj l0 a1).f0), .string (⟨#[]⟩ : ByteArray), .int .i64 0, .int .i64 0]) ?_ 1 _ rfl; (with_reducible repeat (first | refine aG ?_ _ | refine aI ?_ | refine aD ?_ _)); refine aX (cs := #[.int .i64 0, .string (⟨#[]⟩ : ByteArray), .int .i64 0, .int .i64 0]) ?_ 0 _ rfl; (with_reducible repeat (first | refine aG ?_ _ | refine aI ?_ | refine aD ?_ _)); exact BK335.out) hb); replace HB := BS (w := w) hb; clear BK335; have BK335 := n0_; clear n0_; (try clear hb)))
     go_ret
     exact ⟨EWW, BL⟩
    ·replace H := ifE H; rcases H with ⟨c28b0, c28b1, H⟩ | ⟨c28, c28b0, c28b1, H⟩
     ·replace H := be H; obtain ⟨t341, A29, H⟩ := H
      obtain rfl := Option.some.inj H
      try go_wp2_with (first | ((with_reducible refine aN (N := 7) rfl ?_); refine bC (N := 7) (cs := #[.int .i64 0, .string (⟨#[]⟩ : ByteArray), .int .i64 0, .int .i64 0]) (t := 141) ?_; intro gb335 hg w9000 hbox hb; have BK335 := ah.mk hbox; have GW335 := SZ (w := w) hg; have GE335 := GW335; replace HB := BS (w := w) hb; clear hb hbox hg; obtain ⟨hcz9001_0, hcz9001_1, hcz9001_2, hcz9001_3, hfz9001_0, hfz9001_1, hfz9001_2, hfz9001_3⟩ := cz4 BK335.out) | ((with_reducible refine ay (f := 195) rfl ?_); refine bq (some 49) Tryz.func195 #[.slice (some ad334) l0.length c0, .agg #[.int .i64 ((aj l0 a1).f0), .string ((aj l0 a1).f1), .int .i64 ((aj l0 a1).f2), .int .i64 ((aj l0 a1).f3)], .string a2] ?_; (with_reducible refine (bJ.calls (fun _ => bM.f k) (fun _ A_ c_ l_ i_ s_ b_ W_ hr_ hc_ h_ => ih k (by omega) A_ c_ l_ i_ s_ b_ W_ hr_ hc_ h_) k _ _ l0 ((aj l0 a1).f0) ((aj l0 a1).f1) ((aj l0 a1).f2) ((aj l0 a1).f3) a2 t341 _ ?side1 ?side2 A29.out).mono ?_); (case side1 => exact Kd.gP HR0.out BL); (case side2 => exact HC0.out); rintro e w9002 ⟨rfl, hb⟩; refine ⟨_, rfl, ?_⟩; have n0_ := ah.mk (gW (g := gb335) (o := .cells #[.int .i64 ((aj l0 a1).f0), .string ((aj l0 a1).f1), .int .i64 ((aj l0 a1).f2), .int .i64 ((aj l0 a1).f3)] 141 (0, 0)) (by (with_reducible repeat (first | refine aG ?_ _ | refine aI ?_ | refine aD ?_ _)); refine aX (cs := #[.int .i64 ((aj l0 a1).f0), .string ((aj l0 a1).f1), .int .i64 ((aj l0 a1).f2), .int .i64 0]) ?_ 3 _ rfl; (with_reducible repeat (first | refine aG ?_ _ | refine aI ?_ | refine aD ?_ _)); refine aX (cs := #[.int .i64 ((aj l0 a1).f0), .string ((aj l0 a1).f1), .int .i64 0, .int .i64 0]) ?_ 2 _ rfl; (with_reducible repeat (first | refine aG ?_ _ | refine aI ?_ | refine aD ?_ _)); refine aX (cs := #[.int .i64 ((aj l0 a1).f0), .string (⟨#[]⟩ : ByteArray), .int .i64 0, .int .i64 0]) ?_ 1 _ rfl; (with_reducible repeat (first | refine aG ?_ _ | refine aI ?_ | refine aD ?_ _)); refine aX (cs := #[.int .i64 0, .string (⟨#[]⟩ : ByteArray), .int .i64 0, .int .i64 0]) ?_ 0 _ rfl; (with_reducible repeat (first | refine aG ?_ _ | refine aI ?_ | refine aD ?_ _)); exact BK335.out) hb); replace HB := BS (w := w) hb; clear BK335; have BK335 := n0_; clear n0_; (try clear hb)))
      go_ret
      exact ⟨EWW, BL⟩
     ·replace H := ifE H; rcases H with ⟨c33b0, c33b1, H⟩ | ⟨c33, c33b0, c33b1, H⟩
      ·replace H := ifN H; obtain ⟨c34b0, H⟩ := H
       replace H := ifN H; obtain ⟨c35b0, H⟩ := H
       replace H := be H; obtain ⟨t343, A36, H⟩ := H
       obtain rfl := Option.some.inj H
       try go_wp2_with (first | ((with_reducible refine aN (N := 7) rfl ?_); refine bC (N := 7) (cs := #[.int .i64 0, .string (⟨#[]⟩ : ByteArray), .int .i64 0, .int .i64 0]) (t := 141) ?_; intro gb335 hg w9000 hbox hb; have BK335 := ah.mk hbox; have GW335 := SZ (w := w) hg; have GE335 := GW335; replace HB := BS (w := w) hb; clear hb hbox hg; obtain ⟨hcz9001_0, hcz9001_1, hcz9001_2, hcz9001_3, hfz9001_0, hfz9001_1, hfz9001_2, hfz9001_3⟩ := cz4 BK335.out; have p342 : 0 ≤ (((aj l0 a1).f2) : Int) := OD; have q342 : ((aj l0 a1).f2) < (l0.length : Int) := OD; obtain ⟨ad342, e342, hx342_0, hx342_1, hx342_2, hx342_3⟩ := jh HR0.out ((aj l0 a1).f2) p342 q342; obtain rfl : ad334 = ad342 := (by injection e342); have hn342_0 : ad334.block ≠ gb335 := Nat.ne_of_lt (Nat.lt_of_lt_of_le (by have := World.block_lt_of_cell? _ _ hx342_0; first | rwa [add_block] at this | exact this) GW335.out); have hn342_1 : ad334.block ≠ gb335 := Nat.ne_of_lt (Nat.lt_of_lt_of_le (by have := World.block_lt_of_cell? _ _ hx342_0; first | rwa [add_block] at this | exact this) GW335.out); have hn342_2 : ad334.block ≠ gb335 := Nat.ne_of_lt (Nat.lt_of_lt_of_le (by have := World.block_lt_of_cell? _ _ hx342_0; first | rwa [add_block] at this | exact this) GW335.out); have hn342_3 : ad334.block ≠ gb335 := Nat.ne_of_lt (Nat.lt_of_lt_of_le (by have := World.block_lt_of_cell? _ _ hx342_0; first | rwa [add_block] at this | exact this) GW335.out); replace hx342_0 := (HB.out.cell (World.block_lt_of_cell? w _ hx342_0)).trans hx342_0; replace hx342_1 := (HB.out.cell (World.block_lt_of_cell? w _ hx342_1)).trans hx342_1; replace hx342_2 := (HB.out.cell (World.block_lt_of_cell? w _ hx342_2)).trans hx342_2; replace hx342_3 := (HB.out.cell (World.block_lt_of_cell? w _ hx342_3)).trans hx342_3; replace hx342_0 := (cell_far (p := ⟨gb335, 0, none⟩) AB (.int .i64 ((aj l0 a1).f0))).trans hx342_0; replace hx342_1 := (cell_far (p := ⟨gb335, 0, none⟩) AB (.int .i64 ((aj l0 a1).f0))).trans hx342_1; replace hx342_2 := (cell_far (p := ⟨gb335, 0, none⟩) AB (.int .i64 ((aj l0 a1).f0))).trans hx342_2; replace hx342_3 := (cell_far (p := ⟨gb335, 0, none⟩) AB (.int .i64 ((aj l0 a1).f0))).trans hx342_3; replace hx342_0 := (cell_far (p := ⟨gb335, 1, none⟩) AB (.string ((aj l0 a1).f1))).trans hx342_0; replace hx342_1 := (cell_far (p := ⟨gb335, 1, none⟩) AB (.string ((aj l0 a1).f1))).trans hx342_1; replace hx342_2 := (cell_far (p := ⟨gb335, 1, none⟩) AB (.string ((aj l0 a1).f1))).trans hx342_2; replace hx342_3 := (cell_far (p := ⟨gb335, 1, none⟩) AB (.string ((aj l0 a1).f1))).trans hx342_3; replace hx342_0 := (cell_far (p := ⟨gb335, 2, none⟩) AB (.int .i64 ((aj l0 a1).f2))).trans hx342_0; replace hx342_1 := (cell_far (p := ⟨gb335, 2, none⟩) AB (.int .i64 ((aj l0 a1).f2))).trans hx342_1; replace hx342_2 := (cell_far (p := ⟨gb335, 2, none⟩) AB (.int .i64 ((aj l0 a1).f2))).trans hx342_2; replace hx342_3 := (cell_far (p := ⟨gb335, 2, none⟩) AB (.int .i64 ((aj l0 a1).f2))).trans hx342_3; replace hx342_0 := (cell_far (p := ⟨gb335, 3, none⟩) AB (.int .i64 ((aj l0 a1).f3))).trans hx342_0; replace hx342_1 := (cell_far (p := ⟨gb335, 3, none⟩) AB (.int .i64 ((aj l0 a1).f3))).trans hx342_1; replace hx342_2 := (cell_far (p := ⟨gb335, 3, none⟩) AB (.int .i64 ((aj l0 a1).f3))).trans hx342_2; replace hx342_3 := (cell_far (p := ⟨gb335, 3, none⟩) AB (.int .i64 ((aj l0 a1).f3))).trans hx342_3; clear hn342_0 hn342_1 hn342_2 hn342_3; replace p342 := eq_true p342; replace q342 := eq_true q342) | ((with_reducible refine ay (f := 196) rfl ?_); refine bq (some 58) Tryz.func196 #[.string ((aj l0 ((aj l0 a1).f2)).f1)] ?_; (with_reducible refine (jT.calls k ((aj l0 ((aj l0 a1).f2)).f1) t343 _ A36.out).mono ?_); rintro e w' ⟨rfl, ⟨nd, rfl⟩⟩; refine ⟨_, rfl, ?_⟩))
       go_ret
       exact ⟨EWW, BL⟩
      ·replace H := ifE H; rcases H with ⟨c39b0, c39b1, H⟩ | ⟨c39, c39b0, c39b1, H⟩
       ·replace H := ifN H; obtain ⟨c40b0, H⟩ := H
        replace H := ifN H; obtain ⟨c41b0, H⟩ := H
        replace H := be H; obtain ⟨t345, A42, H⟩ := H
        obtain rfl := Option.some.inj H
        try go_wp2_with (first | ((with_reducible refine aN (N := 7) rfl ?_); refine bC (N := 7) (cs := #[.int .i64 0, .string (⟨#[]⟩ : ByteArray), .int .i64 0, .int .i64 0]) (t := 141) ?_; intro gb335 hg w9000 hbox hb; have BK335 := ah.mk hbox; have GW335 := SZ (w := w) hg; have GE335 := GW335; replace HB := BS (w := w) hb; clear hb hbox hg; obtain ⟨hcz9001_0, hcz9001_1, hcz9001_2, hcz9001_3, hfz9001_0, hfz9001_1, hfz9001_2, hfz9001_3⟩ := cz4 BK335.out; have p344 : 0 ≤ (((aj l0 a1).f2) : Int) := OD; have q344 : ((aj l0 a1).f2) < (l0.length : Int) := OD; obtain ⟨ad344, e344, hx344_0, hx344_1, hx344_2, hx344_3⟩ := jh HR0.out ((aj l0 a1).f2) p344 q344; obtain rfl : ad334 = ad344 := (by injection e344); have hn344_0 : ad334.block ≠ gb335 := Nat.ne_of_lt (Nat.lt_of_lt_of_le (by have := World.block_lt_of_cell? _ _ hx344_0; first | rwa [add_block] at this | exact this) GW335.out); have hn344_1 : ad334.block ≠ gb335 := Nat.ne_of_lt (Nat.lt_of_lt_of_le (by have := World.block_lt_of_cell? _ _ hx344_0; first | rwa [add_block] at this | exact this) GW335.out); have hn344_2 : ad334.block ≠ gb335 := Nat.ne_of_lt (Nat.lt_of_lt_of_le (by have := World.block_lt_of_cell? _ _ hx344_0; first | rwa [add_block] at this | exact this) GW335.out); have hn344_3 : ad334.block ≠ gb335 := Nat.ne_of_lt (Nat.lt_of_lt_of_le (by have := World.block_lt_of_cell? _ _ hx344_0; first | rwa [add_block] at this | exact this) GW335.out); replace hx344_0 := (HB.out.cell (World.block_lt_of_cell? w _ hx344_0)).trans hx344_0; replace hx344_1 := (HB.out.cell (World.block_lt_of_cell? w _ hx344_1)).trans hx344_1; replace hx344_2 := (HB.out.cell (World.block_lt_of_cell? w _ hx344_2)).trans hx344_2; replace hx344_3 := (HB.out.cell (World.block_lt_of_cell? w _ hx344_3)).trans hx344_3; replace hx344_0 := (cell_far (p := ⟨gb335, 0, none⟩) AB (.int .i64 ((aj l0 a1).f0))).trans hx344_0; replace hx344_1 := (cell_far (p := ⟨gb335, 0, none⟩) AB (.int .i64 ((aj l0 a1).f0))).trans hx344_1; replace hx344_2 := (cell_far (p := ⟨gb335, 0, none⟩) AB (.int .i64 ((aj l0 a1).f0))).trans hx344_2; replace hx344_3 := (cell_far (p := ⟨gb335, 0, none⟩) AB (.int .i64 ((aj l0 a1).f0))).trans hx344_3; replace hx344_0 := (cell_far (p := ⟨gb335, 1, none⟩) AB (.string ((aj l0 a1).f1))).trans hx344_0; replace hx344_1 := (cell_far (p := ⟨gb335, 1, none⟩) AB (.string ((aj l0 a1).f1))).trans hx344_1; replace hx344_2 := (cell_far (p := ⟨gb335, 1, none⟩) AB (.string ((aj l0 a1).f1))).trans hx344_2; replace hx344_3 := (cell_far (p := ⟨gb335, 1, none⟩) AB (.string ((aj l0 a1).f1))).trans hx344_3; replace hx344_0 := (cell_far (p := ⟨gb335, 2, none⟩) AB (.int .i64 ((aj l0 a1).f2))).trans hx344_0; replace hx344_1 := (cell_far (p := ⟨gb335, 2, none⟩) AB (.int .i64 ((aj l0 a1).f2))).trans hx344_1; replace hx344_2 := (cell_far (p := ⟨gb335, 2, none⟩) AB (.int .i64 ((aj l0 a1).f2))).trans hx344_2; replace hx344_3 := (cell_far (p := ⟨gb335, 2, none⟩) AB (.int .i64 ((aj l0 a1).f2))).trans hx344_3; replace hx344_0 := (cell_far (p := ⟨gb335, 3, none⟩) AB (.int .i64 ((aj l0 a1).f3))).trans hx344_0; replace hx344_1 := (cell_far (p := ⟨gb335, 3, none⟩) AB (.int .i64 ((aj l0 a1).f3))).trans hx344_1; replace hx344_2 := (cell_far (p := ⟨gb335, 3, none⟩) AB (.int .i64 ((aj l0 a1).f3))).trans hx344_2; replace hx344_3 := (cell_far (p := ⟨gb335, 3, none⟩) AB (.int .i64 ((aj l0 a1).f3))).trans hx344_3; clear hn344_0 hn344_1 hn344_2 hn344_3; replace p344 := eq_true p344; replace q344 := eq_true q344) | ((with_reducible refine ay (f := 197) rfl ?_); refine bq (some 69) Tryz.func197 #[.string ((aj l0 ((aj l0 a1).f2)).f1)] ?_; (with_reducible refine (iy.calls k ((aj l0 ((aj l0 a1).f2)).f1) t345 _ A42.out).mono ?_); rintro e w' ⟨rfl, ⟨nd, rfl⟩⟩; refine ⟨_, rfl, ?_⟩))
        go_ret
        exact ⟨EWW, BL⟩
       ·replace H := ifE H; rcases H with ⟨c45b0, c45b1, H⟩ | ⟨c45, c45b0, c45b1, H⟩
        ·replace H := ifN H; obtain ⟨c46b0, H⟩ := H
         replace H := ifN H; obtain ⟨c47b0, H⟩ := H
         replace H := be H; obtain ⟨t347, A48, H⟩ := H
         obtain rfl := Option.some.inj H
         try go_wp2_with (first | ((with_reducible refine aN (N := 7) rfl ?_); refine bC (N := 7) (cs := #[.int .i64 0, .string (⟨#[]⟩ : ByteArray), .int .i64 0, .int .i64 0]) (t := 141) ?_; intro gb335 hg w9000 hbox hb; have BK335 := ah.mk hbox; have GW335 := SZ (w := w) hg; have GE335 := GW335; replace HB := BS (w := w) hb; clear hb hbox hg; obtain ⟨hcz9001_0, hcz9001_1, hcz9001_2, hcz9001_3, hfz9001_0, hfz9001_1, hfz9001_2, hfz9001_3⟩ := cz4 BK335.out; have p346 : 0 ≤ (((aj l0 a1).f2) : Int) := OD; have q346 : ((aj l0 a1).f2) < (l0.length : Int) := OD; obtain ⟨ad346, e346, hx346_0, hx346_1, hx346_2, hx346_3⟩ := jh HR0.out ((aj l0 a1).f2) p346 q346; obtain rfl : ad334 = ad346 := (by injection e346); have hn346_0 : ad334.block ≠ gb335 := Nat.ne_of_lt (Nat.lt_of_lt_of_le (by have := World.block_lt_of_cell? _ _ hx346_0; first | rwa [add_block] at this | exact this) GW335.out); have hn346_1 : ad334.block ≠ gb335 := Nat.ne_of_lt (Nat.lt_of_lt_of_le (by have := World.block_lt_of_cell? _ _ hx346_0; first | rwa [add_block] at this | exact this) GW335.out); have hn346_2 : ad334.block ≠ gb335 := Nat.ne_of_lt (Nat.lt_of_lt_of_le (by have := World.block_lt_of_cell? _ _ hx346_0; first | rwa [add_block] at this | exact this) GW335.out); have hn346_3 : ad334.block ≠ gb335 := Nat.ne_of_lt (Nat.lt_of_lt_of_le (by have := World.block_lt_of_cell? _ _ hx346_0; first | rwa [add_block] at this | exact this) GW335.out); replace hx346_0 := (HB.out.cell (World.block_lt_of_cell? w _ hx346_0)).trans hx346_0; replace hx346_1 := (HB.out.cell (World.block_lt_of_cell? w _ hx346_1)).trans hx346_1; replace hx346_2 := (HB.out.cell (World.block_lt_of_cell? w _ hx346_2)).trans hx346_2; replace hx346_3 := (HB.out.cell (World.block_lt_of_cell? w _ hx346_3)).trans hx346_3; replace hx346_0 := (cell_far (p := ⟨gb335, 0, none⟩) AB (.int .i64 ((aj l0 a1).f0))).trans hx346_0; replace hx346_1 := (cell_far (p := ⟨gb335, 0, none⟩) AB (.int .i64 ((aj l0 a1).f0))).trans hx346_1; replace hx346_2 := (cell_far (p := ⟨gb335, 0, none⟩) AB (.int .i64 ((aj l0 a1).f0))).trans hx346_2; replace hx346_3 := (cell_far (p := ⟨gb335, 0, none⟩) AB (.int .i64 ((aj l0 a1).f0))).trans hx346_3; replace hx346_0 := (cell_far (p := ⟨gb335, 1, none⟩) AB (.string ((aj l0 a1).f1))).trans hx346_0; replace hx346_1 := (cell_far (p := ⟨gb335, 1, none⟩) AB (.string ((aj l0 a1).f1))).trans hx346_1; replace hx346_2 := (cell_far (p := ⟨gb335, 1, none⟩) AB (.string ((aj l0 a1).f1))).trans hx346_2; replace hx346_3 := (cell_far (p := ⟨gb335, 1, none⟩) AB (.string ((aj l0 a1).f1))).trans hx346_3; replace hx346_0 := (cell_far (p := ⟨gb335, 2, none⟩) AB (.int .i64 ((aj l0 a1).f2))).trans hx346_0; replace hx346_1 := (cell_far (p := ⟨gb335, 2, none⟩) AB (.int .i64 ((aj l0 a1).f2))).trans hx346_1; replace hx346_2 := (cell_far (p := ⟨gb335, 2, none⟩) AB (.int .i64 ((aj l0 a1).f2))).trans hx346_2; replace hx346_3 := (cell_far (p := ⟨gb335, 2, none⟩) AB (.int .i64 ((aj l0 a1).f2))).trans hx346_3; replace hx346_0 := (cell_far (p := ⟨gb335, 3, none⟩) AB (.int .i64 ((aj l0 a1).f3))).trans hx346_0; replace hx346_1 := (cell_far (p := ⟨gb335, 3, none⟩) AB (.int .i64 ((aj l0 a1).f3))).trans hx346_1; replace hx346_2 := (cell_far (p := ⟨gb335, 3, none⟩) AB (.int .i64 ((aj l0 a1).f3))).trans hx346_2; replace hx346_3 := (cell_far (p := ⟨gb335, 3, none⟩) AB (.int .i64 ((aj l0 a1).f3))).trans hx346_3; clear hn346_0 hn346_1 hn346_2 hn346_3; replace p346 := eq_true p346; replace q346 := eq_true q346) | ((with_reducible refine ay (f := 198) rfl ?_); refine bq (some 80) Tryz.func198 #[.string ((aj l0 ((aj l0 a1).f2)).f1)] ?_; (with_reducible refine (iw.calls k ((aj l0 ((aj l0 a1).f2)).f1) t347 _ A48.out).mono ?_); rintro e w' ⟨rfl, ⟨nd, rfl⟩⟩; refine ⟨_, rfl, ?_⟩))
         go_ret
         exact ⟨EWW, BL⟩
        ·replace H := ifN H; obtain ⟨c51b0, H⟩ := H
         replace H := ifN H; obtain ⟨c52b0, H⟩ := H
         replace H := be H; obtain ⟨t349, A53, H⟩ := H
         obtain rfl := Option.some.inj H
         try go_wp2_with (first | ((with_reducible refine aN (N := 7) rfl ?_); refine bC (N := 7) (cs := #[.int .i64 0, .string (⟨#[]⟩ : ByteArray), .int .i64 0, .int .i64 0]) (t := 141) ?_; intro gb335 hg w9000 hbox hb; have BK335 := ah.mk hbox; have GW335 := SZ (w := w) hg; have GE335 := GW335; replace HB := BS (w := w) hb; clear hb hbox hg; obtain ⟨hcz9001_0, hcz9001_1, hcz9001_2, hcz9001_3, hfz9001_0, hfz9001_1, hfz9001_2, hfz9001_3⟩ := cz4 BK335.out; have p348 : 0 ≤ (((aj l0 a1).f2) : Int) := OD; have q348 : ((aj l0 a1).f2) < (l0.length : Int) := OD; obtain ⟨ad348, e348, hx348_0, hx348_1, hx348_2, hx348_3⟩ := jh HR0.out ((aj l0 a1).f2) p348 q348; obtain rfl : ad334 = ad348 := (by injection e348); have hn348_0 : ad334.block ≠ gb335 := Nat.ne_of_lt (Nat.lt_of_lt_of_le (by have := World.block_lt_of_cell? _ _ hx348_0; first | rwa [add_block] at this | exact this) GW335.out); have hn348_1 : ad334.block ≠ gb335 := Nat.ne_of_lt (Nat.lt_of_lt_of_le (by have := World.block_lt_of_cell? _ _ hx348_0; first | rwa [add_block] at this | exact this) GW335.out); have hn348_2 : ad334.block ≠ gb335 := Nat.ne_of_lt (Nat.lt_of_lt_of_le (by have := World.block_lt_of_cell? _ _ hx348_0; first | rwa [add_block] at this | exact this) GW335.out); have hn348_3 : ad334.block ≠ gb335 := Nat.ne_of_lt (Nat.lt_of_lt_of_le (by have := World.block_lt_of_cell? _ _ hx348_0; first | rwa [add_block] at this | exact this) GW335.out); replace hx348_0 := (HB.out.cell (World.block_lt_of_cell? w _ hx348_0)).trans hx348_0; replace hx348_1 := (HB.out.cell (World.block_lt_of_cell? w _ hx348_1)).trans hx348_1; replace hx348_2 := (HB.out.cell (World.block_lt_of_cell? w _ hx348_2)).trans hx348_2; replace hx348_3 := (HB.out.cell (World.block_lt_of_cell? w _ hx348_3)).trans hx348_3; replace hx348_0 := (cell_far (p := ⟨gb335, 0, none⟩) AB (.int .i64 ((aj l0 a1).f0))).trans hx348_0; replace hx348_1 := (cell_far (p := ⟨gb335, 0, none⟩) AB (.int .i64 ((aj l0 a1).f0))).trans hx348_1; replace hx348_2 := (cell_far (p := ⟨gb335, 0, none⟩) AB (.int .i64 ((aj l0 a1).f0))).trans hx348_2; replace hx348_3 := (cell_far (p := ⟨gb335, 0, none⟩) AB (.int .i64 ((aj l0 a1).f0))).trans hx348_3; replace hx348_0 := (cell_far (p := ⟨gb335, 1, none⟩) AB (.string ((aj l0 a1).f1))).trans hx348_0; replace hx348_1 := (cell_far (p := ⟨gb335, 1, none⟩) AB (.string ((aj l0 a1).f1))).trans hx348_1; replace hx348_2 := (cell_far (p := ⟨gb335, 1, none⟩) AB (.string ((aj l0 a1).f1))).trans hx348_2; replace hx348_3 := (cell_far (p := ⟨gb335, 1, none⟩) AB (.string ((aj l0 a1).f1))).trans hx348_3; replace hx348_0 := (cell_far (p := ⟨gb335, 2, none⟩) AB (.int .i64 ((aj l0 a1).f2))).trans hx348_0; replace hx348_1 := (cell_far (p := ⟨gb335, 2, none⟩) AB (.int .i64 ((aj l0 a1).f2))).trans hx348_1; replace hx348_2 := (cell_far (p := ⟨gb335, 2, none⟩) AB (.int .i64 ((aj l0 a1).f2))).trans hx348_2; replace hx348_3 := (cell_far (p := ⟨gb335, 2, none⟩) AB (.int .i64 ((aj l0 a1).f2))).trans hx348_3; replace hx348_0 := (cell_far (p := ⟨gb335, 3, none⟩) AB (.int .i64 ((aj l0 a1).f3))).trans hx348_0; replace hx348_1 := (cell_far (p := ⟨gb335, 3, none⟩) AB (.int .i64 ((aj l0 a1).f3))).trans hx348_1; replace hx348_2 := (cell_far (p := ⟨gb335, 3, none⟩) AB (.int .i64 ((aj l0 a1).f3))).trans hx348_2; replace hx348_3 := (cell_far (p := ⟨gb335, 3, none⟩) AB (.int .i64 ((aj l0 a1).f3))).trans hx348_3; clear hn348_0 hn348_1 hn348_2 hn348_3; replace p348 := eq_true p348; replace q348 := eq_true q348) | ((with_reducible refine ay (f := 199) rfl ?_); refine bq (some 90) Tryz.func199 #[.string a2, .string ((aj l0 ((aj l0 a1).f2)).f1)] ?_; (with_reducible refine (cK.calls k a2 ((aj l0 ((aj l0 a1).f2)).f1) t349 _ A53.out).mono ?_); rintro e w' ⟨rfl, ⟨nd, rfl⟩⟩; refine ⟨_, rfl, ?_⟩))
         go_ret
         exact ⟨EWW, BL⟩
def ko.f (k : Nat) (l0 : List (bZ)) (a1 : ByteArray) : Option (Bool) := (cZ.f k l0).bind fun t350 => (if t350 = true then ((bH.f k a1).bind fun t351 => (if t351 = true then ((bM.f k l0 (wrap64 ((l0.length : Int) - 1)) a1).bind fun t352 => (some t352)) else (some false))) else (some false))
theorem ko.calls (k : Nat) (A0 : Option Addr) (c0 : Nat) (l0 : List (bZ)) (a1 : ByteArray) (r : Bool) (w : World) (hr0 : Kd.C je w A0 l0.length l0) (hc0 : l0.length ≤ c0) (h : ko.f k l0 a1 = some r) :
  Calls Tryz.prog 104 #[.slice A0 l0.length c0, .string a1] w fun e w' => e = .returned (.bool r) ∧ Below w.heap.size w w' := by
 have HR0 := ah.mk hr0
 have HC0 := ah.mk hc0
 clear hr0 hc0
 have HB := ah.mk (Below.refl w.heap.size w)
 unfold ko.f at h
 have H := h
 clear h
 replace H := be H; obtain ⟨t350, A3, H⟩ := H
 replace H := ah.mk H
 go_enter Tryz.func104, Tryz.ntmps104
 go_wp2_with (first | ((with_reducible refine ay (f := 158) rfl ?_); refine bq (some 6) Tryz.func158 #[.slice A0 l0.length c0] ?_; (with_reducible refine (cZ.calls k _ _ l0 _ _ ?side1 ?side2 A3.out).mono ?_); (case side1 => repeat (first | exact HR0.out | (with_reducible refine Kd.eG ?_ _) | (with_reducible refine Kd.eH ?_ _) | (with_reducible refine Kd.fP ?_))); (case side2 => exact HC0.out); rintro e w9000 ⟨rfl, hb⟩; refine ⟨_, rfl, ?_⟩; replace HB := BS (w := w) hb; (try clear hb); refine bP ?_))
 refine Hide.mk ?_
 replace H := H.out
 replace H := ifB H; rcases H with ⟨rfl, H⟩ | ⟨rfl, H⟩
 ·replace H := be H; obtain ⟨t351, A5, H⟩ := H
  replace H := ah.mk H
  go_wp2_with (first | (go_at_call 140; (with_reducible refine (bH.calls k a1 _ _ A5.out).mono ?_); rintro e w' ⟨rfl, ⟨nd, rfl⟩⟩; refine bP ?_))
  refine Hide.mk ?_
  replace H := H.out
  replace H := ifB H; rcases H with ⟨rfl, H⟩ | ⟨rfl, H⟩
  ·replace H := be H; obtain ⟨t352, A7, H⟩ := H
   obtain rfl := Option.some.inj H
   try go_wp2_with (first | (go_at_call 159; (with_reducible refine (bM.calls k _ _ l0 (wrap64 ((l0.length : Int) - 1)) a1 t352 _ ?side1 ?side2 A7.out).mono ?_); (case side1 => repeat (first | exact (Kd.gP HR0.out BL) | (with_reducible refine Kd.eG ?_ _) | (with_reducible refine Kd.eH ?_ _) | (with_reducible refine Kd.fP ?_))); (case side2 => exact HC0.out); rintro e w9001 ⟨rfl, hb⟩; replace HB := BS (w := w) hb; (try clear hb)))
   go_ret
   exact ⟨EWW, BL⟩
  ·obtain rfl := Option.some.inj H
   try go_wp2
   go_ret
   exact ⟨EWW, BL⟩
 ·obtain rfl := Option.some.inj H
  try go_wp2
  go_ret
  exact ⟨EWW, BL⟩
def dU.l0 : Nat → List (bZ) → List ByteArray → Int → Option (List ByteArray)
 | 0, _, _, _ => none
 | k + 1, a, b, c => if c < (a.length : Int) then (if 0 ≤ c then (if ((aj a c).f0) = 1 then (if b.length < 8796093022208 then (dU.l0 k a (b ++ [(aj a c).f1]) (wrap64 (c + 1))) else (none)) else (dU.l0 k a b (wrap64 (c + 1)))) else (none)) else (some b)
def dU.f (k : Nat) (l0 : List (bZ)) : Option (List ByteArray) := dU.l0 k l0 (([] : List ByteArray)) 0
theorem dU.calls (k : Nat) (A0 : Option Addr) (c0 : Nat) (l0 : List (bZ)) (r : List ByteArray) (w : World) (hr0 : Kd.C je w A0 l0.length l0) (hc0 : l0.length ≤ c0) (h : dU.f k l0 = some r) :
  Calls Tryz.prog 105 #[.slice A0 l0.length c0] w fun e w' => ∃ v0_ : Value, e = .returned (v0_) ∧ Kd.R Kd.string 9 w' w.heap.size (fun _ => True) v0_ r ∧ Below w.heap.size w w' := by
 have HR0 := ah.mk hr0
 have HC0 := ah.mk hc0
 clear hr0 hc0
 have HB := ah.mk (Below.refl w.heap.size w)
 unfold dU.f at h
 have H := h
 clear h
 obtain ⟨y353, hy353⟩ : ∃ y_ : List ByteArray, y_ = (([] : List ByteArray)) := ⟨_, rfl⟩
 replace H : (dU.l0 k l0 y353 0) = some r := by first | (rw [hy353]; with_reducible exact H) | (have H2_ := (Option.bind_some _ _).symm.trans H; rw [hy353]; with_reducible exact H2_) | (have H2_ := (Option.bind_some _ _).symm.trans H; with_reducible exact H2_) | with_reducible exact H | (rw [hy353]; exact H) | exact H
 have Ny353 := ah.mk hy353
 clear hy353
 have H' := ah.mk H
 clear H
 go_enter Tryz.func105, Tryz.ntmps105
 go_wp2_with (first | ((with_reducible refine aN (N := 5) rfl ?_); refine Kd.oq Kd.string _ 9 ?hg (N := 5) ?hd (xs := ([] : List ByteArray)) (inner := []) (ok := fun _ => True) (okp := fun _ => True) ?hr ?hp (fun _ hk => hk) trivial (Below.refl _ _) (Nat.le_refl _) (by simp) ?_; (case hd => rfl); (case hg => rfl); (case hr => first | (go_simp; done) | (go_simp; rfl)); (case hp => exact (gD.none _ _)); intro v354 w2 ho3 hb hg_ hnew_; clear hg_ hnew_; (first | rw [← Ny353.out] at ho3 | (simp only [Int.reduceToNat] at ho3; rw [← Ny353.out] at ho3)); have n0_ := ah.mk (Kd.cO ho3 (aQ BL)); replace HB := BS (w := w) hb; have HO355 := n0_; clear n0_; clear hb ho3))
 go_loopg [3, 4] k (fun kq v3 v4 w' => ∃ (x3_1 : List ByteArray) (x4_1 : Int), v4 = .int .i64 x4_1 ∧ ah (dU.l0 kq l0 x3_1 x4_1 = some r) ∧ ah (kq ≤ k) ∧ ah (Kd.R Kd.string 9 w' w.heap.size (fun _ => True) v3 x3_1) ∧ ah (Below w.heap.size w w'))
 case atStart => exact ⟨(y353), (0), EQ, H', ⟨Nat.le_refl _⟩, ⟨(RR HO355)⟩, ⟨BL⟩⟩
 case round =>
  clear H'
  obtain ⟨x3_1, x4_1, rfl, HA, HK1, HO_3, HB⟩ := hrel
  cases gk with
  | zero => exact absurd HA.out (by simp [dU.l0])
  | succ k1 =>
   have H := HA.out
   clear HA
   simp only [dU.l0] at H
   replace H := ifD H; rcases H with ⟨c4b0, H⟩ | ⟨c4b0, H⟩
   ·replace H := ifN H; obtain ⟨c5b0, H⟩ := H
    have p356 : 0 ≤ (x4_1 : Int) := OD
    have q356 : x4_1 < (l0.length : Int) := OD
    obtain ⟨ad356, e356, hx356_0, hx356_1, hx356_2, hx356_3⟩ := jh HR0.out x4_1 p356 q356
    cases e356
    try replace hx356_0 := (HB.out.cell (World.block_lt_of_cell? w _ hx356_0)).trans hx356_0
    try replace hx356_1 := (HB.out.cell (World.block_lt_of_cell? w _ hx356_1)).trans hx356_1
    try replace hx356_2 := (HB.out.cell (World.block_lt_of_cell? w _ hx356_2)).trans hx356_2
    try replace hx356_3 := (HB.out.cell (World.block_lt_of_cell? w _ hx356_3)).trans hx356_3
    replace p356 := eq_true p356
    replace q356 := eq_true q356
    replace H := ifE H; rcases H with ⟨c6b0, c6b1, H⟩ | ⟨c6, c6b0, c6b1, H⟩
    ·replace H := ifP H; obtain ⟨c7, H⟩ := H
     have LMc7 := ah.mk c7
     clear c7
     obtain ⟨y358, hy358⟩ : ∃ y_ : List ByteArray, y_ = (x3_1 ++ [(aj l0 x4_1).f1]) := ⟨_, rfl⟩
     replace H : (dU.l0 k1 l0 y358 (wrap64 (x4_1 + 1))) = some r := by first | (rw [hy358]; with_reducible exact H) | (have H2_ := (Option.bind_some _ _).symm.trans H; rw [hy358]; with_reducible exact H2_) | (have H2_ := (Option.bind_some _ _).symm.trans H; with_reducible exact H2_) | with_reducible exact H | (rw [hy358]; exact H) | exact H
     have Ny358 := ah.mk hy358
     clear hy358
     have H' := ah.mk H
     clear H
     have p357 : 0 ≤ (x4_1 : Int) := OD
     have q357 : x4_1 < (l0.length : Int) := OD
     obtain ⟨ad357, e357, hx357_0, hx357_1, hx357_2, hx357_3⟩ := jh HR0.out x4_1 p357 q357
     obtain rfl : ad356 = ad357 := (by injection e357)
     try replace hx357_0 := (HB.out.cell (World.block_lt_of_cell? w _ hx357_0)).trans hx357_0
     try replace hx357_1 := (HB.out.cell (World.block_lt_of_cell? w _ hx357_1)).trans hx357_1
     try replace hx357_2 := (HB.out.cell (World.block_lt_of_cell? w _ hx357_2)).trans hx357_2
     try replace hx357_3 := (HB.out.cell (World.block_lt_of_cell? w _ hx357_3)).trans hx357_3
     replace p357 := eq_true p357
     replace q357 := eq_true q357
     go_wp2_with (first | ((with_reducible refine dn (b := .append) (xs := #[.tmp 18, .tmp 24]) rfl ?_); at_builtin; refine Kd.fT Kd.string (w0 := w) w.heap.size rfl (.tmp 18) (.tmp 24) 26 9 (.string ⟨#[]⟩) 16 rfl Tryz.underlying26 qX rfl (by decide) (by omega) u3 x3_1 ((aj l0 x4_1).f1) [.string ((aj l0 x4_1).f1)] (fun _ => True) (fun _ => False) rfl rfl ?aP (fun _ hk => hk.elim) ?aF ?aO ?aB ?aS ?aL ?_; (case aP => exact rfl); (case aB => exact BL); (case aF => exact (fun _ _ => trivial)); (case aO => exact (RR HO_3)); (case aS => exact (aQ BL)); (case aL => have := LMc7.out; omega); intro v359 w7000 ho hb hg hat; rw [← Ny358.out] at ho; have n0_ := ah.mk (hb); have n1_ := ah.mk (ho); clear HB HO_3; have HB := n0_; have HO360 := n1_; clear n0_ n1_; clear ho hb hg hat))
     go_roundg k1
     case measure => have := HK1.out; omega
     case rel => exact ⟨(y358), (wrap64 (x4_1 + 1)), EQ, H', ⟨by have := HK1.out; omega⟩, ⟨(RR HO360)⟩, ⟨BL⟩⟩
    ·have H' := ah.mk H
     clear H
     go_wp2
     go_roundg k1
     case measure => have := HK1.out; omega
     case rel => exact ⟨(x3_1), (wrap64 (x4_1 + 1)), EQ, H', ⟨by have := HK1.out; omega⟩, ⟨(RR HO_3)⟩, ⟨BL⟩⟩
   ·obtain rfl := Option.some.inj H
    go_wp2
    go_ret
    exact ⟨_, EWW, (RR HO_3), BL⟩
def iR.f (k : Nat) (EU : Int) (E8 : List (bZ)) (l1 : List (S84)) (a2 : ByteArray) : Option (Bool) := (jG.f k EU E8).bind fun t362 => (if t362 = true then ((dY.f k l1 a2 EU).bind fun t363 => (if t363 = true then ((ko.f k E8 a2).bind fun t364 => (some t364)) else (some false))) else (some false))
theorem iR.calls (k : Nat) (EU : Int) (A0_1 : Option Addr) (c0_1 : Nat) (E8 : List (bZ)) (A1 : Option Addr) (c1 : Nat) (l1 : List (S84)) (a2 : ByteArray) (r : Bool) (w : World) (hr0_1 : Kd.C je w A0_1 E8.length E8) (hc0_1 : E8.length ≤ c0_1) (hr1 : Kd.C k84 w A1 l1.length l1) (hc1 : l1.length ≤ c1) (h : iR.f k EU E8 l1 a2 = some r) :
  Calls Tryz.prog 160 #[.agg #[.int .i64 EU, .slice A0_1 E8.length c0_1], .slice A1 l1.length c1, .string a2] w fun e w' => e = .returned (.bool r) ∧ Below w.heap.size w w' := by
 have hu82 := Tryz.underlying82
 have HR0_1 := ah.mk hr0_1
 have HC0_1 := ah.mk hc0_1
 clear hr0_1 hc0_1
 have HR1 := ah.mk hr1
 have HC1 := ah.mk hc1
 clear hr1 hc1
 have HB := ah.mk (Below.refl w.heap.size w)
 unfold iR.f at h
 have H := h
 clear h
 replace H := be H; obtain ⟨t362, A4, H⟩ := H
 replace H := ah.mk H
 go_enter Tryz.func160, Tryz.ntmps160
 go_wp2_with (first | ((with_reducible refine aN (N := 3) rfl ?_); refine bC (N := 3) (cs := #[.int .i64 EU, .slice A0_1 E8.length c0_1]) (t := 82) ?_; intro gb361 hg w9000 hbox hb; have BK361 := ah.mk hbox; have GW361 := SZ (w := w) hg; have GE361 := GW361; replace HB := BS (w := w) hb; clear hb hbox hg; obtain ⟨hcz9001_0, hcz9001_1, hfz9001_0, hfz9001_1⟩ := cz2 BK361.out) | ((with_reducible refine ay (f := 102) rfl ?_); refine bq (some 8) Tryz.func102 #[.agg #[.int .i64 EU, .slice A0_1 E8.length c0_1]] ?_; (with_reducible refine (jG.calls k EU _ _ E8 _ _ ?side1 ?side2 A4.out).mono ?_); (case side1 => exact CB HR0_1); (case side2 => exact HC0_1.out); rintro e w9002 ⟨rfl, hb⟩; refine ⟨_, rfl, ?_⟩; replace BK361 := KB BK361 hb; replace HB := BS (w := w) hb; (try clear hb); obtain ⟨hcz9003_0, hcz9003_1, hfz9003_0, hfz9003_1⟩ := cz2 BK361.out; refine bP ?_))
 refine Hide.mk ?_
 replace H := H.out
 replace H := ifB H; rcases H with ⟨rfl, H⟩ | ⟨rfl, H⟩
 ·replace H := be H; obtain ⟨t363, A6, H⟩ := H
  replace H := ah.mk H
  go_wp2_with (first | (go_at_call 103; (with_reducible refine (dY.calls k _ _ l1 a2 EU _ _ ?side1 ?side2 A6.out).mono ?_); (case side1 => exact CB HR1); (case side2 => exact HC1.out); rintro e w' ⟨rfl, ⟨nd, rfl⟩⟩; refine bP ?_))
  refine Hide.mk ?_
  replace H := H.out
  replace H := ifB H; rcases H with ⟨rfl, H⟩ | ⟨rfl, H⟩
  ·replace H := be H; obtain ⟨t364, A8, H⟩ := H
   obtain rfl := Option.some.inj H
   try go_wp2_with (first | (go_at_call 104; (with_reducible refine (ko.calls k _ _ E8 a2 t364 _ ?side1 ?side2 A8.out).mono ?_); (case side1 => repeat (first | exact (Kd.gP HR0_1.out BL) | (with_reducible refine Kd.eG ?_ _) | (with_reducible refine Kd.eH ?_ _) | (with_reducible refine Kd.fP ?_))); (case side2 => exact HC0_1.out); rintro e w9004 ⟨rfl, hb⟩; replace BK361 := KB BK361 hb; replace HB := BS (w := w) hb; (try clear hb)))
   go_ret
   exact ⟨EWW, BL⟩
  ·obtain rfl := Option.some.inj H
   try go_wp2
   go_ret
   exact ⟨EWW, BL⟩
 ·obtain rfl := Option.some.inj H
  try go_wp2
  go_ret
  exact ⟨EWW, BL⟩
end Go.Proofs.YtnfiedfaaaphoaaGreat.PFnExactPuzzleCode
