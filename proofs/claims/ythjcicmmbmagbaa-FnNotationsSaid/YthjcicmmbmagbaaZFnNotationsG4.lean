/- Walks of functions: what each computes. -/
import Derived.Test.YthjcicmmbmagbaaZFnNotationsG0
import Derived.Test.YthjcicmmbmagbaaZFnNotationsG1
import Derived.Test.YthjcicmmbmagbaaZFnNotationsG2
import Derived.Test.YthjcicmmbmagbaaZFnNotationsG3
import Derived.Test.YthjcicmmbmagbaaZFnNotationsW
import Derived.Test.YthjcicmmbmagbaaZFnNotationsShelf
import Derived.Test.YthjcicmmbmagbaaZFnNotationsHandSort
import Derived.Test.YthjcicmmbmagbaaZFnNotationsHandForm
import Derived.Test.YthjcicmmbmagbaaZFnNotationsHandAlone
import Derived.Test.YthjcicmmbmagbaaZFnNotationsHandRead
namespace Go.Proofs.Ythjcicmmbmagbaa.PFnNotations
open Go.RowKit Go.Proofs.YthjcicmmbmagbaaW.PrintWords Go.Proofs.YthjcicmmbmagbaaW.PrintLast Go.Proofs.YthjcicmmbmagbaaW.PrintMore Go.Proofs.Ythjcicmmbmagbaa.Sq
attribute [local go_sem] jY jI lY lI jB jq jJ jW
set_option maxHeartbeats 8000000
set_option maxRecDepth 100000
set_option linter.unusedVariables false
set_option linter.unusedSimpArgs false
def bP.f : Nat → List (bq) → Int → Option (ByteArray)
 | 0, _, _ => none
 | k + 1, a, b => if 0 ≤ b then (if b < (a.length : Int) then (if ((ah a b).f0) = 1 then (some ((ah a b).f1)) else (if 0 ≤ ((ah a b).f0) then (if ((ah a b).f0) ≤ (wrap64 (((ah a b).f0) + 1)) then (if (wrap64 (((ah a b).f0) + 1)) ≤ 10 then (if ((⟨#[32, 32, 98, 109, 106, 105, 104, 110, 116, 100]⟩ : ByteArray).extract (((ah a b).f0) : Int).toNat ((wrap64 (((ah a b).f0) + 1)) : Int).toNat).size + 1 ≤ 9223372036854775807 then ((bP.f k a ((ah a b).f2)).bind fun c => (if (((⟨#[32, 32, 98, 109, 106, 105, 104, 110, 116, 100]⟩ : ByteArray).extract (((ah a b).f0) : Int).toNat ((wrap64 (((ah a b).f0) + 1)) : Int).toNat) ++ (⟨#[40]⟩ : ByteArray)).size + c.size ≤ 9223372036854775807 then (if ((ah a b).f0) = 4 then (if ((((⟨#[32, 32, 98, 109, 106, 105, 104, 110, 116, 100]⟩ : ByteArray).extract (((ah a b).f0) : Int).toNat ((wrap64 (((ah a b).f0) + 1)) : Int).toNat) ++ (⟨#[40]⟩ : ByteArray)) ++ c).size + 1 ≤ 9223372036854775807 then ((bP.f k a ((ah a b).f3)).bind fun d => (if (((((⟨#[32, 32, 98, 109, 106, 105, 104, 110, 116, 100]⟩ : ByteArray).extract (((ah a b).f0) : Int).toNat ((wrap64 (((ah a b).f0) + 1)) : Int).toNat) ++ (⟨#[40]⟩ : ByteArray)) ++ c) ++ (⟨#[44]⟩ : ByteArray)).size + d.size ≤ 9223372036854775807 then (if ((((((⟨#[32, 32, 98, 109, 106, 105, 104, 110, 116, 100]⟩ : ByteArray).extract (((ah a b).f0) : Int).toNat ((wrap64 (((ah a b).f0) + 1)) : Int).toNat) ++ (⟨#[40]⟩ : ByteArray)) ++ c) ++ (⟨#[44]⟩ : ByteArray)) ++ d).size + 1 ≤ 9223372036854775807 then (some (((((((⟨#[32, 32, 98, 109, 106, 105, 104, 110, 116, 100]⟩ : ByteArray).extract (((ah a b).f0) : Int).toNat ((wrap64 (((ah a b).f0) + 1)) : Int).toNat) ++ (⟨#[40]⟩ : ByteArray)) ++ c) ++ (⟨#[44]⟩ : ByteArray)) ++ d) ++ (⟨#[41]⟩ : ByteArray))) else (none)) else (none))) else (none)) else (if ((ah a b).f0) = 5 then (if ((((⟨#[32, 32, 98, 109, 106, 105, 104, 110, 116, 100]⟩ : ByteArray).extract (((ah a b).f0) : Int).toNat ((wrap64 (((ah a b).f0) + 1)) : Int).toNat) ++ (⟨#[40]⟩ : ByteArray)) ++ c).size + 1 ≤ 9223372036854775807 then ((bP.f k a ((ah a b).f3)).bind fun e => (if (((((⟨#[32, 32, 98, 109, 106, 105, 104, 110, 116, 100]⟩ : ByteArray).extract (((ah a b).f0) : Int).toNat ((wrap64 (((ah a b).f0) + 1)) : Int).toNat) ++ (⟨#[40]⟩ : ByteArray)) ++ c) ++ (⟨#[44]⟩ : ByteArray)).size + e.size ≤ 9223372036854775807 then (if ((((((⟨#[32, 32, 98, 109, 106, 105, 104, 110, 116, 100]⟩ : ByteArray).extract (((ah a b).f0) : Int).toNat ((wrap64 (((ah a b).f0) + 1)) : Int).toNat) ++ (⟨#[40]⟩ : ByteArray)) ++ c) ++ (⟨#[44]⟩ : ByteArray)) ++ e).size + 1 ≤ 9223372036854775807 then (some (((((((⟨#[32, 32, 98, 109, 106, 105, 104, 110, 116, 100]⟩ : ByteArray).extract (((ah a b).f0) : Int).toNat ((wrap64 (((ah a b).f0) + 1)) : Int).toNat) ++ (⟨#[40]⟩ : ByteArray)) ++ c) ++ (⟨#[44]⟩ : ByteArray)) ++ e) ++ (⟨#[41]⟩ : ByteArray))) else (none)) else (none))) else (none)) else (if ((((⟨#[32, 32, 98, 109, 106, 105, 104, 110, 116, 100]⟩ : ByteArray).extract (((ah a b).f0) : Int).toNat ((wrap64 (((ah a b).f0) + 1)) : Int).toNat) ++ (⟨#[40]⟩ : ByteArray)) ++ c).size + 1 ≤ 9223372036854775807 then (some (((((⟨#[32, 32, 98, 109, 106, 105, 104, 110, 116, 100]⟩ : ByteArray).extract (((ah a b).f0) : Int).toNat ((wrap64 (((ah a b).f0) + 1)) : Int).toNat) ++ (⟨#[40]⟩ : ByteArray)) ++ c) ++ (⟨#[41]⟩ : ByteArray))) else (none)))) else (none))) else (none)) else (none)) else (none)) else (none))) else (none)) else (none)
def bP.T4 : Bool × List (List Nat × List Nat) := (true, [([], []), ([0], [0]), ([], []), ([2], [2]), ([3], [3]), ([1, 4], [1, 4]), ([5], [5]), ([], []), ([], []), ([8], [8]), ([7, 9], [7, 9]), ([6, 10], [6, 10]), ([11, 10, 0, 1, 2, 3, 4, 5, 6, 7, 8, 9, 10, 11], [11])])
def bP.B4 : List Nat := [0, 1, 0, 4, 12, 31, 63, 0, 0, 256, 896, 2047, 4095]
theorem bP.wE : iE .any (opsOf Try.f127 4) = bP.T4 := by kernel_rfl
theorem bP.vK : iy bP.T4.2 bP.B4 = true := by kernel_rfl
theorem bP.calls (k : Nat) : ∀ (A0 : Option Addr) (c0 : Nat) (l0 : List (bq)) (a1 : Int) (r : ByteArray) (w : World) (hr0 : Kd.C eY w A0 l0.length l0) (hc0 : l0.length ≤ c0) (h : bP.f k l0 a1 = some r),
  Calls Try.prog 127 #[.slice A0 l0.length c0, .int .i64 a1] w fun e w' => e = .returned (.string r) ∧ Below w.heap.size w w' := by
 induction k using Nat.strongRecOn with
 | _ k ih =>
 intro A0 c0 l0 a1 r w hr0 hc0 h
 cases k with
 | zero => exact absurd h (by simp [bP.f])
 | succ k =>
 simp only [bP.f] at h
 have hu110 := Try.underlying110
 have HR0 := aj.mk hr0
 have HC0 := aj.mk hc0
 clear hr0 hc0
 have HB := aj.mk (Below.refl w.heap.size w)
 have H : (if 0 ≤ a1 then (if a1 < (l0.length : Int) then (if ((ah l0 a1).f0) = 1 then (some ((ah l0 a1).f1)) else (if 0 ≤ ((ah l0 a1).f0) then (if ((ah l0 a1).f0) ≤ (wrap64 (((ah l0 a1).f0) + 1)) then (if (wrap64 (((ah l0 a1).f0) + 1)) ≤ 10 then (if ((⟨#[32, 32, 98, 109, 106, 105, 104, 110, 116, 100]⟩ : ByteArray).extract (((ah l0 a1).f0) : Int).toNat ((wrap64 (((ah l0 a1).f0) + 1)) : Int).toNat).size + 1 ≤ 9223372036854775807 then ((bP.f k l0 ((ah l0 a1).f2)).bind fun t335 => (if (((⟨#[32, 32, 98, 109, 106, 105, 104, 110, 116, 100]⟩ : ByteArray).extract (((ah l0 a1).f0) : Int).toNat ((wrap64 (((ah l0 a1).f0) + 1)) : Int).toNat) ++ (⟨#[40]⟩ : ByteArray)).size + t335.size ≤ 9223372036854775807 then (if ((ah l0 a1).f0) = 4 then (if ((((⟨#[32, 32, 98, 109, 106, 105, 104, 110, 116, 100]⟩ : ByteArray).extract (((ah l0 a1).f0) : Int).toNat ((wrap64 (((ah l0 a1).f0) + 1)) : Int).toNat) ++ (⟨#[40]⟩ : ByteArray)) ++ t335).size + 1 ≤ 9223372036854775807 then ((bP.f k l0 ((ah l0 a1).f3)).bind fun t336 => (if (((((⟨#[32, 32, 98, 109, 106, 105, 104, 110, 116, 100]⟩ : ByteArray).extract (((ah l0 a1).f0) : Int).toNat ((wrap64 (((ah l0 a1).f0) + 1)) : Int).toNat) ++ (⟨#[40]⟩ : ByteArray)) ++ t335) ++ (⟨#[44]⟩ : ByteArray)).size + t336.size ≤ 9223372036854775807 then (if ((((((⟨#[32, 32, 98, 109, 106, 105, 104, 110, 116, 100]⟩ : ByteArray).extract (((ah l0 a1).f0) : Int).toNat ((wrap64 (((ah l0 a1).f0) + 1)) : Int).toNat) ++ (⟨#[40]⟩ : ByteArray)) ++ t335) ++ (⟨#[44]⟩ : ByteArray)) ++ t336).size + 1 ≤ 9223372036854775807 then (some (((((((⟨#[32, 32, 98, 109, 106, 105, 104, 110, 116, 100]⟩ : ByteArray).extract (((ah l0 a1).f0) : Int).toNat ((wrap64 (((ah l0 a1).f0) + 1)) : Int).toNat) ++ (⟨#[40]⟩ : ByteArray)) ++ t335) ++ (⟨#[44]⟩ : ByteArray)) ++ t336) ++ (⟨#[41]⟩ : ByteArray))) else (none)) else (none))) else (none)) else (if ((ah l0 a1).f0) = 5 then (if ((((⟨#[32, 32, 98, 109, 106, 105, 104, 110, 116, 100]⟩ : ByteArray).extract (((ah l0 a1).f0) : Int).toNat ((wrap64 (((ah l0 a1).f0) + 1)) : Int).toNat) ++ (⟨#[40]⟩ : ByteArray)) ++ t335).size + 1 ≤ 9223372036854775807 then ((bP.f k l0 ((ah l0 a1).f3)).bind fun t337 => (if (((((⟨#[32, 32, 98, 109, 106, 105, 104, 110, 116, 100]⟩ : ByteArray).extract (((ah l0 a1).f0) : Int).toNat ((wrap64 (((ah l0 a1).f0) + 1)) : Int).toNat) ++ (⟨#[40]⟩ : ByteArray)) ++ t335) ++ (⟨#[44]⟩ : ByteArray)).size + t337.size ≤ 9223372036854775807 then (if ((((((⟨#[32, 32, 98, 109, 106, 105, 104, 110, 116, 100]⟩ : ByteArray).extract (((ah l0 a1).f0) : Int).toNat ((wrap64 (((ah l0 a1).f0) + 1)) : Int).toNat) ++ (⟨#[40]⟩ : ByteArray)) ++ t335) ++ (⟨#[44]⟩ : ByteArray)) ++ t337).size + 1 ≤ 9223372036854775807 then (some (((((((⟨#[32, 32, 98, 109, 106, 105, 104, 110, 116, 100]⟩ : ByteArray).extract (((ah l0 a1).f0) : Int).toNat ((wrap64 (((ah l0 a1).f0) + 1)) : Int).toNat) ++ (⟨#[40]⟩ : ByteArray)) ++ t335) ++ (⟨#[44]⟩ : ByteArray)) ++ t337) ++ (⟨#[41]⟩ : ByteArray))) else (none)) else (none))) else (none)) else (if ((((⟨#[32, 32, 98, 109, 106, 105, 104, 110, 116, 100]⟩ : ByteArray).extract (((ah l0 a1).f0) : Int).toNat ((wrap64 (((ah l0 a1).f0) + 1)) : Int).toNat) ++ (⟨#[40]⟩ : ByteArray)) ++ t335).size + 1 ≤ 9223372036854775807 then (some (((((⟨#[32, 32, 98, 109, 106, 105, 104, 110, 116, 100]⟩ : ByteArray).extract (((ah l0 a1).f0) : Int).toNat ((wrap64 (((ah l0 a1).f0) + 1)) : Int).toNat) ++ (⟨#[40]⟩ : ByteArray)) ++ t335) ++ (⟨#[41]⟩ : ByteArray))) else (none)))) else (none))) else (none)) else (none)) else (none)) else (none))) else (none)) else (none)) = some r := h
 clear h
 replace H := ifN H; obtain ⟨c3b0, H⟩ := H
 replace H := ifN H; obtain ⟨c4b0, H⟩ := H
 have p333 : 0 ≤ (a1 : Int) := OD
 have q333 : a1 < (l0.length : Int) := OD
 obtain ⟨ad333, e333, hx333_0, hx333_1, hx333_2, hx333_3⟩ := fK HR0.out a1 p333 q333
 cases e333
 replace p333 := eq_true p333
 replace q333 := eq_true q333
 replace H := aj.mk H
 go_enter Try.func127, Try.ntmps127
 go_wp2_with (first | ((with_reducible refine dz (N := 5) rfl ?_); refine gV (N := 5) (cs := #[.int .i64 0, .string (⟨#[]⟩ : ByteArray), .int .i64 0, .int .i64 0]) (t := 110) ?_; intro gb334 hg w9000 hbox hb; have BK334 := aj.mk hbox; have GW334 := SZ (w := w) hg; have GE334 := GW334; replace HB := BS (w := w) hb; clear hb hbox hg; obtain ⟨hcz9001_0, hcz9001_1, hcz9001_2, hcz9001_3, hfz9001_0, hfz9001_1, hfz9001_2, hfz9001_3⟩ := cz4 BK334.out; refine eU ?_))
 refine Hide.mk ?_
 replace H := H.out
 replace H := ifE H; rcases H with ⟨c5b0, c5b1, H⟩ | ⟨c5, c5b0, c5b1, H⟩
 ·obtain rfl := Option.some.inj H
  try go_wp2
  go_ret
  exact ⟨EWW, BL⟩
 ·replace H := ifP H; obtain ⟨c8, H⟩ := H
  have c8b0 := eq_true c8
  have c8b1 : decide (0 ≤ ((ah l0 a1).f0)) = true := decide_eq_true c8
  clear c8
  replace H := ifP H; obtain ⟨c9, H⟩ := H
  have c9b0 := eq_true c9
  have c9b1 : decide (((ah l0 a1).f0) ≤ (wrap64 (((ah l0 a1).f0) + 1))) = true := decide_eq_true c9
  replace H := ifP H; obtain ⟨c10, H⟩ := H
  have c10b0 := eq_true c10
  have c10b1 : decide ((wrap64 (((ah l0 a1).f0) + 1)) ≤ 10) = true := decide_eq_true c10
  replace H := ifP H; obtain ⟨c11, H⟩ := H
  have c11b0 := eq_true c11
  have c11b1 : decide (((⟨#[32, 32, 98, 109, 106, 105, 104, 110, 116, 100]⟩ : ByteArray).extract (((ah l0 a1).f0) : Int).toNat ((wrap64 (((ah l0 a1).f0) + 1)) : Int).toNat).size + 1 ≤ 9223372036854775807) = true := decide_eq_true c11
  have c11z : (9223372036854775807 < (wrap64 ((ah l0 a1).f0 + 1)).toNat - ((ah l0 a1).f0).toNat + 1) = False := eq_false (by have hz_ : wrap64 ((ah l0 a1).f0 + 1) ≤ 10 := OD; have hs_ : ((⟨#[32, 32, 98, 109, 106, 105, 104, 110, 116, 100]⟩ : ByteArray).extract (((ah l0 a1).f0) : Int).toNat ((wrap64 (((ah l0 a1).f0) + 1)) : Int).toNat).size = (wrap64 ((ah l0 a1).f0 + 1)).toNat - ((ah l0 a1).f0).toNat := (by rw [ByteArray.size_extract]; show min _ 10 - _ = _; omega); have h_ := of_decide_eq_true c11b1; have e1_ : (⟨#[40]⟩ : ByteArray).size = 1 := rfl; have e2_ : (⟨#[44]⟩ : ByteArray).size = 1 := rfl; simp only [ByteArray.size_append, hs_] at h_; omega)
  try have c11b2 : (9223372036854775807 < ((⟨#[32, 32, 98, 109, 106, 105, 104, 110, 116, 100]⟩ : ByteArray).extract (((ah l0 a1).f0) : Int).toNat ((wrap64 (((ah l0 a1).f0) + 1)) : Int).toNat).size + 1) = False := eq_false (Nat.not_lt.2 c11)
  replace H := be H; obtain ⟨t335, A12, H⟩ := H
  replace H := ifP H; obtain ⟨c13, H⟩ := H
  have c13b0 := eq_true c13
  have c13b1 : decide ((((⟨#[32, 32, 98, 109, 106, 105, 104, 110, 116, 100]⟩ : ByteArray).extract (((ah l0 a1).f0) : Int).toNat ((wrap64 (((ah l0 a1).f0) + 1)) : Int).toNat) ++ (⟨#[40]⟩ : ByteArray)).size + t335.size ≤ 9223372036854775807) = true := decide_eq_true c13
  have c13z : (9223372036854775807 < (wrap64 ((ah l0 a1).f0 + 1)).toNat - ((ah l0 a1).f0).toNat + 1 + t335.size) = False := eq_false (by have hz_ : wrap64 ((ah l0 a1).f0 + 1) ≤ 10 := OD; have hs_ : ((⟨#[32, 32, 98, 109, 106, 105, 104, 110, 116, 100]⟩ : ByteArray).extract (((ah l0 a1).f0) : Int).toNat ((wrap64 (((ah l0 a1).f0) + 1)) : Int).toNat).size = (wrap64 ((ah l0 a1).f0 + 1)).toNat - ((ah l0 a1).f0).toNat := (by rw [ByteArray.size_extract]; show min _ 10 - _ = _; omega); have h_ := of_decide_eq_true c13b1; have e1_ : (⟨#[40]⟩ : ByteArray).size = 1 := rfl; have e2_ : (⟨#[44]⟩ : ByteArray).size = 1 := rfl; simp only [ByteArray.size_append, hs_] at h_; omega)
  try have c13b2 : (9223372036854775807 < (((⟨#[32, 32, 98, 109, 106, 105, 104, 110, 116, 100]⟩ : ByteArray).extract (((ah l0 a1).f0) : Int).toNat ((wrap64 (((ah l0 a1).f0) + 1)) : Int).toNat) ++ (⟨#[40]⟩ : ByteArray)).size + t335.size) = False := eq_false (Nat.not_lt.2 c13)
  replace H := aj.mk H
  try go_wp2
  have n0_ : aj (((((w9000.setCell ⟨gb334, 0, none⟩ (.int .i64 ((ah l0 a1).f0))).setCell ⟨gb334, 1, none⟩ (.string ((ah l0 a1).f1))).setCell ⟨gb334, 2, none⟩ (.int .i64 ((ah l0 a1).f2))).setCell ⟨gb334, 3, none⟩ (.int .i64 ((ah l0 a1).f3))).heap[gb334]? = some (.cells #[.int .i64 ((ah l0 a1).f0), .string ((ah l0 a1).f1), .int .i64 ((ah l0 a1).f2), .int .i64 ((ah l0 a1).f3)] 110 (0, 0))) := ⟨by (with_reducible repeat (first | refine av ?_ _ | refine aC ?_ | refine au ?_ _)); refine aU (cs := #[.int .i64 ((ah l0 a1).f0), .string ((ah l0 a1).f1), .int .i64 ((ah l0 a1).f2), .int .i64 0]) ?_ 3 _ rfl; (with_reducible repeat (first | refine av ?_ _ | refine aC ?_ | refine au ?_ _)); refine aU (cs := #[.int .i64 ((ah l0 a1).f0), .string ((ah l0 a1).f1), .int .i64 0, .int .i64 0]) ?_ 2 _ rfl; (with_reducible repeat (first | refine av ?_ _ | refine aC ?_ | refine au ?_ _)); refine aU (cs := #[.int .i64 ((ah l0 a1).f0), .string (⟨#[]⟩ : ByteArray), .int .i64 0, .int .i64 0]) ?_ 1 _ rfl; (with_reducible repeat (first | refine av ?_ _ | refine aC ?_ | refine au ?_ _)); refine aU (cs := #[.int .i64 0, .string (⟨#[]⟩ : ByteArray), .int .i64 0, .int .i64 0]) ?_ 0 _ rfl; (with_reducible repeat (first | refine av ?_ _ | refine aC ?_ | refine au ?_ _)); exact BK334.out⟩
  have n1_ : aj (Below w.heap.size w ((((w9000.setCell ⟨gb334, 0, none⟩ (.int .i64 ((ah l0 a1).f0))).setCell ⟨gb334, 1, none⟩ (.string ((ah l0 a1).f1))).setCell ⟨gb334, 2, none⟩ (.int .i64 ((ah l0 a1).f2))).setCell ⟨gb334, 3, none⟩ (.int .i64 ((ah l0 a1).f3)))) := ⟨BL⟩
  (try clear BK334)
  (try clear HB)
  generalize ((((w9000.setCell ⟨gb334, 0, none⟩ (.int .i64 ((ah l0 a1).f0))).setCell ⟨gb334, 1, none⟩ (.string ((ah l0 a1).f1))).setCell ⟨gb334, 2, none⟩ (.int .i64 ((ah l0 a1).f2))).setCell ⟨gb334, 3, none⟩ (.int .i64 ((ah l0 a1).f3))) = w9002 at n0_ n1_ ⊢
  have BK334 := n0_
  have HB := n1_
  clear n0_ n1_
  replace BK334 := aj.mk (aC BK334.out)
  replace HB := aj.mk (aG HB.out)
  refine iJ (n := 13) (S := fun w' => w'.cell? ⟨gb334, 0, none⟩ = some (.int .i64 ((ah l0 a1).f0)) ∧ w'.cell? ⟨gb334, 1, none⟩ = some (.string ((ah l0 a1).f1)) ∧ w'.cell? ⟨gb334, 2, none⟩ = some (.int .i64 ((ah l0 a1).f2)) ∧ w'.cell? ⟨gb334, 3, none⟩ = some (.int .i64 ((ah l0 a1).f3))) (ds := []) #[F,F,F,F,F,F,F,F,F,F,F,F,F] (by kernel_rfl) rfl rfl ⟨(aT BK334.out 0).trans rfl, (aT BK334.out 1).trans rfl, (aT BK334.out 2).trans rfl, (aT BK334.out 3).trans rfl⟩ (fun hHeld => ?_); refine gZ bP.wE bP.vK (fun HT_ HW_ => ?_)
  generalize w9002.drew = w9003 at BK334 HB hHeld ⊢
  refine puS (i := 0) (N := some 16) #[T,F,F,F,F,F,F,F,F,F,F,F,F] (bg HT_.out (by kernel_rfl)) ?_
  refine puS (i := 2) (N := some 18) #[T,F,T,F,F,F,F,F,F,F,F,F,F] (bg HT_.out (by kernel_rfl)) ?_
  refine puS (i := 7) (N := some 23) #[T,F,T,F,F,F,F,T,F,F,F,F,F] (bg HT_.out (by kernel_rfl)) ?_
  refine puS (i := 8) (N := some 24) #[T,F,T,F,F,F,F,T,T,F,F,F,F] (bg HT_.out (by kernel_rfl)) ?_
  refine taS (i := 1) (N := some 17) #[T,T,T,F,F,F,F,T,T,F,F,F,F] (dU HT_.out HW_.out (by kernel_rfl)) hHeld ?_
  refine taS (i := 3) (N := some 19) #[T,T,T,T,F,F,F,T,T,F,F,F,F] (dU HT_.out HW_.out (by kernel_rfl)) hHeld ?_
  refine puS (i := 4) (N := some 20) #[T,T,T,T,T,F,F,T,T,F,F,F,F] (bg HT_.out (by kernel_rfl)) ?_
  refine puS (i := 5) (N := some 21) #[T,T,T,T,T,T,F,T,T,F,F,F,F] (bg HT_.out (by kernel_rfl)) ?_
  refine puS (i := 6) (N := some 22) #[T,T,T,T,T,T,T,T,T,F,F,F,F] (bg HT_.out (by kernel_rfl)) ?_
  refine taS (i := 9) (N := some 25) #[T,T,T,T,T,T,T,T,T,T,F,F,F] (dU HT_.out HW_.out (by kernel_rfl)) hHeld ?_
  refine jm (i := 10) (N := some 26) #[T,T,T,T,T,T,T,T,T,T,T,F,F] rfl rfl (gW HT_.out (by kernel_rfl)) (by decide) (fun K hK => ?_)
  refine jM Try.func127 #[.slice (some ad333) l0.length c0, .int .i64 ((ah l0 a1).f2)] ?_
  with_reducible refine (ih k (by omega) _ _ l0 ((ah l0 a1).f2) t335 _ ?side1 ?side2 A12.out).mono ?_
  (case side1 => exact CB HR0)
  (case side2 => exact HC0.out)
  rintro e w9004 ⟨rfl, hb⟩
  refine ⟨_, rfl, ?_⟩
  replace BK334 := KB BK334 hb
  replace HB := BS (w := w) hb
  (try clear hb)
  refine hK.out _ _ ⟨(aT BK334.out 0).trans rfl, (aT BK334.out 1).trans rfl, (aT BK334.out 2).trans rfl, (aT BK334.out 3).trans rfl⟩ (fun hHeld => ?_)
  clear hK K
  refine nrm (some 26) ?_
  refine puS (i := 11) (N := some 27) #[T,T,T,T,T,T,T,T,T,T,T,T,F] (bg HT_.out (by kernel_rfl)) ?_
  refine puS (i := 12) (N := some 6) #[T,T,T,T,T,T,T,T,T,T,T,T,T] (bg HT_.out (by kernel_rfl)) ?_
  refine iN (gN HT_.out (by kernel_rfl)) ?_
  obtain ⟨hcz9005_0, hcz9005_1, hcz9005_2, hcz9005_3, hfz9005_0, hfz9005_1, hfz9005_2, hfz9005_3⟩ := cz4 BK334.out
  replace H := H.out
  replace H := ifE H; rcases H with ⟨c14b0, c14b1, H⟩ | ⟨c14, c14b0, c14b1, H⟩
  ·replace H := ifP H; obtain ⟨c15, H⟩ := H
   have c15b0 := eq_true c15
   have c15b1 : decide (((((⟨#[32, 32, 98, 109, 106, 105, 104, 110, 116, 100]⟩ : ByteArray).extract (((ah l0 a1).f0) : Int).toNat ((wrap64 (((ah l0 a1).f0) + 1)) : Int).toNat) ++ (⟨#[40]⟩ : ByteArray)) ++ t335).size + 1 ≤ 9223372036854775807) = true := decide_eq_true c15
   have c15z : (9223372036854775807 < (wrap64 ((ah l0 a1).f0 + 1)).toNat - ((ah l0 a1).f0).toNat + 1 + t335.size + 1) = False := eq_false (by have hz_ : wrap64 ((ah l0 a1).f0 + 1) ≤ 10 := OD; have hs_ : ((⟨#[32, 32, 98, 109, 106, 105, 104, 110, 116, 100]⟩ : ByteArray).extract (((ah l0 a1).f0) : Int).toNat ((wrap64 (((ah l0 a1).f0) + 1)) : Int).toNat).size = (wrap64 ((ah l0 a1).f0 + 1)).toNat - ((ah l0 a1).f0).toNat := (by rw [ByteArray.size_extract]; show min _ 10 - _ = _; omega); have h_ := of_decide_eq_true c15b1; have e1_ : (⟨#[40]⟩ : ByteArray).size = 1 := rfl; have e2_ : (⟨#[44]⟩ : ByteArray).size = 1 := rfl; simp only [ByteArray.size_append, hs_] at h_; omega)
   try have c15b2 : (9223372036854775807 < ((((⟨#[32, 32, 98, 109, 106, 105, 104, 110, 116, 100]⟩ : ByteArray).extract (((ah l0 a1).f0) : Int).toNat ((wrap64 (((ah l0 a1).f0) + 1)) : Int).toNat) ++ (⟨#[40]⟩ : ByteArray)) ++ t335).size + 1) = False := eq_false (Nat.not_lt.2 c15)
   replace H := be H; obtain ⟨t336, A16, H⟩ := H
   replace H := ifP H; obtain ⟨c17, H⟩ := H
   have c17b0 := eq_true c17
   have c17b1 : decide ((((((⟨#[32, 32, 98, 109, 106, 105, 104, 110, 116, 100]⟩ : ByteArray).extract (((ah l0 a1).f0) : Int).toNat ((wrap64 (((ah l0 a1).f0) + 1)) : Int).toNat) ++ (⟨#[40]⟩ : ByteArray)) ++ t335) ++ (⟨#[44]⟩ : ByteArray)).size + t336.size ≤ 9223372036854775807) = true := decide_eq_true c17
   have c17z : (9223372036854775807 < (wrap64 ((ah l0 a1).f0 + 1)).toNat - ((ah l0 a1).f0).toNat + 1 + t335.size + 1 + t336.size) = False := eq_false (by have hz_ : wrap64 ((ah l0 a1).f0 + 1) ≤ 10 := OD; have hs_ : ((⟨#[32, 32, 98, 109, 106, 105, 104, 110, 116, 100]⟩ : ByteArray).extract (((ah l0 a1).f0) : Int).toNat ((wrap64 (((ah l0 a1).f0) + 1)) : Int).toNat).size = (wrap64 ((ah l0 a1).f0 + 1)).toNat - ((ah l0 a1).f0).toNat := (by rw [ByteArray.size_extract]; show min _ 10 - _ = _; omega); have h_ := of_decide_eq_true c17b1; have e1_ : (⟨#[40]⟩ : ByteArray).size = 1 := rfl; have e2_ : (⟨#[44]⟩ : ByteArray).size = 1 := rfl; simp only [ByteArray.size_append, hs_] at h_; omega)
   try have c17b2 : (9223372036854775807 < (((((⟨#[32, 32, 98, 109, 106, 105, 104, 110, 116, 100]⟩ : ByteArray).extract (((ah l0 a1).f0) : Int).toNat ((wrap64 (((ah l0 a1).f0) + 1)) : Int).toNat) ++ (⟨#[40]⟩ : ByteArray)) ++ t335) ++ (⟨#[44]⟩ : ByteArray)).size + t336.size) = False := eq_false (Nat.not_lt.2 c17)
   replace H := ifP H; obtain ⟨c18, H⟩ := H
   have c18b0 := eq_true c18
   have c18b1 : decide (((((((⟨#[32, 32, 98, 109, 106, 105, 104, 110, 116, 100]⟩ : ByteArray).extract (((ah l0 a1).f0) : Int).toNat ((wrap64 (((ah l0 a1).f0) + 1)) : Int).toNat) ++ (⟨#[40]⟩ : ByteArray)) ++ t335) ++ (⟨#[44]⟩ : ByteArray)) ++ t336).size + 1 ≤ 9223372036854775807) = true := decide_eq_true c18
   have c18z : (9223372036854775807 < (wrap64 ((ah l0 a1).f0 + 1)).toNat - ((ah l0 a1).f0).toNat + 1 + t335.size + 1 + t336.size + 1) = False := eq_false (by have hz_ : wrap64 ((ah l0 a1).f0 + 1) ≤ 10 := OD; have hs_ : ((⟨#[32, 32, 98, 109, 106, 105, 104, 110, 116, 100]⟩ : ByteArray).extract (((ah l0 a1).f0) : Int).toNat ((wrap64 (((ah l0 a1).f0) + 1)) : Int).toNat).size = (wrap64 ((ah l0 a1).f0 + 1)).toNat - ((ah l0 a1).f0).toNat := (by rw [ByteArray.size_extract]; show min _ 10 - _ = _; omega); have h_ := of_decide_eq_true c18b1; have e1_ : (⟨#[40]⟩ : ByteArray).size = 1 := rfl; have e2_ : (⟨#[44]⟩ : ByteArray).size = 1 := rfl; simp only [ByteArray.size_append, hs_] at h_; omega)
   try have c18b2 : (9223372036854775807 < ((((((⟨#[32, 32, 98, 109, 106, 105, 104, 110, 116, 100]⟩ : ByteArray).extract (((ah l0 a1).f0) : Int).toNat ((wrap64 (((ah l0 a1).f0) + 1)) : Int).toNat) ++ (⟨#[40]⟩ : ByteArray)) ++ t335) ++ (⟨#[44]⟩ : ByteArray)) ++ t336).size + 1) = False := eq_false (Nat.not_lt.2 c18)
   obtain rfl := Option.some.inj H
   try go_wp2_with (first | ((with_reducible refine aJ (f := 127) rfl ?_); refine bI (some 41) Try.func127 #[.slice (some ad333) l0.length c0, .int .i64 ((ah l0 a1).f3)] ?_; (with_reducible refine (ih k (by omega) _ _ l0 ((ah l0 a1).f3) t336 _ ?side1 ?side2 A16.out).mono ?_); (case side1 => exact CB HR0); (case side2 => exact HC0.out); rintro e w9006 ⟨rfl, hb⟩; refine ⟨_, rfl, ?_⟩; replace BK334 := KB BK334 hb; replace HB := BS (w := w) hb; (try clear hb)))
   go_ret
   exact ⟨EWW, BL⟩
  ·replace H := ifE H; rcases H with ⟨c26b0, c26b1, H⟩ | ⟨c26, c26b0, c26b1, H⟩
   ·replace H := ifP H; obtain ⟨c27, H⟩ := H
    have c27b0 := eq_true c27
    have c27b1 : decide (((((⟨#[32, 32, 98, 109, 106, 105, 104, 110, 116, 100]⟩ : ByteArray).extract (((ah l0 a1).f0) : Int).toNat ((wrap64 (((ah l0 a1).f0) + 1)) : Int).toNat) ++ (⟨#[40]⟩ : ByteArray)) ++ t335).size + 1 ≤ 9223372036854775807) = true := decide_eq_true c27
    have c27z : (9223372036854775807 < (wrap64 ((ah l0 a1).f0 + 1)).toNat - ((ah l0 a1).f0).toNat + 1 + t335.size + 1) = False := eq_false (by have hz_ : wrap64 ((ah l0 a1).f0 + 1) ≤ 10 := OD; have hs_ : ((⟨#[32, 32, 98, 109, 106, 105, 104, 110, 116, 100]⟩ : ByteArray).extract (((ah l0 a1).f0) : Int).toNat ((wrap64 (((ah l0 a1).f0) + 1)) : Int).toNat).size = (wrap64 ((ah l0 a1).f0 + 1)).toNat - ((ah l0 a1).f0).toNat := (by rw [ByteArray.size_extract]; show min _ 10 - _ = _; omega); have h_ := of_decide_eq_true c27b1; have e1_ : (⟨#[40]⟩ : ByteArray).size = 1 := rfl; have e2_ : (⟨#[44]⟩ : ByteArray).size = 1 := rfl; simp only [ByteArray.size_append, hs_] at h_; omega)
    try have c27b2 : (9223372036854775807 < ((((⟨#[32, 32, 98, 109, 106, 105, 104, 110, 116, 100]⟩ : ByteArray).extract (((ah l0 a1).f0) : Int).toNat ((wrap64 (((ah l0 a1).f0) + 1)) : Int).toNat) ++ (⟨#[40]⟩ : ByteArray)) ++ t335).size + 1) = False := eq_false (Nat.not_lt.2 c27)
    replace H := be H; obtain ⟨t337, A28, H⟩ := H
    replace H := ifP H; obtain ⟨c29, H⟩ := H
    have c29b0 := eq_true c29
    have c29b1 : decide ((((((⟨#[32, 32, 98, 109, 106, 105, 104, 110, 116, 100]⟩ : ByteArray).extract (((ah l0 a1).f0) : Int).toNat ((wrap64 (((ah l0 a1).f0) + 1)) : Int).toNat) ++ (⟨#[40]⟩ : ByteArray)) ++ t335) ++ (⟨#[44]⟩ : ByteArray)).size + t337.size ≤ 9223372036854775807) = true := decide_eq_true c29
    have c29z : (9223372036854775807 < (wrap64 ((ah l0 a1).f0 + 1)).toNat - ((ah l0 a1).f0).toNat + 1 + t335.size + 1 + t337.size) = False := eq_false (by have hz_ : wrap64 ((ah l0 a1).f0 + 1) ≤ 10 := OD; have hs_ : ((⟨#[32, 32, 98, 109, 106, 105, 104, 110, 116, 100]⟩ : ByteArray).extract (((ah l0 a1).f0) : Int).toNat ((wrap64 (((ah l0 a1).f0) + 1)) : Int).toNat).size = (wrap64 ((ah l0 a1).f0 + 1)).toNat - ((ah l0 a1).f0).toNat := (by rw [ByteArray.size_extract]; show min _ 10 - _ = _; omega); have h_ := of_decide_eq_true c29b1; have e1_ : (⟨#[40]⟩ : ByteArray).size = 1 := rfl; have e2_ : (⟨#[44]⟩ : ByteArray).size = 1 := rfl; simp only [ByteArray.size_append, hs_] at h_; omega)
    try have c29b2 : (9223372036854775807 < (((((⟨#[32, 32, 98, 109, 106, 105, 104, 110, 116, 100]⟩ : ByteArray).extract (((ah l0 a1).f0) : Int).toNat ((wrap64 (((ah l0 a1).f0) + 1)) : Int).toNat) ++ (⟨#[40]⟩ : ByteArray)) ++ t335) ++ (⟨#[44]⟩ : ByteArray)).size + t337.size) = False := eq_false (Nat.not_lt.2 c29)
    replace H := ifP H; obtain ⟨c30, H⟩ := H
    have c30b0 := eq_true c30
    have c30b1 : decide (((((((⟨#[32, 32, 98, 109, 106, 105, 104, 110, 116, 100]⟩ : ByteArray).extract (((ah l0 a1).f0) : Int).toNat ((wrap64 (((ah l0 a1).f0) + 1)) : Int).toNat) ++ (⟨#[40]⟩ : ByteArray)) ++ t335) ++ (⟨#[44]⟩ : ByteArray)) ++ t337).size + 1 ≤ 9223372036854775807) = true := decide_eq_true c30
    have c30z : (9223372036854775807 < (wrap64 ((ah l0 a1).f0 + 1)).toNat - ((ah l0 a1).f0).toNat + 1 + t335.size + 1 + t337.size + 1) = False := eq_false (by have hz_ : wrap64 ((ah l0 a1).f0 + 1) ≤ 10 := OD; have hs_ : ((⟨#[32, 32, 98, 109, 106, 105, 104, 110, 116, 100]⟩ : ByteArray).extract (((ah l0 a1).f0) : Int).toNat ((wrap64 (((ah l0 a1).f0) + 1)) : Int).toNat).size = (wrap64 ((ah l0 a1).f0 + 1)).toNat - ((ah l0 a1).f0).toNat := (by rw [ByteArray.size_extract]; show min _ 10 - _ = _; omega); have h_ := of_decide_eq_true c30b1; have e1_ : (⟨#[40]⟩ : ByteArray).size = 1 := rfl; have e2_ : (⟨#[44]⟩ : ByteArray).size = 1 := rfl; simp only [ByteArray.size_append, hs_] at h_; omega)
    try have c30b2 : (9223372036854775807 < ((((((⟨#[32, 32, 98, 109, 106, 105, 104, 110, 116, 100]⟩ : ByteArray).extract (((ah l0 a1).f0) : Int).toNat ((wrap64 (((ah l0 a1).f0) + 1)) : Int).toNat) ++ (⟨#[40]⟩ : ByteArray)) ++ t335) ++ (⟨#[44]⟩ : ByteArray)) ++ t337).size + 1) = False := eq_false (Nat.not_lt.2 c30)
    obtain rfl := Option.some.inj H
    try go_wp2_with (first | ((with_reducible refine aJ (f := 127) rfl ?_); refine bI (some 41) Try.func127 #[.slice (some ad333) l0.length c0, .int .i64 ((ah l0 a1).f3)] ?_; (with_reducible refine (ih k (by omega) _ _ l0 ((ah l0 a1).f3) t337 _ ?side1 ?side2 A28.out).mono ?_); (case side1 => exact CB HR0); (case side2 => exact HC0.out); rintro e w9006 ⟨rfl, hb⟩; refine ⟨_, rfl, ?_⟩; replace BK334 := KB BK334 hb; replace HB := BS (w := w) hb; (try clear hb)))
    go_ret
    exact ⟨EWW, BL⟩
   ·replace H := ifP H; obtain ⟨c38, H⟩ := H
    have c38b0 := eq_true c38
    have c38b1 : decide (((((⟨#[32, 32, 98, 109, 106, 105, 104, 110, 116, 100]⟩ : ByteArray).extract (((ah l0 a1).f0) : Int).toNat ((wrap64 (((ah l0 a1).f0) + 1)) : Int).toNat) ++ (⟨#[40]⟩ : ByteArray)) ++ t335).size + 1 ≤ 9223372036854775807) = true := decide_eq_true c38
    have c38z : (9223372036854775807 < (wrap64 ((ah l0 a1).f0 + 1)).toNat - ((ah l0 a1).f0).toNat + 1 + t335.size + 1) = False := eq_false (by have hz_ : wrap64 ((ah l0 a1).f0 + 1) ≤ 10 := OD; have hs_ : ((⟨#[32, 32, 98, 109, 106, 105, 104, 110, 116, 100]⟩ : ByteArray).extract (((ah l0 a1).f0) : Int).toNat ((wrap64 (((ah l0 a1).f0) + 1)) : Int).toNat).size = (wrap64 ((ah l0 a1).f0 + 1)).toNat - ((ah l0 a1).f0).toNat := (by rw [ByteArray.size_extract]; show min _ 10 - _ = _; omega); have h_ := of_decide_eq_true c38b1; have e1_ : (⟨#[40]⟩ : ByteArray).size = 1 := rfl; have e2_ : (⟨#[44]⟩ : ByteArray).size = 1 := rfl; simp only [ByteArray.size_append, hs_] at h_; omega)
    try have c38b2 : (9223372036854775807 < ((((⟨#[32, 32, 98, 109, 106, 105, 104, 110, 116, 100]⟩ : ByteArray).extract (((ah l0 a1).f0) : Int).toNat ((wrap64 (((ah l0 a1).f0) + 1)) : Int).toNat) ++ (⟨#[40]⟩ : ByteArray)) ++ t335).size + 1) = False := eq_false (Nat.not_lt.2 c38)
    obtain rfl := Option.some.inj H
    try go_wp2
    go_ret
    exact ⟨EWW, BL⟩
def fF.f (k : Nat) (l0 : List (bq)) : Option (ByteArray) := (bK.f k l0).bind fun t338 => (if t338 = true then ((bB.f k l0).bind fun t339 => (if t339 > 80 then (some (⟨#[]⟩ : ByteArray)) else ((bP.f k l0 (wrap64 ((l0.length : Int) - 1))).bind fun t340 => (some t340)))) else (some (⟨#[]⟩ : ByteArray)))
theorem fF.calls (k : Nat) (A0 : Option Addr) (c0 : Nat) (l0 : List (bq)) (r : ByteArray) (w : World) (hr0 : Kd.C eY w A0 l0.length l0) (hc0 : l0.length ≤ c0) (h : fF.f k l0 = some r) :
  Calls Try.prog 77 #[.slice A0 l0.length c0] w fun e w' => e = .returned (.string r) ∧ Below w.heap.size w w' := by
 have HR0 := aj.mk hr0
 have HC0 := aj.mk hc0
 clear hr0 hc0
 have HB := aj.mk (Below.refl w.heap.size w)
 unfold fF.f at h
 have H := h
 clear h
 replace H := be H; obtain ⟨t338, A2, H⟩ := H
 replace H := aj.mk H
 go_enter Try.func77, Try.ntmps77
 go_wp2_with (first | ((with_reducible refine aJ (f := 76) rfl ?_); refine bI (some 4) Try.func76 #[.slice A0 l0.length c0] ?_; (with_reducible refine (bK.calls k _ _ l0 _ _ ?side1 ?side2 A2.out).mono ?_); (case side1 => repeat (first | exact HR0.out | (with_reducible refine Kd.fU ?_ _) | (with_reducible refine Kd.fT ?_ _) | (with_reducible refine Kd.iB ?_))); (case side2 => exact HC0.out); rintro e w9000 ⟨rfl, hb⟩; refine ⟨_, rfl, ?_⟩; replace HB := BS (w := w) hb; (try clear hb); refine eU ?_))
 refine Hide.mk ?_
 replace H := H.out
 replace H := ifB H; rcases H with ⟨rfl, H⟩ | ⟨rfl, H⟩
 ·replace H := be H; obtain ⟨t339, A4, H⟩ := H
  replace H := aj.mk H
  go_wp2_with (first | (go_at_call 126; (with_reducible refine (bB.calls k _ _ l0 t339 _ ?side1 ?side2 A4.out).mono ?_); (case side1 => exact CB HR0); (case side2 => exact HC0.out); rintro e w9001 ⟨rfl, hb⟩; replace HB := BS (w := w) hb; (try clear hb); refine eU ?_))
  refine Hide.mk ?_
  replace H := H.out
  by_cases c5 : t339 > 80
  ·rw [if_pos c5] at H
   have c5b0 : decide (80 < t339) = true := decide_eq_true c5
   clear c5
   obtain rfl := Option.some.inj H
   try go_wp2
   go_ret
   exact ⟨EWW, BL⟩
  ·rw [if_neg c5] at H
   have c5b0 : decide (80 < t339) = false := decide_eq_false c5
   clear c5
   replace H := be H; obtain ⟨t340, A8, H⟩ := H
   obtain rfl := Option.some.inj H
   try go_wp2_with (first | ((with_reducible refine aJ (f := 127) rfl ?_); refine bI (some 15) Try.func127 #[.slice A0 l0.length c0, .int .i64 (wrap64 ((l0.length : Int) - 1))] ?_; (with_reducible refine (bP.calls k _ _ l0 (wrap64 ((l0.length : Int) - 1)) t340 _ ?side1 ?side2 A8.out).mono ?_); (case side1 => exact CB HR0); (case side2 => exact HC0.out); rintro e w9002 ⟨rfl, hb⟩; refine ⟨_, rfl, ?_⟩; replace HB := BS (w := w) hb; (try clear hb)))
   go_ret
   exact ⟨EWW, BL⟩
 ·obtain rfl := Option.some.inj H
  try go_wp2
  go_ret
  exact ⟨EWW, BL⟩
def dZ.f (k : Nat) (s0_0 : List Int) (s0_1 s0_2 : Int) : Option (ByteArray × Int × Int) := (bV.f k s0_0 s0_1 s0_2).bind fun bt341 => ((fF.f k bt341.1).bind fun t346 => (if t346.size + 1 ≤ 9223372036854775807 then ((dH.f s0_0 bt341.2.1 bt341.2.2 (([t346, t346, t346, t346, t346 ++ (⟨#[41]⟩ : ByteArray), (⟨#[98, 40, 99, 97, 116]⟩ : ByteArray), (⟨#[120, 40, 99, 97, 116, 41]⟩ : ByteArray), (⟨#[106, 40, 99, 97, 116, 41]⟩ : ByteArray), (⟨#[98, 40, 99, 97, 116, 44, 116, 101, 97, 41]⟩ : ByteArray), (⟨#[109, 40, 98, 40, 99, 97, 116, 41, 41]⟩ : ByteArray), (⟨#[106, 40, 97, 116, 44, 114, 41]⟩ : ByteArray), (⟨#[105, 40, 99, 97, 116, 44, 98, 40, 101, 97, 114, 41, 41]⟩ : ByteArray), (⟨#[]⟩ : ByteArray), (⟨#[40]⟩ : ByteArray), (⟨#[98, 40, 41]⟩ : ByteArray), (⟨#[106, 40, 44, 41]⟩ : ByteArray), (⟨#[98, 40, 98, 40, 98, 40, 98, 40, 98, 40, 98, 40, 98, 40, 98, 40, 98, 40, 99, 97, 116, 41, 41, 41, 41, 41, 41, 41, 41, 41]⟩ : ByteArray), (⟨#[116, 111, 111, 108, 111, 110, 103, 101, 114]⟩ : ByteArray), (⟨#[67, 97, 116]⟩ : ByteArray)] : List ByteArray))).bind fun bt350 => (some (bt350.1, bt350.2.1, bt350.2.2))) else (none)))
theorem dZ.calls (k g : Nat) (s0_0 : List Int) (s0_1 s0_2 : Int) (r1 : ByteArray) (r2 r3 : Int) (w0 w : World) (hI : ak w0 w g s0_0 s0_1 s0_2) (hB : Below w0.heap.size w0 w) (h : dZ.f k s0_0 s0_1 s0_2 = some (r1, r2, r3)) :
  Calls Try.prog 108 #[.pointer (some ⟨g, 0, none⟩)] w fun e w' => e = .returned (.string r1) ∧ ak w0 w' g s0_0 r2 r3 ∧ Below w0.heap.size w0 w' ∧ ay w w' g none := by
 have HI0 := aj.mk hI
 have HK := aj.mk (ay.refl w g none)
 have HL := aj.mk hB.size
 clear hI
 have HW0 := aj.mk hB.size
 have HB := aj.mk hB
 clear hB
 unfold dZ.f at h
 have H := h
 clear h
 replace H := be H; obtain ⟨⟨t341, t344, t345⟩, A2, H⟩ := H
 dsimp only at H
 replace H := be H; obtain ⟨t346, A3, H⟩ := H
 replace H := ifP H; obtain ⟨c4, H⟩ := H
 have c4b0 := eq_true c4
 have c4b1 : decide (t346.size + 1 ≤ 9223372036854775807) = true := decide_eq_true c4
 try have c4b2 : (9223372036854775807 < t346.size + 1) = False := eq_false (Nat.not_lt.2 c4)
 obtain ⟨y347, hy347⟩ : ∃ y_ : List ByteArray, y_ = (([t346, t346, t346, t346, t346 ++ (⟨#[41]⟩ : ByteArray), (⟨#[98, 40, 99, 97, 116]⟩ : ByteArray), (⟨#[120, 40, 99, 97, 116, 41]⟩ : ByteArray), (⟨#[106, 40, 99, 97, 116, 41]⟩ : ByteArray), (⟨#[98, 40, 99, 97, 116, 44, 116, 101, 97, 41]⟩ : ByteArray), (⟨#[109, 40, 98, 40, 99, 97, 116, 41, 41]⟩ : ByteArray), (⟨#[106, 40, 97, 116, 44, 114, 41]⟩ : ByteArray), (⟨#[105, 40, 99, 97, 116, 44, 98, 40, 101, 97, 114, 41, 41]⟩ : ByteArray), (⟨#[]⟩ : ByteArray), (⟨#[40]⟩ : ByteArray), (⟨#[98, 40, 41]⟩ : ByteArray), (⟨#[106, 40, 44, 41]⟩ : ByteArray), (⟨#[98, 40, 98, 40, 98, 40, 98, 40, 98, 40, 98, 40, 98, 40, 98, 40, 98, 40, 99, 97, 116, 41, 41, 41, 41, 41, 41, 41, 41, 41]⟩ : ByteArray), (⟨#[116, 111, 111, 108, 111, 110, 103, 101, 114]⟩ : ByteArray), (⟨#[67, 97, 116]⟩ : ByteArray)] : List ByteArray)) := ⟨_, rfl⟩
 replace H : ((dH.f s0_0 t344 t345 y347).bind fun bt350 => (some (bt350.1, bt350.2.1, bt350.2.2))) = some (r1, r2, r3) := by first | (rw [hy347]; with_reducible exact H) | (have H2_ := (Option.bind_some _ _).symm.trans H; rw [hy347]; with_reducible exact H2_) | (have H2_ := (Option.bind_some _ _).symm.trans H; with_reducible exact H2_) | with_reducible exact H | (rw [hy347]; exact H) | exact H
 have Ny347 := aj.mk hy347
 clear hy347
 replace H := be H; obtain ⟨⟨t350, t351, t352⟩, A5, H⟩ := H
 dsimp only at H
 simp only [Option.some.injEq, Prod.mk.injEq] at H
 obtain ⟨rfl, rfl, rfl⟩ := H
 go_enter Try.func108, Try.ntmps108
 go_wp2_with (first | ((with_reducible refine aJ (f := 162) rfl ?_); refine bI (some 5) Try.func162 #[.pointer (some ⟨g, 0, none⟩)] ?_; (with_reducible refine (bV.calls k g s0_0 s0_1 s0_2 t341 t344 t345 w0 _ ?side1 ?side2 A2.out).mono ?_); (case side1 => repeat (first | (with_reducible first | exact HI0.out | apply ak.alloc | apply ak.drewN | apply ak.drew | apply ak.bG | apply ak.bF) | exact HI0.out)); (case side2 => repeat (first | (with_reducible first | exact HB.out | apply aI | apply aA | apply aG | refine aD ?_ (ak.ge HI0.out)) | exact HB.out)); rintro e w9000 ⟨v342, rfl, ho0, hi, hb, hk⟩; refine ⟨_, rfl, ?_⟩; have n0_ := aj.mk (Kd.dF ho0 (eG (w := w) (g := g) (row := none) (by repeat (first | (with_reducible first | exact HK.out | apply ay.cO | apply aK | apply aR | apply aM) | exact HK.out)))); have n1_ := aj.mk (ay.trans (by repeat (first | (with_reducible first | exact HK.out | apply ay.cO | apply aK | apply aR | apply aM) | exact HK.out)) hk (.inl rfl)); have n2_ := aj.mk (hb); have n3_ := aj.mk (hi); clear HK HB HI0; have HO343 := n0_; have HK := n1_; have HB := n2_; have HI0 := n3_; clear n0_ n1_ n2_ n3_; (try clear hb); (try clear hk); (try clear hi); (try clear ho0); obtain ⟨Ao9001, co9001, eo9001⟩ := Kd.dh HO343.out; subst eo9001) | ((with_reducible refine aJ (f := 77) rfl ?_); refine bI (some 6) Try.func77 #[.slice Ao9001 t341.length co9001] ?_; (with_reducible refine (fF.calls k _ _ t341 t346 _ ?side1 ?side2 A3.out).mono ?_); (case side1 => exact CR2 HO343); (case side2 => exact (Kd.aZ HO343.out).2.1); rintro e w9002 ⟨rfl, hb⟩; refine ⟨_, rfl, ?_⟩; have n0_ := RB HO343 hb; have n1_ := aj.mk (ak.below (by repeat (first | (with_reducible first | exact HI0.out | apply ak.alloc | apply ak.drewN | apply ak.drew | apply ak.bG | apply ak.bF) | exact HI0.out)) hb); have n2_ := aj.mk (ay.trans (by repeat (first | (with_reducible first | exact HK.out | apply ay.cO | apply aK | apply aR | apply aM) | exact HK.out)) (ay.of_below hb g none) (.inl rfl)); have n3_ := aj.mk (eu (by repeat (first | (with_reducible first | exact HB.out | apply aI | apply aA | apply aG | refine aD ?_ (ak.ge HI0.out)) | exact HB.out)) hb); clear HO343 HI0 HK HB; have HO343 := n0_; have HI0 := n1_; have HK := n2_; have HB := n3_; clear n0_ n1_ n2_ n3_; (try clear hb)) | ((with_reducible refine dz (N := 14) rfl ?_); refine Kd.kS Kd.string _ 9 ?hg (N := 14) ?hd (xs := ([t346, t346, t346, t346, t346 ++ (⟨#[41]⟩ : ByteArray), (⟨#[98, 40, 99, 97, 116]⟩ : ByteArray), (⟨#[120, 40, 99, 97, 116, 41]⟩ : ByteArray), (⟨#[106, 40, 99, 97, 116, 41]⟩ : ByteArray), (⟨#[98, 40, 99, 97, 116, 44, 116, 101, 97, 41]⟩ : ByteArray), (⟨#[109, 40, 98, 40, 99, 97, 116, 41, 41]⟩ : ByteArray), (⟨#[106, 40, 97, 116, 44, 114, 41]⟩ : ByteArray), (⟨#[105, 40, 99, 97, 116, 44, 98, 40, 101, 97, 114, 41, 41]⟩ : ByteArray), (⟨#[]⟩ : ByteArray), (⟨#[40]⟩ : ByteArray), (⟨#[98, 40, 41]⟩ : ByteArray), (⟨#[106, 40, 44, 41]⟩ : ByteArray), (⟨#[98, 40, 98, 40, 98, 40, 98, 40, 98, 40, 98, 40, 98, 40, 98, 40, 98, 40, 99, 97, 116, 41, 41, 41, 41, 41, 41, 41, 41, 41]⟩ : ByteArray), (⟨#[116, 111, 111, 108, 111, 110, 103, 101, 114]⟩ : ByteArray), (⟨#[67, 97, 116]⟩ : ByteArray)] : List ByteArray)) (inner := [.string t346, .string t346, .string t346, .string t346, .string (t346 ++ (⟨#[41]⟩ : ByteArray)), .string (⟨#[98, 40, 99, 97, 116]⟩ : ByteArray), .string (⟨#[120, 40, 99, 97, 116, 41]⟩ : ByteArray), .string (⟨#[106, 40, 99, 97, 116, 41]⟩ : ByteArray), .string (⟨#[98, 40, 99, 97, 116, 44, 116, 101, 97, 41]⟩ : ByteArray), .string (⟨#[109, 40, 98, 40, 99, 97, 116, 41, 41]⟩ : ByteArray), .string (⟨#[106, 40, 97, 116, 44, 114, 41]⟩ : ByteArray), .string (⟨#[105, 40, 99, 97, 116, 44, 98, 40, 101, 97, 114, 41, 41]⟩ : ByteArray), .string (⟨#[]⟩ : ByteArray), .string (⟨#[40]⟩ : ByteArray), .string (⟨#[98, 40, 41]⟩ : ByteArray), .string (⟨#[106, 40, 44, 41]⟩ : ByteArray), .string (⟨#[98, 40, 98, 40, 98, 40, 98, 40, 98, 40, 98, 40, 98, 40, 98, 40, 98, 40, 99, 97, 116, 41, 41, 41, 41, 41, 41, 41, 41, 41]⟩ : ByteArray), .string (⟨#[116, 111, 111, 108, 111, 110, 103, 101, 114]⟩ : ByteArray), .string (⟨#[67, 97, 116]⟩ : ByteArray)]) (ok := fun _ => True) (okp := fun _ => True) ?hr ?hp (fun _ hk => hk) trivial (Below.refl _ _) (Nat.le_refl _) (by simp) ?_; (case hd => rfl); (case hg => rfl); (case hr => first | (go_simp; done) | (go_simp; rfl)); (case hp => exact (bD.one (show Kd.M Kd.string _ _ _ t346 [.string t346] from rfl) (bD.one (show Kd.M Kd.string _ _ _ t346 [.string t346] from rfl) (bD.one (show Kd.M Kd.string _ _ _ t346 [.string t346] from rfl) (bD.one (show Kd.M Kd.string _ _ _ t346 [.string t346] from rfl) (bD.one (show Kd.M Kd.string _ _ _ (t346 ++ (⟨#[41]⟩ : ByteArray)) [.string (t346 ++ (⟨#[41]⟩ : ByteArray))] from rfl) (bD.one (show Kd.M Kd.string _ _ _ (⟨#[98, 40, 99, 97, 116]⟩ : ByteArray) [.string (⟨#[98, 40, 99, 97, 116]⟩ : ByteArray)] from rfl) (bD.one (show Kd.M Kd.string _ _ _ (⟨#[120, 40, 99, 97, 116, 41]⟩ : ByteArray) [.string (⟨#[120, 40, 99, 97, 116, 41]⟩ : ByteArray)] from rfl) (bD.one (show Kd.M Kd.string _ _ _ (⟨#[106, 40, 99, 97, 116, 41]⟩ : ByteArray) [.string (⟨#[106, 40, 99, 97, 116, 41]⟩ : ByteArray)] from rfl) (bD.one (show Kd.M Kd.string _ _ _ (⟨#[98, 40, 99, 97, 116, 44, 116, 101, 97, 41]⟩ : ByteArray) [.string (⟨#[98, 40, 99, 97, 116, 44, 116, 101, 97, 41]⟩ : ByteArray)] from rfl) (bD.one (show Kd.M Kd.string _ _ _ (⟨#[109, 40, 98, 40, 99, 97, 116, 41, 41]⟩ : ByteArray) [.string (⟨#[109, 40, 98, 40, 99, 97, 116, 41, 41]⟩ : ByteArray)] from rfl) (bD.one (show Kd.M Kd.string _ _ _ (⟨#[106, 40, 97, 116, 44, 114, 41]⟩ : ByteArray) [.string (⟨#[106, 40, 97, 116, 44, 114, 41]⟩ : ByteArray)] from rfl) (bD.one (show Kd.M Kd.string _ _ _ (⟨#[105, 40, 99, 97, 116, 44, 98, 40, 101, 97, 114, 41, 41]⟩ : ByteArray) [.string (⟨#[105, 40, 99, 97, 116, 44, 98, 40, 101, 97, 114, 41, 41]⟩ : ByteArray)] from rfl) (bD.one (show Kd.M Kd.string _ _ _ (⟨#[]⟩ : ByteArray) [.string (⟨#[]⟩ : ByteArray)] from rfl) (bD.one (show Kd.M Kd.string _ _ _ (⟨#[40]⟩ : ByteArray) [.string (⟨#[40]⟩ : ByteArray)] from rfl) (bD.one (show Kd.M Kd.string _ _ _ (⟨#[98, 40, 41]⟩ : ByteArray) [.string (⟨#[98, 40, 41]⟩ : ByteArray)] from rfl) (bD.one (show Kd.M Kd.string _ _ _ (⟨#[106, 40, 44, 41]⟩ : ByteArray) [.string (⟨#[106, 40, 44, 41]⟩ : ByteArray)] from rfl) (bD.one (show Kd.M Kd.string _ _ _ (⟨#[98, 40, 98, 40, 98, 40, 98, 40, 98, 40, 98, 40, 98, 40, 98, 40, 98, 40, 99, 97, 116, 41, 41, 41, 41, 41, 41, 41, 41, 41]⟩ : ByteArray) [.string (⟨#[98, 40, 98, 40, 98, 40, 98, 40, 98, 40, 98, 40, 98, 40, 98, 40, 98, 40, 99, 97, 116, 41, 41, 41, 41, 41, 41, 41, 41, 41]⟩ : ByteArray)] from rfl) (bD.one (show Kd.M Kd.string _ _ _ (⟨#[116, 111, 111, 108, 111, 110, 103, 101, 114]⟩ : ByteArray) [.string (⟨#[116, 111, 111, 108, 111, 110, 103, 101, 114]⟩ : ByteArray)] from rfl) (bD.one (show Kd.M Kd.string _ _ _ (⟨#[67, 97, 116]⟩ : ByteArray) [.string (⟨#[67, 97, 116]⟩ : ByteArray)] from rfl) (bD.none _ _))))))))))))))))))))); intro v348 w9003 ho10 hb hg_ hnew_; clear hg_ hnew_; (first | rw [← Ny347.out] at ho10 | (simp only [Int.reduceToNat] at ho10; rw [← Ny347.out] at ho10)); have n0_ := RB HO343 hb; have n1_ := aj.mk (Kd.dF ho10 (eG (w := w) (g := g) (row := none) (by repeat (first | (with_reducible first | exact HK.out | apply ay.cO | apply aK | apply aR | apply aM) | exact HK.out)))); have n2_ := aj.mk (ak.below (by repeat (first | (with_reducible first | exact HI0.out | apply ak.alloc | apply ak.drewN | apply ak.drew | apply ak.bG | apply ak.bF) | exact HI0.out)) hb); have n3_ := aj.mk (ay.trans (by repeat (first | (with_reducible first | exact HK.out | apply ay.cO | apply aK | apply aR | apply aM) | exact HK.out)) (ay.of_below hb g none) (.inl rfl)); have n4_ := aj.mk (eu (by repeat (first | (with_reducible first | exact HB.out | apply aI | apply aA | apply aG | refine aD ?_ (ak.ge HI0.out)) | exact HB.out)) hb); clear HO343 HI0 HK HB; have HO343 := n0_; have HO349 := n1_; have HI0 := n2_; have HK := n3_; have HB := n4_; clear n0_ n1_ n2_ n3_ n4_; clear hb ho10; obtain ⟨Ao9004, co9004, eo9004⟩ := Kd.dh HO349.out; subst eo9004) | ((with_reducible refine aJ (f := 121) rfl ?_); refine bI (some 15) Try.func121 #[.pointer (some ⟨g, 0, none⟩), .slice Ao9004 y347.length co9004] ?_; (with_reducible refine (dH.calls g s0_0 t344 t345 _ _ y347 t350 t351 t352 w0 _ ?side1 ?side2 ?side3 ?side4 ?side5 A5.out).mono ?_); (case side1 => repeat (first | (with_reducible first | exact HI0.out | apply ak.alloc | apply ak.drewN | apply ak.drew | apply ak.bG | apply ak.bF) | exact HI0.out)); (case side2 => repeat (first | (with_reducible first | exact HB.out | apply aI | apply aA | apply aG | refine aD ?_ (ak.ge HI0.out)) | exact HB.out)); (case side3 => exact CR2 HO349); (case side4 => exact (Kd.aZ HO349.out).2.1); (case side5 => exact iT (ak.own_ne HI0.out HO349.out (by decide))); rintro e w9005 ⟨rfl, hi, hb, hk⟩; refine ⟨_, rfl, ?_⟩; have n0_ := aj.mk (Kd.dD (Kd.gJ (ak.apart (show ak w0 _ g s0_0 t344 t345 from by repeat (first | (with_reducible first | exact HI0.out | apply ak.alloc | apply ak.drewN | apply ak.drew | apply ak.bG | apply ak.bF) | exact HI0.out)) (RR HO343) (by decide)) hk (fun _ h => h.2)) (fun _ h => h.1)); have n1_ := aj.mk (Kd.dD (Kd.gJ (ak.apart (show ak w0 _ g s0_0 t344 t345 from by repeat (first | (with_reducible first | exact HI0.out | apply ak.alloc | apply ak.drewN | apply ak.drew | apply ak.bG | apply ak.bF) | exact HI0.out)) (RR HO349) (by decide)) hk (fun _ h => h.2)) (fun _ h => h.1)); have n2_ := aj.mk (ay.trans (by repeat (first | (with_reducible first | exact HK.out | apply ay.cO | apply aK | apply aR | apply aM) | exact HK.out)) hk (.inl rfl)); have n3_ := aj.mk (hb); have n4_ := aj.mk (hi); clear HO343 HO349 HK HB HI0; have HO343 := n0_; have HO349 := n1_; have HK := n2_; have HB := n3_; have HI0 := n4_; clear n0_ n1_ n2_ n3_ n4_; (try clear hb); (try clear hk); (try clear hi)))
 go_ret
 exact ⟨EWW, by repeat (first | (with_reducible first | exact HI0.out | apply ak.alloc | apply ak.drewN | apply ak.drew | apply ak.bG | apply ak.bF) | exact HI0.out), by repeat (first | (with_reducible first | exact HB.out | apply aI | apply aA | apply aG | refine aD ?_ (ak.ge HI0.out)) | exact HB.out), by repeat (first | (with_reducible first | exact HK.out | apply ay.cO | apply aK | apply aR | apply aM) | exact HK.out)⟩
def dN.f (k : Nat) (l0 : List Int) : Option (ByteArray) := (dx.f k l0).bind fun bt353 => ((dZ.f k bt353.1 bt353.2.1 bt353.2.2).bind fun bt357 => (some bt357.1))
theorem dN.calls (k : Nat) (A0 : Option Addr) (c0 : Nat) (l0 : List Int) (r : ByteArray) (w : World) (hr0 : Kd.C (Kd.int .u8) w A0 l0.length l0) (hc0 : l0.length ≤ c0) (h : dN.f k l0 = some r) :
  Calls Try.prog 49 #[.slice A0 l0.length c0] w fun e w' => e = .returned (.string r) ∧ Below w.heap.size w w' := by
 have HR0 := aj.mk hr0
 have HC0 := aj.mk hc0
 clear hr0 hc0
 have HB := aj.mk (Below.refl w.heap.size w)
 unfold dN.f at h
 have H := h
 clear h
 replace H := be H; obtain ⟨⟨t353, t354, t355⟩, A2, H⟩ := H
 dsimp only at H
 replace H := be H; obtain ⟨⟨t357, t358, t359⟩, A3, H⟩ := H
 dsimp only at H
 obtain rfl := Option.some.inj H
 go_enter Try.func49, Try.ntmps49
 go_wp2_with (first | ((with_reducible refine aJ (f := 60) rfl ?_); refine bI (some 5) Try.func60 #[.slice A0 l0.length c0] ?_; (with_reducible refine (dx.calls k _ _ l0 t353 t354 t355 w _ ?side1 ?side2 ?side3 A2.out).mono ?_); (case side1 => exact BL); (case side2 => exact HR0.out); (case side3 => exact HC0.out); rintro e w4 ⟨g356, rfl, hi, hb, hb2⟩; refine ⟨_, rfl, ?_⟩; have n0_ := aj.mk (hb); have n1_ := aj.mk (hi); clear HB; have HB := n0_; have HI356 := n1_; clear n0_ n1_; (try clear hb); (try clear hb2); (try clear hi)) | ((with_reducible refine aJ (f := 108) rfl ?_); refine bI (some 7) Try.func108 #[.pointer (some ⟨g356, 0, none⟩)] ?_; (with_reducible refine (dZ.calls k g356 t353 t354 t355 t357 t358 t359 w _ ?side1 ?side2 A3.out).mono ?_); (case side1 => repeat (first | (with_reducible first | exact HI356.out | apply ak.alloc | apply ak.drewN | apply ak.drew | apply ak.bG | apply ak.bF) | exact HI356.out)); (case side2 => repeat (first | (with_reducible first | exact HB.out | apply aI | apply aA | apply aG | refine aD ?_ (ak.ge HI356.out)) | exact HB.out)); rintro e w5 ⟨rfl, hi, hb, hk⟩; refine ⟨_, rfl, ?_⟩; have n0_ := aj.mk (hb); have n1_ := aj.mk (hi); clear HB HI356; have HB := n0_; have HI356 := n1_; clear n0_ n1_; (try clear hb); (try clear hk); (try clear hi)))
 go_ret
 exact ⟨EWW, by repeat (first | (with_reducible first | exact HB.out | apply aI | apply aA | apply aG | refine aD ?_ (ak.ge HI356.out)) | exact HB.out)⟩
mutual
def aH.j2 : Nat → List Int → List (bq) → Option (Bool)
 | 0, _, _ => none
 | k + 1, a, b => (dN.f k a).bind fun c => ((bn.f k c).bind fun d => (if d.2 = true then ((aX.f k d.1).bind fun e => (if e = true then ((cB.f k d.1).bind fun f => (if f.toList = c.toList then (aH.j3 k b (decide ((c.size : Int) > 80))) else (aH.j3 k b true))) else (aH.j3 k b true))) else (aH.j3 k b false)))
def aH.j3 : Nat → List (bq) → Bool → Option (Bool)
 | 0, _, _ => none
 | k + 1, a, b => if b = true then (some false) else ((aN.f k a).bind fun c => ((aX.f k a).bind fun d => (if ((decide ((c.length : Int) > 0)) == d) = true then ((dw.f k a).bind fun e => ((aX.f k a).bind fun f => (if ((decide (e ≥ 0)) == f) = true then (if (c.length : Int) = 0 then (some true) else (if 0 ≤ (wrap64 ((c.length : Int) - 1)) then (if (wrap64 ((c.length : Int) - 1)) < (c.length : Int) then (some ((rd c (wrap64 ((c.length : Int) - 1))) == (wrap64 ((a.length : Int) - 1)))) else (none)) else (none))) else (some false)))) else (some false))))
def aH.l0 : Nat → List Int → List (bq) → ByteArray → List (bq) → Bool → List ByteArray → Int → Option (Bool)
 | 0, _, _, _, _, _, _, _ => none
 | k + 1, a, b, c, d, e, f, g => if g < (f.length : Int) then (if 0 ≤ g then ((fB.f k d (gU ByteArray.empty f g)).bind fun h => ((fB.f k b (gU ByteArray.empty f g)).bind fun i => (if (h != i) = true then (some false) else (aH.l0 k a b c d e f (wrap64 (g + 1)))))) else (none)) else ((cB.f k d).bind fun j => (if j.toList = c.toList then ((dw.f k d).bind fun l => ((dw.f k b).bind fun m => (if l = m then ((aN.f k d).bind fun n => (aH.j1 k a b e ((n.length : Int) != (d.length : Int)))) else (aH.j1 k a b e true)))) else (aH.j1 k a b e true)))
def aH.j1 : Nat → List Int → List (bq) → Bool → Bool → Option (Bool)
 | 0, _, _, _, _ => none
 | k + 1, a, b, c, d => if d = true then (some false) else (if c = true then (aH.j2 k a b) else ((aN.f k b).bind fun e => (if (e.length : Int) = 1 then (some false) else (aH.j2 k a b))))
end
def aH.f (k : Nat) (l0 : List Int) : Option (Bool) := (iX.f l0).bind fun t360 => (if t360 = true then (some true) else ((dV.f k l0).bind fun t361 => ((cB.f k t361).bind fun t364 => (if t364.toList = ([] : List UInt8) then (aH.j2 k l0 t361) else ((bn.f k t364).bind fun bt365 => (if bt365.2 = true then (aH.l0 k l0 t361 t364 bt365.1 bt365.2 (([(⟨#[99, 97, 116]⟩ : ByteArray), (⟨#[97, 99, 116]⟩ : ByteArray), (⟨#[116, 97, 99]⟩ : ByteArray), (⟨#[97, 114, 99]⟩ : ByteArray), (⟨#[101, 114, 97]⟩ : ByteArray), (⟨#[101, 97, 114]⟩ : ByteArray), (⟨#[116, 101, 97]⟩ : ByteArray), (⟨#[101, 97, 116]⟩ : ByteArray), (⟨#[115, 101, 97]⟩ : ByteArray), (⟨#[116, 97, 114]⟩ : ByteArray), (⟨#[114, 97, 116]⟩ : ByteArray), (⟨#[115, 116, 97, 114]⟩ : ByteArray), (⟨#[114, 97, 116, 115]⟩ : ByteArray), (⟨#[101, 97, 115, 116]⟩ : ByteArray), (⟨#[116, 114, 97, 99, 101]⟩ : ByteArray)] : List ByteArray)) 0) else ((aN.f k t361).bind fun t385 => (if (t385.length : Int) = 1 then (some false) else (aH.j2 k l0 t361)))))))))
def aH.T12 : Bool × List (List Nat × List Nat) := (true, [([], []), ([], []), ([], []), ([1, 2], [1, 2]), ([3], [3]), ([0, 4], [0, 4]), ([], []), ([], []), ([], []), ([7, 8], [7, 8]), ([9], [9]), ([6, 10, 5], [6, 10]), ([5, 11], [5, 11])])
def aH.B12 : List Nat := [0, 0, 0, 6, 14, 31, 0, 0, 0, 384, 896, 2047, 4095]
theorem aH.sU : iE .any (opsOf Try.f9 12) = aH.T12 := by kernel_rfl
theorem aH.qF : iy aH.T12.2 aH.B12 = true := by kernel_rfl
theorem aH.calls (k : Nat) (A0 : Option Addr) (c0 : Nat) (l0 : List Int) (r : Bool) (w : World) (hr0 : Kd.C (Kd.int .u8) w A0 l0.length l0) (hc0 : l0.length ≤ c0) (h : aH.f k l0 = some r) :
  Calls Try.prog 9 #[.slice A0 l0.length c0] w fun e w' => e = .returned (.bool r) ∧ Below w.heap.size w w' := by
 have HR0 := aj.mk hr0
 have HC0 := aj.mk hc0
 clear hr0 hc0
 have HB := aj.mk (Below.refl w.heap.size w)
 unfold aH.f at h
 have H := h
 clear h
 replace H := be H; obtain ⟨t360, A2, H⟩ := H
 by_cases c3 : t360 = true
 ·subst c3
  rw [if_pos rfl] at H
  obtain rfl := Option.some.inj H
  go_enter Try.func9, Try.ntmps9
  go_wp2_with (first | ((with_reducible refine aJ (f := 19) rfl ?_); refine bI (some 14) Try.func19 #[.slice A0 l0.length c0] ?_; (with_reducible refine (iX.calls _ _ l0 true _ ?side1 ?side2 A2.out).mono ?_); (case side1 => repeat (first | exact HR0.out | (with_reducible refine Kd.fU ?_ _) | (with_reducible refine Kd.fT ?_ _) | (with_reducible refine Kd.iB ?_))); (case side2 => exact HC0.out); rintro e w' ⟨rfl, ⟨nd, rfl⟩⟩; refine ⟨_, rfl, ?_⟩))
  go_ret
  exact ⟨EWW, BL⟩
 ·replace c3 := Bool.eq_false_iff.mpr c3
  subst c3
  rw [if_neg Bool.false_ne_true] at H
  replace H := be H; obtain ⟨t361, A4, H⟩ := H
  replace H := be H; obtain ⟨t364, A5, H⟩ := H
  have HC6 := aj.mk H
  clear H
  go_enter Try.func9, Try.ntmps9
  go_upto_if 20 with (first | ((with_reducible refine aJ (f := 19) rfl ?_); refine bI (some 14) Try.func19 #[.slice A0 l0.length c0] ?_; (with_reducible refine (iX.calls _ _ l0 false _ ?side1 ?side2 A2.out).mono ?_); (case side1 => repeat (first | exact HR0.out | (with_reducible refine Kd.fU ?_ _) | (with_reducible refine Kd.fT ?_ _) | (with_reducible refine Kd.iB ?_))); (case side2 => exact HC0.out); rintro e w' ⟨rfl, ⟨nd, rfl⟩⟩; refine ⟨_, rfl, ?_⟩) | ((with_reducible refine aJ (f := 44) rfl ?_); refine bI (some 16) Try.func44 #[.slice A0 l0.length c0] ?_; (with_reducible refine (dV.calls k _ _ l0 t361 _ ?side1 ?side2 A4.out).mono ?_); (case side1 => repeat (first | exact HR0.out | (with_reducible refine Kd.fU ?_ _) | (with_reducible refine Kd.fT ?_ _) | (with_reducible refine Kd.iB ?_))); (case side2 => exact HC0.out); rintro e w7 ⟨v362, rfl, ho0, hb⟩; refine ⟨_, rfl, ?_⟩; have n0_ := aj.mk (Kd.dF ho0 (bS BL)); replace HB := BS (w := w) hb; have HO363 := n0_; clear n0_; (try clear hb); (try clear ho0); obtain ⟨Ao8, co8, eo8⟩ := Kd.dh HO363.out; subst eo8) | ((with_reducible refine aJ (f := 45) rfl ?_); refine bI (some 18) Try.func45 #[.slice Ao8 t361.length co8] ?_; (with_reducible refine (cB.calls k _ _ t361 t364 _ ?side1 ?side2 A5.out).mono ?_); (case side1 => exact CR2 HO363); (case side2 => exact (Kd.aZ HO363.out).2.1); rintro e w9 ⟨rfl, hb⟩; refine ⟨_, rfl, ?_⟩; replace HO363 := RB HO363 hb; replace HB := BS (w := w) hb; (try clear hb)))
  (try simp only [Act.put, List.setIfInBounds_toArray, List.set_cons_zero, List.set_cons_succ])
  go_cut [] (fun wc => ∃ (kq : Nat), aj (aH.j2 kq l0 t361 = some r) ∧ aj (kq ≤ k) ∧ aj (Kd.R eY 110 wc w.heap.size (fun _ => True) (.slice Ao8 t361.length co8) t361) ∧ aj (Below w.heap.size w wc))
  case first =>
   have H := HC6.out
   clear HC6
   by_cases c10 : t364.toList = ([] : List UInt8)
   ·rw [if_pos c10] at H
    have c10b0 : (t364.toList == ([] : List UInt8)) = true := beq_iff_eq.mpr c10
    have c10b1 : (t364.toList != ([] : List UInt8)) = false := bne_eq_false_iff_eq.mpr c10
    clear c10
    (first | rw [c10b0] | (simp only [bY, cu]; rw [c10b0]) | rw [show t364.toList.isEmpty = true by simpa using c10b0] | skip)
    have H' := aj.mk H
    clear H
    go_wp2
    go_meet
    case rel => exact ⟨_, H', ⟨by first | omega | exact Nat.le_refl _⟩, ⟨(RR HO363)⟩, ⟨BL⟩⟩
   ·rw [if_neg c10] at H
    have c10b0 : (t364.toList == ([] : List UInt8)) = false := beq_eq_false_iff_ne.mpr c10
    have c10b1 : (t364.toList != ([] : List UInt8)) = true := bne_iff_ne.mpr c10
    (first | rw [c10b0] | (simp only [bY, cu]; rw [c10b0]) | rw [show t364.toList.isEmpty = false by simpa using c10b0] | skip)
    replace H := be H; obtain ⟨⟨t365, t366⟩, A11, H⟩ := H
    dsimp only at H
    by_cases c12 : t366 = true
    ·subst c12
     rw [if_pos rfl] at H
     obtain ⟨y369, hy369⟩ : ∃ y_ : List ByteArray, y_ = (([(⟨#[99, 97, 116]⟩ : ByteArray), (⟨#[97, 99, 116]⟩ : ByteArray), (⟨#[116, 97, 99]⟩ : ByteArray), (⟨#[97, 114, 99]⟩ : ByteArray), (⟨#[101, 114, 97]⟩ : ByteArray), (⟨#[101, 97, 114]⟩ : ByteArray), (⟨#[116, 101, 97]⟩ : ByteArray), (⟨#[101, 97, 116]⟩ : ByteArray), (⟨#[115, 101, 97]⟩ : ByteArray), (⟨#[116, 97, 114]⟩ : ByteArray), (⟨#[114, 97, 116]⟩ : ByteArray), (⟨#[115, 116, 97, 114]⟩ : ByteArray), (⟨#[114, 97, 116, 115]⟩ : ByteArray), (⟨#[101, 97, 115, 116]⟩ : ByteArray), (⟨#[116, 114, 97, 99, 101]⟩ : ByteArray)] : List ByteArray)) := ⟨_, rfl⟩
     replace H : (aH.l0 k l0 t361 t364 t365 true y369 0) = some r := by first | (rw [hy369]; with_reducible exact H) | (have H2_ := (Option.bind_some _ _).symm.trans H; rw [hy369]; with_reducible exact H2_) | (have H2_ := (Option.bind_some _ _).symm.trans H; with_reducible exact H2_) | with_reducible exact H | (rw [hy369]; exact H) | exact H
     have Ny369 := aj.mk hy369
     clear hy369
     have H' := aj.mk H
     clear H
     go_wp2_with (first | ((with_reducible refine aJ (f := 31) rfl ?_); refine bI (some 23) Try.func31 #[.string t364] ?_; (with_reducible refine (bn.calls k t364 t365 true _ A11.out).mono ?_); rintro e w13 ⟨v367, rfl, ho0, hb⟩; refine ⟨_, rfl, ?_⟩; have n0_ := aj.mk (Kd.lJ (RR HO363) (Kd.qA ho0) hb); have n1_ := aj.mk (Kd.dF (Kd.qE ho0 (Kd.vU (RR HO363))) (bS BL)); replace HB := BS (w := w) hb; clear HO363; have HO363 := n0_; have HO368 := n1_; clear n0_ n1_; (try clear hb); (try clear ho0)) | ((with_reducible refine dz (N := 27) rfl ?_); (try (refine rV (by rfl) ?_; dsimp only)); refine Kd.kS Kd.string _ 9 ?hg (N := 27) ?hd (xs := ([(⟨#[99, 97, 116]⟩ : ByteArray), (⟨#[97, 99, 116]⟩ : ByteArray), (⟨#[116, 97, 99]⟩ : ByteArray), (⟨#[97, 114, 99]⟩ : ByteArray), (⟨#[101, 114, 97]⟩ : ByteArray), (⟨#[101, 97, 114]⟩ : ByteArray), (⟨#[116, 101, 97]⟩ : ByteArray), (⟨#[101, 97, 116]⟩ : ByteArray), (⟨#[115, 101, 97]⟩ : ByteArray), (⟨#[116, 97, 114]⟩ : ByteArray), (⟨#[114, 97, 116]⟩ : ByteArray), (⟨#[115, 116, 97, 114]⟩ : ByteArray), (⟨#[114, 97, 116, 115]⟩ : ByteArray), (⟨#[101, 97, 115, 116]⟩ : ByteArray), (⟨#[116, 114, 97, 99, 101]⟩ : ByteArray)] : List ByteArray)) (inner := [.string (⟨#[99, 97, 116]⟩ : ByteArray), .string (⟨#[97, 99, 116]⟩ : ByteArray), .string (⟨#[116, 97, 99]⟩ : ByteArray), .string (⟨#[97, 114, 99]⟩ : ByteArray), .string (⟨#[101, 114, 97]⟩ : ByteArray), .string (⟨#[101, 97, 114]⟩ : ByteArray), .string (⟨#[116, 101, 97]⟩ : ByteArray), .string (⟨#[101, 97, 116]⟩ : ByteArray), .string (⟨#[115, 101, 97]⟩ : ByteArray), .string (⟨#[116, 97, 114]⟩ : ByteArray), .string (⟨#[114, 97, 116]⟩ : ByteArray), .string (⟨#[115, 116, 97, 114]⟩ : ByteArray), .string (⟨#[114, 97, 116, 115]⟩ : ByteArray), .string (⟨#[101, 97, 115, 116]⟩ : ByteArray), .string (⟨#[116, 114, 97, 99, 101]⟩ : ByteArray)]) (ok := fun _ => True) (okp := fun _ => True) ?hr ?hp (fun _ hk => hk) trivial (Below.refl _ _) (Nat.le_refl _) (by simp) ?_; (case hd => rfl); (case hg => rfl); (case hr => first | (go_simp; done) | (go_simp; rfl)); (case hp => exact (bD.one (show Kd.M Kd.string _ _ _ (⟨#[99, 97, 116]⟩ : ByteArray) [.string (⟨#[99, 97, 116]⟩ : ByteArray)] from rfl) (bD.one (show Kd.M Kd.string _ _ _ (⟨#[97, 99, 116]⟩ : ByteArray) [.string (⟨#[97, 99, 116]⟩ : ByteArray)] from rfl) (bD.one (show Kd.M Kd.string _ _ _ (⟨#[116, 97, 99]⟩ : ByteArray) [.string (⟨#[116, 97, 99]⟩ : ByteArray)] from rfl) (bD.one (show Kd.M Kd.string _ _ _ (⟨#[97, 114, 99]⟩ : ByteArray) [.string (⟨#[97, 114, 99]⟩ : ByteArray)] from rfl) (bD.one (show Kd.M Kd.string _ _ _ (⟨#[101, 114, 97]⟩ : ByteArray) [.string (⟨#[101, 114, 97]⟩ : ByteArray)] from rfl) (bD.one (show Kd.M Kd.string _ _ _ (⟨#[101, 97, 114]⟩ : ByteArray) [.string (⟨#[101, 97, 114]⟩ : ByteArray)] from rfl) (bD.one (show Kd.M Kd.string _ _ _ (⟨#[116, 101, 97]⟩ : ByteArray) [.string (⟨#[116, 101, 97]⟩ : ByteArray)] from rfl) (bD.one (show Kd.M Kd.string _ _ _ (⟨#[101, 97, 116]⟩ : ByteArray) [.string (⟨#[101, 97, 116]⟩ : ByteArray)] from rfl) (bD.one (show Kd.M Kd.string _ _ _ (⟨#[115, 101, 97]⟩ : ByteArray) [.string (⟨#[115, 101, 97]⟩ : ByteArray)] from rfl) (bD.one (show Kd.M Kd.string _ _ _ (⟨#[116, 97, 114]⟩ : ByteArray) [.string (⟨#[116, 97, 114]⟩ : ByteArray)] from rfl) (bD.one (show Kd.M Kd.string _ _ _ (⟨#[114, 97, 116]⟩ : ByteArray) [.string (⟨#[114, 97, 116]⟩ : ByteArray)] from rfl) (bD.one (show Kd.M Kd.string _ _ _ (⟨#[115, 116, 97, 114]⟩ : ByteArray) [.string (⟨#[115, 116, 97, 114]⟩ : ByteArray)] from rfl) (bD.one (show Kd.M Kd.string _ _ _ (⟨#[114, 97, 116, 115]⟩ : ByteArray) [.string (⟨#[114, 97, 116, 115]⟩ : ByteArray)] from rfl) (bD.one (show Kd.M Kd.string _ _ _ (⟨#[101, 97, 115, 116]⟩ : ByteArray) [.string (⟨#[101, 97, 115, 116]⟩ : ByteArray)] from rfl) (bD.one (show Kd.M Kd.string _ _ _ (⟨#[116, 114, 97, 99, 101]⟩ : ByteArray) [.string (⟨#[116, 114, 97, 99, 101]⟩ : ByteArray)] from rfl) (bD.none _ _))))))))))))))))); intro v370 w14 ho15 hb hg_ hnew_; clear hg_ hnew_; (first | rw [← Ny369.out] at ho15 | (simp only [Int.reduceToNat] at ho15; rw [← Ny369.out] at ho15)); have n2_ := aj.mk (Kd.dF ho15 (bS BL)); replace HO363 := RB HO363 hb; replace HO368 := RB HO368 hb; replace HB := BS (w := w) hb; have HO371 := n2_; clear n2_; clear hb ho15))
     go_loopg [8] k (fun kq v8 w' => ∃ (x8_1 : Int), v8 = .int .i64 x8_1 ∧ aj (aH.l0 kq l0 t361 t364 t365 true y369 x8_1 = some r) ∧ aj (kq ≤ k) ∧ aj (Kd.R eY 110 w' w.heap.size (fun k_ => some k_ ≠ (v367 : Value).ownBlock) (.slice Ao8 t361.length co8) t361) ∧ aj (Kd.R eY 110 w' w.heap.size (fun k_ => some k_ ≠ ((.slice Ao8 t361.length co8) : Value).ownBlock) v367 t365) ∧ aj (Kd.R Kd.string 9 w' w.heap.size (fun _ => True) v370 y369) ∧ aj (Below w.heap.size w w'))
     case atStart => exact ⟨(0), EQ, H', ⟨Nat.le_refl _⟩, ⟨by (with_reducible repeat (first | apply Kd.dL | apply Kd.dM | apply Kd.dJ)); exact Kd.dD HO363.out (fun _ hk => hk.2)⟩, ⟨by (with_reducible repeat (first | apply Kd.dL | apply Kd.dM | apply Kd.dJ)); exact Kd.dD HO368.out (fun _ hk => hk.2)⟩, ⟨(RR HO371)⟩, ⟨BL⟩⟩
     case round =>
      clear H'
      try clear c3
      try clear c10
      try clear c10b0
      try clear c10b1
      try clear c12
      obtain ⟨x8_1, rfl, HA, HK1, HO_3, HO_5, HO_7, HB⟩ := hrel
      cases gk with
      | zero => exact absurd HA.out (by simp [aH.l0])
      | succ k1 =>
       have H := HA.out
       clear HA
       simp only [aH.l0] at H
       by_cases c16 : x8_1 < (y369.length : Int)
       ·rw [if_pos c16] at H
        have c16b0 : decide (x8_1 < (y369.length : Int)) = true := decide_eq_true c16
        clear c16
        by_cases c17 : 0 ≤ x8_1
        ·rw [if_pos c17] at H
         have c17b0 : decide (0 ≤ x8_1) = true := decide_eq_true c17
         clear c17
         replace H := be H; obtain ⟨t373, A18, H⟩ := H
         replace H := be H; obtain ⟨t375, A19, H⟩ := H
         by_cases c20 : (t373 != t375) = true
         ·rw [if_pos c20] at H
          have c20b0 : (t373 != t375) = true := c20
          (try (have c20b1 : decide (t373 = t375) = false := by simpa using c20))
          (try (have c20b2 : (t373 == t375) = false := by simpa using c20))
          (try (have c20b3 : ¬ (t373 = t375) := by simpa using c20))
          clear c20
          obtain rfl := Option.some.inj H
          obtain ⟨Ao21, co21, eo21⟩ := Kd.dh HO_7.out
          subst eo21
          try go_wp2
          have n0_ := aj.mk (Kd.dJ HO_3.out)
          have n1_ := aj.mk (Kd.dJ HO_5.out)
          have n2_ := aj.mk (Kd.dJ HO_7.out)
          have n3_ := aj.mk (aG HB.out)
          clear HO_3
          clear HO_5
          clear HO_7
          clear HB
          have HO_3 := n0_
          have HO_5 := n1_
          have HO_7 := n2_
          have HB := n3_
          clear n0_ n1_ n2_ n3_
          have p372 : 0 ≤ (x8_1 : Int) := OD
          have q372 : x8_1 < (y369.length : Int) := OD
          obtain ⟨ad372, e372, hx372_0⟩ := Kd.jr (Kd.aZ HO_7.out).2.2 x8_1 p372 q372
          cases e372
          replace p372 := eq_true p372
          replace q372 := eq_true q372
          have p374 : 0 ≤ (x8_1 : Int) := OD
          have q374 : x8_1 < (y369.length : Int) := OD
          obtain ⟨ad374, e374, hx374_0⟩ := Kd.jr (Kd.aZ HO_7.out).2.2 x8_1 p374 q374
          obtain rfl : ad372 = ad374 := (by injection e374)
          replace p374 := eq_true p374
          replace q374 := eq_true q374
          obtain ⟨Ao23, co23, eo23⟩ := Kd.dh HO_5.out
          (first | subst eo23 | (injection eo23 with f1_ f2_ f3_; have f4_ := f1_.symm; have f5_ := f3_.symm; clear f1_ f2_ f3_; subst f4_; subst f5_))
          refine iJ (n := 13) (S := fun w' => w'.cell? (ad372.add (x8_1).toNat) = some (.string (gU ByteArray.empty y369 x8_1)) ∧ w'.cell? (ad372.add (x8_1).toNat) = some (.string (gU ByteArray.empty y369 x8_1))) (ds := []) #[F,F,F,F,F,F,F,F,F,F,F,F,F] (by kernel_rfl) rfl rfl ⟨hx372_0, hx374_0⟩ (fun hHeld => ?_); refine gZ aH.sU aH.qF (fun HT_ HW_ => ?_)
          generalize wr.drew = w22 at HO_3 HO_5 HO_7 HB hx372_0 hx374_0 hHeld ⊢
          refine puS (i := 0) (N := some 34) #[T,F,F,F,F,F,F,F,F,F,F,F,F] (bg HT_.out (by kernel_rfl)) ?_
          refine puS (i := 1) (N := some 35) #[T,T,F,F,F,F,F,F,F,F,F,F,F] (bg HT_.out (by kernel_rfl)) ?_
          refine puS (i := 2) (N := some 36) #[T,T,T,F,F,F,F,F,F,F,F,F,F] (bg HT_.out (by kernel_rfl)) ?_
          refine puS (i := 3) (N := some 37) #[T,T,T,T,F,F,F,F,F,F,F,F,F] (bg HT_.out (by kernel_rfl)) ?_
          refine puS (i := 6) (N := some 40) #[T,T,T,T,F,F,T,F,F,F,F,F,F] (bg HT_.out (by kernel_rfl)) ?_
          refine puS (i := 7) (N := some 41) #[T,T,T,T,F,F,T,T,F,F,F,F,F] (bg HT_.out (by kernel_rfl)) ?_
          refine puS (i := 8) (N := some 42) #[T,T,T,T,F,F,T,T,T,F,F,F,F] (bg HT_.out (by kernel_rfl)) ?_
          refine puS (i := 9) (N := some 43) #[T,T,T,T,F,F,T,T,T,T,F,F,F] (bg HT_.out (by kernel_rfl)) ?_
          refine jy (i := 4) (N := some 38) (v := ?_) (a' := ?_) #[T,T,T,T,T,F,T,T,T,T,F,F,F] rfl rfl (dU HT_.out HW_.out (by kernel_rfl)) (fun _ _ _ h => h) (Or.inl ⟨by rfl, ?_⟩) hHeld ?_ ?_
          rotate_left
          ·rintro w' ⟨s0, s1⟩
           go_simp
           with_reducible rfl
          rotate_left
          ·simp only [Act.put, PT, bY, cu]
           rfl
          refine jy (i := 10) (N := some 44) (v := ?_) (a' := ?_) #[T,T,T,T,T,F,T,T,T,T,T,F,F] rfl rfl (dU HT_.out HW_.out (by kernel_rfl)) (fun _ _ _ h => h) (Or.inl ⟨by rfl, ?_⟩) hHeld ?_ ?_
          rotate_left
          ·rintro w' ⟨s0, s1⟩
           go_simp
           with_reducible rfl
          rotate_left
          ·simp only [Act.put, PT, bY, cu]
           rfl
          refine jm (i := 5) (N := some 39) #[T,T,T,T,T,T,T,T,T,T,T,F,F] rfl rfl (gW HT_.out (by kernel_rfl)) (by decide) (fun K hK => ?_)
          refine qZ Try.func46 (by kernel_rfl) rfl #[.slice Ao23 t365.length co23, .string (gU ByteArray.empty y369 x8_1)] (by rfl) rfl rfl (by (try simp only [List.map_toArray, List.map_cons, List.map_nil]); first | done | rfl | (simp only [List.length_drop, List.length_take]; rfl)) ?_
          with_reducible refine (fB.calls k1 _ _ t365 (gU ByteArray.empty y369 x8_1) t373 _ ?side1 ?side2 A18.out).mono ?_
          (case side1 => exact CR2 HO_5)
          (case side2 => exact (Kd.aZ HO_5.out).2.1)
          rintro e w24 ⟨rfl, hb⟩
          have HS0_ := (hb.cell (World.block_lt_of_cell? _ _ (hHeld.1))).trans (hHeld.1)
          have HS1_ := (hb.cell (World.block_lt_of_cell? _ _ (hHeld.2))).trans (hHeld.2)
          refine ⟨_, rfl, ?_⟩
          have n0_ := RB HO_3 hb
          have n1_ := RB HO_5 hb
          have n2_ := RB HO_7 hb
          have n3_ := BS (w := w) hb
          clear HO_3
          clear HO_5
          clear HO_7
          clear HB
          have HO_3 := n0_
          have HO_5 := n1_
          have HO_7 := n2_
          have HB := n3_
          clear n0_ n1_ n2_ n3_
          (try clear hb)
          (try clear hb2)
          (try clear hk)
          (try clear hi)
          refine hK.out _ _ ⟨HS0_, HS1_⟩ (fun hHeld => ?_)
          clear hK K
          refine jL (a' := ?_) ?_ ?_
          rotate_left
          ·show Act.put _ (some 39) _ = _
           simp only [Act.put, PT, bY, cu]
           rfl
          refine jm (i := 11) (N := some 45) #[T,T,T,T,T,T,T,T,T,T,T,T,F] rfl rfl (gW HT_.out (by kernel_rfl)) (by decide) (fun K hK => ?_)
          refine qZ Try.func46 (by kernel_rfl) rfl #[.slice Ao8 t361.length co8, .string (gU ByteArray.empty y369 x8_1)] (by rfl) rfl rfl (by (try simp only [List.map_toArray, List.map_cons, List.map_nil]); first | done | rfl | (simp only [List.length_drop, List.length_take]; rfl)) ?_
          with_reducible refine (fB.calls k1 _ _ t361 (gU ByteArray.empty y369 x8_1) t375 _ ?side1 ?side2 A19.out).mono ?_
          (case side1 => exact CR2 HO_3)
          (case side2 => exact (Kd.aZ HO_3.out).2.1)
          rintro e w25 ⟨rfl, hb⟩
          have HS0_ := (hb.cell (World.block_lt_of_cell? _ _ (hHeld.1))).trans (hHeld.1)
          have HS1_ := (hb.cell (World.block_lt_of_cell? _ _ (hHeld.2))).trans (hHeld.2)
          refine ⟨_, rfl, ?_⟩
          have n0_ := RB HO_3 hb
          have n1_ := RB HO_5 hb
          have n2_ := RB HO_7 hb
          have n3_ := BS (w := w) hb
          clear HO_3
          clear HO_5
          clear HO_7
          clear HB
          have HO_3 := n0_
          have HO_5 := n1_
          have HO_7 := n2_
          have HB := n3_
          clear n0_ n1_ n2_ n3_
          (try clear hb)
          (try clear hb2)
          (try clear hk)
          (try clear hi)
          refine hK.out _ _ ⟨HS0_, HS1_⟩ (fun hHeld => ?_)
          clear hK K
          refine jL (a' := ?_) ?_ ?_
          rotate_left
          ·show Act.put _ (some 45) _ = _
           simp only [Act.put, PT, bY, cu]
           rfl
          refine puS (i := 12) (N := some 46) #[T,T,T,T,T,T,T,T,T,T,T,T,T] (bg HT_.out (by kernel_rfl)) ?_
          refine iN (gN HT_.out (by kernel_rfl)) ?_
          try go_wp2
          go_ret
          exact ⟨EWW, BL⟩
         ·rw [if_neg c20] at H
          have c20b0 : (t373 != t375) = false := by simpa using c20
          (try (have c20b1 : decide (t373 = t375) = true := by simpa using c20))
          (try (have c20b2 : (t373 == t375) = true := by simpa using c20))
          clear c20
          have H' := aj.mk H
          clear H
          obtain ⟨Ao26, co26, eo26⟩ := Kd.dh HO_7.out
          subst eo26
          try go_wp2
          have n0_ := aj.mk (Kd.dJ HO_3.out)
          have n1_ := aj.mk (Kd.dJ HO_5.out)
          have n2_ := aj.mk (Kd.dJ HO_7.out)
          have n3_ := aj.mk (aG HB.out)
          clear HO_3
          clear HO_5
          clear HO_7
          clear HB
          have HO_3 := n0_
          have HO_5 := n1_
          have HO_7 := n2_
          have HB := n3_
          clear n0_ n1_ n2_ n3_
          have p372 : 0 ≤ (x8_1 : Int) := OD
          have q372 : x8_1 < (y369.length : Int) := OD
          obtain ⟨ad372, e372, hx372_0⟩ := Kd.jr (Kd.aZ HO_7.out).2.2 x8_1 p372 q372
          cases e372
          replace p372 := eq_true p372
          replace q372 := eq_true q372
          have p374 : 0 ≤ (x8_1 : Int) := OD
          have q374 : x8_1 < (y369.length : Int) := OD
          obtain ⟨ad374, e374, hx374_0⟩ := Kd.jr (Kd.aZ HO_7.out).2.2 x8_1 p374 q374
          obtain rfl : ad372 = ad374 := (by injection e374)
          replace p374 := eq_true p374
          replace q374 := eq_true q374
          obtain ⟨Ao28, co28, eo28⟩ := Kd.dh HO_5.out
          (first | subst eo28 | (injection eo28 with f1_ f2_ f3_; have f4_ := f1_.symm; have f5_ := f3_.symm; clear f1_ f2_ f3_; subst f4_; subst f5_))
          refine iJ (n := 13) (S := fun w' => w'.cell? (ad372.add (x8_1).toNat) = some (.string (gU ByteArray.empty y369 x8_1)) ∧ w'.cell? (ad372.add (x8_1).toNat) = some (.string (gU ByteArray.empty y369 x8_1))) (ds := []) #[F,F,F,F,F,F,F,F,F,F,F,F,F] (by kernel_rfl) rfl rfl ⟨hx372_0, hx374_0⟩ (fun hHeld => ?_); refine gZ aH.sU aH.qF (fun HT_ HW_ => ?_)
          generalize wr.drew = w27 at HO_3 HO_5 HO_7 HB hx372_0 hx374_0 hHeld ⊢
          refine puS (i := 0) (N := some 34) #[T,F,F,F,F,F,F,F,F,F,F,F,F] (bg HT_.out (by kernel_rfl)) ?_
          refine puS (i := 1) (N := some 35) #[T,T,F,F,F,F,F,F,F,F,F,F,F] (bg HT_.out (by kernel_rfl)) ?_
          refine puS (i := 2) (N := some 36) #[T,T,T,F,F,F,F,F,F,F,F,F,F] (bg HT_.out (by kernel_rfl)) ?_
          refine puS (i := 3) (N := some 37) #[T,T,T,T,F,F,F,F,F,F,F,F,F] (bg HT_.out (by kernel_rfl)) ?_
          refine puS (i := 6) (N := some 40) #[T,T,T,T,F,F,T,F,F,F,F,F,F] (bg HT_.out (by kernel_rfl)) ?_
          refine puS (i := 7) (N := some 41) #[T,T,T,T,F,F,T,T,F,F,F,F,F] (bg HT_.out (by kernel_rfl)) ?_
          refine puS (i := 8) (N := some 42) #[T,T,T,T,F,F,T,T,T,F,F,F,F] (bg HT_.out (by kernel_rfl)) ?_
          refine puS (i := 9) (N := some 43) #[T,T,T,T,F,F,T,T,T,T,F,F,F] (bg HT_.out (by kernel_rfl)) ?_
          refine jy (i := 4) (N := some 38) (v := ?_) (a' := ?_) #[T,T,T,T,T,F,T,T,T,T,F,F,F] rfl rfl (dU HT_.out HW_.out (by kernel_rfl)) (fun _ _ _ h => h) (Or.inl ⟨by rfl, ?_⟩) hHeld ?_ ?_
          rotate_left
          ·rintro w' ⟨s0, s1⟩
           go_simp
           with_reducible rfl
          rotate_left
          ·simp only [Act.put, PT, bY, cu]
           rfl
          refine jy (i := 10) (N := some 44) (v := ?_) (a' := ?_) #[T,T,T,T,T,F,T,T,T,T,T,F,F] rfl rfl (dU HT_.out HW_.out (by kernel_rfl)) (fun _ _ _ h => h) (Or.inl ⟨by rfl, ?_⟩) hHeld ?_ ?_
          rotate_left
          ·rintro w' ⟨s0, s1⟩
           go_simp
           with_reducible rfl
          rotate_left
          ·simp only [Act.put, PT, bY, cu]
           rfl
          refine jm (i := 5) (N := some 39) #[T,T,T,T,T,T,T,T,T,T,T,F,F] rfl rfl (gW HT_.out (by kernel_rfl)) (by decide) (fun K hK => ?_)
          refine qZ Try.func46 (by kernel_rfl) rfl #[.slice Ao28 t365.length co28, .string (gU ByteArray.empty y369 x8_1)] (by rfl) rfl rfl (by (try simp only [List.map_toArray, List.map_cons, List.map_nil]); first | done | rfl | (simp only [List.length_drop, List.length_take]; rfl)) ?_
          with_reducible refine (fB.calls k1 _ _ t365 (gU ByteArray.empty y369 x8_1) t373 _ ?side1 ?side2 A18.out).mono ?_
          (case side1 => exact CR2 HO_5)
          (case side2 => exact (Kd.aZ HO_5.out).2.1)
          rintro e w29 ⟨rfl, hb⟩
          have HS0_ := (hb.cell (World.block_lt_of_cell? _ _ (hHeld.1))).trans (hHeld.1)
          have HS1_ := (hb.cell (World.block_lt_of_cell? _ _ (hHeld.2))).trans (hHeld.2)
          refine ⟨_, rfl, ?_⟩
          have n0_ := RB HO_3 hb
          have n1_ := RB HO_5 hb
          have n2_ := RB HO_7 hb
          have n3_ := BS (w := w) hb
          clear HO_3
          clear HO_5
          clear HO_7
          clear HB
          have HO_3 := n0_
          have HO_5 := n1_
          have HO_7 := n2_
          have HB := n3_
          clear n0_ n1_ n2_ n3_
          (try clear hb)
          (try clear hb2)
          (try clear hk)
          (try clear hi)
          refine hK.out _ _ ⟨HS0_, HS1_⟩ (fun hHeld => ?_)
          clear hK K
          refine jL (a' := ?_) ?_ ?_
          rotate_left
          ·show Act.put _ (some 39) _ = _
           simp only [Act.put, PT, bY, cu]
           rfl
          refine jm (i := 11) (N := some 45) #[T,T,T,T,T,T,T,T,T,T,T,T,F] rfl rfl (gW HT_.out (by kernel_rfl)) (by decide) (fun K hK => ?_)
          refine qZ Try.func46 (by kernel_rfl) rfl #[.slice Ao8 t361.length co8, .string (gU ByteArray.empty y369 x8_1)] (by rfl) rfl rfl (by (try simp only [List.map_toArray, List.map_cons, List.map_nil]); first | done | rfl | (simp only [List.length_drop, List.length_take]; rfl)) ?_
          with_reducible refine (fB.calls k1 _ _ t361 (gU ByteArray.empty y369 x8_1) t375 _ ?side1 ?side2 A19.out).mono ?_
          (case side1 => exact CR2 HO_3)
          (case side2 => exact (Kd.aZ HO_3.out).2.1)
          rintro e w30 ⟨rfl, hb⟩
          have HS0_ := (hb.cell (World.block_lt_of_cell? _ _ (hHeld.1))).trans (hHeld.1)
          have HS1_ := (hb.cell (World.block_lt_of_cell? _ _ (hHeld.2))).trans (hHeld.2)
          refine ⟨_, rfl, ?_⟩
          have n0_ := RB HO_3 hb
          have n1_ := RB HO_5 hb
          have n2_ := RB HO_7 hb
          have n3_ := BS (w := w) hb
          clear HO_3
          clear HO_5
          clear HO_7
          clear HB
          have HO_3 := n0_
          have HO_5 := n1_
          have HO_7 := n2_
          have HB := n3_
          clear n0_ n1_ n2_ n3_
          (try clear hb)
          (try clear hb2)
          (try clear hk)
          (try clear hi)
          refine hK.out _ _ ⟨HS0_, HS1_⟩ (fun hHeld => ?_)
          clear hK K
          refine jL (a' := ?_) ?_ ?_
          rotate_left
          ·show Act.put _ (some 45) _ = _
           simp only [Act.put, PT, bY, cu]
           rfl
          refine puS (i := 12) (N := some 46) #[T,T,T,T,T,T,T,T,T,T,T,T,T] (bg HT_.out (by kernel_rfl)) ?_
          refine iN (gN HT_.out (by kernel_rfl)) ?_
          try go_wp2
          go_roundg k1
          case measure => have := HK1.out; omega
          case rel => exact ⟨(wrap64 (x8_1 + 1)), EQ, H', ⟨by have := HK1.out; omega⟩, ⟨(RR HO_3)⟩, ⟨(RR HO_5)⟩, ⟨(RR HO_7)⟩, ⟨BL⟩⟩
        ·rw [if_neg c17] at H
         exact absurd H (by simp)
       ·rw [if_neg c16] at H
        have c16b0 : decide (x8_1 < (y369.length : Int)) = false := decide_eq_false c16
        clear c16
        have HC31 := aj.mk H
        clear H
        obtain ⟨Ao32, co32, eo32⟩ := Kd.dh HO_7.out
        subst eo32
        go_upto_region 14 with (fail)
        go_cut [65] (fun v65 wc => ∃ (kq : Nat) (x65_30 : Bool), v65 = .bool x65_30 ∧ aj (aH.j1 kq l0 t361 true x65_30 = some r) ∧ aj (kq ≤ k1) ∧ aj (Kd.R eY 110 wc w.heap.size (fun _ => True) (.slice Ao8 t361.length co8) t361) ∧ aj (Below w.heap.size w wc))
        case first =>
         have H := HC31.out
         clear HC31
         replace H := be H; obtain ⟨t376, A33, H⟩ := H
         by_cases c34 : t376.toList = t364.toList
         ·rw [if_pos c34] at H
          have c34b0 : (t376.toList == t364.toList) = true := beq_iff_eq.mpr c34
          have c34b1 : (t376.toList != t364.toList) = false := bne_eq_false_iff_eq.mpr c34
          clear c34
          (first | rw [c34b0] | (simp only [bY, cu]; rw [c34b0]) | skip)
          replace H := be H; obtain ⟨t377, A35, H⟩ := H
          replace H := be H; obtain ⟨t378, A36, H⟩ := H
          by_cases c37 : t377 = t378
          ·rw [if_pos c37] at H
           have c37b0 : (t377 == t378) = true := beq_iff_eq.mpr c37
           have c37b1 : (t377 != t378) = false := bne_eq_false_iff_eq.mpr c37
           clear c37
           replace H := be H; obtain ⟨t379, A38, H⟩ := H
           have H' := aj.mk H
           clear H
           obtain ⟨Ao39, co39, eo39⟩ := Kd.dh HO_5.out
           subst eo39
           go_wp2_with (first | ((with_reducible refine aJ (f := 45) rfl ?_); refine bI (some 48) Try.func45 #[.slice Ao39 t365.length co39] ?_; (with_reducible refine (cB.calls k1 _ _ t365 t376 _ ?side1 ?side2 A33.out).mono ?_); (case side1 => exact CR2 HO_5); (case side2 => exact (Kd.aZ HO_5.out).2.1); rintro e w40 ⟨rfl, hb⟩; refine ⟨_, rfl, ?_⟩; replace HO_3 := RB HO_3 hb; replace HO_5 := RB HO_5 hb; replace HO_7 := RB HO_7 hb; replace HB := BS (w := w) hb; (try clear hb)) | (go_at_call 47; (with_reducible refine (dw.calls k1 _ _ t365 t377 _ ?side1 ?side2 A35.out).mono ?_); (case side1 => exact CR2 HO_5); (case side2 => exact (Kd.aZ HO_5.out).2.1); rintro e w41 ⟨rfl, hb⟩; replace HO_3 := RB HO_3 hb; replace HO_5 := RB HO_5 hb; replace HO_7 := RB HO_7 hb; replace HB := BS (w := w) hb; (try clear hb)) | (go_at_call 47; (with_reducible refine (dw.calls k1 _ _ t361 t378 _ ?side1 ?side2 A36.out).mono ?_); (case side1 => exact CR2 HO_3); (case side2 => exact (Kd.aZ HO_3.out).2.1); rintro e w42 ⟨rfl, hb⟩; replace HO_3 := RB HO_3 hb; replace HO_5 := RB HO_5 hb; replace HO_7 := RB HO_7 hb; replace HB := BS (w := w) hb; (try clear hb)) | (go_at_call 48; (with_reducible refine (aN.calls k1 _ _ t365 t379 _ ?side1 ?side2 A38.out).mono ?_); (case side1 => exact CR2 HO_5); (case side2 => exact (Kd.aZ HO_5.out).2.1); rintro e w43 ⟨v380, rfl, ho0, hb⟩; have n3_ := aj.mk (Kd.dF ho0 (bS BL)); replace HO_3 := RB HO_3 hb; replace HO_5 := RB HO_5 hb; replace HO_7 := RB HO_7 hb; replace HB := BS (w := w) hb; have HO381 := n3_; clear n3_; (try clear hb); (try clear ho0); obtain ⟨Ao44, co44, eo44⟩ := Kd.dh HO381.out; subst eo44))
           go_meet
           case rel => exact ⟨_, (((t379.length : Int) != (t365.length : Int))), EQ, H', ⟨by have := HK1.out; first | omega | exact Nat.le_refl _⟩, ⟨by (with_reducible repeat (first | apply Kd.dL | apply Kd.dM | apply Kd.dJ)); exact Kd.dD HO_3.out (fun _ hk => trivial)⟩, ⟨BL⟩⟩
          ·rw [if_neg c37] at H
           have c37b0 : (t377 == t378) = false := beq_eq_false_iff_ne.mpr c37
           have c37b1 : (t377 != t378) = true := bne_iff_ne.mpr c37
           have H' := aj.mk H
           clear H
           obtain ⟨Ao45, co45, eo45⟩ := Kd.dh HO_5.out
           subst eo45
           go_wp2_with (first | ((with_reducible refine aJ (f := 45) rfl ?_); refine bI (some 48) Try.func45 #[.slice Ao45 t365.length co45] ?_; (with_reducible refine (cB.calls k1 _ _ t365 t376 _ ?side1 ?side2 A33.out).mono ?_); (case side1 => exact CR2 HO_5); (case side2 => exact (Kd.aZ HO_5.out).2.1); rintro e w46 ⟨rfl, hb⟩; refine ⟨_, rfl, ?_⟩; replace HO_3 := RB HO_3 hb; replace HO_5 := RB HO_5 hb; replace HO_7 := RB HO_7 hb; replace HB := BS (w := w) hb; (try clear hb)) | (go_at_call 47; (with_reducible refine (dw.calls k1 _ _ t365 t377 _ ?side1 ?side2 A35.out).mono ?_); (case side1 => exact CR2 HO_5); (case side2 => exact (Kd.aZ HO_5.out).2.1); rintro e w47 ⟨rfl, hb⟩; replace HO_3 := RB HO_3 hb; replace HO_5 := RB HO_5 hb; replace HO_7 := RB HO_7 hb; replace HB := BS (w := w) hb; (try clear hb)) | (go_at_call 47; (with_reducible refine (dw.calls k1 _ _ t361 t378 _ ?side1 ?side2 A36.out).mono ?_); (case side1 => exact CR2 HO_3); (case side2 => exact (Kd.aZ HO_3.out).2.1); rintro e w48 ⟨rfl, hb⟩; replace HO_3 := RB HO_3 hb; replace HO_5 := RB HO_5 hb; replace HO_7 := RB HO_7 hb; replace HB := BS (w := w) hb; (try clear hb)))
           go_meet
           case rel => exact ⟨_, (true), EQ, H', ⟨by have := HK1.out; first | omega | exact Nat.le_refl _⟩, ⟨by (with_reducible repeat (first | apply Kd.dL | apply Kd.dM | apply Kd.dJ)); exact Kd.dD HO_3.out (fun _ hk => trivial)⟩, ⟨BL⟩⟩
         ·rw [if_neg c34] at H
          have c34b0 : (t376.toList == t364.toList) = false := beq_eq_false_iff_ne.mpr c34
          have c34b1 : (t376.toList != t364.toList) = true := bne_iff_ne.mpr c34
          (first | rw [c34b0] | (simp only [bY, cu]; rw [c34b0]) | skip)
          have H' := aj.mk H
          clear H
          obtain ⟨Ao49, co49, eo49⟩ := Kd.dh HO_5.out
          subst eo49
          go_wp2_with (first | ((with_reducible refine aJ (f := 45) rfl ?_); refine bI (some 48) Try.func45 #[.slice Ao49 t365.length co49] ?_; (with_reducible refine (cB.calls k1 _ _ t365 t376 _ ?side1 ?side2 A33.out).mono ?_); (case side1 => exact CR2 HO_5); (case side2 => exact (Kd.aZ HO_5.out).2.1); rintro e w50 ⟨rfl, hb⟩; refine ⟨_, rfl, ?_⟩; replace HO_3 := RB HO_3 hb; replace HO_5 := RB HO_5 hb; replace HO_7 := RB HO_7 hb; replace HB := BS (w := w) hb; (try clear hb)))
          go_meet
          case rel => exact ⟨_, (true), EQ, H', ⟨by have := HK1.out; first | omega | exact Nat.le_refl _⟩, ⟨by (with_reducible repeat (first | apply Kd.dL | apply Kd.dM | apply Kd.dJ)); exact Kd.dD HO_3.out (fun _ hk => trivial)⟩, ⟨BL⟩⟩
        case rest =>
         clear HC31
         try clear c3
         try clear c10
         try clear c10b0
         try clear c10b1
         try clear c12
         try clear c16
         try clear c16b0
         obtain ⟨kq, x65_30, rfl, HA, HJ30, HO_3, HB⟩ := hcut
         cases kq with
         | zero => exact absurd HA.out (by simp [aH.j1])
         | succ kj30 =>
          have H := HA.out
          clear HA
          simp only [aH.j1] at H
          by_cases c51 : x65_30 = true
          ·subst c51
           rw [if_pos rfl] at H
           obtain rfl := Option.some.inj H
           go_wp2
           go_ret
           exact ⟨EWW, BL⟩
          ·replace c51 := Bool.eq_false_iff.mpr c51
           subst c51
           rw [if_neg Bool.false_ne_true] at H
           by_cases c52 : true = true
           ·clear c52
            have H1 : (aH.j2 kj30 l0 t361) = some r := by first | (rw [if_pos rfl] at H; exact H) | (rw [if_pos trivial] at H; exact H)
            clear H
            have H := H1
            clear H1
            have H' := aj.mk H
            clear H
            go_wp2
            go_meet
            case rel => exact ⟨_, H', ⟨by have := HK1.out; have := HJ30.out; first | omega | exact Nat.le_refl _⟩, ⟨(RR HO_3)⟩, ⟨BL⟩⟩
           ·exact absurd rfl c52
    ·replace c12 := Bool.eq_false_iff.mpr c12
     subst c12
     rw [if_neg Bool.false_ne_true] at H
     replace H := be H; obtain ⟨t385, A59, H⟩ := H
     by_cases c60 : (t385.length : Int) = 1
     ·rw [if_pos c60] at H
      have c60b0 : ((t385.length : Int) == 1) = true := beq_iff_eq.mpr c60
      have c60b1 : ((t385.length : Int) != 1) = false := bne_eq_false_iff_eq.mpr c60
      clear c60
      obtain rfl := Option.some.inj H
      go_wp2_with (first | ((with_reducible refine aJ (f := 31) rfl ?_); refine bI (some 23) Try.func31 #[.string t364] ?_; (with_reducible refine (bn.calls k t364 t365 false _ A11.out).mono ?_); rintro e w61 ⟨v367, rfl, ho0, hb⟩; refine ⟨_, rfl, ?_⟩; have n0_ := aj.mk (Kd.lJ (RR HO363) (Kd.qA ho0) hb); have n1_ := aj.mk (Kd.dF (Kd.qE ho0 (Kd.vU (RR HO363))) (bS BL)); replace HB := BS (w := w) hb; clear HO363; have HO363 := n0_; have HO368 := n1_; clear n0_ n1_; (try clear hb); (try clear ho0)) | (go_at_call 48; (with_reducible refine (aN.calls k _ _ t361 t385 _ ?side1 ?side2 A59.out).mono ?_); (case side1 => exact CR2 HO363); (case side2 => exact (Kd.aZ HO363.out).2.1); rintro e w62 ⟨v386, rfl, ho0, hb⟩; have n2_ := aj.mk (Kd.dF ho0 (bS BL)); replace HO363 := RB HO363 hb; replace HO368 := RB HO368 hb; replace HB := BS (w := w) hb; have HO387 := n2_; clear n2_; (try clear hb); (try clear ho0); obtain ⟨Ao63, co63, eo63⟩ := Kd.dh HO387.out; subst eo63))
      go_ret
      exact ⟨EWW, BL⟩
     ·rw [if_neg c60] at H
      have c60b0 : ((t385.length : Int) == 1) = false := beq_eq_false_iff_ne.mpr c60
      have c60b1 : ((t385.length : Int) != 1) = true := bne_iff_ne.mpr c60
      have H' := aj.mk H
      clear H
      go_wp2_with (first | ((with_reducible refine aJ (f := 31) rfl ?_); refine bI (some 23) Try.func31 #[.string t364] ?_; (with_reducible refine (bn.calls k t364 t365 false _ A11.out).mono ?_); rintro e w64 ⟨v367, rfl, ho0, hb⟩; refine ⟨_, rfl, ?_⟩; have n0_ := aj.mk (Kd.lJ (RR HO363) (Kd.qA ho0) hb); have n1_ := aj.mk (Kd.dF (Kd.qE ho0 (Kd.vU (RR HO363))) (bS BL)); replace HB := BS (w := w) hb; clear HO363; have HO363 := n0_; have HO368 := n1_; clear n0_ n1_; (try clear hb); (try clear ho0)) | (go_at_call 48; (with_reducible refine (aN.calls k _ _ t361 t385 _ ?side1 ?side2 A59.out).mono ?_); (case side1 => exact CR2 HO363); (case side2 => exact (Kd.aZ HO363.out).2.1); rintro e w65 ⟨v386, rfl, ho0, hb⟩; have n2_ := aj.mk (Kd.dF ho0 (bS BL)); replace HO363 := RB HO363 hb; replace HO368 := RB HO368 hb; replace HB := BS (w := w) hb; have HO387 := n2_; clear n2_; (try clear hb); (try clear ho0); obtain ⟨Ao66, co66, eo66⟩ := Kd.dh HO387.out; subst eo66))
      go_meet
      case rel => exact ⟨_, H', ⟨by first | omega | exact Nat.le_refl _⟩, ⟨by (with_reducible repeat (first | apply Kd.dL | apply Kd.dM | apply Kd.dJ)); exact Kd.dD HO363.out (fun _ hk => trivial)⟩, ⟨BL⟩⟩
  case rest =>
   clear HC6
   try clear c3
   obtain ⟨kq, HA, HJ5, HO_3, HB⟩ := hcut
   cases kq with
   | zero => exact absurd HA.out (by simp [aH.j2])
   | succ kj5 =>
    have H := HA.out
    clear HA
    simp only [aH.j2] at H
    replace H := be H; obtain ⟨t388, A67, H⟩ := H
    replace H := be H; obtain ⟨⟨t389, t390⟩, A68, H⟩ := H
    dsimp only at H
    have HC69 := aj.mk H
    clear H
    go_upto_region 20 with (first | ((with_reducible refine aJ (f := 49) rfl ?_); refine bI (some 75) Try.func49 #[.slice A0 l0.length c0] ?_; (with_reducible refine (dN.calls kj5 _ _ l0 t388 _ ?side1 ?side2 A67.out).mono ?_); (case side1 => exact CB HR0); (case side2 => exact HC0.out); rintro e w70 ⟨rfl, hb⟩; refine ⟨_, rfl, ?_⟩; replace HO_3 := RB HO_3 hb; replace HB := BS (w := w) hb; (try clear hb)) | ((with_reducible refine aJ (f := 31) rfl ?_); refine bI (some 78) Try.func31 #[.string t388] ?_; (with_reducible refine (bn.calls kj5 t388 t389 t390 _ A68.out).mono ?_); rintro e w71 ⟨v391, rfl, ho0, hb⟩; refine ⟨_, rfl, ?_⟩; have n0_ := aj.mk (Kd.lJ (RR HO_3) (Kd.qA ho0) hb); have n1_ := aj.mk (Kd.dF (Kd.qE ho0 (Kd.vU (RR HO_3))) (bS BL)); replace HB := BS (w := w) hb; clear HO_3; have HO_3 := n0_; have HO392 := n1_; clear n0_ n1_; (try clear hb); (try clear ho0)))
    (try simp only [Act.put, List.setIfInBounds_toArray, List.set_cons_zero, List.set_cons_succ])
    go_cut [97] (fun v97 wc => ∃ (kq : Nat) (x97_68 : Bool), v97 = .bool x97_68 ∧ aj (aH.j3 kq t361 x97_68 = some r) ∧ aj (kq ≤ kj5) ∧ aj (Kd.R eY 110 wc w.heap.size (fun _ => True) (.slice Ao8 t361.length co8) t361) ∧ aj (Below w.heap.size w wc))
    case first =>
     have H := HC69.out
     clear HC69
     by_cases c72 : t390 = true
     ·subst c72
      rw [if_pos rfl] at H
      replace H := be H; obtain ⟨t393, A73, H⟩ := H
      by_cases c74 : t393 = true
      ·subst c74
       rw [if_pos rfl] at H
       replace H := be H; obtain ⟨t394, A75, H⟩ := H
       by_cases c76 : t394.toList = t388.toList
       ·rw [if_pos c76] at H
        have c76b0 : (t394.toList == t388.toList) = true := beq_iff_eq.mpr c76
        have c76b1 : (t394.toList != t388.toList) = false := bne_eq_false_iff_eq.mpr c76
        clear c76
        (first | rw [c76b0] | (simp only [bY, cu]; rw [c76b0]) | skip)
        have H' := aj.mk H
        clear H
        obtain ⟨Ao77, co77, eo77⟩ := Kd.dh HO392.out
        subst eo77
        go_wp2_with (first | (go_at_call 50; (with_reducible refine (aX.calls kj5 _ _ t389 true _ ?side1 ?side2 A73.out).mono ?_); (case side1 => exact CR2 HO392); (case side2 => exact (Kd.aZ HO392.out).2.1); rintro e w78 ⟨rfl, hb⟩; replace HO_3 := RB HO_3 hb; replace HO392 := RB HO392 hb; replace HB := BS (w := w) hb; (try clear hb); (try clear hb2); (try clear hk); (try clear hi)) | (go_at_call 45; (with_reducible refine (cB.calls kj5 _ _ t389 t394 _ ?side1 ?side2 A75.out).mono ?_); (case side1 => exact CR2 HO392); (case side2 => exact (Kd.aZ HO392.out).2.1); rintro e w79 ⟨rfl, hb⟩; replace HO_3 := RB HO_3 hb; replace HO392 := RB HO392 hb; replace HB := BS (w := w) hb; (try clear hb); (try clear hb2); (try clear hk); (try clear hi)))
        go_meet
        case rel => exact ⟨_, (decide ((t388.size : Int) > 80)), EQ, H', ⟨by have := HJ5.out; first | omega | exact Nat.le_refl _⟩, ⟨by (with_reducible repeat (first | apply Kd.dL | apply Kd.dM | apply Kd.dJ)); exact Kd.dD HO_3.out (fun _ hk => trivial)⟩, ⟨BL⟩⟩
       ·rw [if_neg c76] at H
        have c76b0 : (t394.toList == t388.toList) = false := beq_eq_false_iff_ne.mpr c76
        have c76b1 : (t394.toList != t388.toList) = true := bne_iff_ne.mpr c76
        (first | rw [c76b0] | (simp only [bY, cu]; rw [c76b0]) | skip)
        have H' := aj.mk H
        clear H
        obtain ⟨Ao80, co80, eo80⟩ := Kd.dh HO392.out
        subst eo80
        go_wp2_with (first | (go_at_call 50; (with_reducible refine (aX.calls kj5 _ _ t389 true _ ?side1 ?side2 A73.out).mono ?_); (case side1 => exact CR2 HO392); (case side2 => exact (Kd.aZ HO392.out).2.1); rintro e w81 ⟨rfl, hb⟩; replace HO_3 := RB HO_3 hb; replace HO392 := RB HO392 hb; replace HB := BS (w := w) hb; (try clear hb); (try clear hb2); (try clear hk); (try clear hi)) | (go_at_call 45; (with_reducible refine (cB.calls kj5 _ _ t389 t394 _ ?side1 ?side2 A75.out).mono ?_); (case side1 => exact CR2 HO392); (case side2 => exact (Kd.aZ HO392.out).2.1); rintro e w82 ⟨rfl, hb⟩; replace HO_3 := RB HO_3 hb; replace HO392 := RB HO392 hb; replace HB := BS (w := w) hb; (try clear hb); (try clear hb2); (try clear hk); (try clear hi)))
        go_meet
        case rel => exact ⟨_, (true), EQ, H', ⟨by have := HJ5.out; first | omega | exact Nat.le_refl _⟩, ⟨by (with_reducible repeat (first | apply Kd.dL | apply Kd.dM | apply Kd.dJ)); exact Kd.dD HO_3.out (fun _ hk => trivial)⟩, ⟨BL⟩⟩
      ·replace c74 := Bool.eq_false_iff.mpr c74
       subst c74
       rw [if_neg Bool.false_ne_true] at H
       have H' := aj.mk H
       clear H
       obtain ⟨Ao83, co83, eo83⟩ := Kd.dh HO392.out
       subst eo83
       go_wp2_with (first | (go_at_call 50; (with_reducible refine (aX.calls kj5 _ _ t389 false _ ?side1 ?side2 A73.out).mono ?_); (case side1 => exact CR2 HO392); (case side2 => exact (Kd.aZ HO392.out).2.1); rintro e w84 ⟨rfl, hb⟩; replace HO_3 := RB HO_3 hb; replace HO392 := RB HO392 hb; replace HB := BS (w := w) hb; (try clear hb); (try clear hb2); (try clear hk); (try clear hi)))
       go_meet
       case rel => exact ⟨_, (true), EQ, H', ⟨by have := HJ5.out; first | omega | exact Nat.le_refl _⟩, ⟨by (with_reducible repeat (first | apply Kd.dL | apply Kd.dM | apply Kd.dJ)); exact Kd.dD HO_3.out (fun _ hk => trivial)⟩, ⟨BL⟩⟩
     ·replace c72 := Bool.eq_false_iff.mpr c72
      subst c72
      rw [if_neg Bool.false_ne_true] at H
      have H' := aj.mk H
      clear H
      go_wp2
      go_meet
      case rel => exact ⟨_, (false), EQ, H', ⟨by have := HJ5.out; first | omega | exact Nat.le_refl _⟩, ⟨by (with_reducible repeat (first | apply Kd.dL | apply Kd.dM | apply Kd.dJ)); exact Kd.dD HO_3.out (fun _ hk => trivial)⟩, ⟨BL⟩⟩
    case rest =>
     clear HC69
     try clear c3
     obtain ⟨kq, x97_68, rfl, HA, HJ68, HO_3, HB⟩ := hcut
     cases kq with
     | zero => exact absurd HA.out (by simp [aH.j3])
     | succ kj68 =>
      have H := HA.out
      clear HA
      simp only [aH.j3] at H
      by_cases c85 : x97_68 = true
      ·subst c85
       rw [if_pos rfl] at H
       obtain rfl := Option.some.inj H
       go_wp2
       go_ret
       exact ⟨EWW, BL⟩
      ·replace c85 := Bool.eq_false_iff.mpr c85
       subst c85
       rw [if_neg Bool.false_ne_true] at H
       replace H := be H; obtain ⟨t395, A86, H⟩ := H
       replace H := be H; obtain ⟨t398, A87, H⟩ := H
       by_cases c88 : ((decide ((t395.length : Int) > 0)) == t398) = true
       ·rw [if_pos c88] at H
        have c88b0 : ((decide ((t395.length : Int) > 0)) == t398) = true := c88
        (try (have c88b1 : decide ((decide ((t395.length : Int) > 0)) = t398) = true := by simpa using c88))
        (try (have c88b2 : ((decide ((t395.length : Int) > 0)) == t398) = true := by simpa using c88))
        (try (have c88b6 : (decide (0 < t395.length)) = t398 := by simpa using c88))
        clear c88
        replace H := be H; obtain ⟨t399, A89, H⟩ := H
        replace H := be H; obtain ⟨t400, A90, H⟩ := H
        by_cases c91 : ((decide (t399 ≥ 0)) == t400) = true
        ·rw [if_pos c91] at H
         have c91b0 : ((decide (t399 ≥ 0)) == t400) = true := c91
         (try (have c91b1 : decide ((decide (t399 ≥ 0)) = t400) = true := by simpa using c91))
         (try (have c91b2 : ((decide (t399 ≥ 0)) == t400) = true := by simpa using c91))
         clear c91
         by_cases c92 : (t395.length : Int) = 0
         ·rw [if_pos c92] at H
          have c92b0 : ((t395.length : Int) == 0) = true := beq_iff_eq.mpr c92
          have c92b1 : ((t395.length : Int) != 0) = false := bne_eq_false_iff_eq.mpr c92
          clear c92
          obtain rfl := Option.some.inj H
          go_wp2_with (first | ((with_reducible refine aJ (f := 48) rfl ?_); refine bI (some 99) Try.func48 #[.slice Ao8 t361.length co8] ?_; (with_reducible refine (aN.calls kj68 _ _ t361 t395 _ ?side1 ?side2 A86.out).mono ?_); (case side1 => exact CR2 HO_3); (case side2 => exact (Kd.aZ HO_3.out).2.1); rintro e w93 ⟨v396, rfl, ho0, hb⟩; refine ⟨_, rfl, ?_⟩; have n1_ := aj.mk (Kd.dF ho0 (bS BL)); replace HO_3 := RB HO_3 hb; replace HB := BS (w := w) hb; have HO397 := n1_; clear n1_; (try clear hb); (try clear ho0); obtain ⟨Ao94, co94, eo94⟩ := Kd.dh HO397.out; subst eo94) | ((with_reducible refine aJ (f := 50) rfl ?_); refine bI (some 104) Try.func50 #[.slice Ao8 t361.length co8] ?_; (with_reducible refine (aX.calls kj68 _ _ t361 t398 _ ?side1 ?side2 A87.out).mono ?_); (case side1 => exact CR2 HO_3); (case side2 => exact (Kd.aZ HO_3.out).2.1); rintro e w95 ⟨rfl, hb⟩; refine ⟨_, rfl, ?_⟩; replace HO_3 := RB HO_3 hb; replace HO397 := RB HO397 hb; replace HB := BS (w := w) hb; (try clear hb)) | (go_at_call 47; (with_reducible refine (dw.calls kj68 _ _ t361 t399 _ ?side1 ?side2 A89.out).mono ?_); (case side1 => exact CR2 HO_3); (case side2 => exact (Kd.aZ HO_3.out).2.1); rintro e w96 ⟨rfl, hb⟩; replace HO_3 := RB HO_3 hb; replace HO397 := RB HO397 hb; replace HB := BS (w := w) hb; (try clear hb)) | (go_at_call 50; (with_reducible refine (aX.calls kj68 _ _ t361 t400 _ ?side1 ?side2 A90.out).mono ?_); (case side1 => exact CR2 HO_3); (case side2 => exact (Kd.aZ HO_3.out).2.1); rintro e w97 ⟨rfl, hb⟩; replace HO_3 := RB HO_3 hb; replace HO397 := RB HO397 hb; replace HB := BS (w := w) hb; (try clear hb)))
          go_ret
          exact ⟨EWW, BL⟩
         ·rw [if_neg c92] at H
          have c92b0 : ((t395.length : Int) == 0) = false := beq_eq_false_iff_ne.mpr c92
          have c92b1 : ((t395.length : Int) != 0) = true := bne_iff_ne.mpr c92
          have c92b2 : ¬ (t395 = []) := fun h_ => c92 (by rw [h_]; rfl)
          obtain ⟨ji98, hji98⟩ : ∃ j_ : Int, (wrap64 ((t395.length : Int) - 1)) = j_ := ⟨_, rfl⟩
          replace H : (if 0 ≤ (ji98) then (if (ji98) < (t395.length : Int) then (some ((rd t395 (ji98)) == (wrap64 ((t361.length : Int) - 1)))) else (none)) else (none)) = some r := by first | (rw [hji98] at H; exact H) | (simp only [hji98] at H ⊢; exact H)
          (try rw [hji98] at A86)
          (try rw [hji98] at A87)
          (try rw [hji98] at A89)
          (try rw [hji98] at A90)
          have hji98w : (IntKind.i64.wrap ((t395.length : Int) - 1)) = ji98 := (bY _).trans hji98
          by_cases c99 : 0 ≤ (ji98)
          ·rw [if_pos c99] at H
           have c99b0 : decide (0 ≤ (ji98)) = true := decide_eq_true c99
           clear c99
           by_cases c100 : (ji98) < (t395.length : Int)
           ·rw [if_pos c100] at H
            have c100b0 : decide ((ji98) < (t395.length : Int)) = true := decide_eq_true c100
            clear c100
            obtain rfl := Option.some.inj H
            go_wp2_with (first | ((with_reducible refine aJ (f := 48) rfl ?_); refine bI (some 99) Try.func48 #[.slice Ao8 t361.length co8] ?_; (with_reducible refine (aN.calls kj68 _ _ t361 t395 _ ?side1 ?side2 A86.out).mono ?_); (case side1 => exact CR2 HO_3); (case side2 => exact (Kd.aZ HO_3.out).2.1); rintro e w101 ⟨v396, rfl, ho0, hb⟩; refine ⟨_, rfl, ?_⟩; have n1_ := aj.mk (Kd.dF ho0 (bS BL)); replace HO_3 := RB HO_3 hb; replace HB := BS (w := w) hb; have HO397 := n1_; clear n1_; (try clear hb); (try clear ho0); obtain ⟨Ao102, co102, eo102⟩ := Kd.dh HO397.out; subst eo102) | ((with_reducible refine aJ (f := 50) rfl ?_); refine bI (some 104) Try.func50 #[.slice Ao8 t361.length co8] ?_; (with_reducible refine (aX.calls kj68 _ _ t361 t398 _ ?side1 ?side2 A87.out).mono ?_); (case side1 => exact CR2 HO_3); (case side2 => exact (Kd.aZ HO_3.out).2.1); rintro e w103 ⟨rfl, hb⟩; refine ⟨_, rfl, ?_⟩; replace HO_3 := RB HO_3 hb; replace HO397 := RB HO397 hb; replace HB := BS (w := w) hb; (try clear hb)) | (go_at_call 47; (with_reducible refine (dw.calls kj68 _ _ t361 t399 _ ?side1 ?side2 A89.out).mono ?_); (case side1 => exact CR2 HO_3); (case side2 => exact (Kd.aZ HO_3.out).2.1); rintro e w104 ⟨rfl, hb⟩; replace HO_3 := RB HO_3 hb; replace HO397 := RB HO397 hb; replace HB := BS (w := w) hb; (try clear hb)) | (go_at_call 50; (with_reducible refine (aX.calls kj68 _ _ t361 t400 _ ?side1 ?side2 A90.out).mono ?_); (case side1 => exact CR2 HO_3); (case side2 => exact (Kd.aZ HO_3.out).2.1); rintro e w105 ⟨rfl, hb⟩; replace HO_3 := RB HO_3 hb; replace HO397 := RB HO397 hb; replace HB := BS (w := w) hb; (try clear hb); have p401 : 0 ≤ ((ji98) : Int) := OD; have q401 : (ji98) < (t395.length : Int) := OD; obtain ⟨ad401, e401, hx401_0⟩ := Kd.jH (Kd.aZ HO397.out).2.2 (ji98) p401 q401; cases e401; replace p401 := eq_true p401; replace q401 := eq_true q401))
            go_ret
            exact ⟨by first | rfl | (simp [eH, eO] <;> rfl) | (simp only [← hji98]; first | rfl | (simp [eH, eO] <;> rfl)) | (simp [*, eH, eO] <;> rfl), BL⟩
           ·rw [if_neg c100] at H
            exact absurd H (by simp)
          ·rw [if_neg c99] at H
           exact absurd H (by simp)
        ·rw [if_neg c91] at H
         have c91b0 : ((decide (t399 ≥ 0)) == t400) = false := by simpa using c91
         (try (have c91b1 : decide ((decide (t399 ≥ 0)) = t400) = false := by simpa using c91))
         (try (have c91b2 : ((decide (t399 ≥ 0)) == t400) = false := by simpa using c91))
         (try (have c91b3 : ¬ ((decide (t399 ≥ 0)) = t400) := by simpa using c91))
         clear c91
         obtain rfl := Option.some.inj H
         go_wp2_with (first | ((with_reducible refine aJ (f := 48) rfl ?_); refine bI (some 99) Try.func48 #[.slice Ao8 t361.length co8] ?_; (with_reducible refine (aN.calls kj68 _ _ t361 t395 _ ?side1 ?side2 A86.out).mono ?_); (case side1 => exact CR2 HO_3); (case side2 => exact (Kd.aZ HO_3.out).2.1); rintro e w106 ⟨v396, rfl, ho0, hb⟩; refine ⟨_, rfl, ?_⟩; have n1_ := aj.mk (Kd.dF ho0 (bS BL)); replace HO_3 := RB HO_3 hb; replace HB := BS (w := w) hb; have HO397 := n1_; clear n1_; (try clear hb); (try clear ho0); obtain ⟨Ao107, co107, eo107⟩ := Kd.dh HO397.out; subst eo107) | ((with_reducible refine aJ (f := 50) rfl ?_); refine bI (some 104) Try.func50 #[.slice Ao8 t361.length co8] ?_; (with_reducible refine (aX.calls kj68 _ _ t361 t398 _ ?side1 ?side2 A87.out).mono ?_); (case side1 => exact CR2 HO_3); (case side2 => exact (Kd.aZ HO_3.out).2.1); rintro e w108 ⟨rfl, hb⟩; refine ⟨_, rfl, ?_⟩; replace HO_3 := RB HO_3 hb; replace HO397 := RB HO397 hb; replace HB := BS (w := w) hb; (try clear hb)) | (go_at_call 47; (with_reducible refine (dw.calls kj68 _ _ t361 t399 _ ?side1 ?side2 A89.out).mono ?_); (case side1 => exact CR2 HO_3); (case side2 => exact (Kd.aZ HO_3.out).2.1); rintro e w109 ⟨rfl, hb⟩; replace HO_3 := RB HO_3 hb; replace HO397 := RB HO397 hb; replace HB := BS (w := w) hb; (try clear hb)) | (go_at_call 50; (with_reducible refine (aX.calls kj68 _ _ t361 t400 _ ?side1 ?side2 A90.out).mono ?_); (case side1 => exact CR2 HO_3); (case side2 => exact (Kd.aZ HO_3.out).2.1); rintro e w110 ⟨rfl, hb⟩; replace HO_3 := RB HO_3 hb; replace HO397 := RB HO397 hb; replace HB := BS (w := w) hb; (try clear hb)))
         go_ret
         exact ⟨EWW, BL⟩
       ·rw [if_neg c88] at H
        have c88b0 : ((decide ((t395.length : Int) > 0)) == t398) = false := by simpa using c88
        (try (have c88b1 : decide ((decide ((t395.length : Int) > 0)) = t398) = false := by simpa using c88))
        (try (have c88b2 : ((decide ((t395.length : Int) > 0)) == t398) = false := by simpa using c88))
        (try (have c88b6 : ¬ (decide (0 < t395.length)) = t398 := by simpa using c88))
        (try (have c88b3 : ¬ ((decide ((t395.length : Int) > 0)) = t398) := by simpa using c88))
        clear c88
        obtain rfl := Option.some.inj H
        go_wp2_with (first | ((with_reducible refine aJ (f := 48) rfl ?_); refine bI (some 99) Try.func48 #[.slice Ao8 t361.length co8] ?_; (with_reducible refine (aN.calls kj68 _ _ t361 t395 _ ?side1 ?side2 A86.out).mono ?_); (case side1 => exact CR2 HO_3); (case side2 => exact (Kd.aZ HO_3.out).2.1); rintro e w111 ⟨v396, rfl, ho0, hb⟩; refine ⟨_, rfl, ?_⟩; have n1_ := aj.mk (Kd.dF ho0 (bS BL)); replace HO_3 := RB HO_3 hb; replace HB := BS (w := w) hb; have HO397 := n1_; clear n1_; (try clear hb); (try clear ho0); obtain ⟨Ao112, co112, eo112⟩ := Kd.dh HO397.out; subst eo112) | ((with_reducible refine aJ (f := 50) rfl ?_); refine bI (some 104) Try.func50 #[.slice Ao8 t361.length co8] ?_; (with_reducible refine (aX.calls kj68 _ _ t361 t398 _ ?side1 ?side2 A87.out).mono ?_); (case side1 => exact CR2 HO_3); (case side2 => exact (Kd.aZ HO_3.out).2.1); rintro e w113 ⟨rfl, hb⟩; refine ⟨_, rfl, ?_⟩; replace HO_3 := RB HO_3 hb; replace HO397 := RB HO397 hb; replace HB := BS (w := w) hb; (try clear hb)))
        go_ret
        exact ⟨EWW, BL⟩
def aH.Pure : Prop := ∀ (l0 : List Int), l0.length ≤ maxLen → l0.length * 1 ≤ 140737488351232 → (∀ x ∈ l0, (Lit.int .u8 x).wf = true) → ∃ k, aH.f k l0 = some true
theorem aH.walk (P : aH.Pure) (a0 : Option Addr) (len0 cap0 : Nat) (z0 : List Int) (w : World) (w0 : (a0 = none ∧ len0 = 0 ∧ cap0 = 0 ∧ z0 = []) ∨ ∃ x, a0 = some x ∧ len0 ≤ cap0 ∧ cap0 ≤ maxLen ∧ z0.length = cap0 ∧ (∀ i, i < z0.length → w.cell? (x.add i) = some (.int .u8 (z0.getD i 0))) ∧ ∀ n ∈ z0, (Lit.int .u8 n).wf = true) (y0 : len0 * 1 ≤ 140737488351232) :
  Calls Try.prog 9 #[.slice a0 len0 cap0] w fun e w' => e = .returned (.bool true) ∧ Below w.heap.size w w' := by
 obtain ⟨l0, rfl, hr0, hm0, hw0, hc0⟩ := dO.wJ w0
 obtain ⟨k, h⟩ := P l0 hm0 y0 hw0
 refine (aH.calls k _ _ l0 true w (Kd.rH (d := (0 : Int)) (h1 := fun _ => rfl) hr0) hc0 h).mono ?_
 rintro e w' ⟨rfl, hd⟩
 exact ⟨rfl, hd⟩
end Go.Proofs.Ythjcicmmbmagbaa.PFnNotations
