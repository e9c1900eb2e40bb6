/- Walks of functions: what each computes. -/
import Derived.Test.YthjcicmmbmagbaaZFnNotationsG0
import Derived.Test.YthjcicmmbmagbaaZFnNotationsW
import Derived.Test.YthjcicmmbmagbaaZFnNotationsShelf
import Derived.Test.YthjcicmmbmagbaaZFnNotationsHandSort
import Derived.Test.YthjcicmmbmagbaaZFnNotationsHandForm
import Derived.Test.YthjcicmmbmagbaaZFnNotationsHandAlone
import Derived.Test.YthjcicmmbmagbaaZFnNotationsHandRead
namespace Go.Proofs.Ythjcicmmbmagbaa.PFnNotations
open Go.RowKit Go.Proofs.YthjcicmmbmagbaaW.PrintWords Go.Proofs.YthjcicmmbmagbaaW.PrintLast Go.Proofs.YthjcicmmbmagbaaW.PrintMore Go.Proofs.Ythjcicmmbmagbaa.Sq
attribute [local go_sem] jY jI lY lI jB jq jJ jW
set_option maxHeartbeats 8000000
set_option maxRecDepth 100000
set_option linter.unusedVariables false
set_option linter.unusedSimpArgs false
def dS.f (s0_0 : List Int) (s0_1 s0_2 : Int) : Option (Int × Int × Int) := if s0_1 < (s0_0.length : Int) then (if 0 ≤ s0_1 then (some (Go.bits .and .i64 (wrap64 ((Go.bits .and .i64 (Go.bits .xor .i64 ((wrap64 ((wrap64 (s0_2 * 6364136223846793005)) + 1442695040888963407)) / 8589934592) ((wrap64 ((wrap64 (s0_2 * 6364136223846793005)) + 1442695040888963407)) / 140737488355328)) 255) + (wrap64 (rd s0_0 s0_1)))) 255, wrap64 (s0_1 + 1), wrap64 ((wrap64 (s0_2 * 6364136223846793005)) + 1442695040888963407))) else (none)) else (some (Go.bits .and .i64 (Go.bits .xor .i64 ((wrap64 ((wrap64 (s0_2 * 6364136223846793005)) + 1442695040888963407)) / 8589934592) ((wrap64 ((wrap64 (s0_2 * 6364136223846793005)) + 1442695040888963407)) / 140737488355328)) 255, s0_1, wrap64 ((wrap64 (s0_2 * 6364136223846793005)) + 1442695040888963407)))
theorem dS.calls (g : Nat) (s0_0 : List Int) (s0_1 s0_2 : Int) (r1 r2 r3 : Int) (w0 w : World) (hI : ak w0 w g s0_0 s0_1 s0_2) (hB : Below w0.heap.size w0 w) (h : dS.f s0_0 s0_1 s0_2 = some (r1, r2, r3)) :
  Calls Try.prog 164 #[.pointer (some ⟨g, 0, none⟩)] w fun e w' => e = .returned (.int .i64 r1) ∧ ak w0 w' g s0_0 r2 r3 ∧ Below w0.heap.size w0 w' ∧ ay w w' g none := by
 have HI0 := aj.mk hI
 have HK := aj.mk (ay.refl w g none)
 have HL := aj.mk hB.size
 clear hI
 have HW0 := aj.mk hB.size
 have HB := aj.mk hB
 clear hB
 unfold dS.f at h
 have H := h
 clear h
 replace H := aj.mk H
 go_enter Try.func164, Try.ntmps164
 replace H := H.out
 replace H := ifD H; rcases H with ⟨c2b0, H⟩ | ⟨c2b0, H⟩
 ·replace H := ifN H; obtain ⟨c3b0, H⟩ := H
  simp only [Option.some.injEq, Prod.mk.injEq] at H
  obtain ⟨rfl, rfl, rfl⟩ := H
  obtain ⟨ASz4_0, cSz4_0, HGz4, hgz4, HSz4_0⟩ := HI0.out
  have hcz9000_0 := nN HGz4
  have hcz9000_1 := nY HGz4
  have hcz9000_2 := oL HGz4
  have hfz9000_1 := fP HGz4 1
  have hfz9000_2 := fP HGz4 2
  clear HGz4 hgz4
  have p128 : 0 ≤ (s0_1 : Int) := OD
  have q128 : s0_1 < (s0_0.length : Int) := OD
  obtain ⟨ad128, e128, hx128_0⟩ := Kd.jH HSz4_0 s0_1 p128 q128
  cases e128
  have hn128_0 : ad128.block ≠ g := Nat.ne_of_lt (Nat.lt_of_lt_of_le (by have := World.block_lt_of_cell? _ _ hx128_0; first | rwa [add_block] at this | exact this) (ak.ge HI0.out))
  replace hx128_0 := gK HB.out hx128_0
  replace hx128_0 := (cell_far (p := ⟨g, 2, none⟩) AB (.int .i64 (wrap64 ((wrap64 (s0_2 * 6364136223846793005)) + 1442695040888963407)))).trans hx128_0
  (try have hy128_0 := fun (n_ : Nat) => (show (((w.drewN n_).setCell ⟨g, 2, none⟩ (.int .i64 (wrap64 ((wrap64 (s0_2 * 6364136223846793005)) + 1442695040888963407))))).cell? _ = some _ from hx128_0))
  clear hn128_0
  replace p128 := eq_true p128
  replace q128 := eq_true q128
  go_wp2
  repeat (go_quiet (fail); try go_wp2)
  go_ret
  exact ⟨EWW, by repeat (first | (with_reducible first | exact HI0.out | apply ak.alloc | apply ak.drewN | apply ak.drew | apply ak.bG | apply ak.bF) | exact HI0.out), by repeat (first | (with_reducible first | exact HB.out | apply aI | apply aA | apply aG | refine aD ?_ (ak.ge HI0.out)) | exact HB.out), by repeat (first | (with_reducible first | exact HK.out | apply ay.cO | apply aK | apply aR | apply aM) | exact HK.out)⟩
 ·simp only [Option.some.injEq, Prod.mk.injEq] at H
  obtain ⟨rfl, rfl, rfl⟩ := H
  obtain ⟨ASz5_0, cSz5_0, HGz5, hgz5, HSz5_0⟩ := HI0.out
  have hcz9000_0 := nN HGz5
  have hcz9000_1 := nY HGz5
  have hcz9000_2 := oL HGz5
  have hfz9000_1 := fP HGz5 1
  have hfz9000_2 := fP HGz5 2
  clear HGz5 hgz5
  go_wp2
  repeat (go_quiet (fail); try go_wp2)
  go_ret
  exact ⟨EWW, by repeat (first | (with_reducible first | exact HI0.out | apply ak.alloc | apply ak.drewN | apply ak.drew | apply ak.bG | apply ak.bF) | exact HI0.out), by repeat (first | (with_reducible first | exact HB.out | apply aI | apply aA | apply aG | refine aD ?_ (ak.ge HI0.out)) | exact HB.out), by repeat (first | (with_reducible first | exact HK.out | apply ay.cO | apply aK | apply aR | apply aM) | exact HK.out)⟩
def bM.f (s0_0 : List Int) (s0_1 s0_2 a1 : Int) : Option (Int × Int × Int) := if a1 ≤ 0 then (some (0, s0_1, s0_2)) else (if a1 ≤ 256 then ((dS.f s0_0 s0_1 s0_2).bind fun bt129 => (if a1 = 0 then (none) else (some (Int.tmod bt129.1 a1, bt129.2.1, bt129.2.2)))) else ((dS.f s0_0 s0_1 s0_2).bind fun bt132 => ((dS.f s0_0 bt132.2.1 bt132.2.2).bind fun bt135 => ((dS.f s0_0 bt135.2.1 bt135.2.2).bind fun bt138 => (if a1 = 0 then (none) else (some (Int.tmod (wrap64 ((wrap64 ((wrap64 (bt132.1 * 65536)) + (wrap64 (bt135.1 * 256)))) + bt138.1)) a1, bt138.2.1, bt138.2.2)))))))
theorem bM.calls (g : Nat) (s0_0 : List Int) (s0_1 s0_2 : Int) (a1 r1 : Int) (r2 r3 : Int) (w0 w : World) (hI : ak w0 w g s0_0 s0_1 s0_2) (hB : Below w0.heap.size w0 w) (h : bM.f s0_0 s0_1 s0_2 a1 = some (r1, r2, r3)) :
  Calls Try.prog 118 #[.pointer (some ⟨g, 0, none⟩), .int .i64 a1] w fun e w' => e = .returned (.int .i64 r1) ∧ ak w0 w' g s0_0 r2 r3 ∧ Below w0.heap.size w0 w' ∧ ay w w' g none := by
 have HI0 := aj.mk hI
 have HK := aj.mk (ay.refl w g none)
 have HL := aj.mk hB.size
 clear hI
 have HW0 := aj.mk hB.size
 have HB := aj.mk hB
 clear hB
 unfold bM.f at h
 have H := h
 clear h
 replace H := aj.mk H
 go_enter Try.func118, Try.ntmps118
 replace H := H.out
 replace H := ifD H; rcases H with ⟨c3b0, H⟩ | ⟨c3b0, H⟩
 ·simp only [Option.some.injEq, Prod.mk.injEq] at H
  obtain ⟨rfl, rfl, rfl⟩ := H
  try go_wp2
  go_ret
  exact ⟨EWW, by repeat (first | (with_reducible first | exact HI0.out | apply ak.alloc | apply ak.drewN | apply ak.drew | apply ak.bG | apply ak.bF) | exact HI0.out), by repeat (first | (with_reducible first | exact HB.out | apply aI | apply aA | apply aG | refine aD ?_ (ak.ge HI0.out)) | exact HB.out), by repeat (first | (with_reducible first | exact HK.out | apply ay.cO | apply aK | apply aR | apply aM) | exact HK.out)⟩
 ·replace H := ifD H; rcases H with ⟨c4b0, H⟩ | ⟨c4b0, H⟩
  ·replace H := be H; obtain ⟨⟨t129, t130, t131⟩, A5, H⟩ := H
   dsimp only at H
   by_cases c6 : a1 = 0
   ·rw [if_pos c6] at H
    exact absurd H (by simp)
   ·rw [if_neg c6] at H
    have c6b0 : (a1 == 0) = false := beq_eq_false_iff_ne.mpr c6
    have c6b1 : (a1 != 0) = true := bne_iff_ne.mpr c6
    simp only [Option.some.injEq, Prod.mk.injEq] at H
    obtain ⟨rfl, rfl, rfl⟩ := H
    try go_wp2_with (first | ((with_reducible refine aJ (f := 164) rfl ?_); refine bI (some 13) Try.func164 #[.pointer (some ⟨g, 0, none⟩)] ?_; (with_reducible refine (dS.calls g s0_0 s0_1 s0_2 t129 t130 t131 w0 _ ?side1 ?side2 A5.out).mono ?_); (case side1 => repeat (first | (with_reducible first | exact HI0.out | apply ak.alloc | apply ak.drewN | apply ak.drew | apply ak.bG | apply ak.bF) | exact HI0.out)); (case side2 => repeat (first | (with_reducible first | exact HB.out | apply aI | apply aA | apply aG | refine aD ?_ (ak.ge HI0.out)) | exact HB.out)); rintro e w9000 ⟨rfl, hi, hb, hk⟩; refine ⟨_, rfl, ?_⟩; have n0_ := aj.mk (ay.trans (by repeat (first | (with_reducible first | exact HK.out | apply ay.cO | apply aK | apply aR | apply aM) | exact HK.out)) hk (.inl rfl)); have n1_ := aj.mk (hb); have n2_ := aj.mk (hi); clear HK HB HI0; have HK := n0_; have HB := n1_; have HI0 := n2_; clear n0_ n1_ n2_; (try clear hb); (try clear hk); (try clear hi)))
    go_ret
    exact ⟨EWW, by repeat (first | (with_reducible first | exact HI0.out | apply ak.alloc | apply ak.drewN | apply ak.drew | apply ak.bG | apply ak.bF) | exact HI0.out), by repeat (first | (with_reducible first | exact HB.out | apply aI | apply aA | apply aG | refine aD ?_ (ak.ge HI0.out)) | exact HB.out), by repeat (first | (with_reducible first | exact HK.out | apply ay.cO | apply aK | apply aR | apply aM) | exact HK.out)⟩
  ·replace H := be H; obtain ⟨⟨t132, t133, t134⟩, A8, H⟩ := H
   dsimp only at H
   replace H := be H; obtain ⟨⟨t135, t136, t137⟩, A9, H⟩ := H
   dsimp only at H
   replace H := be H; obtain ⟨⟨t138, t139, t140⟩, A10, H⟩ := H
   dsimp only at H
   by_cases c11 : a1 = 0
   ·rw [if_pos c11] at H
    exact absurd H (by simp)
   ·rw [if_neg c11] at H
    have c11b0 : (a1 == 0) = false := beq_eq_false_iff_ne.mpr c11
    have c11b1 : (a1 != 0) = true := bne_iff_ne.mpr c11
    simp only [Option.some.injEq, Prod.mk.injEq] at H
    obtain ⟨rfl, rfl, rfl⟩ := H
    try go_wp2_with (first | ((with_reducible refine aJ (f := 164) rfl ?_); refine bI (some 17) Try.func164 #[.pointer (some ⟨g, 0, none⟩)] ?_; (with_reducible refine (dS.calls g s0_0 s0_1 s0_2 t132 t133 t134 w0 _ ?side1 ?side2 A8.out).mono ?_); (case side1 => repeat (first | (with_reducible first | exact HI0.out | apply ak.alloc | apply ak.drewN | apply ak.drew | apply ak.bG | apply ak.bF) | exact HI0.out)); (case side2 => repeat (first | (with_reducible first | exact HB.out | apply aI | apply aA | apply aG | refine aD ?_ (ak.ge HI0.out)) | exact HB.out)); rintro e w9000 ⟨rfl, hi, hb, hk⟩; refine ⟨_, rfl, ?_⟩; have n0_ := aj.mk (ay.trans (by repeat (first | (with_reducible first | exact HK.out | apply ay.cO | apply aK | apply aR | apply aM) | exact HK.out)) hk (.inl rfl)); have n1_ := aj.mk (hb); have n2_ := aj.mk (hi); clear HK HB HI0; have HK := n0_; have HB := n1_; have HI0 := n2_; clear n0_ n1_ n2_; (try clear hb); (try clear hk); (try clear hi)) | ((with_reducible refine aJ (f := 164) rfl ?_); refine bI (some 19) Try.func164 #[.pointer (some ⟨g, 0, none⟩)] ?_; (with_reducible refine (dS.calls g s0_0 t133 t134 t135 t136 t137 w0 _ ?side1 ?side2 A9.out).mono ?_); (case side1 => repeat (first | (with_reducible first | exact HI0.out | apply ak.alloc | apply ak.drewN | apply ak.drew | apply ak.bG | apply ak.bF) | exact HI0.out)); (case side2 => repeat (first | (with_reducible first | exact HB.out | apply aI | apply aA | apply aG | refine aD ?_ (ak.ge HI0.out)) | exact HB.out)); rintro e w9001 ⟨rfl, hi, hb, hk⟩; refine ⟨_, rfl, ?_⟩; have n0_ := aj.mk (ay.trans (by repeat (first | (with_reducible first | exact HK.out | apply ay.cO | apply aK | apply aR | apply aM) | exact HK.out)) hk (.inl rfl)); have n1_ := aj.mk (hb); have n2_ := aj.mk (hi); clear HK HB HI0; have HK := n0_; have HB := n1_; have HI0 := n2_; clear n0_ n1_ n2_; (try clear hb); (try clear hk); (try clear hi)) | ((with_reducible refine aJ (f := 164) rfl ?_); refine bI (some 21) Try.func164 #[.pointer (some ⟨g, 0, none⟩)] ?_; (with_reducible refine (dS.calls g s0_0 t136 t137 t138 t139 t140 w0 _ ?side1 ?side2 A10.out).mono ?_); (case side1 => repeat (first | (with_reducible first | exact HI0.out | apply ak.alloc | apply ak.drewN | apply ak.drew | apply ak.bG | apply ak.bF) | exact HI0.out)); (case side2 => repeat (first | (with_reducible first | exact HB.out | apply aI | apply aA | apply aG | refine aD ?_ (ak.ge HI0.out)) | exact HB.out)); rintro e w9002 ⟨rfl, hi, hb, hk⟩; refine ⟨_, rfl, ?_⟩; have n0_ := aj.mk (ay.trans (by repeat (first | (with_reducible first | exact HK.out | apply ay.cO | apply aK | apply aR | apply aM) | exact HK.out)) hk (.inl rfl)); have n1_ := aj.mk (hb); have n2_ := aj.mk (hi); clear HK HB HI0; have HK := n0_; have HB := n1_; have HI0 := n2_; clear n0_ n1_ n2_; (try clear hb); (try clear hk); (try clear hi)))
    go_ret
    exact ⟨EWW, by repeat (first | (with_reducible first | exact HI0.out | apply ak.alloc | apply ak.drewN | apply ak.drew | apply ak.bG | apply ak.bF) | exact HI0.out), by repeat (first | (with_reducible first | exact HB.out | apply aI | apply aA | apply aG | refine aD ?_ (ak.ge HI0.out)) | exact HB.out), by repeat (first | (with_reducible first | exact HK.out | apply ay.cO | apply aK | apply aR | apply aM) | exact HK.out)⟩
def dH.f (s0_0 : List Int) (s0_1 s0_2 : Int) (l1 : List ByteArray) : Option (ByteArray × Int × Int) := (bM.f s0_0 s0_1 s0_2 (l1.length : Int)).bind fun bt141 => (if 0 ≤ bt141.1 then (if bt141.1 < (l1.length : Int) then (some (gU ByteArray.empty l1 bt141.1, bt141.2.1, bt141.2.2)) else (none)) else (none))
theorem dH.calls (g : Nat) (s0_0 : List Int) (s0_1 s0_2 : Int) (A1 : Option Addr) (c1 : Nat) (l1 : List ByteArray) (r1 : ByteArray) (r2 r3 : Int) (w0 w : World) (hI : ak w0 w g s0_0 s0_1 s0_2) (hB : Below w0.heap.size w0 w) (hr1 : Kd.C Kd.string w A1 l1.length l1) (hc1 : l1.length ≤ c1) (hf1 : ∀ ad, A1 = some ad → 0 < l1.length → ad.block ≠ g) (h : dH.f s0_0 s0_1 s0_2 l1 = some (r1, r2, r3)) :
  Calls Try.prog 121 #[.pointer (some ⟨g, 0, none⟩), .slice A1 l1.length c1] w fun e w' => e = .returned (.string r1) ∧ ak w0 w' g s0_0 r2 r3 ∧ Below w0.heap.size w0 w' ∧ ay w w' g none := by
 have HR1 := aj.mk hr1
 have HC1 := aj.mk hc1
 clear hr1 hc1
 have HI0 := aj.mk hI
 have HK := aj.mk (ay.refl w g none)
 have HL := aj.mk hB.size
 clear hI
 have HW0 := aj.mk hB.size
 have HB := aj.mk hB
 clear hB
 unfold dH.f at h
 have H := h
 clear h
 replace H := be H; obtain ⟨⟨t141, t142, t143⟩, A3, H⟩ := H
 dsimp only at H
 replace H := ifN H; obtain ⟨c4b0, H⟩ := H
 replace H := ifN H; obtain ⟨c5b0, H⟩ := H
 simp only [Option.some.injEq, Prod.mk.injEq] at H
 obtain ⟨rfl, rfl, rfl⟩ := H
 go_enter Try.func121, Try.ntmps121
 go_wp2_with (first | ((with_reducible refine aJ (f := 118) rfl ?_); refine bI (some 9) Try.func118 #[.pointer (some ⟨g, 0, none⟩), .int .i64 (l1.length : Int)] ?_; (with_reducible refine (bM.calls g s0_0 s0_1 s0_2 (l1.length : Int) t141 t142 t143 w0 _ ?side1 ?side2 A3.out).mono ?_); (case side1 => repeat (first | (with_reducible first | exact HI0.out | apply ak.alloc | apply ak.drewN | apply ak.drew | apply ak.bG | apply ak.bF) | exact HI0.out)); (case side2 => repeat (first | (with_reducible first | exact HB.out | apply aI | apply aA | apply aG | refine aD ?_ (ak.ge HI0.out)) | exact HB.out)); rintro e w9000 ⟨rfl, hi, hb, hk⟩; refine ⟨_, rfl, ?_⟩; have n0_ := aj.mk (ay.trans (by repeat (first | (with_reducible first | exact HK.out | apply ay.cO | apply aK | apply aR | apply aM) | exact HK.out)) hk (.inl rfl)); have n1_ := aj.mk (hb); have n2_ := aj.mk (hi); clear HK HB HI0; have HK := n0_; have HB := n1_; have HI0 := n2_; clear n0_ n1_ n2_; (try clear hb); (try clear hk); (try clear hi); have p144 : 0 ≤ (t141 : Int) := OD; have q144 : t141 < (l1.length : Int) := OD; obtain ⟨ad144, e144, hx144_0⟩ := Kd.jr HR1.out t141 p144 q144; cases e144; replace hx144_0 := pJ HK.out hx144_0 (by first | (rw [add_block]; exact hf1 _ rfl (by omega)) | exact hf1 _ rfl (by omega) | exact hf1 ad144 rfl (by omega)); replace p144 := eq_true p144; replace q144 := eq_true q144))
 go_ret
 exact ⟨EWW, by repeat (first | (with_reducible first | exact HI0.out | apply ak.alloc | apply ak.drewN | apply ak.drew | apply ak.bG | apply ak.bF) | exact HI0.out), by repeat (first | (with_reducible first | exact HB.out | apply aI | apply aA | apply aG | refine aD ?_ (ak.ge HI0.out)) | exact HB.out), by repeat (first | (with_reducible first | exact HK.out | apply ay.cO | apply aK | apply aR | apply aM) | exact HK.out)⟩
def fD.f (s0_0 : List Int) (s0_1 s0_2 : Int) : Option (ByteArray × Int × Int) := (gI.f).bind fun t145 => ((dH.f s0_0 s0_1 s0_2 t145).bind fun bt148 => (some (bt148.1, bt148.2.1, bt148.2.2)))
theorem fD.calls (g : Nat) (s0_0 : List Int) (s0_1 s0_2 : Int) (r1 : ByteArray) (r2 r3 : Int) (w0 w : World) (hI : ak w0 w g s0_0 s0_1 s0_2) (hB : Below w0.heap.size w0 w) (h : fD.f s0_0 s0_1 s0_2 = some (r1, r2, r3)) :
  Calls Try.prog 120 #[.pointer (some ⟨g, 0, none⟩)] w fun e w' => e = .returned (.string r1) ∧ ak w0 w' g s0_0 r2 r3 ∧ Below w0.heap.size w0 w' ∧ ay w w' g none := by
 have HI0 := aj.mk hI
 have HK := aj.mk (ay.refl w g none)
 have HL := aj.mk hB.size
 clear hI
 have HW0 := aj.mk hB.size
 have HB := aj.mk hB
 clear hB
 unfold fD.f at h
 have H := h
 clear h
 replace H := be H; obtain ⟨t145, A2, H⟩ := H
 replace H := be H; obtain ⟨⟨t148, t149, t150⟩, A3, H⟩ := H
 dsimp only at H
 simp only [Option.some.injEq, Prod.mk.injEq] at H
 obtain ⟨rfl, rfl, rfl⟩ := H
 go_enter Try.func120, Try.ntmps120
 go_wp2_with (first | ((with_reducible refine aJ (f := 70) rfl ?_); refine bI (some 4) Try.func70 #[] ?_; (with_reducible refine (gI.calls  t145 _ A2.out).mono ?_); rintro e w4 ⟨v146, rfl, ho0, hb⟩; refine ⟨_, rfl, ?_⟩; have n0_ := aj.mk (Kd.dF ho0 (eG (w := w) (g := g) (row := none) (by repeat (first | (with_reducible first | exact HK.out | apply ay.cO | apply aK | apply aR | apply aM) | exact HK.out)))); have n1_ := aj.mk (ak.below (by repeat (first | (with_reducible first | exact HI0.out | apply ak.alloc | apply ak.drewN | apply ak.drew | apply ak.bG | apply ak.bF) | exact HI0.out)) hb); have n2_ := aj.mk (ay.trans (by repeat (first | (with_reducible first | exact HK.out | apply ay.cO | apply aK | apply aR | apply aM) | exact HK.out)) (ay.of_below hb g none) (.inl rfl)); have n3_ := aj.mk (eu (by repeat (first | (with_reducible first | exact HB.out | apply aI | apply aA | apply aG | refine aD ?_ (ak.ge HI0.out)) | exact HB.out)) hb); clear HI0 HK HB; have HO147 := n0_; have HI0 := n1_; have HK := n2_; have HB := n3_; clear n0_ n1_ n2_ n3_; (try clear hb); (try clear ho0); obtain ⟨Ao5, co5, eo5⟩ := Kd.dh HO147.out; subst eo5) | ((with_reducible refine aJ (f := 121) rfl ?_); refine bI (some 5) Try.func121 #[.pointer (some ⟨g, 0, none⟩), .slice Ao5 t145.length co5] ?_; (with_reducible refine (dH.calls g s0_0 s0_1 s0_2 _ _ t145 t148 t149 t150 w0 _ ?side1 ?side2 ?side3 ?side4 ?side5 A3.out).mono ?_); (case side1 => repeat (first | (with_reducible first | exact HI0.out | apply ak.alloc | apply ak.drewN | apply ak.drew | apply ak.bG | apply ak.bF) | exact HI0.out)); (case side2 => repeat (first | (with_reducible first | exact HB.out | apply aI | apply aA | apply aG | refine aD ?_ (ak.ge HI0.out)) | exact HB.out)); (case side3 => exact CR2 HO147); (case side4 => exact (Kd.aZ HO147.out).2.1); (case side5 => exact iT (ak.own_ne HI0.out HO147.out (by decide))); rintro e w6 ⟨rfl, hi, hb, hk⟩; refine ⟨_, rfl, ?_⟩; have n0_ := aj.mk (Kd.dD (Kd.gJ (ak.apart (show ak w0 _ g s0_0 s0_1 s0_2 from by repeat (first | (with_reducible first | exact HI0.out | apply ak.alloc | apply ak.drewN | apply ak.drew | apply ak.bG | apply ak.bF) | exact HI0.out)) (RR HO147) (by decide)) hk (fun _ h => h.2)) (fun _ h => h.1)); have n1_ := aj.mk (ay.trans (by repeat (first | (with_reducible first | exact HK.out | apply ay.cO | apply aK | apply aR | apply aM) | exact HK.out)) hk (.inl rfl)); have n2_ := aj.mk (hb); have n3_ := aj.mk (hi); clear HO147 HK HB HI0; have HO147 := n0_; have HK := n1_; have HB := n2_; have HI0 := n3_; clear n0_ n1_ n2_ n3_; (try clear hb); (try clear hk); (try clear hi)))
 go_ret
 exact ⟨EWW, by repeat (first | (with_reducible first | exact HI0.out | apply ak.alloc | apply ak.drewN | apply ak.drew | apply ak.bG | apply ak.bF) | exact HI0.out), by repeat (first | (with_reducible first | exact HB.out | apply aI | apply aA | apply aG | refine aD ?_ (ak.ge HI0.out)) | exact HB.out), by repeat (first | (with_reducible first | exact HK.out | apply ay.cO | apply aK | apply aR | apply aM) | exact HK.out)⟩
def gQ.f (s0_0 : List Int) (s0_1 s0_2 : Int) : Option (ByteArray × Int × Int) := (fD.f s0_0 s0_1 s0_2).bind fun bt151 => (if bt151.1.size + 1 ≤ 9223372036854775807 then ((dH.f s0_0 bt151.2.1 bt151.2.2 (([bt151.1, bt151.1, bt151.1, bt151.1, bt151.1, (⟨#[]⟩ : ByteArray), (⟨#[65]⟩ : ByteArray), (⟨#[97, 32, 98]⟩ : ByteArray), (⟨#[116, 111, 111, 108, 111, 110, 103, 101, 114]⟩ : ByteArray), (⟨#[116, 111, 111, 108, 111, 110, 103]⟩ : ByteArray), bt151.1 ++ (⟨#[63]⟩ : ByteArray), (⟨#[122]⟩ : ByteArray)] : List ByteArray))).bind fun bt157 => (some (bt157.1, bt157.2.1, bt157.2.2))) else (none))
theorem gQ.calls (g : Nat) (s0_0 : List Int) (s0_1 s0_2 : Int) (r1 : ByteArray) (r2 r3 : Int) (w0 w : World) (hI : ak w0 w g s0_0 s0_1 s0_2) (hB : Below w0.heap.size w0 w) (h : gQ.f s0_0 s0_1 s0_2 = some (r1, r2, r3)) :
  Calls Try.prog 62 #[.pointer (some ⟨g, 0, none⟩)] w fun e w' => e = .returned (.string r1) ∧ ak w0 w' g s0_0 r2 r3 ∧ Below w0.heap.size w0 w' ∧ ay w w' g none := by
 have HI0 := aj.mk hI
 have HK := aj.mk (ay.refl w g none)
 have HL := aj.mk hB.size
 clear hI
 have HW0 := aj.mk hB.size
 have HB := aj.mk hB
 clear hB
 unfold gQ.f at h
 have H := h
 clear h
 replace H := be H; obtain ⟨⟨t151, t152, t153⟩, A2, H⟩ := H
 dsimp only at H
 replace H := ifP H; obtain ⟨c3, H⟩ := H
 have c3b0 := eq_true c3
 have c3b1 : decide (t151.size + 1 ≤ 9223372036854775807) = true := decide_eq_true c3
 try have c3b2 : (9223372036854775807 < t151.size + 1) = False := eq_false (Nat.not_lt.2 c3)
 obtain ⟨y154, hy154⟩ : ∃ y_ : List ByteArray, y_ = (([t151, t151, t151, t151, t151, (⟨#[]⟩ : ByteArray), (⟨#[65]⟩ : ByteArray), (⟨#[97, 32, 98]⟩ : ByteArray), (⟨#[116, 111, 111, 108, 111, 110, 103, 101, 114]⟩ : ByteArray), (⟨#[116, 111, 111, 108, 111, 110, 103]⟩ : ByteArray), t151 ++ (⟨#[63]⟩ : ByteArray), (⟨#[122]⟩ : ByteArray)] : List ByteArray)) := ⟨_, rfl⟩
 replace H : ((dH.f s0_0 t152 t153 y154).bind fun bt157 => (some (bt157.1, bt157.2.1, bt157.2.2))) = some (r1, r2, r3) := by first | (rw [hy154]; with_reducible exact H) | (have H2_ := (Option.bind_some _ _).symm.trans H; rw [hy154]; with_reducible exact H2_) | (have H2_ := (Option.bind_some _ _).symm.trans H; with_reducible exact H2_) | with_reducible exact H | (rw [hy154]; exact H) | exact H
 have Ny154 := aj.mk hy154
 clear hy154
 replace H := be H; obtain ⟨⟨t157, t158, t159⟩, A4, H⟩ := H
 dsimp only at H
 simp only [Option.some.injEq, Prod.mk.injEq] at H
 obtain ⟨rfl, rfl, rfl⟩ := H
 go_enter Try.func62, Try.ntmps62
 go_wp2_with (first | ((with_reducible refine aJ (f := 120) rfl ?_); refine bI (some 5) Try.func120 #[.pointer (some ⟨g, 0, none⟩)] ?_; (with_reducible refine (fD.calls g s0_0 s0_1 s0_2 t151 t152 t153 w0 _ ?side1 ?side2 A2.out).mono ?_); (case side1 => repeat (first | (with_reducible first | exact HI0.out | apply ak.alloc | apply ak.drewN | apply ak.drew | apply ak.bG | apply ak.bF) | exact HI0.out)); (case side2 => repeat (first | (with_reducible first | exact HB.out | apply aI | apply aA | apply aG | refine aD ?_ (ak.ge HI0.out)) | exact HB.out)); rintro e w9000 ⟨rfl, hi, hb, hk⟩; refine ⟨_, rfl, ?_⟩; have n0_ := aj.mk (ay.trans (by repeat (first | (with_reducible first | exact HK.out | apply ay.cO | apply aK | apply aR | apply aM) | exact HK.out)) hk (.inl rfl)); have n1_ := aj.mk (hb); have n2_ := aj.mk (hi); clear HK HB HI0; have HK := n0_; have HB := n1_; have HI0 := n2_; clear n0_ n1_ n2_; (try clear hb); (try clear hk); (try clear hi)) | ((with_reducible refine dz (N := 14) rfl ?_); refine Kd.kS Kd.string _ 9 ?hg (N := 14) ?hd (xs := ([t151, t151, t151, t151, t151, (⟨#[]⟩ : ByteArray), (⟨#[65]⟩ : ByteArray), (⟨#[97, 32, 98]⟩ : ByteArray), (⟨#[116, 111, 111, 108, 111, 110, 103, 101, 114]⟩ : ByteArray), (⟨#[116, 111, 111, 108, 111, 110, 103]⟩ : ByteArray), t151 ++ (⟨#[63]⟩ : ByteArray), (⟨#[122]⟩ : ByteArray)] : List ByteArray)) (inner := [.string t151, .string t151, .string t151, .string t151, .string t151, .string (⟨#[]⟩ : ByteArray), .string (⟨#[65]⟩ : ByteArray), .string (⟨#[97, 32, 98]⟩ : ByteArray), .string (⟨#[116, 111, 111, 108, 111, 110, 103, 101, 114]⟩ : ByteArray), .string (⟨#[116, 111, 111, 108, 111, 110, 103]⟩ : ByteArray), .string (t151 ++ (⟨#[63]⟩ : ByteArray)), .string (⟨#[122]⟩ : ByteArray)]) (ok := fun _ => True) (okp := fun _ => True) ?hr ?hp (fun _ hk => hk) trivial (Below.refl _ _) (Nat.le_refl _) (by simp) ?_; (case hd => rfl); (case hg => rfl); (case hr => first | (go_simp; done) | (go_simp; rfl)); (case hp => exact (bD.one (show Kd.M Kd.string _ _ _ t151 [.string t151] from rfl) (bD.one (show Kd.M Kd.string _ _ _ t151 [.string t151] from rfl) (bD.one (show Kd.M Kd.string _ _ _ t151 [.string t151] from rfl) (bD.one (show Kd.M Kd.string _ _ _ t151 [.string t151] from rfl) (bD.one (show Kd.M Kd.string _ _ _ t151 [.string t151] from rfl) (bD.one (show Kd.M Kd.string _ _ _ (⟨#[]⟩ : ByteArray) [.string (⟨#[]⟩ : ByteArray)] from rfl) (bD.one (show Kd.M Kd.string _ _ _ (⟨#[65]⟩ : ByteArray) [.string (⟨#[65]⟩ : ByteArray)] from rfl) (bD.one (show Kd.M Kd.string _ _ _ (⟨#[97, 32, 98]⟩ : ByteArray) [.string (⟨#[97, 32, 98]⟩ : ByteArray)] from rfl) (bD.one (show Kd.M Kd.string _ _ _ (⟨#[116, 111, 111, 108, 111, 110, 103, 101, 114]⟩ : ByteArray) [.string (⟨#[116, 111, 111, 108, 111, 110, 103, 101, 114]⟩ : ByteArray)] from rfl) (bD.one (show Kd.M Kd.string _ _ _ (⟨#[116, 111, 111, 108, 111, 110, 103]⟩ : ByteArray) [.string (⟨#[116, 111, 111, 108, 111, 110, 103]⟩ : ByteArray)] from rfl) (bD.one (show Kd.M Kd.string _ _ _ (t151 ++ (⟨#[63]⟩ : ByteArray)) [.string (t151 ++ (⟨#[63]⟩ : ByteArray))] from rfl) (bD.one (show Kd.M Kd.string _ _ _ (⟨#[122]⟩ : ByteArray) [.string (⟨#[122]⟩ : ByteArray)] from rfl) (bD.none _ _)))))))))))))); intro v155 w9001 ho7 hb hg_ hnew_; clear hg_ hnew_; (first | rw [← Ny154.out] at ho7 | (simp only [Int.reduceToNat] at ho7; rw [← Ny154.out] at ho7)); have n0_ := aj.mk (Kd.dF ho7 (eG (w := w) (g := g) (row := none) (by repeat (first | (with_reducible first | exact HK.out | apply ay.cO | apply aK | apply aR | apply aM) | exact HK.out)))); have n1_ := aj.mk (ak.below (by repeat (first | (with_reducible first | exact HI0.out | apply ak.alloc | apply ak.drewN | apply ak.drew | apply ak.bG | apply ak.bF) | exact HI0.out)) hb); have n2_ := aj.mk (ay.trans (by repeat (first | (with_reducible first | exact HK.out | apply ay.cO | apply aK | apply aR | apply aM) | exact HK.out)) (ay.of_below hb g none) (.inl rfl)); have n3_ := aj.mk (eu (by repeat (first | (with_reducible first | exact HB.out | apply aI | apply aA | apply aG | refine aD ?_ (ak.ge HI0.out)) | exact HB.out)) hb); clear HI0 HK HB; have HO156 := n0_; have HI0 := n1_; have HK := n2_; have HB := n3_; clear n0_ n1_ n2_ n3_; clear hb ho7; obtain ⟨Ao9002, co9002, eo9002⟩ := Kd.dh HO156.out; subst eo9002) | ((with_reducible refine aJ (f := 121) rfl ?_); refine bI (some 15) Try.func121 #[.pointer (some ⟨g, 0, none⟩), .slice Ao9002 y154.length co9002] ?_; (with_reducible refine (dH.calls g s0_0 t152 t153 _ _ y154 t157 t158 t159 w0 _ ?side1 ?side2 ?side3 ?side4 ?side5 A4.out).mono ?_); (case side1 => repeat (first | (with_reducible first | exact HI0.out | apply ak.alloc | apply ak.drewN | apply ak.drew | apply ak.bG | apply ak.bF) | exact HI0.out)); (case side2 => repeat (first | (with_reducible first | exact HB.out | apply aI | apply aA | apply aG | refine aD ?_ (ak.ge HI0.out)) | exact HB.out)); (case side3 => exact CR2 HO156); (case side4 => exact (Kd.aZ HO156.out).2.1); (case side5 => exact iT (ak.own_ne HI0.out HO156.out (by decide))); rintro e w9003 ⟨rfl, hi, hb, hk⟩; refine ⟨_, rfl, ?_⟩; have n0_ := aj.mk (Kd.dD (Kd.gJ (ak.apart (show ak w0 _ g s0_0 t152 t153 from by repeat (first | (with_reducible first | exact HI0.out | apply ak.alloc | apply ak.drewN | apply ak.drew | apply ak.bG | apply ak.bF) | exact HI0.out)) (RR HO156) (by decide)) hk (fun _ h => h.2)) (fun _ h => h.1)); have n1_ := aj.mk (ay.trans (by repeat (first | (with_reducible first | exact HK.out | apply ay.cO | apply aK | apply aR | apply aM) | exact HK.out)) hk (.inl rfl)); have n2_ := aj.mk (hb); have n3_ := aj.mk (hi); clear HO156 HK HB HI0; have HO156 := n0_; have HK := n1_; have HB := n2_; have HI0 := n3_; clear n0_ n1_ n2_ n3_; (try clear hb); (try clear hk); (try clear hi)))
 go_ret
 exact ⟨EWW, by repeat (first | (with_reducible first | exact HI0.out | apply ak.alloc | apply ak.drewN | apply ak.drew | apply ak.bG | apply ak.bF) | exact HI0.out), by repeat (first | (with_reducible first | exact HB.out | apply aI | apply aA | apply aG | refine aD ?_ (ak.ge HI0.out)) | exact HB.out), by repeat (first | (with_reducible first | exact HK.out | apply ay.cO | apply aK | apply aR | apply aM) | exact HK.out)⟩
def fu.f (s0_0 : List Int) (s0_1 s0_2 : Int) (l1 : List Int) : Option (Int × Int × Int) := (bM.f s0_0 s0_1 s0_2 (l1.length : Int)).bind fun bt160 => (if 0 ≤ bt160.1 then (if bt160.1 < (l1.length : Int) then (some (rd l1 bt160.1, bt160.2.1, bt160.2.2)) else (none)) else (none))
theorem fu.calls (g : Nat) (s0_0 : List Int) (s0_1 s0_2 : Int) (A1 : Option Addr) (c1 : Nat) (l1 : List Int) (r1 r2 r3 : Int) (w0 w : World) (hI : ak w0 w g s0_0 s0_1 s0_2) (hB : Below w0.heap.size w0 w) (hr1 : Kd.C (Kd.int .i64) w A1 l1.length l1) (hc1 : l1.length ≤ c1) (hf1 : ∀ ad, A1 = some ad → 0 < l1.length → ad.block ≠ g) (h : fu.f s0_0 s0_1 s0_2 l1 = some (r1, r2, r3)) :
  Calls Try.prog 63 #[.pointer (some ⟨g, 0, none⟩), .slice A1 l1.length c1] w fun e w' => e = .returned (.int .i64 r1) ∧ ak w0 w' g s0_0 r2 r3 ∧ Below w0.heap.size w0 w' ∧ ay w w' g none := by
 have HR1 := aj.mk hr1
 have HC1 := aj.mk hc1
 clear hr1 hc1
 have HI0 := aj.mk hI
 have HK := aj.mk (ay.refl w g none)
 have HL := aj.mk hB.size
 clear hI
 have HW0 := aj.mk hB.size
 have HB := aj.mk hB
 clear hB
 unfold fu.f at h
 have H := h
 clear h
 replace H := be H; obtain ⟨⟨t160, t161, t162⟩, A3, H⟩ := H
 dsimp only at H
 replace H := ifN H; obtain ⟨c4b0, H⟩ := H
 replace H := ifN H; obtain ⟨c5b0, H⟩ := H
 simp only [Option.some.injEq, Prod.mk.injEq] at H
 obtain ⟨rfl, rfl, rfl⟩ := H
 go_enter Try.func63, Try.ntmps63
 go_wp2_with (first | ((with_reducible refine aJ (f := 118) rfl ?_); refine bI (some 9) Try.func118 #[.pointer (some ⟨g, 0, none⟩), .int .i64 (l1.length : Int)] ?_; (with_reducible refine (bM.calls g s0_0 s0_1 s0_2 (l1.length : Int) t160 t161 t162 w0 _ ?side1 ?side2 A3.out).mono ?_); (case side1 => repeat (first | (with_reducible first | exact HI0.out | apply ak.alloc | apply ak.drewN | apply ak.drew | apply ak.bG | apply ak.bF) | exact HI0.out)); (case side2 => repeat (first | (with_reducible first | exact HB.out | apply aI | apply aA | apply aG | refine aD ?_ (ak.ge HI0.out)) | exact HB.out)); rintro e w9000 ⟨rfl, hi, hb, hk⟩; refine ⟨_, rfl, ?_⟩; have n0_ := aj.mk (ay.trans (by repeat (first | (with_reducible first | exact HK.out | apply ay.cO | apply aK | apply aR | apply aM) | exact HK.out)) hk (.inl rfl)); have n1_ := aj.mk (hb); have n2_ := aj.mk (hi); clear HK HB HI0; have HK := n0_; have HB := n1_; have HI0 := n2_; clear n0_ n1_ n2_; (try clear hb); (try clear hk); (try clear hi); have p163 : 0 ≤ (t160 : Int) := OD; have q163 : t160 < (l1.length : Int) := OD; obtain ⟨ad163, e163, hx163_0⟩ := Kd.jH HR1.out t160 p163 q163; cases e163; replace hx163_0 := pJ HK.out hx163_0 (by first | (rw [add_block]; exact hf1 _ rfl (by omega)) | exact hf1 _ rfl (by omega) | exact hf1 ad163 rfl (by omega)); replace p163 := eq_true p163; replace q163 := eq_true q163))
 go_ret
 exact ⟨EWW, by repeat (first | (with_reducible first | exact HI0.out | apply ak.alloc | apply ak.drewN | apply ak.drew | apply ak.bG | apply ak.bF) | exact HI0.out), by repeat (first | (with_reducible first | exact HB.out | apply aI | apply aA | apply aG | refine aD ?_ (ak.ge HI0.out)) | exact HB.out), by repeat (first | (with_reducible first | exact HK.out | apply ay.cO | apply aK | apply aR | apply aM) | exact HK.out)⟩
def fM.f (s0_0 : List Int) (s0_1 s0_2 : Int) : Option (Int × Int × Int) := (fu.f s0_0 s0_1 s0_2 (([(-1), 0, 99, 100, 1000, 1001, 9223372036854775807, (-9223372036854775808)] : List Int))).bind fun bt167 => (some (bt167.1, bt167.2.1, bt167.2.2))
theorem fM.calls (g : Nat) (s0_0 : List Int) (s0_1 s0_2 : Int) (r1 r2 r3 : Int) (w0 w : World) (hI : ak w0 w g s0_0 s0_1 s0_2) (hB : Below w0.heap.size w0 w) (h : fM.f s0_0 s0_1 s0_2 = some (r1, r2, r3)) :
  Calls Try.prog 119 #[.pointer (some ⟨g, 0, none⟩)] w fun e w' => e = .returned (.int .i64 r1) ∧ ak w0 w' g s0_0 r2 r3 ∧ Below w0.heap.size w0 w' ∧ ay w w' g none := by
 have HI0 := aj.mk hI
 have HK := aj.mk (ay.refl w g none)
 have HL := aj.mk hB.size
 clear hI
 have HW0 := aj.mk hB.size
 have HB := aj.mk hB
 clear hB
 unfold fM.f at h
 have H := h
 clear h
 obtain ⟨y164, hy164⟩ : ∃ y_ : List Int, y_ = (([(-1), 0, 99, 100, 1000, 1001, 9223372036854775807, (-9223372036854775808)] : List Int)) := ⟨_, rfl⟩
 replace H : ((fu.f s0_0 s0_1 s0_2 y164).bind fun bt167 => (some (bt167.1, bt167.2.1, bt167.2.2))) = some (r1, r2, r3) := by first | (rw [hy164]; with_reducible exact H) | (have H2_ := (Option.bind_some _ _).symm.trans H; rw [hy164]; with_reducible exact H2_) | (have H2_ := (Option.bind_some _ _).symm.trans H; with_reducible exact H2_) | with_reducible exact H | (rw [hy164]; exact H) | exact H
 have Ny164 := aj.mk hy164
 clear hy164
 replace H := be H; obtain ⟨⟨t167, t168, t169⟩, A2, H⟩ := H
 dsimp only at H
 simp only [Option.some.injEq, Prod.mk.injEq] at H
 obtain ⟨rfl, rfl, rfl⟩ := H
 go_enter Try.func119, Try.ntmps119
 go_wp2_with (first | ((with_reducible refine dz (N := 4) rfl ?_); refine Kd.kS (Kd.int .i64) _ 3 ?hg (N := 4) ?hd (xs := ([(-1), 0, 99, 100, 1000, 1001, 9223372036854775807, (-9223372036854775808)] : List Int)) (inner := [.int .i64 (-1), .int .i64 0, .int .i64 99, .int .i64 100, .int .i64 1000, .int .i64 1001, .int .i64 9223372036854775807, .int .i64 (-9223372036854775808)]) (ok := fun _ => True) (okp := fun _ => True) ?hr ?hp (fun _ hk => hk) trivial (Below.refl _ _) (Nat.le_refl _) (by simp) ?_; (case hd => rfl); (case hg => rfl); (case hr => first | (go_simp; done) | (go_simp; rfl)); (case hp => exact (bD.one (show Kd.M (Kd.int .i64) _ _ _ (-1) [.int .i64 (-1)] from rfl) (bD.one (show Kd.M (Kd.int .i64) _ _ _ 0 [.int .i64 0] from rfl) (bD.one (show Kd.M (Kd.int .i64) _ _ _ 99 [.int .i64 99] from rfl) (bD.one (show Kd.M (Kd.int .i64) _ _ _ 100 [.int .i64 100] from rfl) (bD.one (show Kd.M (Kd.int .i64) _ _ _ 1000 [.int .i64 1000] from rfl) (bD.one (show Kd.M (Kd.int .i64) _ _ _ 1001 [.int .i64 1001] from rfl) (bD.one (show Kd.M (Kd.int .i64) _ _ _ 9223372036854775807 [.int .i64 9223372036854775807] from rfl) (bD.one (show Kd.M (Kd.int .i64) _ _ _ (-9223372036854775808) [.int .i64 (-9223372036854775808)] from rfl) (bD.none _ _)))))))))); intro v165 w3 ho4 hb hg_ hnew_; clear hg_ hnew_; (first | rw [← Ny164.out] at ho4 | (simp only [Int.reduceToNat] at ho4; rw [← Ny164.out] at ho4)); have n0_ := aj.mk (Kd.dF ho4 (eG (w := w) (g := g) (row := none) (by repeat (first | (with_reducible first | exact HK.out | apply ay.cO | apply aK | apply aR | apply aM) | exact HK.out)))); have n1_ := aj.mk (ak.below (by repeat (first | (with_reducible first | exact HI0.out | apply ak.alloc | apply ak.drewN | apply ak.drew | apply ak.bG | apply ak.bF) | exact HI0.out)) hb); have n2_ := aj.mk (ay.trans (by repeat (first | (with_reducible first | exact HK.out | apply ay.cO | apply aK | apply aR | apply aM) | exact HK.out)) (ay.of_below hb g none) (.inl rfl)); have n3_ := aj.mk (eu (by repeat (first | (with_reducible first | exact HB.out | apply aI | apply aA | apply aG | refine aD ?_ (ak.ge HI0.out)) | exact HB.out)) hb); clear HI0 HK HB; have HO166 := n0_; have HI0 := n1_; have HK := n2_; have HB := n3_; clear n0_ n1_ n2_ n3_; clear hb ho4; obtain ⟨Ao5, co5, eo5⟩ := Kd.dh HO166.out; subst eo5) | ((with_reducible refine aJ (f := 63) rfl ?_); refine bI (some 5) Try.func63 #[.pointer (some ⟨g, 0, none⟩), .slice Ao5 y164.length co5] ?_; (with_reducible refine (fu.calls g s0_0 s0_1 s0_2 _ _ y164 t167 t168 t169 w0 _ ?side1 ?side2 ?side3 ?side4 ?side5 A2.out).mono ?_); (case side1 => repeat (first | (with_reducible first | exact HI0.out | apply ak.alloc | apply ak.drewN | apply ak.drew | apply ak.bG | apply ak.bF) | exact HI0.out)); (case side2 => repeat (first | (with_reducible first | exact HB.out | apply aI | apply aA | apply aG | refine aD ?_ (ak.ge HI0.out)) | exact HB.out)); (case side3 => exact CR2 HO166); (case side4 => exact (Kd.aZ HO166.out).2.1); (case side5 => exact iT (ak.own_ne HI0.out HO166.out (by decide))); rintro e w6 ⟨rfl, hi, hb, hk⟩; refine ⟨_, rfl, ?_⟩; have n0_ := aj.mk (Kd.dD (Kd.gJ (ak.apart (show ak w0 _ g s0_0 s0_1 s0_2 from by repeat (first | (with_reducible first | exact HI0.out | apply ak.alloc | apply ak.drewN | apply ak.drew | apply ak.bG | apply ak.bF) | exact HI0.out)) (RR HO166) (by decide)) hk (fun _ h => h.2)) (fun _ h => h.1)); have n1_ := aj.mk (ay.trans (by repeat (first | (with_reducible first | exact HK.out | apply ay.cO | apply aK | apply aR | apply aM) | exact HK.out)) hk (.inl rfl)); have n2_ := aj.mk (hb); have n3_ := aj.mk (hi); clear HO166 HK HB HI0; have HO166 := n0_; have HK := n1_; have HB := n2_; have HI0 := n3_; clear n0_ n1_ n2_ n3_; (try clear hb); (try clear hk); (try clear hi)))
 go_ret
 exact ⟨EWW, by repeat (first | (with_reducible first | exact HI0.out | apply ak.alloc | apply ak.drewN | apply ak.drew | apply ak.bG | apply ak.bF) | exact HI0.out), by repeat (first | (with_reducible first | exact HB.out | apply aI | apply aA | apply aG | refine aD ?_ (ak.ge HI0.out)) | exact HB.out), by repeat (first | (with_reducible first | exact HK.out | apply ay.cO | apply aK | apply aR | apply aM) | exact HK.out)⟩
def gu.f (s0_0 : List Int) (s0_1 s0_2 a1 : Int) : Option (Bool × Int × Int) := (bM.f s0_0 s0_1 s0_2 a1).bind fun bt170 => (some ((bt170.1 == 0), bt170.2.1, bt170.2.2))
theorem gu.calls (g : Nat) (s0_0 : List Int) (s0_1 s0_2 a1 : Int) (r1 : Bool) (r2 r3 : Int) (w0 w : World) (hI : ak w0 w g s0_0 s0_1 s0_2) (hB : Below w0.heap.size w0 w) (h : gu.f s0_0 s0_1 s0_2 a1 = some (r1, r2, r3)) :
  Calls Try.prog 69 #[.pointer (some ⟨g, 0, none⟩), .int .i64 a1] w fun e w' => e = .returned (.bool r1) ∧ ak w0 w' g s0_0 r2 r3 ∧ Below w0.heap.size w0 w' ∧ ay w w' g none := by
 have HI0 := aj.mk hI
 have HK := aj.mk (ay.refl w g none)
 have HL := aj.mk hB.size
 clear hI
 have HW0 := aj.mk hB.size
 have HB := aj.mk hB
 clear hB
 unfold gu.f at h
 have H := h
 clear h
 replace H := be H; obtain ⟨⟨t170, t171, t172⟩, A3, H⟩ := H
 dsimp only at H
 simp only [Option.some.injEq, Prod.mk.injEq] at H
 obtain ⟨rfl, rfl, rfl⟩ := H
 go_enter Try.func69, Try.ntmps69
 go_wp2_with (first | ((with_reducible refine aJ (f := 118) rfl ?_); refine bI (some 7) Try.func118 #[.pointer (some ⟨g, 0, none⟩), .int .i64 a1] ?_; (with_reducible refine (bM.calls g s0_0 s0_1 s0_2 a1 t170 t171 t172 w0 _ ?side1 ?side2 A3.out).mono ?_); (case side1 => repeat (first | (with_reducible first | exact HI0.out | apply ak.alloc | apply ak.drewN | apply ak.drew | apply ak.bG | apply ak.bF) | exact HI0.out)); (case side2 => repeat (first | (with_reducible first | exact HB.out | apply aI | apply aA | apply aG | refine aD ?_ (ak.ge HI0.out)) | exact HB.out)); rintro e w4 ⟨rfl, hi, hb, hk⟩; refine ⟨_, rfl, ?_⟩; have n0_ := aj.mk (ay.trans (by repeat (first | (with_reducible first | exact HK.out | apply ay.cO | apply aK | apply aR | apply aM) | exact HK.out)) hk (.inl rfl)); have n1_ := aj.mk (hb); have n2_ := aj.mk (hi); clear HK HB HI0; have HK := n0_; have HB := n1_; have HI0 := n2_; clear n0_ n1_ n2_; (try clear hb); (try clear hk); (try clear hi)))
 go_ret
 exact ⟨EWW, by repeat (first | (with_reducible first | exact HI0.out | apply ak.alloc | apply ak.drewN | apply ak.drew | apply ak.bG | apply ak.bF) | exact HI0.out), by repeat (first | (with_reducible first | exact HB.out | apply aI | apply aA | apply aG | refine aD ?_ (ak.ge HI0.out)) | exact HB.out), by repeat (first | (with_reducible first | exact HK.out | apply ay.cO | apply aK | apply aR | apply aM) | exact HK.out)⟩
mutual
def aY.j0 : Nat → List (bq) → Bool → List Int → Int → Int → Int → ByteArray → Int → Int → Option (Int × ByteArray × Int × Int × Int × Int)
 | 0, _, _, _, _, _, _, _, _, _ => none
 | k + 1, a, b, c, d, e, f, g, h, i => if b = true then (aY.j1 k a c d e 1 g h i) else (aY.j1 k a c d e f g h i)
def aY.j1 : Nat → List (bq) → List Int → Int → Int → Int → ByteArray → Int → Int → Option (Int × ByteArray × Int × Int × Int × Int)
 | 0, _, _, _, _, _, _, _, _ => none
 | k + 1, a, b, c, d, e, f, g, h => if e = 1 then ((fD.f b c d).bind fun i => ((dH.f b i.2.1 i.2.2 (([i.1, (⟨#[114]⟩ : ByteArray), (⟨#[115]⟩ : ByteArray), (⟨#[97, 116]⟩ : ByteArray), (⟨#[101, 97]⟩ : ByteArray)] : List ByteArray))).bind fun j => (some (e, j.1, g, h, j.2.1, j.2.2)))) else (if e = 4 then (aY.j2 k a true b c d e f (wrap64 ((a.length : Int) - 1)) h) else (aY.j2 k a (e == 5) b c d e f (wrap64 ((a.length : Int) - 1)) h))
def aY.j2 : Nat → List (bq) → Bool → List Int → Int → Int → Int → ByteArray → Int → Int → Option (Int × ByteArray × Int × Int × Int × Int)
 | 0, _, _, _, _, _, _, _, _, _ => none
 | k + 1, a, b, c, d, e, f, g, h, i => if b = true then ((bM.f c d e (a.length : Int)).bind fun j => ((bM.f c j.2.1 j.2.2 (a.length : Int)).bind fun l => (some (f, g, j.1, l.1, l.2.1, l.2.2)))) else (aY.l0 k a c d e f g h i)
def aY.l0 : Nat → List (bq) → List Int → Int → Int → Int → ByteArray → Int → Int → Option (Int × ByteArray × Int × Int × Int × Int)
 | 0, _, _, _, _, _, _, _, _ => none
 | k + 1, a, b, c, d, e, f, g, h => if e = 2 then (some (e, f, g, h, c, d)) else (if 0 ≤ g then (if g < (a.length : Int) then (if ((ah a g).f0) = 1 then (some (e, f, g, h, c, d)) else (aY.l0 k a b c d e f (wrap64 (g - 1)) h)) else (none)) else (none))
end
def aY.f (k : Nat) (s0_0 : List Int) (s0_1 s0_2 : Int) (l1 : List (bq)) : Option (Int × ByteArray × Int × Int × Int × Int) := (bM.f s0_0 s0_1 s0_2 9).bind fun bt174 => (if (l1.length : Int) = 0 then (aY.j0 k l1 true s0_0 bt174.2.1 bt174.2.2 (wrap64 (1 + bt174.1)) (⟨#[]⟩ : ByteArray) 0 0) else ((gu.f s0_0 bt174.2.1 bt174.2.2 3).bind fun bt178 => (aY.j0 k l1 bt178.1 s0_0 bt178.2.1 bt178.2.2 (wrap64 (1 + bt174.1)) (⟨#[]⟩ : ByteArray) 0 0)))
theorem aY.calls (k g : Nat) (s0_0 : List Int) (s0_1 s0_2 : Int) (A1 : Option Addr) (c1 : Nat) (l1 : List (bq)) (r1 : Int) (r2 : ByteArray) (r3 r4 : Int) (r5 r6 : Int) (w0 w : World) (hI : ak w0 w g s0_0 s0_1 s0_2) (hB : Below w0.heap.size w0 w) (hr1 : ∀ W_, ay w W_ g none → Kd.C eY W_ A1 l1.length l1) (hc1 : l1.length ≤ c1) (h : aY.f k s0_0 s0_1 s0_2 l1 = some (r1, r2, r3, r4, r5, r6)) :
  Calls Try.prog 186 #[.pointer (some ⟨g, 0, none⟩), .slice A1 l1.length c1] w fun e w' => e = .returned (.agg #[.int .i64 r1, .string r2, .int .i64 r3, .int .i64 r4]) ∧ ak w0 w' g s0_0 r5 r6 ∧ Below w0.heap.size w0 w' ∧ ay w w' g none := by
 have hu110 := Try.underlying110
 have HR1 := aj.mk hr1
 have HC1 := aj.mk hc1
 clear hr1 hc1
 have HI0 := aj.mk hI
 have HK := aj.mk (ay.refl w g none)
 have HL := aj.mk hB.size
 clear hI
 have HW0 := aj.mk hB.size
 have HB := aj.mk hB
 clear hB
 unfold aY.f at h
 have H := h
 clear h
 replace H := be H; obtain ⟨⟨t174, t175, t176⟩, A3, H⟩ := H
 dsimp only at H
 have HC4 := aj.mk H
 clear H
 go_enter Try.func186, Try.ntmps186
 go_upto_region 2 with (first | ((with_reducible refine dz (N := 4) rfl ?_); refine gV (N := 4) (cs := #[.int .i64 0, .string (⟨#[]⟩ : ByteArray), .int .i64 0, .int .i64 0]) (t := 110) ?_; intro gb173 hg w5 hbox hb; have n0_ := aj.mk (ak.below (by repeat (first | (with_reducible first | exact HI0.out | apply ak.alloc | apply ak.drewN | apply ak.drew | apply ak.bG | apply ak.bF) | exact HI0.out)) hb); have n1_ := aj.mk (ay.trans (by repeat (first | (with_reducible first | exact HK.out | apply ay.cO | apply aK | apply aR | apply aM) | exact HK.out)) (ay.of_below hb g none) (.inl rfl)); have n2_ := aj.mk (eu (by repeat (first | (with_reducible first | exact HB.out | apply aI | apply aA | apply aG | refine aD ?_ (ak.ge HI0.out)) | exact HB.out)) hb); have n3_ := aj.mk (hbox); have n4_ := aj.mk ((by rw [hg]; exact (eG (w := w) (g := g) (row := none) (by repeat (first | (with_reducible first | exact HK.out | apply ay.cO | apply aK | apply aR | apply aM) | exact HK.out))) : w.heap.size ≤ gb173)); have n5_ := aj.mk ((Nat.le_trans HW0.out (by rw [hg]; exact (eG (w := w) (g := g) (row := none) (by repeat (first | (with_reducible first | exact HK.out | apply ay.cO | apply aK | apply aR | apply aM) | exact HK.out))) : w.heap.size ≤ gb173) : w0.heap.size ≤ gb173)); have n6_ := aj.mk ((by rw [hg]; exact Nat.ne_of_lt (ak.lt (show ak w0 _ g s0_0 s0_1 s0_2 from by repeat (first | (with_reducible first | exact HI0.out | apply ak.alloc | apply ak.drewN | apply ak.drew | apply ak.bG | apply ak.bF) | exact HI0.out))) : g ≠ gb173)); have n7_ := aj.mk ((by rw [hg]; exact Nat.ne_of_gt (ak.lt (show ak w0 _ g s0_0 s0_1 s0_2 from by repeat (first | (with_reducible first | exact HI0.out | apply ak.alloc | apply ak.drewN | apply ak.drew | apply ak.bG | apply ak.bF) | exact HI0.out))) : gb173 ≠ g)); clear HI0 HK HB; have HI0 := n0_; have HK := n1_; have HB := n2_; have BK173 := n3_; have GW173 := n4_; have GE173 := n5_; have NB0_173 := n6_; have NB173_0 := n7_; clear n0_ n1_ n2_ n3_ n4_ n5_ n6_ n7_; clear hb hbox hg) | ((with_reducible refine aJ (f := 118) rfl ?_); refine bI (some 7) Try.func118 #[.pointer (some ⟨g, 0, none⟩), .int .i64 9] ?_; (with_reducible refine (bM.calls g s0_0 s0_1 s0_2 9 t174 t175 t176 w0 _ ?side1 ?side2 A3.out).mono ?_); (case side1 => repeat (first | (with_reducible first | exact HI0.out | apply ak.alloc | apply ak.drewN | apply ak.drew | apply ak.bG | apply ak.bF | refine ak.far ?_ NB0_173.out _) | exact HI0.out)); (case side2 => repeat (first | (with_reducible first | exact HB.out | apply aI | apply aA | apply aG | refine aD ?_ (ak.ge HI0.out) | refine aD ?_ GE173.out) | exact HB.out)); rintro e w6 ⟨rfl, hi, hb, hk⟩; refine ⟨_, rfl, ?_⟩; have n0_ := aj.mk (ay.blk hk (g' := gb173) (o := .cells #[.int .i64 0, .string (⟨#[]⟩ : ByteArray), .int .i64 0, .int .i64 0] 110 (0, 0)) BK NB173_0.out (by simp)); have n1_ := aj.mk (ay.trans (by repeat (first | (with_reducible first | exact HK.out | apply ay.cO | apply aK | apply aR | apply aM | refine bL ?_ GW173.out _) | exact HK.out)) hk (.inl rfl)); have n2_ := aj.mk (hb); have n3_ := aj.mk (hi); clear BK173 HK HB HI0; have BK173 := n0_; have HK := n1_; have HB := n2_; have HI0 := n3_; clear n0_ n1_ n2_ n3_; (try clear hb); (try clear hk); (try clear hi)) | ((with_reducible refine dz (N := 5) rfl ?_); refine gV (N := 5) (cs := #[.int .i64 0, .string (⟨#[]⟩ : ByteArray), .int .i64 0, .int .i64 0]) (t := 110) ?_; intro gb177 hg w7 hbox hb; have n0_ := aj.mk (ak.below (by repeat (first | (with_reducible first | exact HI0.out | apply ak.alloc | apply ak.drewN | apply ak.drew | apply ak.bG | apply ak.bF | refine ak.far ?_ NB0_173.out _) | exact HI0.out)) hb); have n1_ := KB BK173 hb; have n2_ := aj.mk (ay.trans (by repeat (first | (with_reducible first | exact HK.out | apply ay.cO | apply aK | apply aR | apply aM | refine bL ?_ GW173.out _) | exact HK.out)) (ay.of_below hb g none) (.inl rfl)); have n3_ := aj.mk (eu (by repeat (first | (with_reducible first | exact HB.out | apply aI | apply aA | apply aG | refine aD ?_ (ak.ge HI0.out) | refine aD ?_ GE173.out) | exact HB.out)) hb); have n4_ := aj.mk (hbox); have n5_ := aj.mk ((by rw [hg]; exact (eG (w := w) (g := g) (row := none) (by repeat (first | (with_reducible first | exact HK.out | apply ay.cO | apply aK | apply aR | apply aM | refine bL ?_ GW173.out _) | exact HK.out))) : w.heap.size ≤ gb177)); have n6_ := aj.mk ((Nat.le_trans HW0.out (by rw [hg]; exact (eG (w := w) (g := g) (row := none) (by repeat (first | (with_reducible first | exact HK.out | apply ay.cO | apply aK | apply aR | apply aM | refine bL ?_ GW173.out _) | exact HK.out))) : w.heap.size ≤ gb177) : w0.heap.size ≤ gb177)); have n7_ := NL BK173 hg; have n8_ := NG BK173 hg; have n9_ := aj.mk ((by rw [hg]; exact Nat.ne_of_lt (ak.lt (show ak w0 _ g s0_0 t175 t176 from by repeat (first | (with_reducible first | exact HI0.out | apply ak.alloc | apply ak.drewN | apply ak.drew | apply ak.bG | apply ak.bF | refine ak.far ?_ NB0_173.out _) | exact HI0.out))) : g ≠ gb177)); have n10_ := aj.mk ((by rw [hg]; exact Nat.ne_of_gt (ak.lt (show ak w0 _ g s0_0 t175 t176 from by repeat (first | (with_reducible first | exact HI0.out | apply ak.alloc | apply ak.drewN | apply ak.drew | apply ak.bG | apply ak.bF | refine ak.far ?_ NB0_173.out _) | exact HI0.out))) : gb177 ≠ g)); clear HI0 BK173 HK HB; have HI0 := n0_; have BK173 := n1_; have HK := n2_; have HB := n3_; have BK177 := n4_; have GW177 := n5_; have GE177 := n6_; have NB173_177 := n7_; have NB177_173 := n8_; have NB0_177 := n9_; have NB177_0 := n10_; clear n0_ n1_ n2_ n3_ n4_ n5_ n6_ n7_ n8_ n9_ n10_; clear hb hbox hg; have hnb8 := NB177_173.out; have hnc8 := NB173_177.out; have hnb9 := NB177_0.out; have hnc9 := NB0_177.out; obtain ⟨hcz10_0, hcz10_1, hcz10_2, hcz10_3, hfz10_0, hfz10_1, hfz10_2, hfz10_3⟩ := cz4 BK177.out))
 (try simp only [Act.put, List.setIfInBounds_toArray, List.set_cons_zero, List.set_cons_succ])
 go_cut [16] (fun v16 wc => ∃ (kq : Nat) (x16_3 : Bool) (x1001_3 : Int) (x1002_3 : Int), v16 = .bool x16_3 ∧ aj (aY.j0 kq l1 x16_3 s0_0 x1001_3 x1002_3 (wrap64 (1 + t174)) (⟨#[]⟩ : ByteArray) 0 0 = some (r1, r2, r3, r4, r5, r6)) ∧ aj (kq ≤ k) ∧ aj (wc.heap[gb173]? = some (.cells #[.int .i64 0, .string (⟨#[]⟩ : ByteArray), .int .i64 0, .int .i64 0] 110 (0, 0))) ∧ aj (wc.heap[gb177]? = some (.cells #[.int .i64 (wrap64 (1 + t174)), .string (⟨#[]⟩ : ByteArray), .int .i64 0, .int .i64 0] 110 (0, 0))) ∧ aj (ak w0 wc g s0_0 x1001_3 x1002_3) ∧ aj (ay w wc g none) ∧ aj (Below w0.heap.size w0 wc))
 case first =>
  have H := HC4.out
  clear HC4
  replace H := ifE H; rcases H with ⟨c11b0, c11b1, H⟩ | ⟨c11, c11b0, c11b1, H⟩
  ·(first | rw [c11b0] | (simp only [bY, cu]; rw [c11b0]) | skip)
   have H' := aj.mk H
   clear H
   go_wp2
   go_meet
   case rel => exact ⟨_, (true), (t175), (t176), EQ, H', ⟨by first | omega | exact Nat.le_refl _⟩, ⟨by (with_reducible repeat (first | refine av ?_ _ | refine aC ?_ | refine au ?_ _)); refine fG ?_ NB173_177.out _; (with_reducible repeat (first | refine av ?_ _ | refine aC ?_ | refine au ?_ _)); refine fG ?_ NB173_177.out _; (with_reducible repeat (first | refine av ?_ _ | refine aC ?_ | refine au ?_ _)); refine fG ?_ NB173_177.out _; (with_reducible repeat (first | refine av ?_ _ | refine aC ?_ | refine au ?_ _)); refine fG ?_ NB173_177.out _; (with_reducible repeat (first | refine av ?_ _ | refine aC ?_ | refine au ?_ _)); exact BK173.out⟩, ⟨by (with_reducible repeat (first | refine av ?_ _ | refine aC ?_ | refine au ?_ _)); refine aU (cs := #[.int .i64 (wrap64 (1 + t174)), .string (⟨#[]⟩ : ByteArray), .int .i64 0, .int .i64 0]) ?_ 3 _ rfl; (with_reducible repeat (first | refine av ?_ _ | refine aC ?_ | refine au ?_ _)); refine aU (cs := #[.int .i64 (wrap64 (1 + t174)), .string (⟨#[]⟩ : ByteArray), .int .i64 0, .int .i64 0]) ?_ 2 _ rfl; (with_reducible repeat (first | refine av ?_ _ | refine aC ?_ | refine au ?_ _)); refine aU (cs := #[.int .i64 (wrap64 (1 + t174)), .string (⟨#[]⟩ : ByteArray), .int .i64 0, .int .i64 0]) ?_ 1 _ rfl; (with_reducible repeat (first | refine av ?_ _ | refine aC ?_ | refine au ?_ _)); refine aU (cs := #[.int .i64 0, .string (⟨#[]⟩ : ByteArray), .int .i64 0, .int .i64 0]) ?_ 0 _ rfl; (with_reducible repeat (first | refine av ?_ _ | refine aC ?_ | refine au ?_ _)); exact BK177.out⟩, ⟨by repeat (first | (with_reducible first | exact HI0.out | apply ak.alloc | apply ak.drewN | apply ak.drew | apply ak.bG | apply ak.bF | refine ak.far ?_ NB0_173.out _ | refine ak.far ?_ NB0_177.out _) | exact HI0.out)⟩, ⟨by repeat (first | (with_reducible first | exact HK.out | apply ay.cO | apply aK | apply aR | apply aM | refine bL ?_ GW173.out _ | refine bL ?_ GW177.out _) | exact HK.out)⟩, ⟨by repeat (first | (with_reducible first | exact HB.out | apply aI | apply aA | apply aG | refine aD ?_ (ak.ge HI0.out) | refine aD ?_ GE173.out | refine aD ?_ GE177.out) | exact HB.out)⟩⟩
  ·have c11b2 : ¬ (l1 = []) := fun h_ => c11 (by rw [h_]; rfl)
   (first | rw [c11b0] | (simp only [bY, cu]; rw [c11b0]) | skip)
   replace H := be H; obtain ⟨⟨t178, t179, t180⟩, A12, H⟩ := H
   dsimp only at H
   have H' := aj.mk H
   clear H
   go_wp2_with (first | (go_at_call 69; (with_reducible refine (gu.calls g s0_0 t175 t176 3 t178 t179 t180 w0 _ ?side1 ?side2 A12.out).mono ?_); (case side1 => repeat (first | (with_reducible first | exact HI0.out | apply ak.alloc | apply ak.drewN | apply ak.drew | apply ak.bG | apply ak.bF | refine ak.far ?_ NB0_173.out _ | refine ak.far ?_ NB0_177.out _) | exact HI0.out)); (case side2 => repeat (first | (with_reducible first | exact HB.out | apply aI | apply aA | apply aG | refine aD ?_ (ak.ge HI0.out) | refine aD ?_ GE173.out | refine aD ?_ GE177.out) | exact HB.out)); rintro e w8000 ⟨rfl, hi, hb, hk⟩; have n0_ := aj.mk (ay.blk hk (g' := gb173) (o := .cells #[.int .i64 0, .string (⟨#[]⟩ : ByteArray), .int .i64 0, .int .i64 0] 110 (0, 0)) (by (with_reducible repeat (first | refine av ?_ _ | refine aC ?_ | refine au ?_ _)); refine fG ?_ NB173_177.out _; (with_reducible repeat (first | refine av ?_ _ | refine aC ?_ | refine au ?_ _)); refine fG ?_ NB173_177.out _; (with_reducible repeat (first | refine av ?_ _ | refine aC ?_ | refine au ?_ _)); refine fG ?_ NB173_177.out _; (with_reducible repeat (first | refine av ?_ _ | refine aC ?_ | refine au ?_ _)); refine fG ?_ NB173_177.out _; (with_reducible repeat (first | refine av ?_ _ | refine aC ?_ | refine au ?_ _)); exact BK173.out) NB173_0.out (by simp)); have n1_ := aj.mk (ay.blk hk (g' := gb177) (o := .cells #[.int .i64 (wrap64 (1 + t174)), .string (⟨#[]⟩ : ByteArray), .int .i64 0, .int .i64 0] 110 (0, 0)) (by (with_reducible repeat (first | refine av ?_ _ | refine aC ?_ | refine au ?_ _)); refine aU (cs := #[.int .i64 (wrap64 (1 + t174)), .string (⟨#[]⟩ : ByteArray), .int .i64 0, .int .i64 0]) ?_ 3 _ rfl; (with_reducible repeat (first | refine av ?_ _ | refine aC ?_ | refine au ?_ _)); refine aU (cs := #[.int .i64 (wrap64 (1 + t174)), .string (⟨#[]⟩ : ByteArray), .int .i64 0, .int .i64 0]) ?_ 2 _ rfl; (with_reducible repeat (first | refine av ?_ _ | refine aC ?_ | refine au ?_ _)); refine aU (cs := #[.int .i64 (wrap64 (1 + t174)), .string (⟨#[]⟩ : ByteArray), .int .i64 0, .int .i64 0]) ?_ 1 _ rfl; (with_reducible repeat (first | refine av ?_ _ | refine aC ?_ | refine au ?_ _)); refine aU (cs := #[.int .i64 0, .string (⟨#[]⟩ : ByteArray), .int .i64 0, .int .i64 0]) ?_ 0 _ rfl; (with_reducible repeat (first | refine av ?_ _ | refine aC ?_ | refine au ?_ _)); exact BK177.out) NB177_0.out (by simp)); have n2_ := aj.mk (ay.trans (by repeat (first | (with_reducible first | exact HK.out | apply ay.cO | apply aK | apply aR | apply aM | refine bL ?_ GW173.out _ | refine bL ?_ GW177.out _) | exact HK.out)) hk (.inl rfl)); have n3_ := aj.mk (hb); have n4_ := aj.mk (hi); clear BK173 BK177 HK HB HI0; have BK173 := n0_; have BK177 := n1_; have HK := n2_; have HB := n3_; have HI0 := n4_; clear n0_ n1_ n2_ n3_ n4_; (try clear hb); (try clear hb2); (try clear hk); (try clear hi)))
   go_meet
   case rel => exact ⟨_, (t178), (t179), (t180), EQ, H', ⟨by first | omega | exact Nat.le_refl _⟩, ⟨BK⟩, ⟨BK⟩, ⟨by repeat (first | (with_reducible first | exact HI0.out | apply ak.alloc | apply ak.drewN | apply ak.drew | apply ak.bG | apply ak.bF | refine ak.far ?_ NB0_173.out _ | refine ak.far ?_ NB0_177.out _) | exact HI0.out)⟩, ⟨by repeat (first | (with_reducible first | exact HK.out | apply ay.cO | apply aK | apply aR | apply aM | refine bL ?_ GW173.out _ | refine bL ?_ GW177.out _) | exact HK.out)⟩, ⟨by repeat (first | (with_reducible first | exact HB.out | apply aI | apply aA | apply aG | refine aD ?_ (ak.ge HI0.out) | refine aD ?_ GE173.out | refine aD ?_ GE177.out) | exact HB.out)⟩⟩
 case rest =>
  clear HC4
  try clear c1
  try clear hcz10_0
  try clear hcz10_1
  try clear hcz10_2
  try clear hcz10_3
  try clear hfz10_0
  try clear hfz10_1
  try clear hfz10_2
  try clear hfz10_3
  obtain ⟨kq, x16_3, x1001_3, x1002_3, rfl, HA, HJ3, BK173, BK177, HI0, HK, HB⟩ := hcut
  cases kq with
  | zero => exact absurd HA.out (by simp [aY.j0])
  | succ kj3 =>
   have H := HA.out
   clear HA
   simp only [aY.j0] at H
   have HC14 := aj.mk H
   clear H
   go_upto_if 16 with (fail)
   go_cut [] (fun wc => ∃ (kq : Nat) (x178000_13 : Int), aj (aY.j1 kq l1 s0_0 x1001_3 x1002_3 x178000_13 (⟨#[]⟩ : ByteArray) 0 0 = some (r1, r2, r3, r4, r5, r6)) ∧ aj (kq ≤ kj3) ∧ aj (wc.heap[gb173]? = some (.cells #[.int .i64 0, .string (⟨#[]⟩ : ByteArray), .int .i64 0, .int .i64 0] 110 (0, 0))) ∧ aj (wc.heap[gb177]? = some (.cells #[.int .i64 x178000_13, .string (⟨#[]⟩ : ByteArray), .int .i64 0, .int .i64 0] 110 (0, 0))) ∧ aj (ak w0 wc g s0_0 x1001_3 x1002_3) ∧ aj (ay w wc g none) ∧ aj (Below w0.heap.size w0 wc))
   case first =>
    have H := HC14.out
    clear HC14
    replace H := ifB H; rcases H with ⟨rfl, H⟩ | ⟨rfl, H⟩
    ·have H' := aj.mk H
     clear H
     have hnb6000 := NB177_173.out
     have hnc6000 := NB173_177.out
     have hnb6001 := NB177_0.out
     have hnc6001 := NB0_177.out
     obtain ⟨hcz6002_0, hcz6002_1, hcz6002_2, hcz6002_3, hfz6002_0, hfz6002_1, hfz6002_2, hfz6002_3⟩ := cz4 BK177.out
     go_wp2
     go_meet
     case rel => exact ⟨_, (1), H', ⟨by have := HJ3.out; first | omega | exact Nat.le_refl _⟩, ⟨by (with_reducible repeat (first | refine av ?_ _ | refine aC ?_ | refine au ?_ _)); refine fG ?_ NB173_177.out _; (with_reducible repeat (first | refine av ?_ _ | refine aC ?_ | refine au ?_ _)); exact BK173.out⟩, ⟨by (with_reducible repeat (first | refine av ?_ _ | refine aC ?_ | refine au ?_ _)); refine aU (cs := #[.int .i64 (wrap64 (1 + t174)), .string (⟨#[]⟩ : ByteArray), .int .i64 0, .int .i64 0]) ?_ 0 _ rfl; (with_reducible repeat (first | refine av ?_ _ | refine aC ?_ | refine au ?_ _)); exact BK177.out⟩, ⟨by repeat (first | (with_reducible first | exact HI0.out | apply ak.alloc | apply ak.drewN | apply ak.drew | apply ak.bG | apply ak.bF | refine ak.far ?_ NB0_173.out _ | refine ak.far ?_ NB0_177.out _) | exact HI0.out)⟩, ⟨by repeat (first | (with_reducible first | exact HK.out | apply ay.cO | apply aK | apply aR | apply aM | refine bL ?_ GW173.out _ | refine bL ?_ GW177.out _) | exact HK.out)⟩, ⟨by repeat (first | (with_reducible first | exact HB.out | apply aI | apply aA | apply aG | refine aD ?_ (ak.ge HI0.out) | refine aD ?_ GE173.out | refine aD ?_ GE177.out) | exact HB.out)⟩⟩
    ·have H' := aj.mk H
     clear H
     go_wp2
     go_meet
     case rel => exact ⟨_, ((wrap64 (1 + t174))), H', ⟨by have := HJ3.out; first | omega | exact Nat.le_refl _⟩, ⟨BK⟩, ⟨BK⟩, ⟨by repeat (first | (with_reducible first | exact HI0.out | apply ak.alloc | apply ak.drewN | apply ak.drew | apply ak.bG | apply ak.bF | refine ak.far ?_ NB0_173.out _ | refine ak.far ?_ NB0_177.out _) | exact HI0.out)⟩, ⟨by repeat (first | (with_reducible first | exact HK.out | apply ay.cO | apply aK | apply aR | apply aM | refine bL ?_ GW173.out _ | refine bL ?_ GW177.out _) | exact HK.out)⟩, ⟨by repeat (first | (with_reducible first | exact HB.out | apply aI | apply aA | apply aG | refine aD ?_ (ak.ge HI0.out) | refine aD ?_ GE173.out | refine aD ?_ GE177.out) | exact HB.out)⟩⟩
   case rest =>
    clear HC14
    try clear c1
    try clear hcz10_0
    try clear hcz10_1
    try clear hcz10_2
    try clear hcz10_3
    try clear hfz10_0
    try clear hfz10_1
    try clear hfz10_2
    try clear hfz10_3
    obtain ⟨kq, x178000_13, HA, HJ13, BK173, BK177, HI0, HK, HB⟩ := hcut
    cases kq with
    | zero => exact absurd HA.out (by simp [aY.j1])
    | succ kj13 =>
     have H := HA.out
     clear HA
     simp only [aY.j1] at H
     have hnb5000 := NB177_173.out
     have hnc5000 := NB173_177.out
     have hnb5001 := NB177_0.out
     have hnc5001 := NB0_177.out
     obtain ⟨hcz5002_0, hcz5002_1, hcz5002_2, hcz5002_3, hfz5002_0, hfz5002_1, hfz5002_2, hfz5002_3⟩ := cz4 BK177.out
     replace H := ifE H; rcases H with ⟨c19b0, c19b1, H⟩ | ⟨c19, c19b0, c19b1, H⟩
     ·replace H := be H; obtain ⟨⟨t181, t182, t183⟩, A20, H⟩ := H
      dsimp only at H
      obtain ⟨y184, hy184⟩ : ∃ y_ : List ByteArray, y_ = (([t181, (⟨#[114]⟩ : ByteArray), (⟨#[115]⟩ : ByteArray), (⟨#[97, 116]⟩ : ByteArray), (⟨#[101, 97]⟩ : ByteArray)] : List ByteArray)) := ⟨_, rfl⟩
      replace H : ((dH.f s0_0 t182 t183 y184).bind fun bt187 => (some (x178000_13, bt187.1, 0, 0, bt187.2.1, bt187.2.2))) = some (r1, r2, r3, r4, r5, r6) := by first | (rw [hy184]; with_reducible exact H) | (have H2_ := (Option.bind_some _ _).symm.trans H; rw [hy184]; with_reducible exact H2_) | (have H2_ := (Option.bind_some _ _).symm.trans H; with_reducible exact H2_) | with_reducible exact H | (rw [hy184]; exact H) | exact H
      have Ny184 := aj.mk hy184
      clear hy184
      replace H := be H; obtain ⟨⟨t187, t188, t189⟩, A21, H⟩ := H
      dsimp only at H
      simp only [Option.some.injEq, Prod.mk.injEq] at H
      obtain ⟨rfl, rfl, rfl, rfl, rfl, rfl⟩ := H
      go_wp2_with (first | ((with_reducible refine aJ (f := 120) rfl ?_); refine bI (some 23) Try.func120 #[.pointer (some ⟨g, 0, none⟩)] ?_; (with_reducible refine (fD.calls g s0_0 x1001_3 x1002_3 t181 t182 t183 w0 _ ?side1 ?side2 A20.out).mono ?_); (case side1 => repeat (first | (with_reducible first | exact HI0.out | apply ak.alloc | apply ak.drewN | apply ak.drew | apply ak.bG | apply ak.bF | refine ak.far ?_ NB0_173.out _ | refine ak.far ?_ NB0_177.out _) | exact HI0.out)); (case side2 => repeat (first | (with_reducible first | exact HB.out | apply aI | apply aA | apply aG | refine aD ?_ (ak.ge HI0.out) | refine aD ?_ GE173.out | refine aD ?_ GE177.out) | exact HB.out)); rintro e w5003 ⟨rfl, hi, hb, hk⟩; refine ⟨_, rfl, ?_⟩; have n0_ := aj.mk (ay.blk hk (g' := gb173) (o := .cells #[.int .i64 0, .string (⟨#[]⟩ : ByteArray), .int .i64 0, .int .i64 0] 110 (0, 0)) BK NB173_0.out (by simp)); have n1_ := aj.mk (ay.blk hk (g' := gb177) (o := .cells #[.int .i64 x178000_13, .string (⟨#[]⟩ : ByteArray), .int .i64 0, .int .i64 0] 110 (0, 0)) BK NB177_0.out (by simp)); have n2_ := aj.mk (ay.trans (by repeat (first | (with_reducible first | exact HK.out | apply ay.cO | apply aK | apply aR | apply aM | refine bL ?_ GW173.out _ | refine bL ?_ GW177.out _) | exact HK.out)) hk (.inl rfl)); have n3_ := aj.mk (hb); have n4_ := aj.mk (hi); clear BK173 BK177 HK HB HI0; have BK173 := n0_; have BK177 := n1_; have HK := n2_; have HB := n3_; have HI0 := n4_; clear n0_ n1_ n2_ n3_ n4_; (try clear hb); (try clear hk); (try clear hi)) | ((with_reducible refine dz (N := 24) rfl ?_); refine Kd.kS Kd.string _ 9 ?hg (N := 24) ?hd (xs := ([t181, (⟨#[114]⟩ : ByteArray), (⟨#[115]⟩ : ByteArray), (⟨#[97, 116]⟩ : ByteArray), (⟨#[101, 97]⟩ : ByteArray)] : List ByteArray)) (inner := [.string t181, .string (⟨#[114]⟩ : ByteArray), .string (⟨#[115]⟩ : ByteArray), .string (⟨#[97, 116]⟩ : ByteArray), .string (⟨#[101, 97]⟩ : ByteArray)]) (ok := fun _ => True) (okp := fun _ => True) ?hr ?hp (fun _ hk => hk) trivial (Below.refl _ _) (Nat.le_refl _) (by simp) ?_; (case hd => rfl); (case hg => rfl); (case hr => first | (go_simp; done) | (go_simp; rfl)); (case hp => exact (bD.one (show Kd.M Kd.string _ _ _ t181 [.string t181] from rfl) (bD.one (show Kd.M Kd.string _ _ _ (⟨#[114]⟩ : ByteArray) [.string (⟨#[114]⟩ : ByteArray)] from rfl) (bD.one (show Kd.M Kd.string _ _ _ (⟨#[115]⟩ : ByteArray) [.string (⟨#[115]⟩ : ByteArray)] from rfl) (bD.one (show Kd.M Kd.string _ _ _ (⟨#[97, 116]⟩ : ByteArray) [.string (⟨#[97, 116]⟩ : ByteArray)] from rfl) (bD.one (show Kd.M Kd.string _ _ _ (⟨#[101, 97]⟩ : ByteArray) [.string (⟨#[101, 97]⟩ : ByteArray)] from rfl) (bD.none _ _))))))); intro v185 w5004 ho27 hb hg_ hnew_; clear hg_ hnew_; (first | rw [← Ny184.out] at ho27 | (simp only [Int.reduceToNat] at ho27; rw [← Ny184.out] at ho27)); have n0_ := aj.mk (Kd.dF ho27 (eG (w := w) (g := g) (row := none) (by repeat (first | (with_reducible first | exact HK.out | apply ay.cO | apply aK | apply aR | apply aM | refine bL ?_ GW173.out _ | refine bL ?_ GW177.out _) | exact HK.out)))); have n1_ := KB BK173 hb; have n2_ := KB BK177 hb; have n3_ := aj.mk (ak.below (by repeat (first | (with_reducible first | exact HI0.out | apply ak.alloc | apply ak.drewN | apply ak.drew | apply ak.bG | apply ak.bF | refine ak.far ?_ NB0_173.out _ | refine ak.far ?_ NB0_177.out _) | exact HI0.out)) hb); have n4_ := aj.mk (ay.trans (by repeat (first | (with_reducible first | exact HK.out | apply ay.cO | apply aK | apply aR | apply aM | refine bL ?_ GW173.out _ | refine bL ?_ GW177.out _) | exact HK.out)) (ay.of_below hb g none) (.inl rfl)); have n5_ := aj.mk (eu (by repeat (first | (with_reducible first | exact HB.out | apply aI | apply aA | apply aG | refine aD ?_ (ak.ge HI0.out) | refine aD ?_ GE173.out | refine aD ?_ GE177.out) | exact HB.out)) hb); clear BK173 BK177 HI0 HK HB; have HO186 := n0_; have BK173 := n1_; have BK177 := n2_; have HI0 := n3_; have HK := n4_; have HB := n5_; clear n0_ n1_ n2_ n3_ n4_ n5_; clear hb ho27; obtain ⟨Ao5005, co5005, eo5005⟩ := Kd.dh HO186.out; subst eo5005) | ((with_reducible refine aJ (f := 121) rfl ?_); refine bI (some 25) Try.func121 #[.pointer (some ⟨g, 0, none⟩), .slice Ao5005 y184.length co5005] ?_; (with_reducible refine (dH.calls g s0_0 t182 t183 _ _ y184 t187 t188 t189 w0 _ ?side1 ?side2 ?side3 ?side4 ?side5 A21.out).mono ?_); (case side1 => repeat (first | (with_reducible first | exact HI0.out | apply ak.alloc | apply ak.drewN | apply ak.drew | apply ak.bG | apply ak.bF | refine ak.far ?_ NB0_173.out _ | refine ak.far ?_ NB0_177.out _) | exact HI0.out)); (case side2 => repeat (first | (with_reducible first | exact HB.out | apply aI | apply aA | apply aG | refine aD ?_ (ak.ge HI0.out) | refine aD ?_ GE173.out | refine aD ?_ GE177.out) | exact HB.out)); (case side3 => exact CR2 HO186); (case side4 => exact (Kd.aZ HO186.out).2.1); (case side5 => exact iT (ak.own_ne HI0.out HO186.out (by decide))); rintro e w5006 ⟨rfl, hi, hb, hk⟩; refine ⟨_, rfl, ?_⟩; have n0_ := aj.mk (ay.blk hk (g' := gb173) (o := .cells #[.int .i64 0, .string (⟨#[]⟩ : ByteArray), .int .i64 0, .int .i64 0] 110 (0, 0)) BK NB173_0.out (by simp)); have n1_ := aj.mk (ay.blk hk (g' := gb177) (o := .cells #[.int .i64 x178000_13, .string (⟨#[]⟩ : ByteArray), .int .i64 0, .int .i64 0] 110 (0, 0)) BK NB177_0.out (by simp)); have n2_ := aj.mk (Kd.dD (Kd.gJ (ak.apart (show ak w0 _ g s0_0 t182 t183 from by repeat (first | (with_reducible first | exact HI0.out | apply ak.alloc | apply ak.drewN | apply ak.drew | apply ak.bG | apply ak.bF | refine ak.far ?_ NB0_173.out _ | refine ak.far ?_ NB0_177.out _) | exact HI0.out)) (RR HO186) (by decide)) hk (fun _ h => h.2)) (fun _ h => h.1)); have n3_ := aj.mk (ay.trans (by repeat (first | (with_reducible first | exact HK.out | apply ay.cO | apply aK | apply aR | apply aM | refine bL ?_ GW173.out _ | refine bL ?_ GW177.out _) | exact HK.out)) hk (.inl rfl)); have n4_ := aj.mk (hb); have n5_ := aj.mk (hi); clear BK173 BK177 HO186 HK HB HI0; have BK173 := n0_; have BK177 := n1_; have HO186 := n2_; have HK := n3_; have HB := n4_; have HI0 := n5_; clear n0_ n1_ n2_ n3_ n4_ n5_; (try clear hb); (try clear hk); (try clear hi); obtain ⟨hcz5007_0, hcz5007_1, hcz5007_2, hcz5007_3, hfz5007_0, hfz5007_1, hfz5007_2, hfz5007_3⟩ := cz4 BK177.out; have hnb5008 := NB173_0.out; have hnc5008 := NB0_173.out; obtain ⟨hcz5009_0, hcz5009_1, hcz5009_2, hcz5009_3, hfz5009_0, hfz5009_1, hfz5009_2, hfz5009_3⟩ := cz4 BK173.out))
      refine bodyPost_ret (results_cell_row rfl _ _ gb173 110 #[.int .i64 x178000_13, .string t187, .int .i64 0, .int .i64 0] (0, 0) _ rfl (by (with_reducible repeat (first | refine av ?_ _ | refine aC ?_ | refine au ?_ _)); refine aU (cs := #[.int .i64 x178000_13, .string t187, .int .i64 0, .int .i64 0]) ?_ 3 _ rfl; (with_reducible repeat (first | refine av ?_ _ | refine aC ?_ | refine au ?_ _)); refine aU (cs := #[.int .i64 x178000_13, .string t187, .int .i64 0, .int .i64 0]) ?_ 2 _ rfl; (with_reducible repeat (first | refine av ?_ _ | refine aC ?_ | refine au ?_ _)); refine aU (cs := #[.int .i64 x178000_13, .string (⟨#[]⟩ : ByteArray), .int .i64 0, .int .i64 0]) ?_ 1 _ rfl; (with_reducible repeat (first | refine av ?_ _ | refine aC ?_ | refine au ?_ _)); refine aU (cs := #[.int .i64 0, .string (⟨#[]⟩ : ByteArray), .int .i64 0, .int .i64 0]) ?_ 0 _ rfl; (with_reducible repeat (first | refine av ?_ _ | refine aC ?_ | refine au ?_ _)); refine fG ?_ NB173_177.out _; (with_reducible repeat (first | refine av ?_ _ | refine aC ?_ | refine au ?_ _)); exact BK173.out) Try.underlying110 rfl (by kernel_rfl)) rfl ?_
      exact ⟨EWW, by repeat (first | (with_reducible first | exact HI0.out | apply ak.alloc | apply ak.drewN | apply ak.drew | apply ak.bG | apply ak.bF | refine ak.far ?_ NB0_173.out _ | refine ak.far ?_ NB0_177.out _) | exact HI0.out), by repeat (first | (with_reducible first | exact HB.out | apply aI | apply aA | apply aG | refine aD ?_ (ak.ge HI0.out) | refine aD ?_ GE173.out | refine aD ?_ GE177.out) | exact HB.out), by repeat (first | (with_reducible first | exact HK.out | apply ay.cO | apply aK | apply aR | apply aM | refine bL ?_ GW173.out _ | refine bL ?_ GW177.out _) | exact HK.out)⟩
     ·have HC33 := aj.mk H
      clear H
      go_upto_region 8 with (fail)
      go_cut [39] (fun v39 wc => ∃ (kq : Nat) (x39_32 : Bool), v39 = .bool x39_32 ∧ aj (aY.j2 kq l1 x39_32 s0_0 x1001_3 x1002_3 x178000_13 (⟨#[]⟩ : ByteArray) (wrap64 ((l1.length : Int) - 1)) 0 = some (r1, r2, r3, r4, r5, r6)) ∧ aj (kq ≤ kj13) ∧ aj (wc.heap[gb173]? = some (.cells #[.int .i64 0, .string (⟨#[]⟩ : ByteArray), .int .i64 0, .int .i64 0] 110 (0, 0))) ∧ aj (wc.heap[gb177]? = some (.cells #[.int .i64 x178000_13, .string (⟨#[]⟩ : ByteArray), .int .i64 (wrap64 ((l1.length : Int) - 1)), .int .i64 0] 110 (0, 0))) ∧ aj (ak w0 wc g s0_0 x1001_3 x1002_3) ∧ aj (ay w wc g none) ∧ aj (Below w0.heap.size w0 wc))
      case first =>
       have H := HC33.out
       clear HC33
       have hnb5003 := NB177_173.out
       have hnc5003 := NB173_177.out
       have hnb5004 := NB177_0.out
       have hnc5004 := NB0_177.out
       obtain ⟨hcz5005_0, hcz5005_1, hcz5005_2, hcz5005_3, hfz5005_0, hfz5005_1, hfz5005_2, hfz5005_3⟩ := cz4 BK177.out
       replace H := ifE H; rcases H with ⟨c37b0, c37b1, H⟩ | ⟨c37, c37b0, c37b1, H⟩
       ·(first | rw [c37b0] | (simp only [bY, cu]; rw [c37b0]) | skip)
        have H' := aj.mk H
        clear H
        go_wp2
        go_meet
        case rel => exact ⟨_, (true), EQ, H', ⟨by have := HJ3.out; have := HJ13.out; first | omega | exact Nat.le_refl _⟩, ⟨by (with_reducible repeat (first | refine av ?_ _ | refine aC ?_ | refine au ?_ _)); refine fG ?_ NB173_177.out _; (with_reducible repeat (first | refine av ?_ _ | refine aC ?_ | refine au ?_ _)); exact BK173.out⟩, ⟨by (with_reducible repeat (first | refine av ?_ _ | refine aC ?_ | refine au ?_ _)); refine aU (cs := #[.int .i64 x178000_13, .string (⟨#[]⟩ : ByteArray), .int .i64 0, .int .i64 0]) ?_ 2 _ rfl; (with_reducible repeat (first | refine av ?_ _ | refine aC ?_ | refine au ?_ _)); exact BK177.out⟩, ⟨by repeat (first | (with_reducible first | exact HI0.out | apply ak.alloc | apply ak.drewN | apply ak.drew | apply ak.bG | apply ak.bF | refine ak.far ?_ NB0_173.out _ | refine ak.far ?_ NB0_177.out _) | exact HI0.out)⟩, ⟨by repeat (first | (with_reducible first | exact HK.out | apply ay.cO | apply aK | apply aR | apply aM | refine bL ?_ GW173.out _ | refine bL ?_ GW177.out _) | exact HK.out)⟩, ⟨by repeat (first | (with_reducible first | exact HB.out | apply aI | apply aA | apply aG | refine aD ?_ (ak.ge HI0.out) | refine aD ?_ GE173.out | refine aD ?_ GE177.out) | exact HB.out)⟩⟩
       ·(first | rw [c37b0] | (simp only [bY, cu]; rw [c37b0]) | skip)
        have H' := aj.mk H
        clear H
        go_wp2
        go_meet
        case rel => exact ⟨_, ((x178000_13 == 5)), EQ, H', ⟨by have := HJ3.out; have := HJ13.out; first | omega | exact Nat.le_refl _⟩, ⟨by (with_reducible repeat (first | refine av ?_ _ | refine aC ?_ | refine au ?_ _)); refine fG ?_ NB173_177.out _; (with_reducible repeat (first | refine av ?_ _ | refine aC ?_ | refine au ?_ _)); exact BK173.out⟩, ⟨by (with_reducible repeat (first | refine av ?_ _ | refine aC ?_ | refine au ?_ _)); refine aU (cs := #[.int .i64 x178000_13, .string (⟨#[]⟩ : ByteArray), .int .i64 0, .int .i64 0]) ?_ 2 _ rfl; (with_reducible repeat (first | refine av ?_ _ | refine aC ?_ | refine au ?_ _)); exact BK177.out⟩, ⟨by repeat (first | (with_reducible first | exact HI0.out | apply ak.alloc | apply ak.drewN | apply ak.drew | apply ak.bG | apply ak.bF | refine ak.far ?_ NB0_173.out _ | refine ak.far ?_ NB0_177.out _) | exact HI0.out)⟩, ⟨by repeat (first | (with_reducible first | exact HK.out | apply ay.cO | apply aK | apply aR | apply aM | refine bL ?_ GW173.out _ | refine bL ?_ GW177.out _) | exact HK.out)⟩, ⟨by repeat (first | (with_reducible first | exact HB.out | apply aI | apply aA | apply aG | refine aD ?_ (ak.ge HI0.out) | refine aD ?_ GE173.out | refine aD ?_ GE177.out) | exact HB.out)⟩⟩
      case rest =>
       clear HC33
       try clear c1
       try clear c19
       try clear c19b0
       try clear c19b1
       try clear hcz10_0
       try clear hcz10_1
       try clear hcz10_2
       try clear hcz10_3
       try clear hcz5002_0
       try clear hcz5002_1
       try clear hcz5002_2
       try clear hcz5002_3
       try clear hfz10_0
       try clear hfz10_1
       try clear hfz10_2
       try clear hfz10_3
       try clear hfz5002_0
       try clear hfz5002_1
       try clear hfz5002_2
       try clear hfz5002_3
       obtain ⟨kq, x39_32, rfl, HA, HJ32, BK173, BK177, HI0, HK, HB⟩ := hcut
       cases kq with
       | zero => exact absurd HA.out (by simp [aY.j2])
       | succ kj32 =>
        have H := HA.out
        clear HA
        simp only [aY.j2] at H
        replace H := ifB H; rcases H with ⟨rfl, H⟩ | ⟨rfl, H⟩
        ·replace H := be H; obtain ⟨⟨t190, t191, t192⟩, A45, H⟩ := H
         dsimp only at H
         replace H := be H; obtain ⟨⟨t193, t194, t195⟩, A46, H⟩ := H
         dsimp only at H
         simp only [Option.some.injEq, Prod.mk.injEq] at H
         obtain ⟨rfl, rfl, rfl, rfl, rfl, rfl⟩ := H
         go_wp2_with (first | ((with_reducible refine aJ (f := 118) rfl ?_); refine bI (some 43) Try.func118 #[.pointer (some ⟨g, 0, none⟩), .int .i64 (l1.length : Int)] ?_; (with_reducible refine (bM.calls g s0_0 x1001_3 x1002_3 (l1.length : Int) t190 t191 t192 w0 _ ?side1 ?side2 A45.out).mono ?_); (case side1 => repeat (first | (with_reducible first | exact HI0.out | apply ak.alloc | apply ak.drewN | apply ak.drew | apply ak.bG | apply ak.bF | refine ak.far ?_ NB0_173.out _ | refine ak.far ?_ NB0_177.out _) | exact HI0.out)); (case side2 => repeat (first | (with_reducible first | exact HB.out | apply aI | apply aA | apply aG | refine aD ?_ (ak.ge HI0.out) | refine aD ?_ GE173.out | refine aD ?_ GE177.out) | exact HB.out)); rintro e w5006 ⟨rfl, hi, hb, hk⟩; refine ⟨_, rfl, ?_⟩; have n0_ := aj.mk (ay.blk hk (g' := gb173) (o := .cells #[.int .i64 0, .string (⟨#[]⟩ : ByteArray), .int .i64 0, .int .i64 0] 110 (0, 0)) BK NB173_0.out (by simp)); have n1_ := aj.mk (ay.blk hk (g' := gb177) (o := .cells #[.int .i64 x178000_13, .string (⟨#[]⟩ : ByteArray), .int .i64 (wrap64 ((l1.length : Int) - 1)), .int .i64 0] 110 (0, 0)) BK NB177_0.out (by simp)); have n2_ := aj.mk (ay.trans (by repeat (first | (with_reducible first | exact HK.out | apply ay.cO | apply aK | apply aR | apply aM | refine bL ?_ GW173.out _ | refine bL ?_ GW177.out _) | exact HK.out)) hk (.inl rfl)); have n3_ := aj.mk (hb); have n4_ := aj.mk (hi); clear BK173 BK177 HK HB HI0; have BK173 := n0_; have BK177 := n1_; have HK := n2_; have HB := n3_; have HI0 := n4_; clear n0_ n1_ n2_ n3_ n4_; (try clear hb); (try clear hk); (try clear hi); have hnb5007 := NB177_173.out; have hnc5007 := NB173_177.out; have hnb5008 := NB177_0.out; have hnc5008 := NB0_177.out; obtain ⟨hcz5009_0, hcz5009_1, hcz5009_2, hcz5009_3, hfz5009_0, hfz5009_1, hfz5009_2, hfz5009_3⟩ := cz4 BK177.out) | ((with_reducible refine aJ (f := 118) rfl ?_); refine bI (some 48) Try.func118 #[.pointer (some ⟨g, 0, none⟩), .int .i64 (l1.length : Int)] ?_; (with_reducible refine (bM.calls g s0_0 t191 t192 (l1.length : Int) t193 t194 t195 w0 _ ?side1 ?side2 A46.out).mono ?_); (case side1 => repeat (first | (with_reducible first | exact HI0.out | apply ak.alloc | apply ak.drewN | apply ak.drew | apply ak.bG | apply ak.bF | refine ak.far ?_ NB0_173.out _ | refine ak.far ?_ NB0_177.out _) | exact HI0.out)); (case side2 => repeat (first | (with_reducible first | exact HB.out | apply aI | apply aA | apply aG | refine aD ?_ (ak.ge HI0.out) | refine aD ?_ GE173.out | refine aD ?_ GE177.out) | exact HB.out)); rintro e w5010 ⟨rfl, hi, hb, hk⟩; refine ⟨_, rfl, ?_⟩; have n0_ := aj.mk (ay.blk hk (g' := gb173) (o := .cells #[.int .i64 0, .string (⟨#[]⟩ : ByteArray), .int .i64 0, .int .i64 0] 110 (0, 0)) (by (with_reducible repeat (first | refine av ?_ _ | refine aC ?_ | refine au ?_ _)); refine fG ?_ NB173_177.out _; (with_reducible repeat (first | refine av ?_ _ | refine aC ?_ | refine au ?_ _)); exact BK173.out) NB173_0.out (by simp)); have n1_ := aj.mk (ay.blk hk (g' := gb177) (o := .cells #[.int .i64 x178000_13, .string (⟨#[]⟩ : ByteArray), .int .i64 t190, .int .i64 0] 110 (0, 0)) (by (with_reducible repeat (first | refine av ?_ _ | refine aC ?_ | refine au ?_ _)); refine aU (cs := #[.int .i64 x178000_13, .string (⟨#[]⟩ : ByteArray), .int .i64 (wrap64 ((l1.length : Int) - 1)), .int .i64 0]) ?_ 2 _ rfl; (with_reducible repeat (first | refine av ?_ _ | refine aC ?_ | refine au ?_ _)); exact BK177.out) NB177_0.out (by simp)); have n2_ := aj.mk (ay.trans (by repeat (first | (with_reducible first | exact HK.out | apply ay.cO | apply aK | apply aR | apply aM | refine bL ?_ GW173.out _ | refine bL ?_ GW177.out _) | exact HK.out)) hk (.inl rfl)); have n3_ := aj.mk (hb); have n4_ := aj.mk (hi); clear BK173 BK177 HK HB HI0; have BK173 := n0_; have BK177 := n1_; have HK := n2_; have HB := n3_; have HI0 := n4_; clear n0_ n1_ n2_ n3_ n4_; (try clear hb); (try clear hk); (try clear hi); obtain ⟨hcz5011_0, hcz5011_1, hcz5011_2, hcz5011_3, hfz5011_0, hfz5011_1, hfz5011_2, hfz5011_3⟩ := cz4 BK177.out; have hnb5012 := NB173_0.out; have hnc5012 := NB0_173.out; obtain ⟨hcz5013_0, hcz5013_1, hcz5013_2, hcz5013_3, hfz5013_0, hfz5013_1, hfz5013_2, hfz5013_3⟩ := cz4 BK173.out))
         refine bodyPost_ret (results_cell_row rfl _ _ gb173 110 #[.int .i64 x178000_13, .string (⟨#[]⟩ : ByteArray), .int .i64 t190, .int .i64 t193] (0, 0) _ rfl (by (with_reducible repeat (first | refine av ?_ _ | refine aC ?_ | refine au ?_ _)); refine aU (cs := #[.int .i64 x178000_13, .string (⟨#[]⟩ : ByteArray), .int .i64 t190, .int .i64 0]) ?_ 3 _ rfl; (with_reducible repeat (first | refine av ?_ _ | refine aC ?_ | refine au ?_ _)); refine aU (cs := #[.int .i64 x178000_13, .string (⟨#[]⟩ : ByteArray), .int .i64 0, .int .i64 0]) ?_ 2 _ rfl; (with_reducible repeat (first | refine av ?_ _ | refine aC ?_ | refine au ?_ _)); refine aU (cs := #[.int .i64 x178000_13, .string (⟨#[]⟩ : ByteArray), .int .i64 0, .int .i64 0]) ?_ 1 _ rfl; (with_reducible repeat (first | refine av ?_ _ | refine aC ?_ | refine au ?_ _)); refine aU (cs := #[.int .i64 0, .string (⟨#[]⟩ : ByteArray), .int .i64 0, .int .i64 0]) ?_ 0 _ rfl; (with_reducible repeat (first | refine av ?_ _ | refine aC ?_ | refine au ?_ _)); refine fG ?_ NB173_177.out _; (with_reducible repeat (first | refine av ?_ _ | refine aC ?_ | refine au ?_ _)); exact BK173.out) Try.underlying110 rfl (by kernel_rfl)) rfl ?_
         exact ⟨EWW, by repeat (first | (with_reducible first | exact HI0.out | apply ak.alloc | apply ak.drewN | apply ak.drew | apply ak.bG | apply ak.bF | refine ak.far ?_ NB0_173.out _ | refine ak.far ?_ NB0_177.out _) | exact HI0.out), by repeat (first | (with_reducible first | exact HB.out | apply aI | apply aA | apply aG | refine aD ?_ (ak.ge HI0.out) | refine aD ?_ GE173.out | refine aD ?_ GE177.out) | exact HB.out), by repeat (first | (with_reducible first | exact HK.out | apply ay.cO | apply aK | apply aR | apply aM | refine bL ?_ GW173.out _ | refine bL ?_ GW177.out _) | exact HK.out)⟩
        ·have H' := aj.mk H
         clear H
         go_wp2
         go_loopg [] kj32 (fun kq w' => ∃ (x178002_4 : Int), aj (aY.l0 kq l1 s0_0 x1001_3 x1002_3 x178000_13 (⟨#[]⟩ : ByteArray) x178002_4 0 = some (r1, r2, r3, r4, r5, r6)) ∧ aj (kq ≤ kj32) ∧ aj (w'.heap[gb173]? = some (.cells #[.int .i64 0, .string (⟨#[]⟩ : ByteArray), .int .i64 0, .int .i64 0] 110 (0, 0))) ∧ aj (w'.heap[gb177]? = some (.cells #[.int .i64 x178000_13, .string (⟨#[]⟩ : ByteArray), .int .i64 x178002_4, .int .i64 0] 110 (0, 0))) ∧ aj (ak w0 w' g s0_0 x1001_3 x1002_3) ∧ aj (ay w w' g none) ∧ aj (Below w0.heap.size w0 w'))
         case atStart => exact ⟨((wrap64 ((l1.length : Int) - 1))), H', ⟨Nat.le_refl _⟩, ⟨BK⟩, ⟨BK⟩, ⟨by repeat (first | (with_reducible first | exact HI0.out | apply ak.alloc | apply ak.drewN | apply ak.drew | apply ak.bG | apply ak.bF | refine ak.far ?_ NB0_173.out _ | refine ak.far ?_ NB0_177.out _) | exact HI0.out)⟩, ⟨by repeat (first | (with_reducible first | exact HK.out | apply ay.cO | apply aK | apply aR | apply aM | refine bL ?_ GW173.out _ | refine bL ?_ GW177.out _) | exact HK.out)⟩, ⟨by repeat (first | (with_reducible first | exact HB.out | apply aI | apply aA | apply aG | refine aD ?_ (ak.ge HI0.out) | refine aD ?_ GE173.out | refine aD ?_ GE177.out) | exact HB.out)⟩⟩
         case round =>
          clear H'
          try clear c1
          try clear c19
          try clear c19b0
          try clear c19b1
          try clear c44
          try clear hcz10_0
          try clear hcz10_1
          try clear hcz10_2
          try clear hcz10_3
          try clear hcz5002_0
          try clear hcz5002_1
          try clear hcz5002_2
          try clear hcz5002_3
          try clear hfz10_0
          try clear hfz10_1
          try clear hfz10_2
          try clear hfz10_3
          try clear hfz5002_0
          try clear hfz5002_1
          try clear hfz5002_2
          try clear hfz5002_3
          obtain ⟨x178002_4, HA, HK4, BK173, BK177, HI0, HK, HB⟩ := hrel
          cases gk with
          | zero => exact absurd HA.out (by simp [aY.l0])
          | succ k4 =>
           have H := HA.out
           clear HA
           simp only [aY.l0] at H
           replace H := ifE H; rcases H with ⟨c55b0, c55b1, H⟩ | ⟨c55, c55b0, c55b1, H⟩
           ·simp only [Option.some.injEq, Prod.mk.injEq] at H
            obtain ⟨rfl, rfl, rfl, rfl, rfl, rfl⟩ := H
            have hnb5006 := NB177_173.out
            have hnc5006 := NB173_177.out
            have hnb5007 := NB177_0.out
            have hnc5007 := NB0_177.out
            obtain ⟨hcz5008_0, hcz5008_1, hcz5008_2, hcz5008_3, hfz5008_0, hfz5008_1, hfz5008_2, hfz5008_3⟩ := cz4 BK177.out
            have hnb5009 := NB173_0.out
            have hnc5009 := NB0_173.out
            obtain ⟨hcz5010_0, hcz5010_1, hcz5010_2, hcz5010_3, hfz5010_0, hfz5010_1, hfz5010_2, hfz5010_3⟩ := cz4 BK173.out
            go_wp2
            refine bodyPost_ret (results_cell_row rfl _ _ gb173 110 #[.int .i64 x178000_13, .string (⟨#[]⟩ : ByteArray), .int .i64 x178002_4, .int .i64 0] (0, 0) _ rfl (by (with_reducible repeat (first | refine av ?_ _ | refine aC ?_ | refine au ?_ _)); refine aU (cs := #[.int .i64 x178000_13, .string (⟨#[]⟩ : ByteArray), .int .i64 x178002_4, .int .i64 0]) ?_ 3 _ rfl; (with_reducible repeat (first | refine av ?_ _ | refine aC ?_ | refine au ?_ _)); refine aU (cs := #[.int .i64 x178000_13, .string (⟨#[]⟩ : ByteArray), .int .i64 0, .int .i64 0]) ?_ 2 _ rfl; (with_reducible repeat (first | refine av ?_ _ | refine aC ?_ | refine au ?_ _)); refine aU (cs := #[.int .i64 x178000_13, .string (⟨#[]⟩ : ByteArray), .int .i64 0, .int .i64 0]) ?_ 1 _ rfl; (with_reducible repeat (first | refine av ?_ _ | refine aC ?_ | refine au ?_ _)); refine aU (cs := #[.int .i64 0, .string (⟨#[]⟩ : ByteArray), .int .i64 0, .int .i64 0]) ?_ 0 _ rfl; (with_reducible repeat (first | refine av ?_ _ | refine aC ?_ | refine au ?_ _)); exact BK173.out) Try.underlying110 rfl (by kernel_rfl)) rfl ?_
            exact ⟨EWW, by repeat (first | (with_reducible first | exact HI0.out | apply ak.alloc | apply ak.drewN | apply ak.drew | apply ak.bG | apply ak.bF | refine ak.far ?_ NB0_173.out _ | refine ak.far ?_ NB0_177.out _) | exact HI0.out), by repeat (first | (with_reducible first | exact HB.out | apply aI | apply aA | apply aG | refine aD ?_ (ak.ge HI0.out) | refine aD ?_ GE173.out | refine aD ?_ GE177.out) | exact HB.out), by repeat (first | (with_reducible first | exact HK.out | apply ay.cO | apply aK | apply aR | apply aM | refine bL ?_ GW173.out _ | refine bL ?_ GW177.out _) | exact HK.out)⟩
           ·replace H := ifN H; obtain ⟨c61b0, H⟩ := H
            replace H := ifN H; obtain ⟨c62b0, H⟩ := H
            have hnb5006 := NB177_173.out
            have hnc5006 := NB173_177.out
            have hnb5007 := NB177_0.out
            have hnc5007 := NB0_177.out
            obtain ⟨hcz5008_0, hcz5008_1, hcz5008_2, hcz5008_3, hfz5008_0, hfz5008_1, hfz5008_2, hfz5008_3⟩ := cz4 BK177.out
            replace H := ifE H; rcases H with ⟨c63b0, c63b1, H⟩ | ⟨c63, c63b0, c63b1, H⟩
            ·simp only [Option.some.injEq, Prod.mk.injEq] at H
             obtain ⟨rfl, rfl, rfl, rfl, rfl, rfl⟩ := H
             have p196 : 0 ≤ (x178002_4 : Int) := OD
             have q196 : x178002_4 < (l1.length : Int) := OD
             obtain ⟨ad196, e196, hx196_0, hx196_1, hx196_2, hx196_3⟩ := fK (Kd.oJ HR1.out HK.out) x178002_4 p196 q196
             cases e196
             replace p196 := eq_true p196
             replace q196 := eq_true q196
             have hnb5009 := NB173_0.out
             have hnc5009 := NB0_173.out
             obtain ⟨hcz5010_0, hcz5010_1, hcz5010_2, hcz5010_3, hfz5010_0, hfz5010_1, hfz5010_2, hfz5010_3⟩ := cz4 BK173.out
             go_wp2
             refine bodyPost_ret (results_cell_row rfl _ _ gb173 110 #[.int .i64 x178000_13, .string (⟨#[]⟩ : ByteArray), .int .i64 x178002_4, .int .i64 0] (0, 0) _ rfl (by (with_reducible repeat (first | refine av ?_ _ | refine aC ?_ | refine au ?_ _)); refine aU (cs := #[.int .i64 x178000_13, .string (⟨#[]⟩ : ByteArray), .int .i64 x178002_4, .int .i64 0]) ?_ 3 _ rfl; (with_reducible repeat (first | refine av ?_ _ | refine aC ?_ | refine au ?_ _)); refine aU (cs := #[.int .i64 x178000_13, .string (⟨#[]⟩ : ByteArray), .int .i64 0, .int .i64 0]) ?_ 2 _ rfl; (with_reducible repeat (first | refine av ?_ _ | refine aC ?_ | refine au ?_ _)); refine aU (cs := #[.int .i64 x178000_13, .string (⟨#[]⟩ : ByteArray), .int .i64 0, .int .i64 0]) ?_ 1 _ rfl; (with_reducible repeat (first | refine av ?_ _ | refine aC ?_ | refine au ?_ _)); refine aU (cs := #[.int .i64 0, .string (⟨#[]⟩ : ByteArray), .int .i64 0, .int .i64 0]) ?_ 0 _ rfl; (with_reducible repeat (first | refine av ?_ _ | refine aC ?_ | refine au ?_ _)); exact BK173.out) Try.underlying110 rfl (by kernel_rfl)) rfl ?_
             exact ⟨EWW, by repeat (first | (with_reducible first | exact HI0.out | apply ak.alloc | apply ak.drewN | apply ak.drew | apply ak.bG | apply ak.bF | refine ak.far ?_ NB0_173.out _ | refine ak.far ?_ NB0_177.out _) | exact HI0.out), by repeat (first | (with_reducible first | exact HB.out | apply aI | apply aA | apply aG | refine aD ?_ (ak.ge HI0.out) | refine aD ?_ GE173.out | refine aD ?_ GE177.out) | exact HB.out), by repeat (first | (with_reducible first | exact HK.out | apply ay.cO | apply aK | apply aR | apply aM | refine bL ?_ GW173.out _ | refine bL ?_ GW177.out _) | exact HK.out)⟩
            ·have H' := aj.mk H
             clear H
             have p196 : 0 ≤ (x178002_4 : Int) := OD
             have q196 : x178002_4 < (l1.length : Int) := OD
             obtain ⟨ad196, e196, hx196_0, hx196_1, hx196_2, hx196_3⟩ := fK (Kd.oJ HR1.out HK.out) x178002_4 p196 q196
             cases e196
             replace p196 := eq_true p196
             replace q196 := eq_true q196
             go_wp2
             go_roundg k4
             case measure => have := HJ3.out; have := HJ13.out; have := HJ32.out; have := HK4.out; omega
             case rel => exact ⟨(wrap64 (x178002_4 - 1)), H', ⟨by have := HJ3.out; have := HJ13.out; have := HJ32.out; have := HK4.out; omega⟩, ⟨by (with_reducible repeat (first | refine av ?_ _ | refine aC ?_ | refine au ?_ _)); refine fG ?_ NB173_177.out _; (with_reducible repeat (first | refine av ?_ _ | refine aC ?_ | refine au ?_ _)); exact BK173.out⟩, ⟨by (with_reducible repeat (first | refine av ?_ _ | refine aC ?_ | refine au ?_ _)); refine aU (cs := #[.int .i64 x178000_13, .string (⟨#[]⟩ : ByteArray), .int .i64 x178002_4, .int .i64 0]) ?_ 2 _ rfl; (with_reducible repeat (first | refine av ?_ _ | refine aC ?_ | refine au ?_ _)); exact BK177.out⟩, ⟨by repeat (first | (with_reducible first | exact HI0.out | apply ak.alloc | apply ak.drewN | apply ak.drew | apply ak.bG | apply ak.bF | refine ak.far ?_ NB0_173.out _ | refine ak.far ?_ NB0_177.out _) | exact HI0.out)⟩, ⟨by repeat (first | (with_reducible first | exact HK.out | apply ay.cO | apply aK | apply aR | apply aM | refine bL ?_ GW173.out _ | refine bL ?_ GW177.out _) | exact HK.out)⟩, ⟨by repeat (first | (with_reducible first | exact HB.out | apply aI | apply aA | apply aG | refine aD ?_ (ak.ge HI0.out) | refine aD ?_ GE173.out | refine aD ?_ GE177.out) | exact HB.out)⟩⟩
def bV.l0 : Nat → List (bq) → Int → List Int → Int → Int → Option ((List (bq)) × Int × Int)
 | 0, _, _, _, _, _ => none
 | k + 1, a, b, c, d, e => if b > 0 then ((aY.f k c d e a).bind fun f => (if a.length < 3518437208883 then (bV.l0 k (a ++ [(⟨f.1, f.2.1, f.2.2.1, f.2.2.2.1⟩ : bq)]) (wrap64 (b - 1)) c f.2.2.2.2.1 f.2.2.2.2.2) else (none))) else (some (a, d, e))
def bV.f (k : Nat) (s0_0 : List Int) (s0_1 s0_2 : Int) : Option ((List (bq)) × Int × Int) := (bM.f s0_0 s0_1 s0_2 5).bind fun bt200 => (bV.l0 k (([] : List (bq))) (wrap64 (1 + bt200.1)) s0_0 bt200.2.1 bt200.2.2)
theorem bV.calls (k g : Nat) (s0_0 : List Int) (s0_1 s0_2 : Int) (r1 : List (bq)) (r2 r3 : Int) (w0 w : World) (hI : ak w0 w g s0_0 s0_1 s0_2) (hB : Below w0.heap.size w0 w) (h : bV.f k s0_0 s0_1 s0_2 = some (r1, r2, r3)) :
  Calls Try.prog 162 #[.pointer (some ⟨g, 0, none⟩)] w fun e w' => ∃ v0_ : Value, e = .returned (v0_) ∧ Kd.R eY 110 w' w.heap.size (fun _ => True) v0_ r1 ∧ ak w0 w' g s0_0 r2 r3 ∧ Below w0.heap.size w0 w' ∧ ay w w' g none := by
 have HI0 := aj.mk hI
 have HK := aj.mk (ay.refl w g none)
 have HL := aj.mk hB.size
 clear hI
 have HW0 := aj.mk hB.size
 have HB := aj.mk hB
 clear hB
 unfold bV.f at h
 have H := h
 clear h
 obtain ⟨y197, hy197⟩ : ∃ y_ : List (bq), y_ = (([] : List (bq))) := ⟨_, rfl⟩
 replace H : ((bM.f s0_0 s0_1 s0_2 5).bind fun bt200 => (bV.l0 k y197 (wrap64 (1 + bt200.1)) s0_0 bt200.2.1 bt200.2.2)) = some (r1, r2, r3) := by first | (rw [hy197]; with_reducible exact H) | (have H2_ := (Option.bind_some _ _).symm.trans H; rw [hy197]; with_reducible exact H2_) | (have H2_ := (Option.bind_some _ _).symm.trans H; with_reducible exact H2_) | with_reducible exact H | (rw [hy197]; exact H) | exact H
 have Ny197 := aj.mk hy197
 clear hy197
 replace H := be H; obtain ⟨⟨t200, t201, t202⟩, A2, H⟩ := H
 dsimp only at H
 have H' := aj.mk H
 clear H
 go_enter Try.func162, Try.ntmps162
 go_wp2_with (first | ((with_reducible refine dz (N := 5) rfl ?_); refine Kd.kS eY _ 110 ?hg (N := 5) ?hd (xs := ([] : List (bq))) (inner := []) (ok := fun _ => True) (okp := fun _ => True) ?hr ?hp (fun _ hk => hk) trivial (Below.refl _ _) (Nat.le_refl _) (by simp) ?_; (case hd => rfl); (case hg => rfl); (case hr => first | (go_simp; done) | (go_simp; rfl)); (case hp => exact (bD.none _ _)); intro v198 w3 ho4 hb hg_ hnew_; clear hg_ hnew_; (first | rw [← Ny197.out] at ho4 | (simp only [Int.reduceToNat] at ho4; rw [← Ny197.out] at ho4)); have n0_ := aj.mk (Kd.dF ho4 (eG (w := w) (g := g) (row := none) (by repeat (first | (with_reducible first | exact HK.out | apply ay.cO | apply aK | apply aR | apply aM) | exact HK.out)))); have n1_ := aj.mk (ak.below (by repeat (first | (with_reducible first | exact HI0.out | apply ak.alloc | apply ak.drewN | apply ak.drew | apply ak.bG | apply ak.bF) | exact HI0.out)) hb); have n2_ := aj.mk (ay.trans (by repeat (first | (with_reducible first | exact HK.out | apply ay.cO | apply aK | apply aR | apply aM) | exact HK.out)) (ay.of_below hb g none) (.inl rfl)); have n3_ := aj.mk (eu (by repeat (first | (with_reducible first | exact HB.out | apply aI | apply aA | apply aG | refine aD ?_ (ak.ge HI0.out)) | exact HB.out)) hb); clear HI0 HK HB; have HO199 := n0_; have HI0 := n1_; have HK := n2_; have HB := n3_; clear n0_ n1_ n2_ n3_; clear hb ho4) | ((with_reducible refine aJ (f := 118) rfl ?_); refine bI (some 7) Try.func118 #[.pointer (some ⟨g, 0, none⟩), .int .i64 5] ?_; (with_reducible refine (bM.calls g s0_0 s0_1 s0_2 5 t200 t201 t202 w0 _ ?side1 ?side2 A2.out).mono ?_); (case side1 => repeat (first | (with_reducible first | exact HI0.out | apply ak.alloc | apply ak.drewN | apply ak.drew | apply ak.bG | apply ak.bF) | exact HI0.out)); (case side2 => repeat (first | (with_reducible first | exact HB.out | apply aI | apply aA | apply aG | refine aD ?_ (ak.ge HI0.out)) | exact HB.out)); rintro e w5 ⟨rfl, hi, hb, hk⟩; refine ⟨_, rfl, ?_⟩; have n0_ := aj.mk (Kd.dD (Kd.gJ (ak.apart (show ak w0 _ g s0_0 s0_1 s0_2 from by repeat (first | (with_reducible first | exact HI0.out | apply ak.alloc | apply ak.drewN | apply ak.drew | apply ak.bG | apply ak.bF) | exact HI0.out)) (RR HO199) (by decide)) hk (fun _ h => h.2)) (fun _ h => h.1)); have n1_ := aj.mk (ay.trans (by repeat (first | (with_reducible first | exact HK.out | apply ay.cO | apply aK | apply aR | apply aM) | exact HK.out)) hk (.inl rfl)); have n2_ := aj.mk (hb); have n3_ := aj.mk (hi); clear HO199 HK HB HI0; have HO199 := n0_; have HK := n1_; have HB := n2_; have HI0 := n3_; clear n0_ n1_ n2_ n3_; (try clear hb); (try clear hk); (try clear hi)))
 go_loopg [3, 4] k (fun kq v3 v4 w' => ∃ (x3_1 : List (bq)) (x4_1 : Int) (x1001_1 : Int) (x1002_1 : Int), v4 = .int .i64 x4_1 ∧ aj (bV.l0 kq x3_1 x4_1 s0_0 x1001_1 x1002_1 = some (r1, r2, r3)) ∧ aj (kq ≤ k) ∧ aj (Kd.R eY 110 w' w.heap.size (fun _ => True) v3 x3_1) ∧ aj (ak w0 w' g s0_0 x1001_1 x1002_1) ∧ aj (ay w w' g none) ∧ aj (Below w0.heap.size w0 w'))
 case atStart => exact ⟨(y197), (wrap64 (1 + t200)), (t201), (t202), EQ, H', ⟨Nat.le_refl _⟩, ⟨(RR HO199)⟩, ⟨by repeat (first | (with_reducible first | exact HI0.out | apply ak.alloc | apply ak.drewN | apply ak.drew | apply ak.bG | apply ak.bF) | exact HI0.out)⟩, ⟨by repeat (first | (with_reducible first | exact HK.out | apply ay.cO | apply aK | apply aR | apply aM) | exact HK.out)⟩, ⟨by repeat (first | (with_reducible first | exact HB.out | apply aI | apply aA | apply aG | refine aD ?_ (ak.ge HI0.out)) | exact HB.out)⟩⟩
 case round =>
  clear H'
  try clear c1
  obtain ⟨x3_1, x4_1, x1001_1, x1002_1, rfl, HA, HK1, HO_3, HI0, HK, HB⟩ := hrel
  cases gk with
  | zero => exact absurd HA.out (by simp [bV.l0])
  | succ k1 =>
   have H := HA.out
   clear HA
   simp only [bV.l0] at H
   by_cases c6 : x4_1 > 0
   ·rw [if_pos c6] at H
    have c6b0 : decide (0 < x4_1) = true := decide_eq_true c6
    clear c6
    replace H := be H; obtain ⟨⟨t203, t204, t205, t206, t207, t208⟩, A7, H⟩ := H
    dsimp only at H
    replace H := ifP H; obtain ⟨c8, H⟩ := H
    have LMc8 := aj.mk c8
    clear c8
    obtain ⟨y209, hy209⟩ : ∃ y_ : List (bq), y_ = (x3_1 ++ [(⟨t203, t204, t205, t206⟩ : bq)]) := ⟨_, rfl⟩
    replace H : (bV.l0 k1 y209 (wrap64 (x4_1 - 1)) s0_0 t207 t208) = some (r1, r2, r3) := by first | (rw [hy209]; with_reducible exact H) | (have H2_ := (Option.bind_some _ _).symm.trans H; rw [hy209]; with_reducible exact H2_) | (have H2_ := (Option.bind_some _ _).symm.trans H; with_reducible exact H2_) | with_reducible exact H | (rw [hy209]; exact H) | exact H
    have Ny209 := aj.mk hy209
    clear hy209
    have H' := aj.mk H
    clear H
    obtain ⟨Ao7000, co7000, eo7000⟩ := Kd.dh HO_3.out
    subst eo7000
    go_wp2_with (first | ((with_reducible refine aJ (f := 186) rfl ?_); refine bI (some 16) Try.func186 #[.pointer (some ⟨g, 0, none⟩), .slice Ao7000 x3_1.length co7000] ?_; (with_reducible refine (aY.calls k1 g s0_0 x1001_1 x1002_1 _ _ x3_1 t203 t204 t205 t206 t207 t208 w0 _ ?side1 ?side2 ?side3 ?side4 A7.out).mono ?_); (case side1 => repeat (first | (with_reducible first | exact HI0.out | apply ak.alloc | apply ak.drewN | apply ak.drew | apply ak.bG | apply ak.bF) | exact HI0.out)); (case side2 => repeat (first | (with_reducible first | exact HB.out | apply aI | apply aA | apply aG | refine aD ?_ (ak.ge HI0.out)) | exact HB.out)); (case side3 => exact Kd.sj (ak.apart (show ak w0 _ g s0_0 x1001_1 x1002_1 from by repeat (first | (with_reducible first | exact HI0.out | apply ak.alloc | apply ak.drewN | apply ak.drew | apply ak.bG | apply ak.bF) | exact HI0.out)) (RR HO_3) (by decide)) (fun _ h_ => h_.2)); (case side4 => exact (Kd.aZ HO_3.out).2.1); rintro e w7001 ⟨rfl, hi, hb, hk⟩; refine ⟨_, rfl, ?_⟩; have n0_ := aj.mk (Kd.dD (Kd.gJ (ak.apart (show ak w0 _ g s0_0 x1001_1 x1002_1 from by repeat (first | (with_reducible first | exact HI0.out | apply ak.alloc | apply ak.drewN | apply ak.drew | apply ak.bG | apply ak.bF) | exact HI0.out)) (RR HO_3) (by decide)) hk (fun _ h => h.2)) (fun _ h => h.1)); have n1_ := aj.mk (ay.trans (by repeat (first | (with_reducible first | exact HK.out | apply ay.cO | apply aK | apply aR | apply aM) | exact HK.out)) hk (.inl rfl)); have n2_ := aj.mk (hb); have n3_ := aj.mk (hi); clear HO_3 HK HB HI0; have HO_3 := n0_; have HK := n1_; have HB := n2_; have HI0 := n3_; clear n0_ n1_ n2_ n3_; (try clear hb); (try clear hk); (try clear hi)) | ((with_reducible refine iR (b := .append) (xs := #[.tmp 13, .tmp 17]) rfl ?_); at_builtin; refine Kd.lF eY w.heap.size rfl (.tmp 13) (.tmp 17) 53 110 (.agg #[(.int .i64 0), (.string ⟨#[]⟩), (.int .i64 0), (.int .i64 0)]) 40 rfl Try.underlying53 vT rfl (by decide) (by omega) (.slice Ao7000 x3_1.length co7000) x3_1 (⟨t203, t204, t205, t206⟩ : bq) [.int .i64 t203, .string t204, .int .i64 t205, .int .i64 t206] (fun _ => True) (fun _ => False) rfl rfl ?aP (fun _ hk => hk.elim) ?aF ?aO (Below.refl _ _) ?aS ?aL ?_; (case aP => exact jA _ _ _ (⟨t203, t204, t205, t206⟩ : bq)); (case aF => exact (fun _ _ => trivial)); (case aO => exact (RR HO_3)); (case aS => exact (eG (w := w) (g := g) (row := none) (by repeat (first | (with_reducible first | exact HK.out | apply ay.cO | apply aK | apply aR | apply aM) | exact HK.out)))); (case aL => have := LMc8.out; omega); intro v210 w7002 ho hb hg hat; rw [← Ny209.out] at ho; have n0_ := aj.mk (ak.grown (by repeat (first | (with_reducible first | exact HI0.out | apply ak.alloc | apply ak.drewN | apply ak.drew | apply ak.bG | apply ak.bF) | exact HI0.out)) hg (ak.own_ne HI0.out HO_3.out (by decide))); have n1_ := aj.mk (qj (by repeat (first | (with_reducible first | exact HB.out | apply aI | apply aA | apply aG | refine aD ?_ (ak.ge HI0.out)) | exact HB.out)) HL.out hb); have n2_ := aj.mk (ay.trans (by repeat (first | (with_reducible first | exact HK.out | apply ay.cO | apply aK | apply aR | apply aM) | exact HK.out)) (ay.jc hg g) (Kd.lQ HO_3.out)); have n3_ := aj.mk (ho); clear HI0 HB HK HO_3; have HI0 := n0_; have HB := n1_; have HK := n2_; have HO211 := n3_; clear n0_ n1_ n2_ n3_; clear ho hb hg hat))
    go_roundg k1
    case measure => have := HK1.out; omega
    case rel => exact ⟨(y209), (wrap64 (x4_1 - 1)), (t207), (t208), EQ, H', ⟨by have := HK1.out; omega⟩, ⟨(RR HO211)⟩, ⟨by repeat (first | (with_reducible first | exact HI0.out | apply ak.alloc | apply ak.drewN | apply ak.drew | apply ak.bG | apply ak.bF) | exact HI0.out)⟩, ⟨by repeat (first | (with_reducible first | exact HK.out | apply ay.cO | apply aK | apply aR | apply aM) | exact HK.out)⟩, ⟨by repeat (first | (with_reducible first | exact HB.out | apply aI | apply aA | apply aG | refine aD ?_ (ak.ge HI0.out)) | exact HB.out)⟩⟩
   ·rw [if_neg c6] at H
    have c6b0 : decide (0 < x4_1) = false := decide_eq_false c6
    clear c6
    simp only [Option.some.injEq, Prod.mk.injEq] at H
    obtain ⟨rfl, rfl, rfl⟩ := H
    go_wp2
    go_ret
    exact ⟨_, EWW, (RR HO_3), by repeat (first | (with_reducible first | exact HI0.out | apply ak.alloc | apply ak.drewN | apply ak.drew | apply ak.bG | apply ak.bF) | exact HI0.out), by repeat (first | (with_reducible first | exact HB.out | apply aI | apply aA | apply aG | refine aD ?_ (ak.ge HI0.out)) | exact HB.out), by repeat (first | (with_reducible first | exact HK.out | apply ay.cO | apply aK | apply aR | apply aM) | exact HK.out)⟩
end Go.Proofs.Ythjcicmmbmagbaa.PFnNotations
