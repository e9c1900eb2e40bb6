/- Walks of functions: what each computes. -/
import Derived.Test.YtnfiedfaaaphoaaGreatZOneRoundG0
import Derived.Test.YtnfiedfaaaphoaaGreatZOneRoundW
import Derived.Test.YtnfiedfaaaphoaaGreatZOneRoundShelf
import Derived.Test.YtnfiedfaaaphoaaGreatZOneRoundHandSort
import Derived.Test.YtnfiedfaaaphoaaGreatZOneRoundHandForm
import Derived.Test.YtnfiedfaaaphoaaGreatZOneRoundHandAlone
import Derived.Test.YtnfiedfaaaphoaaGreatZOneRoundHandReach
import Derived.Test.YtnfiedfaaaphoaaGreatZOneRoundHandPut
namespace Go.Proofs.YtnfiedfaaaphoaaGreat.PFnExactOneRound
open Go.RowKit Go.Proofs.YtnfiedfaaaphoaaGreatW.PrintWords Go.Proofs.YtnfiedfaaaphoaaGreatW.PrintLast Go.Proofs.YtnfiedfaaaphoaaGreatW.PrintMore Go.Proofs.YtnfiedfaaaphoaaGreat.Sq
attribute [local go_sem] lK lG ng mY kD kE lJ lF
set_option maxHeartbeats 8000000
set_option maxRecDepth 100000
set_option linter.unusedVariables false
set_option linter.unusedSimpArgs false
attribute [local go_sem high] Ee
def dR.l0 : Nat → ByteArray → ByteArray → Int → Option (ByteArray)
 | 0, _, _, _ => none
 | k + 1, a, b, c => if c < (a.size : Int) then (if (a.size : Int) ≤ 100 then (if 0 ≤ c then (if c ≤ (wrap64 (c + 1)) then (if (wrap64 (c + 1)) ≤ (a.size : Int) then (if (a.extract (c : Int).toNat ((wrap64 (c + 1)) : Int).toNat).size + b.size ≤ 9223372036854775807 then (dR.l0 k a ((a.extract (c : Int).toNat ((wrap64 (c + 1)) : Int).toNat) ++ b) (wrap64 (c + 1))) else (none)) else (none)) else (none)) else (none)) else (some b)) else (some b)
def dR.f (k : Nat) (a0 : ByteArray) : Option (ByteArray) := dR.l0 k a0 (⟨#[]⟩ : ByteArray) 0
theorem dR.calls (k : Nat) (a0 r : ByteArray) (w : World) (h : dR.f k a0 = some r) :
  Calls Tryz.prog 188 #[.string a0] w fun e w' => e = .returned (.string r) ∧ cK w w' := by
 unfold dR.f at h
 have H := h
 clear h
 have H' := ah.mk H
 clear H
 go_enter Tryz.func188, Tryz.ntmps188
 go_wp2
 go_loopg [3, 4] k (fun kq v3 v4 w' => ∃ (x3_1 : ByteArray) (x4_1 : Int), v3 = .string x3_1 ∧ v4 = .int .i64 x4_1 ∧ ah (dR.l0 kq a0 x3_1 x4_1 = some r) ∧ ah (kq ≤ k) ∧ cK w w')
 case atStart => exact ⟨((⟨#[]⟩ : ByteArray)), (0), EQ, EQ, H', ⟨Nat.le_refl _⟩, DR⟩
 case round =>
  clear H'
  obtain ⟨x3_1, x4_1, rfl, rfl, HA, HK1, ⟨m1, rfl⟩⟩ := hrel
  cases gk with
  | zero => exact absurd HA.out (by simp [dR.l0])
  | succ k1 =>
   have H := HA.out
   clear HA
   simp only [dR.l0] at H
   replace H := ifD H; rcases H with ⟨c2b0, H⟩ | ⟨c2b0, H⟩
   ·by_cases c3 : (a0.size : Int) ≤ 100
    ·rw [if_pos c3] at H
     have c3b0 : decide ((a0.size : Int) ≤ 100) = true := decide_eq_true c3
     have c3b1 : decide (a0.size ≤ 100) = true := decide_eq_true (by omega)
     clear c3
     replace H := ifP H; obtain ⟨c4, H⟩ := H
     have c4b0 := eq_true c4
     have c4b1 : decide (0 ≤ x4_1) = true := decide_eq_true c4
     clear c4
     replace H := ifP H; obtain ⟨c5, H⟩ := H
     have c5b0 := eq_true c5
     have c5b1 : decide (x4_1 ≤ (wrap64 (x4_1 + 1))) = true := decide_eq_true c5
     replace H := ifP H; obtain ⟨c6, H⟩ := H
     have c6b0 := eq_true c6
     have c6b1 : decide ((wrap64 (x4_1 + 1)) ≤ (a0.size : Int)) = true := decide_eq_true c6
     replace H := ifP H; obtain ⟨c7, H⟩ := H
     have c7b0 := eq_true c7
     have c7b1 : decide ((a0.extract (x4_1 : Int).toNat ((wrap64 (x4_1 + 1)) : Int).toNat).size + x3_1.size ≤ 9223372036854775807) = true := decide_eq_true c7
     try have c7b2 : (9223372036854775807 < (a0.extract (x4_1 : Int).toNat ((wrap64 (x4_1 + 1)) : Int).toNat).size + x3_1.size) = False := eq_false (Nat.not_lt.2 c7)
     have H' := ah.mk H
     clear H
     go_wp2
     go_roundg k1
     case measure => have := HK1.out; omega
     case rel => exact ⟨((a0.extract (x4_1 : Int).toNat ((wrap64 (x4_1 + 1)) : Int).toNat) ++ x3_1), (wrap64 (x4_1 + 1)), EQ, EQ, H', ⟨by have := HK1.out; omega⟩, DR⟩
    ·rw [if_neg c3] at H
     have c3b0 : decide ((a0.size : Int) ≤ 100) = false := decide_eq_false c3
     have c3b1 : decide (a0.size ≤ 100) = false := decide_eq_false (by omega)
     clear c3
     obtain rfl := Option.some.inj H
     go_wp2
     go_ret
     exact ⟨EQ, DR⟩
   ·obtain rfl := Option.some.inj H
    go_wp2
    go_ret
    exact ⟨EQ, DR⟩
def jH.f (k : Nat) (FV FW : Int) (FX : ByteArray) : Option (Int × Int × ByteArray) := (bL.f k FV FW FX).bind fun t144 => (if t144 = true then ((dR.f k FX).bind fun t145 => (some (FV, FW, t145))) else (some (0, 0, (⟨#[]⟩ : ByteArray))))
theorem jH.calls (k : Nat) (FV FW : Int) (FX : ByteArray) (r1 r2 : Int) (r3 : ByteArray) (w : World) (h : jH.f k FV FW FX = some (r1, r2, r3)) :
  Calls Tryz.prog 153 #[.agg #[.int .i64 FV, .int .i64 FW, .string FX]] w fun e w' => e = .returned (.agg #[.int .i64 r1, .int .i64 r2, .string r3]) ∧ Below w.heap.size w w' := by
 have hu32 := Tryz.underlying32
 have HB := ah.mk (Below.refl w.heap.size w)
 unfold jH.f at h
 have H := h
 clear h
 replace H := be H; obtain ⟨t144, A2, H⟩ := H
 replace H := ah.mk H
 go_enter Tryz.func153, Tryz.ntmps153
 go_wp2_with (first | ((with_reducible refine aJ (N := 1) rfl ?_); refine bg (N := 1) (cs := #[.int .i64 FV, .int .i64 FW, .string FX]) (t := 32) ?_; intro gb142 hg w9000 hbox hb; have BK142 := ah.mk hbox; have GW142 := SZ (w := w) hg; have GE142 := GW142; replace HB := BS (w := w) hb; clear hb hbox hg) | ((with_reducible refine aJ (N := 2) rfl ?_); refine bg (N := 2) (cs := #[.int .i64 0, .int .i64 0, .string (⟨#[]⟩ : ByteArray)]) (t := 32) ?_; intro gb143 hg w9001 hbox hb; have n0_ := KB BK142 hb; have n1_ := BS (w := w) hb; have n2_ := ah.mk (hbox); have n3_ := SZ (w := w) hg; have n4_ := SZ (w := w) hg; have n5_ := NL BK142 hg; have n6_ := NG BK142 hg; clear BK142 HB; have BK142 := n0_; have HB := n1_; have BK143 := n2_; have GW143 := n3_; have GE143 := n4_; have NB142_143 := n5_; have NB143_142 := n6_; clear n0_ n1_ n2_ n3_ n4_ n5_ n6_; clear hb hbox hg; have hnb9002 := NB142_143.out; have hnc9002 := NB143_142.out; obtain ⟨hcz9003_0, hcz9003_1, hcz9003_2, hfz9003_0, hfz9003_1, hfz9003_2⟩ := cz3 BK142.out; refine bU ?_))
 refine Hide.mk ?_
 replace H := H.out
 replace H := ifB H; rcases H with ⟨rfl, H⟩ | ⟨rfl, H⟩
 ·replace H := be H; obtain ⟨t145, A4, H⟩ := H
  simp only [Option.some.injEq, Prod.mk.injEq] at H
  obtain ⟨rfl, rfl, rfl⟩ := H
  try go_wp2_with (first | ((with_reducible refine ay (f := 96) rfl ?_); refine bE (some 4) Tryz.func96 #[.agg #[.int .i64 FV, .int .i64 FW, .string FX]] ?_; (with_reducible refine (bL.calls k FV FW FX _ _ A2.out).mono ?_); rintro e w9004 ⟨rfl, hb⟩; refine ⟨_, rfl, ?_⟩; replace BK142 := KB BK142 hb; replace BK143 := KB BK143 hb; replace HB := BS (w := w) hb; (try clear hb); obtain ⟨hcz9005_0, hcz9005_1, hcz9005_2, hfz9005_0, hfz9005_1, hfz9005_2⟩ := cz3 BK142.out) | ((with_reducible refine ay (f := 188) rfl ?_); refine bE (some 9) Tryz.func188 #[.string FX] ?_; (with_reducible refine (dR.calls k FX t145 _ A4.out).mono ?_); rintro e w' ⟨rfl, ⟨nd, rfl⟩⟩; refine ⟨_, rfl, ?_⟩; (try (rw [oo w9004]; generalize hq_ : World.drewN w9004 _ = w9004; have n0_ : ah (w9004.heap[gb142]? = some (.cells #[.int .i64 FV, .int .i64 FW, .string FX] 32 (0, 0))) := ⟨by rw [← hq_]; exact BK⟩; have n1_ : ah (w9004.heap[gb143]? = some (.cells #[.int .i64 0, .int .i64 0, .string (⟨#[]⟩ : ByteArray)] 32 (0, 0))) := ⟨by rw [← hq_]; exact BK⟩; have n2_ : ah (Below w.heap.size w w9004) := ⟨by rw [← hq_]; exact BL⟩; clear BK142 BK143 HB hq_; have BK142 := n0_; have BK143 := n1_; have HB := n2_; clear n0_ n1_ n2_)); have hcz9005_0 : w9004.cell? ⟨gb142, 0, none⟩ = some (.int .i64 FV) := (ak BK142.out 0).trans rfl; have hcz9005_1 : w9004.cell? ⟨gb142, 1, none⟩ = some (.int .i64 FW) := (ak BK142.out 1).trans rfl; have hcz9005_2 : w9004.cell? ⟨gb142, 2, none⟩ = some (.string FX) := (ak BK142.out 2).trans rfl; have hfz9003_0 := aC BK142.out 0; have hfz9003_1 := aC BK142.out 1; have hfz9003_2 := aC BK142.out 2; have hfz9005_0 := aC BK142.out 0; have hfz9005_1 := aC BK142.out 1; have hfz9005_2 := aC BK142.out 2; have hcz9005_0 : w9004.cell? ⟨gb142, 0, none⟩ = some (.int .i64 FV) := (ak BK142.out 0).trans rfl; have hcz9005_1 : w9004.cell? ⟨gb142, 1, none⟩ = some (.int .i64 FW) := (ak BK142.out 1).trans rfl; have hcz9005_2 : w9004.cell? ⟨gb142, 2, none⟩ = some (.string FX) := (ak BK142.out 2).trans rfl; have hfz9003_0 := aC BK142.out 0; have hfz9003_1 := aC BK142.out 1; have hfz9003_2 := aC BK142.out 2; have hfz9005_0 := aC BK142.out 0; have hfz9005_1 := aC BK142.out 1; have hfz9005_2 := aC BK142.out 2; obtain ⟨hcz9006_0, hcz9006_1, hcz9006_2, hfz9006_0, hfz9006_1, hfz9006_2⟩ := cz3 BK143.out))
  refine bodyPost_ret (results_cell_row rfl _ _ gb143 32 #[.int .i64 FV, .int .i64 FW, .string t145] (0, 0) _ rfl (by (with_reducible repeat (first | refine aG ?_ _ | refine aH ?_ | refine aD ?_ _)); refine aY (cs := #[.int .i64 FV, .int .i64 FW, .string (⟨#[]⟩ : ByteArray)]) ?_ 2 _ rfl; (with_reducible repeat (first | refine aG ?_ _ | refine aH ?_ | refine aD ?_ _)); refine aY (cs := #[.int .i64 FV, .int .i64 0, .string (⟨#[]⟩ : ByteArray)]) ?_ 1 _ rfl; (with_reducible repeat (first | refine aG ?_ _ | refine aH ?_ | refine aD ?_ _)); refine aY (cs := #[.int .i64 0, .int .i64 0, .string (⟨#[]⟩ : ByteArray)]) ?_ 0 _ rfl; (with_reducible repeat (first | refine aG ?_ _ | refine aH ?_ | refine aD ?_ _)); refine dN ?_ NB143_142.out _; (with_reducible repeat (first | refine aG ?_ _ | refine aH ?_ | refine aD ?_ _)); exact BK143.out) Tryz.underlying32 rfl (by kernel_rfl)) rfl ?_
  exact ⟨EWW, BL⟩
 ·simp only [Option.some.injEq, Prod.mk.injEq] at H
  obtain ⟨rfl, rfl, rfl⟩ := H
  try go_wp2_with (first | ((with_reducible refine ay (f := 96) rfl ?_); refine bE (some 4) Tryz.func96 #[.agg #[.int .i64 FV, .int .i64 FW, .string FX]] ?_; (with_reducible refine (bL.calls k FV FW FX _ _ A2.out).mono ?_); rintro e w9004 ⟨rfl, hb⟩; refine ⟨_, rfl, ?_⟩; replace BK142 := KB BK142 hb; replace BK143 := KB BK143 hb; replace HB := BS (w := w) hb; (try clear hb); obtain ⟨hcz9005_0, hcz9005_1, hcz9005_2, hfz9005_0, hfz9005_1, hfz9005_2⟩ := cz3 BK143.out))
  refine bodyPost_ret (results_cell_row rfl _ _ gb143 32 #[.int .i64 0, .int .i64 0, .string (⟨#[]⟩ : ByteArray)] (0, 0) _ rfl (by (with_reducible repeat (first | refine aG ?_ _ | refine aH ?_ | refine aD ?_ _)); refine aY (cs := #[.int .i64 0, .int .i64 0, .string (⟨#[]⟩ : ByteArray)]) ?_ 2 _ rfl; (with_reducible repeat (first | refine aG ?_ _ | refine aH ?_ | refine aD ?_ _)); refine aY (cs := #[.int .i64 0, .int .i64 0, .string (⟨#[]⟩ : ByteArray)]) ?_ 1 _ rfl; (with_reducible repeat (first | refine aG ?_ _ | refine aH ?_ | refine aD ?_ _)); refine aY (cs := #[.int .i64 0, .int .i64 0, .string (⟨#[]⟩ : ByteArray)]) ?_ 0 _ rfl; (with_reducible repeat (first | refine aG ?_ _ | refine aH ?_ | refine aD ?_ _)); exact BK143.out) Tryz.underlying32 rfl (by kernel_rfl)) rfl ?_
  exact ⟨EWW, BL⟩
def dS.f (k : Nat) (FV FW : Int) (FX : ByteArray) : Option (Bool) := (bL.f k FV FW FX).bind fun t147 => (if t147 = true then ((jH.f k FV FW FX).bind fun bt148 => (some (bt148.1 == FV && (bt148.2.1 == FW && (bt148.2.2.toList == FX.toList))))) else (some false))
def dS.T1 : Bool × List (List Nat × List Nat) := (true, [([], []), ([0], [0]), ([1, 1], [1]), ([2], [2]), ([3, 2, 2], [2, 3]), ([2], [2]), ([4, 5, 2], [2, 4, 5]), ([2, 6], [2, 6]), ([7, 4, 0, 1, 2, 3, 4, 5, 6, 7], [7])])
def dS.B1 : List Nat := [0, 1, 3, 7, 15, 7, 63, 127, 255]
theorem dS.Et : kG .any (opsOf Tryz.f97 1) = dS.T1 := by kernel_rfl
theorem dS.CP : iW dS.T1.2 dS.B1 = true := by kernel_rfl
theorem dS.calls (k : Nat) (FV FW : Int) (FX : ByteArray) (r : Bool) (w : World) (h : dS.f k FV FW FX = some r) :
  Calls Tryz.prog 97 #[.agg #[.int .i64 FV, .int .i64 FW, .string FX]] w fun e w' => e = .returned (.bool r) ∧ Below w.heap.size w w' := by
 have hu32 := Tryz.underlying32
 have HB := ah.mk (Below.refl w.heap.size w)
 unfold dS.f at h
 have H := h
 clear h
 replace H := be H; obtain ⟨t147, A2, H⟩ := H
 replace H := ah.mk H
 go_enter Tryz.func97, Tryz.ntmps97
 try go_wp2_with (first | ((with_reducible refine aJ (N := 1) rfl ?_); refine bg (N := 1) (cs := #[.int .i64 FV, .int .i64 FW, .string FX]) (t := 32) ?_; intro gb146 hg w9000 hbox hb; have BK146 := ah.mk hbox; have GW146 := SZ (w := w) hg; have GE146 := GW146; replace HB := BS (w := w) hb; clear hb hbox hg))
 replace BK146 := ah.mk (aH BK146.out)
 replace HB := ah.mk (dH HB.out)
 refine ji (n := 9) (S := fun w' => w'.cell? ⟨gb146, 0, none⟩ = some (.int .i64 FV) ∧ w'.cell? ⟨gb146, 1, none⟩ = some (.int .i64 FW) ∧ w'.cell? ⟨gb146, 2, none⟩ = some (.string FX)) (ds := []) #[F,F,F,F,F,F,F,F,F] (by kernel_rfl) rfl rfl ⟨(ak BK146.out 0).trans rfl, (ak BK146.out 1).trans rfl, (ak BK146.out 2).trans rfl⟩ (fun hHeld => ?_); refine iI dS.Et dS.CP (fun HT_ HW_ => ?_)
 generalize w9000.drew = w9001 at BK146 HB hHeld ⊢
 refine taS (i := 0) (N := some 3) #[T,F,F,F,F,F,F,F,F] (eF HT_.out HW_.out (by kernel_rfl)) hHeld ?_
 refine kW (i := 1) (N := some 4) #[T,T,F,F,F,F,F,F,F] rfl rfl (jf HT_.out (by kernel_rfl)) (by decide) (fun K hK => ?_)
 refine iZ Tryz.func96 #[.agg #[.int .i64 FV, .int .i64 FW, .string FX]] ?_
 with_reducible refine (bL.calls k FV FW FX _ _ A2.out).mono ?_
 rintro e w9002 ⟨rfl, hb⟩
 refine ⟨_, rfl, ?_⟩
 replace BK146 := KB BK146 hb
 replace HB := BS (w := w) hb
 (try clear hb)
 refine hK.out _ _ ⟨(ak BK146.out 0).trans rfl, (ak BK146.out 1).trans rfl, (ak BK146.out 2).trans rfl⟩ (fun hHeld => ?_)
 clear hK K
 refine nrm (some 4) ?_
 replace H := H.out
 replace H := ifB H; rcases H with ⟨rfl, H⟩ | ⟨rfl, H⟩
 ·replace H := be H; obtain ⟨⟨t148, t149, t150⟩, A4, H⟩ := H
  dsimp only at H
  obtain rfl := Option.some.inj H
  refine puS (i := 2) (N := some 5) #[T,T,T,F,F,F,F,F,F] (aK HT_.out (by kernel_rfl)) ?_
  refine taS (i := 3) (N := some 6) #[T,T,T,T,F,F,F,F,F] (eF HT_.out HW_.out (by kernel_rfl)) hHeld ?_
  refine taS (i := 5) (N := some 8) #[T,T,T,T,F,T,F,F,F] (eF HT_.out HW_.out (by kernel_rfl)) hHeld ?_
  refine kW (i := 4) (N := some 7) #[T,T,T,T,T,T,F,F,F] rfl rfl (jf HT_.out (by kernel_rfl)) (by decide) (fun K hK => ?_)
  refine iZ Tryz.func153 #[.agg #[.int .i64 FV, .int .i64 FW, .string FX]] ?_
  with_reducible refine (jH.calls k FV FW FX t148 t149 t150 _ A4.out).mono ?_
  rintro e w9003 ⟨rfl, hb⟩
  refine ⟨_, rfl, ?_⟩
  replace BK146 := KB BK146 hb
  replace HB := BS (w := w) hb
  (try clear hb)
  refine hK.out _ _ ⟨(ak BK146.out 0).trans rfl, (ak BK146.out 1).trans rfl, (ak BK146.out 2).trans rfl⟩ (fun hHeld => ?_)
  clear hK K
  refine nrm (some 7) ?_
  refine puS (i := 6) (N := some 9) #[T,T,T,T,T,T,T,F,F] (aK HT_.out (by kernel_rfl)) ?_
  refine puS (i := 7) (N := some 10) #[T,T,T,T,T,T,T,T,F] (aK HT_.out (by kernel_rfl)) ?_
  refine puS (i := 8) (N := some 2) #[T,T,T,T,T,T,T,T,T] (aK HT_.out (by kernel_rfl)) ?_
  refine iD (gG HT_.out (by kernel_rfl)) ?_
  try go_wp2
  go_ret
  exact ⟨EWW, BL⟩
 ·obtain rfl := Option.some.inj H
  refine puS (i := 2) (N := some 5) #[T,T,T,F,F,F,F,F,F] (aK HT_.out (by kernel_rfl)) ?_
  refine puU (i := 3) (N := some 6) #[T,T,T,T,F,F,F,F,F] (aK HT_.out (by kernel_rfl)) ?_
  refine puU (i := 4) (N := some 7) #[T,T,T,T,T,F,F,F,F] (aK HT_.out (by kernel_rfl)) ?_
  refine puU (i := 5) (N := some 8) #[T,T,T,T,T,T,F,F,F] (aK HT_.out (by kernel_rfl)) ?_
  refine puU (i := 6) (N := some 9) #[T,T,T,T,T,T,T,F,F] (aK HT_.out (by kernel_rfl)) ?_
  refine puS (i := 7) (N := some 10) #[T,T,T,T,T,T,T,T,F] (aK HT_.out (by kernel_rfl)) ?_
  refine puS (i := 8) (N := some 2) #[T,T,T,T,T,T,T,T,T] (aK HT_.out (by kernel_rfl)) ?_
  refine iD (gG HT_.out (by kernel_rfl)) ?_
  try go_wp2
  go_ret
  exact ⟨EWW, BL⟩
def jJ.f (k : Nat) (FV FW : Int) (FX : ByteArray) (l1 : List Bool) (a2 : Int) : Option (List Bool) := HandReach.yU k FV FW FX l1 a2
theorem jJ.calls (k : Nat) (FV FW : Int) (FX : ByteArray) (P1_ : Nat → Prop) (u9000_ : Value) (l1 : List Bool) (a2 : Int) (r : List Bool) (w0 w : World) (hB : Below w0.heap.size w0 w) (ho1 : Kd.R Kd.bool 4 w w0.heap.size P1_ u9000_ l1) (h : jJ.f k FV FW FX l1 a2 = some r) :
  Calls Tryz.prog 189 #[.agg #[.int .i64 FV, .int .i64 FW, .string FX], u9000_, .int .i64 a2] w fun e w' => ∃ v0_ : Value, e = .returned (v0_) ∧ Kd.R Kd.bool 4 w' w0.heap.size (fun k_ => (P1_ k_ ∨ w.heap.size ≤ k_)) v0_ r ∧ Below w0.heap.size w0 w' ∧ Kept w w' (fun k_ => P1_ k_) :=
 HandReach.DI k FV FW FX P1_ u9000_ l1 a2 r w0 w hB ho1 h
mutual
def aN.l0 : Nat → Int → List Bool → Int → Int → Int → ByteArray → Option (Int)
 | 0, _, _, _, _, _, _ => none
 | k + 1, a, b, c, d, e, f => if c < (f.size : Int) then (if b.length < 140737488355328 then (aN.l0 k a (b ++ [false]) (wrap64 (c + 1)) d e f) else (none)) else (aN.l1 k a b 0 d e f)
def aN.l1 : Nat → Int → List Bool → Int → Int → Int → ByteArray → Option (Int)
 | 0, _, _, _, _, _, _ => none
 | k + 1, a, b, c, d, e, f => if c < (f.size : Int) then ((bL.f k d e f).bind fun g => (aN.j2 k a b c g d e f)) else (aN.j2 k a b c false d e f)
def aN.j2 : Nat → Int → List Bool → Int → Bool → Int → Int → ByteArray → Option (Int)
 | 0, _, _, _, _, _, _, _ => none
 | k + 1, a, b, c, d, e, f, g => if d = true then (if 0 ≤ c then (if c < (g.size : Int) then (if (bt g c) = 46 then (if c < (b.length : Int) then (aN.j3 k a b c (!(fA false b c)) e f g) else (none)) else (aN.j3 k a b c false e f g)) else (none)) else (none)) else (some a)
def aN.j3 : Nat → Int → List Bool → Int → Bool → Int → Int → ByteArray → Option (Int)
 | 0, _, _, _, _, _, _, _ => none
 | k + 1, a, b, c, d, e, f, g => if d = true then (aN.l2 k (wrap64 (a + 1)) b c (([] : List Bool)) 0 e f g) else (aN.l1 k a b (wrap64 (c + 1)) e f g)
def aN.l2 : Nat → Int → List Bool → Int → List Bool → Int → Int → Int → ByteArray → Option (Int)
 | 0, _, _, _, _, _, _, _, _ => none
 | k + 1, a, b, c, d, e, f, g, h => if e < (b.length : Int) then (if d.length < 140737488355328 then (aN.l2 k a b c (d ++ [false]) (wrap64 (e + 1)) f g h) else (none)) else ((jJ.f k f g h d c).bind fun i => (aN.l3 k a b c i 0 f g h))
def aN.l3 : Nat → Int → List Bool → Int → List Bool → Int → Int → Int → ByteArray → Option (Int)
 | 0, _, _, _, _, _, _, _, _ => none
 | k + 1, a, b, c, d, e, f, g, h => if e < (b.length : Int) then (if 0 ≤ e then (if fA false b e = true then (aN.l3 k a (b.set (e : Int).toNat true) c d (wrap64 (e + 1)) f g h) else (if e < (d.length : Int) then (aN.l3 k a (b.set (e : Int).toNat (fA false d e)) c d (wrap64 (e + 1)) f g h) else (none))) else (none)) else (aN.l1 k a b (wrap64 (c + 1)) f g h)
end
def aN.f (k : Nat) (FV FW : Int) (FX : ByteArray) : Option (Int) := aN.l0 k 0 (([] : List Bool)) 0 FV FW FX
theorem aN.calls (k : Nat) (FV FW : Int) (FX : ByteArray) (r : Int) (w : World) (h : aN.f k FV FW FX = some r) :
  Calls Tryz.prog 154 #[.agg #[.int .i64 FV, .int .i64 FW, .string FX]] w fun e w' => e = .returned (.int .i64 r) ∧ Below w.heap.size w w' := by
 have hu32 := Tryz.underlying32
 have HB := ah.mk (Below.refl w.heap.size w)
 unfold aN.f at h
 have H := h
 clear h
 obtain ⟨y185, hy185⟩ : ∃ y_ : List Bool, y_ = (([] : List Bool)) := ⟨_, rfl⟩
 replace H : (aN.l0 k 0 y185 0 FV FW FX) = some r := by first | (rw [hy185]; with_reducible exact H) | (have H2_ := (Option.bind_some _ _).symm.trans H; rw [hy185]; with_reducible exact H2_) | (have H2_ := (Option.bind_some _ _).symm.trans H; with_reducible exact H2_) | with_reducible exact H | (rw [hy185]; exact H) | exact H
 have Ny185 := ah.mk hy185
 clear hy185
 have H' := ah.mk H
 clear H
 go_enter Tryz.func154, Tryz.ntmps154
 go_wp2_with (first | ((with_reducible refine aJ (N := 1) rfl ?_); refine bg (N := 1) (cs := #[.int .i64 FV, .int .i64 FW, .string FX]) (t := 32) ?_; intro gb184 hg w2 hbox hb; have BK184 := ah.mk hbox; have GW184 := SZ (w := w) hg; have GE184 := GW184; replace HB := BS (w := w) hb; clear hb hbox hg) | ((with_reducible refine aJ (N := 10) rfl ?_); refine Kd.sK Kd.bool _ 4 ?hg (N := 10) ?hd (xs := ([] : List Bool)) (inner := []) (ok := fun _ => True) (okp := fun _ => True) ?hr ?hp (fun _ hk => hk) trivial (Below.refl _ _) (Nat.le_refl _) (by simp) ?_; (case hd => rfl); (case hg => rfl); (case hr => first | (go_simp; done) | (go_simp; rfl)); (case hp => exact (gX.none _ _)); intro v186 w3 ho4 hb hg_ hnew_; clear hg_ hnew_; (first | rw [← Ny185.out] at ho4 | (simp only [Int.reduceToNat] at ho4; rw [← Ny185.out] at ho4)); have n0_ := ah.mk (Kd.cO ho4 (aQ BL)); replace BK184 := KB BK184 hb; replace HB := BS (w := w) hb; have HO187 := n0_; clear n0_; clear hb ho4))
 go_loopg [4, 5] k (fun kq v4 v5 w' => ∃ (x4_1 : List Bool) (x5_1 : Int), v5 = .int .i64 x5_1 ∧ ah (aN.l0 kq 0 x4_1 x5_1 FV FW FX = some r) ∧ ah (kq ≤ k) ∧ ah (Kd.R Kd.bool 4 w' w.heap.size (fun _ => True) v4 x4_1) ∧ ah (w'.heap[gb184]? = some (.cells #[.int .i64 FV, .int .i64 FW, .string FX] 32 (0, 0))) ∧ ah (Below w.heap.size w w'))
 case atStart => exact ⟨(y185), (0), EQ, H', ⟨Nat.le_refl _⟩, ⟨(RR HO187)⟩, ⟨BK⟩, ⟨BL⟩⟩
 case round =>
  clear H'
  obtain ⟨x4_1, x5_1, rfl, HA, HK1, HO_4, BK184, HB⟩ := hrel
  cases gk with
  | zero => exact absurd HA.out (by simp [aN.l0])
  | succ k1 =>
   have H := HA.out
   clear HA
   simp only [aN.l0] at H
   obtain ⟨hcz7000_0, hcz7000_1, hcz7000_2, hfz7000_0, hfz7000_1, hfz7000_2⟩ := cz3 BK184.out
   replace H := ifD H; rcases H with ⟨c5b0, H⟩ | ⟨c5b0, H⟩
   ·replace H := ifP H; obtain ⟨c6, H⟩ := H
    have LMc6 := ah.mk c6
    clear c6
    obtain ⟨y188, hy188⟩ : ∃ y_ : List Bool, y_ = (x4_1 ++ [false]) := ⟨_, rfl⟩
    replace H : (aN.l0 k1 0 y188 (wrap64 (x5_1 + 1)) FV FW FX) = some r := by first | (rw [hy188]; with_reducible exact H) | (have H2_ := (Option.bind_some _ _).symm.trans H; rw [hy188]; with_reducible exact H2_) | (have H2_ := (Option.bind_some _ _).symm.trans H; with_reducible exact H2_) | with_reducible exact H | (rw [hy188]; exact H) | exact H
    have Ny188 := ah.mk hy188
    clear hy188
    have H' := ah.mk H
    clear H
    go_wp2_with (first | ((with_reducible refine dQ (b := .append) (xs := #[.tmp 18, .tmp 19]) rfl ?_); at_builtin; refine Kd.gU Kd.bool (w0 := w) w.heap.size rfl (.tmp 18) (.tmp 19) 165 4 (.bool false) 1 rfl Tryz.underlying165 Ej rfl (by decide) (by omega) u4 x4_1 false [.bool false] (fun _ => True) (fun _ => False) rfl rfl ?aP (fun _ hk => hk.elim) ?aF ?aO ?aB ?aS ?aL ?_; (case aP => exact rfl); (case aB => exact BL); (case aF => exact (fun _ _ => trivial)); (case aO => exact (RR HO_4)); (case aS => exact (aQ BL)); (case aL => have := LMc6.out; omega); intro v189 w7001 ho hb hg hat; rw [← Ny188.out] at ho; have n0_ := ah.mk (d9 (g := gb184) (o := .cells #[.int .i64 FV, .int .i64 FW, .string FX] 32 (0, 0)) BK hg (Kd.mg HO_4.out BK184.out (by decide))); have n1_ := ah.mk (hb); have n2_ := ah.mk (ho); clear BK184 HB HO_4; have BK184 := n0_; have HB := n1_; have HO190 := n2_; clear n0_ n1_ n2_; clear ho hb hg hat))
    go_roundg k1
    case measure => have := HK1.out; omega
    case rel => exact ⟨(y188), (wrap64 (x5_1 + 1)), EQ, H', ⟨by have := HK1.out; omega⟩, ⟨(RR HO190)⟩, ⟨BK⟩, ⟨BL⟩⟩
   ·have H' := ah.mk H
    clear H
    go_wp2
    go_loopg [3, 6] k1 (fun kq v3 v6 w' => ∃ (x3_2 : Int) (x4_2 : List Bool) (x6_2 : Int), v3 = .int .i64 x3_2 ∧ v6 = .int .i64 x6_2 ∧ ah (aN.l1 kq x3_2 x4_2 x6_2 FV FW FX = some r) ∧ ah (kq ≤ k1) ∧ ah (Kd.R Kd.bool 4 w' w.heap.size (fun _ => True) u4 x4_2) ∧ ah (w'.heap[gb184]? = some (.cells #[.int .i64 FV, .int .i64 FW, .string FX] 32 (0, 0))) ∧ ah (Below w.heap.size w w'))
    case atStart => exact ⟨(0), (x4_1), (0), EQ, EQ, H', ⟨Nat.le_refl _⟩, ⟨(RR HO_4)⟩, ⟨BK⟩, ⟨BL⟩⟩
    case round =>
     clear H'
     try clear c5
     try clear c5b0
     try clear hcz7000_0
     try clear hcz7000_1
     try clear hcz7000_2
     try clear hfz7000_0
     try clear hfz7000_1
     try clear hfz7000_2
     obtain ⟨x3_2, x4_2, x6_2, rfl, rfl, HA, HK2, HO_4, BK184, HB⟩ := hrel
     cases gk with
     | zero => exact absurd HA.out (by simp [aN.l1])
     | succ k2 =>
      have H := HA.out
      clear HA
      simp only [aN.l1] at H
      have HC10 := ah.mk H
      clear H
      go_upto_region 8 with (fail)
      go_cut [29] (fun v29 wc => ∃ (kq : Nat) (x29_9 : Bool), v29 = .bool x29_9 ∧ ah (aN.j2 kq x3_2 x4_2 x6_2 x29_9 FV FW FX = some r) ∧ ah (kq ≤ k2) ∧ ah (Kd.R Kd.bool 4 wc w.heap.size (fun _ => True) u4 x4_2) ∧ ah (wc.heap[gb184]? = some (.cells #[.int .i64 FV, .int .i64 FW, .string FX] 32 (0, 0))) ∧ ah (Below w.heap.size w wc))
      case first =>
       have H := HC10.out
       clear HC10
       obtain ⟨hcz7001_0, hcz7001_1, hcz7001_2, hfz7001_0, hfz7001_1, hfz7001_2⟩ := cz3 BK184.out
       replace H := ifD H; rcases H with ⟨c11b0, H⟩ | ⟨c11b0, H⟩
       ·(first | rw [c11b0] | (simp only [iC, jg]; rw [c11b0]) | skip)
        replace H := be H; obtain ⟨t191, A12, H⟩ := H
        have H' := ah.mk H
        clear H
        go_wp2_with (first | (go_at_call 96; (with_reducible refine (bL.calls k2 FV FW FX t191 _ A12.out).mono ?_); rintro e w7002 ⟨rfl, hb⟩; replace HO_4 := RB HO_4 hb; replace BK184 := KB BK184 hb; replace HB := BS (w := w) hb; (try clear hb); (try clear hb2); (try clear hk); (try clear hi)))
        go_meet
        case rel => exact ⟨_, (t191), EQ, H', ⟨by have := HK1.out; have := HK2.out; first | omega | exact Nat.le_refl _⟩, ⟨(RR HO_4)⟩, ⟨BK⟩, ⟨BL⟩⟩
       ·(first | rw [c11b0] | (simp only [iC, jg]; rw [c11b0]) | skip)
        have H' := ah.mk H
        clear H
        go_wp2
        go_meet
        case rel => exact ⟨_, (false), EQ, H', ⟨by have := HK1.out; have := HK2.out; first | omega | exact Nat.le_refl _⟩, ⟨(RR HO_4)⟩, ⟨BK⟩, ⟨BL⟩⟩
      case rest =>
       clear HC10
       try clear c5
       try clear c5b0
       try clear hcz7000_0
       try clear hcz7000_1
       try clear hcz7000_2
       try clear hfz7000_0
       try clear hfz7000_1
       try clear hfz7000_2
       obtain ⟨kq, x29_9, rfl, HA, HJ9, HO_4, BK184, HB⟩ := hcut
       cases kq with
       | zero => exact absurd HA.out (by simp [aN.j2])
       | succ kj9 =>
        have H := HA.out
        clear HA
        simp only [aN.j2] at H
        replace H := ifB H; rcases H with ⟨rfl, H⟩ | ⟨rfl, H⟩
        ·have HC17 := ah.mk H
         clear H
         go_upto_region 10 with (fail)
         go_cut [43] (fun v43 wc => ∃ (kq : Nat) (x43_16 : Bool), v43 = .bool x43_16 ∧ ah (aN.j3 kq x3_2 x4_2 x6_2 x43_16 FV FW FX = some r) ∧ ah (kq ≤ kj9) ∧ ah (Kd.R Kd.bool 4 wc w.heap.size (fun _ => True) u4 x4_2) ∧ ah (wc.heap[gb184]? = some (.cells #[.int .i64 FV, .int .i64 FW, .string FX] 32 (0, 0))) ∧ ah (Below w.heap.size w wc))
         case first =>
          have H := HC17.out
          clear HC17
          replace H := ifN H; obtain ⟨c18b0, H⟩ := H
          (first | rw [c18b0] | (simp only [iC, jg]; rw [c18b0]) | skip)
          replace H := ifN H; obtain ⟨c19b0, H⟩ := H
          obtain ⟨hcz7003_0, hcz7003_1, hcz7003_2, hfz7003_0, hfz7003_1, hfz7003_2⟩ := cz3 BK184.out
          replace H := ifE H; rcases H with ⟨c21b0, c21b1, H⟩ | ⟨c21, c21b0, c21b1, H⟩
          ·replace H := ifN H; obtain ⟨c22b0, H⟩ := H
           have H' := ah.mk H
           clear H
           have p20 : (0 ≤ (x6_2 : Int)) = True := OT
           have q20 : (x6_2 < (FX.size : Int)) = True := OT
           have hx20 := fO FX x6_2
           obtain ⟨Ao7004, co7004, eo7004⟩ := Kd.dL HO_4.out
           subst eo7004
           have p192 : 0 ≤ (x6_2 : Int) := OD
           have q192 : x6_2 < (x4_2.length : Int) := OD
           obtain ⟨ad192, e192, hx192_0⟩ := Kd.vw (Kd.bP HO_4.out).2.2 x6_2 p192 q192
           cases e192
           replace p192 := eq_true p192
           replace q192 := eq_true q192
           go_wp2
           go_meet
           case rel => exact ⟨_, (!(fA false x4_2 x6_2)), EQ, H', ⟨by have := HK1.out; have := HK2.out; have := HJ9.out; first | omega | exact Nat.le_refl _⟩, ⟨(RR HO_4)⟩, ⟨BK⟩, ⟨BL⟩⟩
          ·have H' := ah.mk H
           clear H
           have p20 : (0 ≤ (x6_2 : Int)) = True := OT
           have q20 : (x6_2 < (FX.size : Int)) = True := OT
           have hx20 := fO FX x6_2
           go_wp2
           go_meet
           case rel => exact ⟨_, (false), EQ, H', ⟨by have := HK1.out; have := HK2.out; have := HJ9.out; first | omega | exact Nat.le_refl _⟩, ⟨(RR HO_4)⟩, ⟨BK⟩, ⟨BL⟩⟩
         case rest =>
          clear HC17
          try clear c5
          try clear c5b0
          try clear c16
          try clear hcz7000_0
          try clear hcz7000_1
          try clear hcz7000_2
          try clear hfz7000_0
          try clear hfz7000_1
          try clear hfz7000_2
          obtain ⟨kq, x43_16, rfl, HA, HJ16, HO_4, BK184, HB⟩ := hcut
          cases kq with
          | zero => exact absurd HA.out (by simp [aN.j3])
          | succ kj16 =>
           have H := HA.out
           clear HA
           simp only [aN.j3] at H
           replace H := ifB H; rcases H with ⟨rfl, H⟩ | ⟨rfl, H⟩
           ·obtain ⟨y193, hy193⟩ : ∃ y_ : List Bool, y_ = (([] : List Bool)) := ⟨_, rfl⟩
            replace H : (aN.l2 kj16 (wrap64 (x3_2 + 1)) x4_2 x6_2 y193 0 FV FW FX) = some r := by first | (rw [hy193]; with_reducible exact H) | (have H2_ := (Option.bind_some _ _).symm.trans H; rw [hy193]; with_reducible exact H2_) | (have H2_ := (Option.bind_some _ _).symm.trans H; with_reducible exact H2_) | with_reducible exact H | (rw [hy193]; exact H) | exact H
            have Ny193 := ah.mk hy193
            clear hy193
            have H' := ah.mk H
            clear H
            go_wp2_with (first | ((with_reducible refine aJ (N := 46) rfl ?_); refine Kd.sK Kd.bool _ 4 ?hg (N := 46) ?hd (xs := ([] : List Bool)) (inner := []) (ok := fun _ => True) (okp := fun _ => True) ?hr ?hp (fun _ hk => hk) trivial (Below.refl _ _) (Nat.le_refl _) (by simp) ?_; (case hd => rfl); (case hg => rfl); (case hr => first | (go_simp; done) | (go_simp; rfl)); (case hp => exact (gX.none _ _)); intro v194 w7005 ho28 hb hg_ hnew_; clear hg_ hnew_; (first | rw [← Ny193.out] at ho28 | (simp only [Int.reduceToNat] at ho28; rw [← Ny193.out] at ho28)); have n0_ := ah.mk (Kd.jR (RR HO_4) (Kd.lV ho28) hb); have n1_ := ah.mk (Kd.cO (Kd.mR ho28 (Kd.qb (RR HO_4))) (aQ BL)); replace BK184 := KB BK184 hb; replace HB := BS (w := w) hb; clear HO_4; have HO_4 := n0_; have HO195 := n1_; clear n0_ n1_; clear hb ho28))
            go_loopg [7, 8] kj16 (fun kq v7 v8 w' => ∃ (x7_5 : List Bool) (x8_5 : Int), v8 = .int .i64 x8_5 ∧ ah (aN.l2 kq (wrap64 (x3_2 + 1)) x4_2 x6_2 x7_5 x8_5 FV FW FX = some r) ∧ ah (kq ≤ kj16) ∧ ah (Kd.R Kd.bool 4 w' w.heap.size (fun k_ => some k_ ≠ (v7 : Value).ownBlock) u4 x4_2) ∧ ah (Kd.R Kd.bool 4 w' w.heap.size (fun k_ => some k_ ≠ (u4 : Value).ownBlock) v7 x7_5) ∧ ah (w'.heap[gb184]? = some (.cells #[.int .i64 FV, .int .i64 FW, .string FX] 32 (0, 0))) ∧ ah (Below w.heap.size w w'))
            case atStart => exact ⟨(y193), (0), EQ, H', ⟨Nat.le_refl _⟩, ⟨by (with_reducible repeat (first | apply Kd.fI | apply Kd.fJ | apply Kd.eu)); exact Kd.dY HO_4.out (fun _ hk => hk.2)⟩, ⟨by (with_reducible repeat (first | apply Kd.fI | apply Kd.fJ | apply Kd.eu)); exact Kd.dY HO195.out (fun _ hk => hk.2)⟩, ⟨BK⟩, ⟨BL⟩⟩
            case round =>
             clear H'
             try clear c5
             try clear c5b0
             try clear c16
             try clear c26
             try clear hcz7000_0
             try clear hcz7000_1
             try clear hcz7000_2
             try clear hfz7000_0
             try clear hfz7000_1
             try clear hfz7000_2
             obtain ⟨x7_5, x8_5, rfl, HA, HK5, HO_4, HO_7, BK184, HB⟩ := hrel
             cases gk with
             | zero => exact absurd HA.out (by simp [aN.l2])
             | succ k5 =>
              have H := HA.out
              clear HA
              simp only [aN.l2] at H
              replace H := ifD H; rcases H with ⟨c29b0, H⟩ | ⟨c29b0, H⟩
              ·replace H := ifP H; obtain ⟨c30, H⟩ := H
               have LMc30 := ah.mk c30
               clear c30
               obtain ⟨y196, hy196⟩ : ∃ y_ : List Bool, y_ = (x7_5 ++ [false]) := ⟨_, rfl⟩
               replace H : (aN.l2 k5 (wrap64 (x3_2 + 1)) x4_2 x6_2 y196 (wrap64 (x8_5 + 1)) FV FW FX) = some r := by first | (rw [hy196]; with_reducible exact H) | (have H2_ := (Option.bind_some _ _).symm.trans H; rw [hy196]; with_reducible exact H2_) | (have H2_ := (Option.bind_some _ _).symm.trans H; with_reducible exact H2_) | with_reducible exact H | (rw [hy196]; exact H) | exact H
               have Ny196 := ah.mk hy196
               clear hy196
               have H' := ah.mk H
               clear H
               obtain ⟨Ao7006, co7006, eo7006⟩ := Kd.dL HO_4.out
               subst eo7006
               go_wp2_with (first | ((with_reducible refine dQ (b := .append) (xs := #[.tmp 53, .tmp 54]) rfl ?_); at_builtin; refine Kd.gU Kd.bool (w0 := w) w.heap.size rfl (.tmp 53) (.tmp 54) 165 4 (.bool false) 1 rfl Tryz.underlying165 Ej rfl (by decide) (by omega) u7 x7_5 false [.bool false] (fun k_ => some k_ ≠ (.slice Ao7006 x4_2.length co7006 : Value).ownBlock) (fun _ => False) rfl rfl ?aP (fun _ hk => hk.elim) ?aF ?aO ?aB ?aS ?aL ?_; (case aP => exact rfl); (case aB => exact BL); (case aF => exact (fun k_ hk => Kd.fresh' (Kd.qb (RR HO_4)) k_ hk)); (case aO => exact (RR HO_7)); (case aS => exact (aQ BL)); (case aL => have := LMc30.out; omega); intro v197 w7007 ho hb hg hat; rw [← Ny196.out] at ho; have n0_ := ah.mk (Kd.qJ (ok := (fun _ => True)) (by (with_reducible repeat (first | apply Kd.fI | apply Kd.fJ | apply Kd.eu)); exact Kd.dY HO_4.out (fun _ hk => ⟨trivial, hk⟩)) hg hat); have n1_ := ah.mk (d9 (g := gb184) (o := .cells #[.int .i64 FV, .int .i64 FW, .string FX] 32 (0, 0)) BK hg (Kd.mg HO_7.out BK184.out (by decide))); have n2_ := ah.mk (hb); have n3_ := ah.mk (ho); clear HO_4 BK184 HB HO_7; have HO_4 := n0_; have BK184 := n1_; have HB := n2_; have HO198 := n3_; clear n0_ n1_ n2_ n3_; clear ho hb hg hat))
               go_roundg k5
               case measure => have := HK1.out; have := HK2.out; have := HJ9.out; have := HJ16.out; have := HK5.out; omega
               case rel => exact ⟨(y196), (wrap64 (x8_5 + 1)), EQ, H', ⟨by have := HK1.out; have := HK2.out; have := HJ9.out; have := HJ16.out; have := HK5.out; omega⟩, ⟨by (with_reducible repeat (first | apply Kd.fI | apply Kd.fJ | apply Kd.eu)); exact Kd.dY HO_4.out (fun _ hk => hk.2)⟩, ⟨(RR HO198)⟩, ⟨BK⟩, ⟨BL⟩⟩
              ·replace H := be H; obtain ⟨t199, A33, H⟩ := H
               have H' := ah.mk H
               clear H
               obtain ⟨Ao7006, co7006, eo7006⟩ := Kd.dL HO_4.out
               subst eo7006
               obtain ⟨hcz7007_0, hcz7007_1, hcz7007_2, hfz7007_0, hfz7007_1, hfz7007_2⟩ := cz3 BK184.out
               obtain ⟨Ao7008, co7008, eo7008⟩ := Kd.dL HO_7.out
               subst eo7008
               go_wp2_with (first | ((with_reducible refine ay (f := 189) rfl ?_); refine bE (some 59) Tryz.func189 #[.agg #[.int .i64 FV, .int .i64 FW, .string FX], .slice Ao7008 x7_5.length co7008, .int .i64 x6_2] ?_; (with_reducible refine (jJ.calls k5 FV FW FX (fun k_ => some k_ = (.slice Ao7008 x7_5.length co7008 : Value).ownBlock) (.slice Ao7008 x7_5.length co7008) x7_5 x6_2 t199 w _ ?side1 ?side2 A33.out).mono ?_); (case side1 => exact BL); (case side2 => exact Kd.yB rfl HO_7.out); rintro e w7009 ⟨v200, rfl, ho0, hb, hkp⟩; refine ⟨_, rfl, ?_⟩; have n0_ := ah.mk (Kd.dY (ok' := fun k_ => some k_ ≠ (v200 : Value).ownBlock) (Kd.D6 (HO_4.out) hkp (fun k_ hk_ hs_ => (hk_) hs_)) (fun k_ hk_ => fun e_ => Or.elim (ho0.1 k_ e_.symm) (fun hs_ => hk_.2.1 hs_) (fun hn_ => Nat.not_le.2 hk_.2.2 hn_))); have n1_ := ah.mk (Cz BK hkp (fun hs_ => (fun e_ => (Kd.mg HO_7.out BK184.out (by decide)) e_) hs_)); have n2_ := ah.mk (Kd.dY (ok' := fun k_ => some k_ ≠ (.slice Ao7006 x4_2.length co7006 : Value).ownBlock) ho0 (fun k_ hk_ => Or.elim hk_ (fun hs_ => fun e_ => (((HO_4.out).1 k_ e_.symm)) hs_) (fun hn_ => (Kd.fresh' (Kd.qb (RR HO_4)) k_ hn_)))); have n3_ := ah.mk (hb); clear HO_4 BK184 HB HO_7; have HO_4 := n0_; have BK184 := n1_; have HO201 := n2_; have HB := n3_; clear n0_ n1_ n2_ n3_; (try clear hb); (try clear hkp); (try clear ho0)))
               go_loopg [9] k5 (fun kq v9 w' => ∃ (x4_6 : List Bool) (x9_6 : Int), v9 = .int .i64 x9_6 ∧ ah (aN.l3 kq (wrap64 (x3_2 + 1)) x4_6 x6_2 t199 x9_6 FV FW FX = some r) ∧ ah (kq ≤ k5) ∧ ah (Kd.R Kd.bool 4 w' w.heap.size (fun k_ => some k_ ≠ (v200 : Value).ownBlock) (.slice Ao7006 x4_2.length co7006) x4_6) ∧ ah (Kd.R Kd.bool 4 w' w.heap.size (fun k_ => some k_ ≠ ((.slice Ao7006 x4_2.length co7006) : Value).ownBlock) v200 t199) ∧ ah (w'.heap[gb184]? = some (.cells #[.int .i64 FV, .int .i64 FW, .string FX] 32 (0, 0))) ∧ ah (Below w.heap.size w w'))
               case atStart => exact ⟨(x4_2), (0), EQ, H', ⟨Nat.le_refl _⟩, ⟨(RR HO_4)⟩, ⟨(RR HO201)⟩, ⟨BK⟩, ⟨BL⟩⟩
               case round =>
                clear H'
                try clear c5
                try clear c5b0
                try clear c16
                try clear c26
                try clear c29
                try clear c29b0
                try clear hcz7007_0
                try clear hcz7007_1
                try clear hcz7007_2
                try clear hcz7000_0
                try clear hcz7000_1
                try clear hcz7000_2
                try clear hfz7007_0
                try clear hfz7007_1
                try clear hfz7007_2
                try clear hfz7000_0
                try clear hfz7000_1
                try clear hfz7000_2
                obtain ⟨x4_6, x9_6, rfl, HA, HK6, HO_4, HO_7, BK184, HB⟩ := hrel
                have hl4_6 := (Kd.bP HO_4.out).1
                rw [hl4_6] at HO_4
                (try simp only [hl4_6])
                (try simp only [hl4_6] at BK184)
                (try simp only [hl4_6] at HO_7)
                cases gk with
                | zero => exact absurd HA.out (by simp [aN.l3])
                | succ k6 =>
                 have H := HA.out
                 clear HA
                 simp only [aN.l3] at H
                 replace H := ifD H; rcases H with ⟨c38b0, H⟩ | ⟨c38b0, H⟩
                 ·replace H := ifN H; obtain ⟨c39b0, H⟩ := H
                  obtain ⟨bq40, hbq40⟩ : ∃ b_ : Bool, b_ = (fA false x4_6 x9_6) := ⟨_, rfl⟩
                  replace H : (if bq40 = true then (aN.l3 k6 (wrap64 (x3_2 + 1)) (x4_6.set (x9_6 : Int).toNat true) x6_2 t199 (wrap64 (x9_6 + 1)) FV FW FX) else (if x9_6 < (t199.length : Int) then (aN.l3 k6 (wrap64 (x3_2 + 1)) (x4_6.set (x9_6 : Int).toNat (fA false t199 x9_6)) x6_2 t199 (wrap64 (x9_6 + 1)) FV FW FX) else (none))) = some r := by rw [← hbq40] at H; exact H
                  have Nbq40 := ah.mk hbq40
                  clear hbq40
                  by_cases c41 : bq40 = true
                  ·subst c41
                   rw [if_pos rfl] at H
                   obtain ⟨y203, hy203⟩ : ∃ y_ : List Bool, y_ = (x4_6.set (x9_6 : Int).toNat true) := ⟨_, rfl⟩
                   replace H : (aN.l3 k6 (wrap64 (x3_2 + 1)) y203 x6_2 t199 (wrap64 (x9_6 + 1)) FV FW FX) = some r := by first | (rw [hy203]; with_reducible exact H) | (have H2_ := (Option.bind_some _ _).symm.trans H; rw [hy203]; with_reducible exact H2_) | (have H2_ := (Option.bind_some _ _).symm.trans H; with_reducible exact H2_) | with_reducible exact H | (rw [hy203]; exact H) | exact H
                   have Ny203 := ah.mk hy203
                   clear hy203
                   have H' := ah.mk H
                   clear H
                   have p202 : 0 ≤ (x9_6 : Int) := OD
                   have q202 : x9_6 < (x4_6.length : Int) := OD
                   obtain ⟨ad202, e202, hx202_0⟩ := Kd.vw (Kd.bP HO_4.out).2.2 x9_6 p202 q202
                   (try rw [← Nbq40.out] at hx202_0)
                   cases e202
                   replace p202 := eq_true p202
                   replace q202 := eq_true q202
                   have p42 : 0 ≤ (x9_6 : Int) := OD
                   have q42 : (x9_6 : Int) < ((x4_6.length : Int) : Int) := OD
                   obtain ⟨go42, co7010, eo7010, gb42, gl42, cl42, HG42⟩ := Kd.qm HO_4.out (by omega)
                   (first | cases eo7010 | (injection eo7010 with ea_ en_ ec_; (first | subst ea_ | (injection ea_ with ea_; subst ea_)); subst ec_; clear en_))
                   have GB42 := ah.mk gb42
                   have GG42 := ah.mk HG42
                   clear gb42 gl42 HG42
                   (first | simp only [add_plain] at hx202_0 | skip)
                   obtain ⟨hx42_0, hf42_0⟩ := Kd.mo false HO_4.out (x9_6 : Int) p42 q42
                   replace p42 := eq_true p42
                   replace q42 := eq_true q42
                   have HP43 := Kd.uz HO_4.out (x9_6 : Int) true
                   go_wp2_with (first | ((with_reducible refine jZ (t := 4) (p := 78) rfl ?_); refine jC (t := 4) (p := 78) (v := ?vo_w44) (w1 := (wr.setCell ⟨go42, (x9_6 : Int).toNat, none⟩ (.bool true))) ?hg ?ho ?hn ?hr ?_; (case ho => rfl); (case hg => rfl); (case hn => rfl); (case hr => first | (go_simp; done) | (go_simp; rfl)); intro w7011 hw; have hg : wr.grownBy w7011 (some go42) := (by rw [hw]; exact HP43.2); have hp_ : Kd.R Kd.bool 4 w7011 w.heap.size (fun k_ => some k_ ≠ (v200 : Value).ownBlock) (.slice (some ⟨go42, 0, none⟩) x4_6.length co7006) y203 := (by rw [hw, Ny203.out]; exact HP43.1); clear HP43; have n0_ := ah.mk (hp_); have n1_ := ah.mk (Kd.qJ (v := (.slice (some ⟨go42, 0, none⟩) x4_6.length co7006)) (v1 := (.slice (some ⟨go42, 0, none⟩) x4_6.length co7006)) (ok := (fun _ => True)) (by (with_reducible repeat (first | apply Kd.fI | apply Kd.fJ | apply Kd.eu)); exact Kd.dY HO_7.out (fun _ hk => ⟨trivial, hk⟩)) hg (.inl rfl)); have n2_ := ah.mk (d9 (g := gb184) (o := .cells #[.int .i64 FV, .int .i64 FW, .string FX] 32 (0, 0)) BK hg (Kd.mg HO_4.out BK184.out (by decide))); have n3_ := ah.mk ((by rw [hw]; exact gZ (HB.out) GB42.out : Below w.heap.size w w7011)); clear HO_4 HO_7 BK184 HB; have HO_4 := n0_; have HO_7 := n1_; have BK184 := n2_; have HB := n3_; clear n0_ n1_ n2_ n3_; clear hg hw hp_))
                   (try simp only [← hl4_6])
                   go_roundg k6
                   case measure => have := HK1.out; have := HK2.out; have := HJ9.out; have := HJ16.out; have := HK5.out; have := HK6.out; omega
                   case rel => exact ⟨(y203), (wrap64 (x9_6 + 1)), EQ, H', ⟨by have := HK1.out; have := HK2.out; have := HJ9.out; have := HJ16.out; have := HK5.out; have := HK6.out; omega⟩, ⟨by (try simp only [hl4_6]); (with_reducible repeat (first | apply Kd.fI | apply Kd.fJ | apply Kd.eu)); exact HO_4.out⟩, ⟨by (try simp only [hl4_6]); (with_reducible repeat (first | apply Kd.fI | apply Kd.fJ | apply Kd.eu)); exact Kd.dY HO_7.out (fun _ hk => hk.2)⟩, ⟨by (try simp only [hl4_6]); (with_reducible repeat (first | refine aG ?_ _ | refine aH ?_ | refine aD ?_ _)); exact BK184.out⟩, ⟨BL⟩⟩
                  ·replace c41 := Bool.eq_false_iff.mpr c41
                   subst c41
                   rw [if_neg Bool.false_ne_true] at H
                   replace H := ifN H; obtain ⟨c45b0, H⟩ := H
                   obtain ⟨y205, hy205⟩ : ∃ y_ : List Bool, y_ = (x4_6.set (x9_6 : Int).toNat (fA false t199 x9_6)) := ⟨_, rfl⟩
                   replace H : (aN.l3 k6 (wrap64 (x3_2 + 1)) y205 x6_2 t199 (wrap64 (x9_6 + 1)) FV FW FX) = some r := by first | (rw [hy205]; with_reducible exact H) | (have H2_ := (Option.bind_some _ _).symm.trans H; rw [hy205]; with_reducible exact H2_) | (have H2_ := (Option.bind_some _ _).symm.trans H; with_reducible exact H2_) | with_reducible exact H | (rw [hy205]; exact H) | exact H
                   have Ny205 := ah.mk hy205
                   clear hy205
                   have H' := ah.mk H
                   clear H
                   have p202 : 0 ≤ (x9_6 : Int) := OD
                   have q202 : x9_6 < (x4_6.length : Int) := OD
                   obtain ⟨ad202, e202, hx202_0⟩ := Kd.vw (Kd.bP HO_4.out).2.2 x9_6 p202 q202
                   (try rw [← Nbq40.out] at hx202_0)
                   cases e202
                   replace p202 := eq_true p202
                   replace q202 := eq_true q202
                   obtain ⟨Ao7010, co7010, eo7010⟩ := Kd.dL HO_7.out
                   subst eo7010
                   have p204 : 0 ≤ (x9_6 : Int) := OD
                   have q204 : x9_6 < (t199.length : Int) := OD
                   obtain ⟨ad204, e204, hx204_0⟩ := Kd.vw (Kd.bP HO_7.out).2.2 x9_6 p204 q204
                   (try rw [← Nbq40.out] at hx204_0)
                   cases e204
                   replace p204 := eq_true p204
                   replace q204 := eq_true q204
                   have p46 : 0 ≤ (x9_6 : Int) := OD
                   have q46 : (x9_6 : Int) < ((x4_6.length : Int) : Int) := OD
                   obtain ⟨go46, co7011, eo7011, gb46, gl46, cl46, HG46⟩ := Kd.qm HO_4.out (by omega)
                   (first | cases eo7011 | (injection eo7011 with ea_ en_ ec_; (first | subst ea_ | (injection ea_ with ea_; subst ea_)); subst ec_; clear en_))
                   have GB46 := ah.mk gb46
                   have GG46 := ah.mk HG46
                   clear gb46 gl46 HG46
                   (first | simp only [add_plain] at hx202_0 | skip)
                   obtain ⟨hx46_0, hf46_0⟩ := Kd.mo false HO_4.out (x9_6 : Int) p46 q46
                   replace p46 := eq_true p46
                   replace q46 := eq_true q46
                   have HP48 := Kd.uz HO_4.out (x9_6 : Int) (fA false t199 x9_6)
                   go_wp2_with (first | ((with_reducible refine jZ (t := 4) (p := 78) rfl ?_); refine jC (t := 4) (p := 78) (v := ?vo_w49) (w1 := (wr.setCell ⟨go46, (x9_6 : Int).toNat, none⟩ (.bool (fA false t199 x9_6)))) ?hg ?ho ?hn ?hr ?_; (case ho => rfl); (case hg => rfl); (case hn => rfl); (case hr => first | (go_simp; done) | (go_simp; rfl)); intro w7012 hw; have hg : wr.grownBy w7012 (some go46) := (by rw [hw]; exact HP48.2); have hp_ : Kd.R Kd.bool 4 w7012 w.heap.size (fun k_ => some k_ ≠ (.slice (some ad204) t199.length co7010 : Value).ownBlock) (.slice (some ⟨go46, 0, none⟩) x4_6.length co7006) y205 := (by rw [hw, Ny205.out]; exact HP48.1); clear HP48; have n0_ := ah.mk (hp_); have n1_ := ah.mk (Kd.qJ (v := (.slice (some ⟨go46, 0, none⟩) x4_6.length co7006)) (v1 := (.slice (some ⟨go46, 0, none⟩) x4_6.length co7006)) (ok := (fun _ => True)) (by (with_reducible repeat (first | apply Kd.fI | apply Kd.fJ | apply Kd.eu)); exact Kd.dY HO_7.out (fun _ hk => ⟨trivial, hk⟩)) hg (.inl rfl)); have n2_ := ah.mk (d9 (g := gb184) (o := .cells #[.int .i64 FV, .int .i64 FW, .string FX] 32 (0, 0)) BK hg (Kd.mg HO_4.out BK184.out (by decide))); have n3_ := ah.mk ((by rw [hw]; exact gZ (HB.out) GB46.out : Below w.heap.size w w7012)); clear HO_4 HO_7 BK184 HB; have HO_4 := n0_; have HO_7 := n1_; have BK184 := n2_; have HB := n3_; clear n0_ n1_ n2_ n3_; clear hg hw hp_))
                   (try simp only [← hl4_6])
                   go_roundg k6
                   case measure => have := HK1.out; have := HK2.out; have := HJ9.out; have := HJ16.out; have := HK5.out; have := HK6.out; omega
                   case rel => exact ⟨(y205), (wrap64 (x9_6 + 1)), EQ, H', ⟨by have := HK1.out; have := HK2.out; have := HJ9.out; have := HJ16.out; have := HK5.out; have := HK6.out; omega⟩, ⟨by (try simp only [hl4_6]); (with_reducible repeat (first | apply Kd.fI | apply Kd.fJ | apply Kd.eu)); exact HO_4.out⟩, ⟨by (try simp only [hl4_6]); (with_reducible repeat (first | apply Kd.fI | apply Kd.fJ | apply Kd.eu)); exact Kd.dY HO_7.out (fun _ hk => hk.2)⟩, ⟨by (try simp only [hl4_6]); (with_reducible repeat (first | refine aG ?_ _ | refine aH ?_ | refine aD ?_ _)); exact BK184.out⟩, ⟨BL⟩⟩
                 ·have H' := ah.mk H
                  clear H
                  go_wp2
                  (try simp only [← hl4_6])
                  go_roundg k6
                  case measure => have := HK1.out; have := HK2.out; have := HJ9.out; have := HJ16.out; have := HK5.out; have := HK6.out; omega
                  case rel => exact ⟨((wrap64 (x3_2 + 1))), (x4_6), (wrap64 (x6_2 + 1)), EQ, EQ, H', ⟨by have := HK1.out; have := HK2.out; have := HJ9.out; have := HJ16.out; have := HK5.out; have := HK6.out; omega⟩, ⟨by (try simp only [hl4_6]); (with_reducible repeat (first | apply Kd.fI | apply Kd.fJ | apply Kd.eu)); exact Kd.dY HO_4.out (fun _ hk => trivial)⟩, ⟨by (try simp only [hl4_6]); (with_reducible repeat (first | refine aG ?_ _ | refine aH ?_ | refine aD ?_ _)); exact BK184.out⟩, ⟨BL⟩⟩
           ·have H' := ah.mk H
            clear H
            go_wp2
            go_roundg kj16
            case measure => have := HK1.out; have := HK2.out; have := HJ9.out; have := HJ16.out; omega
            case rel => exact ⟨(x3_2), (x4_2), (wrap64 (x6_2 + 1)), EQ, EQ, H', ⟨by have := HK1.out; have := HK2.out; have := HJ9.out; have := HJ16.out; omega⟩, ⟨(RR HO_4)⟩, ⟨BK⟩, ⟨BL⟩⟩
        ·obtain rfl := Option.some.inj H
         go_wp2
         go_ret
         exact ⟨EWW, BL⟩
def iT.f (k : Nat) (FV FW : Int) (FX : ByteArray) : Option (Bool) := (aN.f k FV FW FX).bind fun t207 => (some (t207 == 1))
theorem iT.calls (k : Nat) (FV FW : Int) (FX : ByteArray) (r : Bool) (w : World) (h : iT.f k FV FW FX = some r) :
  Calls Tryz.prog 98 #[.agg #[.int .i64 FV, .int .i64 FW, .string FX]] w fun e w' => e = .returned (.bool r) ∧ Below w.heap.size w w' := by
 have hu32 := Tryz.underlying32
 have HB := ah.mk (Below.refl w.heap.size w)
 unfold iT.f at h
 have H := h
 clear h
 replace H := be H; obtain ⟨t207, A2, H⟩ := H
 obtain rfl := Option.some.inj H
 go_enter Tryz.func98, Tryz.ntmps98
 go_wp2_with (first | ((with_reducible refine aJ (N := 1) rfl ?_); refine bg (N := 1) (cs := #[.int .i64 FV, .int .i64 FW, .string FX]) (t := 32) ?_; intro gb206 hg w3 hbox hb; have BK206 := ah.mk hbox; have GW206 := SZ (w := w) hg; have GE206 := GW206; replace HB := BS (w := w) hb; clear hb hbox hg; obtain ⟨hcz4_0, hcz4_1, hcz4_2, hfz4_0, hfz4_1, hfz4_2⟩ := cz3 BK206.out) | ((with_reducible refine ay (f := 154) rfl ?_); refine bE (some 4) Tryz.func154 #[.agg #[.int .i64 FV, .int .i64 FW, .string FX]] ?_; (with_reducible refine (aN.calls k FV FW FX t207 _ A2.out).mono ?_); rintro e w5 ⟨rfl, hb⟩; refine ⟨_, rfl, ?_⟩; replace BK206 := KB BK206 hb; replace HB := BS (w := w) hb; (try clear hb)))
 go_ret
 exact ⟨EWW, BL⟩
theorem Ez (d : Nat) (w : World) (x0 y0 : Int) (x1 y1 : Bool) (x2 y2 : Int) (x3 y3 : Int) :
  (Op.equalIn (d + 2) 115 (.agg #[.int .i64 x0, .bool x1, .int .i64 x2, .int .i64 x3]) (.agg #[.int .i64 y0, .bool y1, .int .i64 y2, .int .i64 y3])).run Tryz.prog w = .ok (x0 == y0 && (x1 == y1 && (x2 == y2 && (x3 == y3)))) w := by
 refine zN Tryz.underlying115 (by kernel_rfl) ?_
 refine o9 (by rfl) (by go_simp; rfl) (by go_simp; rfl) (by go_simp) ?_
 refine o9 (by rfl) (by go_simp; rfl) (by go_simp; rfl) (by go_simp) ?_
 refine o9 (by rfl) (by go_simp; rfl) (by go_simp; rfl) (by go_simp) ?_
 exact wF (by rfl) (by go_simp; rfl) (by go_simp; rfl) (by go_simp)
attribute [local go_sem high] Ez
mutual
def bK.l0 : Nat → List Int → List (dJ) → Int → Int → Int → ByteArray → Int → Bool → Int → Int → Option (List Int)
 | 0, _, _, _, _, _, _, _, _, _, _ => none
 | k + 1, a, b, c, d, e, f, g, h, i, j => if c < (b.length : Int) then (if 0 ≤ c then (if (!(((aM b c).f0) == g) || (!(((aM b c).f1) == h) || (!(((aM b c).f2) == i) || (!(((aM b c).f3) == j))))) = true then (bK.l0 k a b (wrap64 (c + 1)) d e f g h i j) else (bK.l1 k a b c 0 d e f g h i j)) else (none)) else (some a)
def bK.l1 : Nat → List Int → List (dJ) → Int → Int → Int → Int → ByteArray → Int → Bool → Int → Int → Option (List Int)
 | 0, _, _, _, _, _, _, _, _, _, _, _ => none
 | k + 1, a, b, c, d, e, f, g, h, i, j, l => if d < l then (if i = true then (if a.length < 17592186044416 then (bK.l1 k (a ++ [wrap64 (j + (wrap64 (d * f)))]) b c (wrap64 (d + 1)) e f g h i j l) else (none)) else (if a.length < 17592186044416 then (bK.l1 k (a ++ [wrap64 (j + d)]) b c (wrap64 (d + 1)) e f g h i j l) else (none))) else (bK.l0 k a b (wrap64 (c + 1)) e f g h i j l)
end
def bK.f (k : Nat) (FV FW : Int) (FX : ByteArray) (FY : Int) (FZ : Bool) (F3 a1_3 : Int) : Option (List Int) := (aT.f k FV FW FX).bind fun t235 => (bK.l0 k (([] : List Int)) t235 0 FV FW FX FY FZ F3 a1_3)
theorem bK.calls (k : Nat) (FV FW : Int) (FX : ByteArray) (FY : Int) (FZ : Bool) (F3 a1_3 : Int) (r : List Int) (w : World) (h : bK.f k FV FW FX FY FZ F3 a1_3 = some r) :
  Calls Tryz.prog 125 #[.agg #[.int .i64 FV, .int .i64 FW, .string FX], .agg #[.int .i64 FY, .bool FZ, .int .i64 F3, .int .i64 a1_3]] w fun e w' => ∃ v0_ : Value, e = .returned (v0_) ∧ Kd.R (Kd.int .i64) 3 w' w.heap.size (fun _ => True) v0_ r ∧ Below w.heap.size w w' := by
 have hu32 := Tryz.underlying32
 have hu115 := Tryz.underlying115
 have HB := ah.mk (Below.refl w.heap.size w)
 unfold bK.f at h
 have H := h
 clear h
 obtain ⟨y232, hy232⟩ : ∃ y_ : List Int, y_ = (([] : List Int)) := ⟨_, rfl⟩
 replace H : ((aT.f k FV FW FX).bind fun t235 => (bK.l0 k y232 t235 0 FV FW FX FY FZ F3 a1_3)) = some r := by first | (rw [hy232]; with_reducible exact H) | (have H2_ := (Option.bind_some _ _).symm.trans H; rw [hy232]; with_reducible exact H2_) | (have H2_ := (Option.bind_some _ _).symm.trans H; with_reducible exact H2_) | with_reducible exact H | (rw [hy232]; exact H) | exact H
 have Ny232 := ah.mk hy232
 clear hy232
 replace H := be H; obtain ⟨t235, A3, H⟩ := H
 have H' := ah.mk H
 clear H
 go_enter Tryz.func125, Tryz.ntmps125
 repeat (go_wp2_with (first | ((with_reducible refine aJ (N := 2) rfl ?_); refine bg (N := 2) (cs := #[.int .i64 FV, .int .i64 FW, .string FX]) (t := 32) ?_; intro gb230 hg w4 hbox hb; have BK230 := ah.mk hbox; have GW230 := SZ (w := w) hg; have GE230 := GW230; replace HB := BS (w := w) hb; clear hb hbox hg) | ((with_reducible refine aJ (N := 3) rfl ?_); refine bg (N := 3) (cs := #[.int .i64 FY, .bool FZ, .int .i64 F3, .int .i64 a1_3]) (t := 115) ?_; intro gb231 hg w5 hbox hb; have n0_ := KB BK230 hb; have n1_ := BS (w := w) hb; have n2_ := ah.mk (hbox); have n3_ := SZ (w := w) hg; have n4_ := SZ (w := w) hg; have n5_ := NL BK230 hg; have n6_ := NG BK230 hg; clear BK230 HB; have BK230 := n0_; have HB := n1_; have BK231 := n2_; have GW231 := n3_; have GE231 := n4_; have NB230_231 := n5_; have NB231_230 := n6_; clear n0_ n1_ n2_ n3_ n4_ n5_ n6_; clear hb hbox hg) | ((with_reducible refine aJ (N := 9) rfl ?_); refine Kd.sK (Kd.int .i64) _ 3 ?hg (N := 9) ?hd (xs := ([] : List Int)) (inner := []) (ok := fun _ => True) (okp := fun _ => True) ?hr ?hp (fun _ hk => hk) trivial (Below.refl _ _) (Nat.le_refl _) (by simp) ?_; (case hd => rfl); (case hg => rfl); (case hr => first | (go_simp; done) | (go_simp; rfl)); (case hp => exact (gX.none _ _)); intro v233 w6 ho7 hb hg_ hnew_; clear hg_ hnew_; (first | rw [← Ny232.out] at ho7 | (simp only [Int.reduceToNat] at ho7; rw [← Ny232.out] at ho7)); have n0_ := ah.mk (Kd.cO ho7 (aQ BL)); replace BK230 := KB BK230 hb; replace BK231 := KB BK231 hb; replace HB := BS (w := w) hb; have HO234 := n0_; clear n0_; clear hb ho7; have hnb8 := NB230_231.out; have hnc8 := NB231_230.out; obtain ⟨hcz9_0, hcz9_1, hcz9_2, hfz9_0, hfz9_1, hfz9_2⟩ := cz3 BK230.out) | (go_at_call 49; (with_reducible refine (aT.calls k FV FW FX t235 _ A3.out).mono ?_); rintro e w10 ⟨v236, rfl, ho0, hb⟩; have n1_ := ah.mk (Kd.cO (Kd.Ai ho0 (g := gb231) (o := .cells #[.int .i64 FY, .bool FZ, .int .i64 F3, .int .i64 a1_3] 115 (0, 0)) BK) (aQ BL)); replace HO234 := RB HO234 hb; replace BK230 := KB BK230 hb; replace BK231 := KB BK231 hb; replace HB := BS (w := w) hb; have HO237 := n1_; clear n1_; (try clear hb); (try clear hk); (try clear ho0))); go_quiet (first | ((with_reducible refine aJ (N := 2) rfl ?_); refine bg (N := 2) (cs := #[.int .i64 FV, .int .i64 FW, .string FX]) (t := 32) ?_; intro gb230 hg w4 hbox hb; have BK230 := ah.mk hbox; have GW230 := SZ (w := w) hg; have GE230 := GW230; replace HB := BS (w := w) hb; clear hb hbox hg) | ((with_reducible refine aJ (N := 3) rfl ?_); refine bg (N := 3) (cs := #[.int .i64 FY, .bool FZ, .int .i64 F3, .int .i64 a1_3]) (t := 115) ?_; intro gb231 hg w5 hbox hb; have n0_ := KB BK230 hb; have n1_ := BS (w := w) hb; have n2_ := ah.mk (hbox); have n3_ := SZ (w := w) hg; have n4_ := SZ (w := w) hg; have n5_ := NL BK230 hg; have n6_ := NG BK230 hg; clear BK230 HB; have BK230 := n0_; have HB := n1_; have BK231 := n2_; have GW231 := n3_; have GE231 := n4_; have NB230_231 := n5_; have NB231_230 := n6_; clear n0_ n1_ n2_ n3_ n4_ n5_ n6_; clear hb hbox hg) | ((with_reducible refine aJ (N := 9) rfl ?_); refine Kd.sK (Kd.int .i64) _ 3 ?hg (N := 9) ?hd (xs := ([] : List Int)) (inner := []) (ok := fun _ => True) (okp := fun _ => True) ?hr ?hp (fun _ hk => hk) trivial (Below.refl _ _) (Nat.le_refl _) (by simp) ?_; (case hd => rfl); (case hg => rfl); (case hr => first | (go_simp; done) | (go_simp; rfl)); (case hp => exact (gX.none _ _)); intro v233 w6 ho7 hb hg_ hnew_; clear hg_ hnew_; (first | rw [← Ny232.out] at ho7 | (simp only [Int.reduceToNat] at ho7; rw [← Ny232.out] at ho7)); have n0_ := ah.mk (Kd.cO ho7 (aQ BL)); replace BK230 := KB BK230 hb; replace BK231 := KB BK231 hb; replace HB := BS (w := w) hb; have HO234 := n0_; clear n0_; clear hb ho7; have hnb8 := NB230_231.out; have hnc8 := NB231_230.out; obtain ⟨hcz9_0, hcz9_1, hcz9_2, hfz9_0, hfz9_1, hfz9_2⟩ := cz3 BK230.out) | (go_at_call 49; (with_reducible refine (aT.calls k FV FW FX t235 _ A3.out).mono ?_); rintro e w10 ⟨v236, rfl, ho0, hb⟩; have n1_ := ah.mk (Kd.cO (Kd.Ai ho0 (g := gb231) (o := .cells #[.int .i64 FY, .bool FZ, .int .i64 F3, .int .i64 a1_3] 115 (0, 0)) BK) (aQ BL)); replace HO234 := RB HO234 hb; replace BK230 := KB BK230 hb; replace BK231 := KB BK231 hb; replace HB := BS (w := w) hb; have HO237 := n1_; clear n1_; (try clear hb); (try clear hk); (try clear ho0))))
 go_wp2_with (first | ((with_reducible refine aJ (N := 2) rfl ?_); refine bg (N := 2) (cs := #[.int .i64 FV, .int .i64 FW, .string FX]) (t := 32) ?_; intro gb230 hg w4 hbox hb; have BK230 := ah.mk hbox; have GW230 := SZ (w := w) hg; have GE230 := GW230; replace HB := BS (w := w) hb; clear hb hbox hg) | ((with_reducible refine aJ (N := 3) rfl ?_); refine bg (N := 3) (cs := #[.int .i64 FY, .bool FZ, .int .i64 F3, .int .i64 a1_3]) (t := 115) ?_; intro gb231 hg w5 hbox hb; have n0_ := KB BK230 hb; have n1_ := BS (w := w) hb; have n2_ := ah.mk (hbox); have n3_ := SZ (w := w) hg; have n4_ := SZ (w := w) hg; have n5_ := NL BK230 hg; have n6_ := NG BK230 hg; clear BK230 HB; have BK230 := n0_; have HB := n1_; have BK231 := n2_; have GW231 := n3_; have GE231 := n4_; have NB230_231 := n5_; have NB231_230 := n6_; clear n0_ n1_ n2_ n3_ n4_ n5_ n6_; clear hb hbox hg) | ((with_reducible refine aJ (N := 9) rfl ?_); refine Kd.sK (Kd.int .i64) _ 3 ?hg (N := 9) ?hd (xs := ([] : List Int)) (inner := []) (ok := fun _ => True) (okp := fun _ => True) ?hr ?hp (fun _ hk => hk) trivial (Below.refl _ _) (Nat.le_refl _) (by simp) ?_; (case hd => rfl); (case hg => rfl); (case hr => first | (go_simp; done) | (go_simp; rfl)); (case hp => exact (gX.none _ _)); intro v233 w6 ho7 hb hg_ hnew_; clear hg_ hnew_; (first | rw [← Ny232.out] at ho7 | (simp only [Int.reduceToNat] at ho7; rw [← Ny232.out] at ho7)); have n0_ := ah.mk (Kd.cO ho7 (aQ BL)); replace BK230 := KB BK230 hb; replace BK231 := KB BK231 hb; replace HB := BS (w := w) hb; have HO234 := n0_; clear n0_; clear hb ho7; have hnb8 := NB230_231.out; have hnc8 := NB231_230.out; obtain ⟨hcz9_0, hcz9_1, hcz9_2, hfz9_0, hfz9_1, hfz9_2⟩ := cz3 BK230.out) | (go_at_call 49; (with_reducible refine (aT.calls k FV FW FX t235 _ A3.out).mono ?_); rintro e w10 ⟨v236, rfl, ho0, hb⟩; have n1_ := ah.mk (Kd.cO (Kd.Ai ho0 (g := gb231) (o := .cells #[.int .i64 FY, .bool FZ, .int .i64 F3, .int .i64 a1_3] 115 (0, 0)) BK) (aQ BL)); replace HO234 := RB HO234 hb; replace BK230 := KB BK230 hb; replace BK231 := KB BK231 hb; replace HB := BS (w := w) hb; have HO237 := n1_; clear n1_; (try clear hb); (try clear hk); (try clear ho0)))
 go_loopg [5, 7] k (fun kq v5 v7 w' => ∃ (x5_1 : List Int) (x7_1 : Int), v7 = .int .i64 x7_1 ∧ ah (bK.l0 kq x5_1 t235 x7_1 FV FW FX FY FZ F3 a1_3 = some r) ∧ ah (kq ≤ k) ∧ ah (Kd.R (Kd.int .i64) 3 w' w.heap.size (fun _ => True) v5 x5_1) ∧ ah (Kd.R lW 115 w' w.heap.size (fun k_ => k_ ≠ gb231) v236 t235) ∧ ah (w'.heap[gb230]? = some (.cells #[.int .i64 FV, .int .i64 FW, .string FX] 32 (0, 0))) ∧ ah (w'.heap[gb231]? = some (.cells #[.int .i64 FY, .bool FZ, .int .i64 F3, .int .i64 a1_3] 115 (0, 0))) ∧ ah (Below w.heap.size w w'))
 case atStart => exact ⟨(y232), (0), EQ, H', ⟨Nat.le_refl _⟩, ⟨(RR HO234)⟩, ⟨by (with_reducible repeat (first | apply Kd.fI | apply Kd.fJ | apply Kd.eu)); exact Kd.dY HO237.out (fun _ hk => hk.2)⟩, ⟨BK⟩, ⟨BK⟩, ⟨BL⟩⟩
 case round =>
  clear H'
  try clear hcz9_0
  try clear hcz9_1
  try clear hcz9_2
  try clear hfz9_0
  try clear hfz9_1
  try clear hfz9_2
  obtain ⟨x5_1, x7_1, rfl, HA, HK1, HO_5, HO_6, BK230, BK231, HB⟩ := hrel
  cases gk with
  | zero => exact absurd HA.out (by simp [bK.l0])
  | succ k1 =>
   have H := HA.out
   clear HA
   simp only [bK.l0] at H
   obtain ⟨Ao7000, co7000, eo7000⟩ := Kd.dL HO_6.out
   subst eo7000
   replace H := ifD H; rcases H with ⟨c11b0, H⟩ | ⟨c11b0, H⟩
   ·replace H := ifN H; obtain ⟨c12b0, H⟩ := H
    have p238 : 0 ≤ (x7_1 : Int) := OD
    have q238 : x7_1 < (t235.length : Int) := OD
    obtain ⟨ad238, e238, hx238_0, hx238_1, hx238_2, hx238_3⟩ := nu (Kd.bP HO_6.out).2.2 x7_1 p238 q238
    cases e238
    replace p238 := eq_true p238
    replace q238 := eq_true q238
    have hnb7001 := NB231_230.out
    have hnc7001 := NB230_231.out
    obtain ⟨hcz7002_0, hcz7002_1, hcz7002_2, hcz7002_3, hfz7002_0, hfz7002_1, hfz7002_2, hfz7002_3⟩ := cz4 BK231.out
    by_cases c13 : (!(((aM t235 x7_1).f0) == FY) || (!(((aM t235 x7_1).f1) == FZ) || (!(((aM t235 x7_1).f2) == F3) || (!(((aM t235 x7_1).f3) == a1_3))))) = true
    ·rw [if_pos c13] at H
     have c13b0 : (!(((aM t235 x7_1).f0) == FY) || (!(((aM t235 x7_1).f1) == FZ) || (!(((aM t235 x7_1).f2) == F3) || (!(((aM t235 x7_1).f3) == a1_3))))) = true := c13
     clear c13
     have H' := ah.mk H
     clear H
     go_wp2
     repeat (go_quiet (fail); try go_wp2)
     go_roundg k1
     case measure => have := HK1.out; omega
     case rel => exact ⟨(x5_1), (wrap64 (x7_1 + 1)), EQ, H', ⟨by have := HK1.out; omega⟩, ⟨(RR HO_5)⟩, ⟨(RR HO_6)⟩, ⟨BK⟩, ⟨BK⟩, ⟨BL⟩⟩
    ·rw [if_neg c13] at H
     have c13b0 : (!(((aM t235 x7_1).f0) == FY) || (!(((aM t235 x7_1).f1) == FZ) || (!(((aM t235 x7_1).f2) == F3) || (!(((aM t235 x7_1).f3) == a1_3))))) = false := by simpa using c13
     clear c13
     have H' := ah.mk H
     clear H
     go_wp2
     repeat (go_quiet (fail); try go_wp2)
     go_loopg [5, 8] k1 (fun kq v5 v8 w' => ∃ (x5_2 : List Int) (x8_2 : Int), v8 = .int .i64 x8_2 ∧ ah (bK.l1 kq x5_2 t235 x7_1 x8_2 FV FW FX FY FZ F3 a1_3 = some r) ∧ ah (kq ≤ k1) ∧ ah (Kd.R (Kd.int .i64) 3 w' w.heap.size (fun _ => True) v5 x5_2) ∧ ah (Kd.R lW 115 w' w.heap.size (fun k_ => k_ ≠ gb231) (.slice (some ad238) t235.length co7000) t235) ∧ ah (w'.heap[gb230]? = some (.cells #[.int .i64 FV, .int .i64 FW, .string FX] 32 (0, 0))) ∧ ah (w'.heap[gb231]? = some (.cells #[.int .i64 FY, .bool FZ, .int .i64 F3, .int .i64 a1_3] 115 (0, 0))) ∧ ah (Below w.heap.size w w'))
     case atStart => exact ⟨(x5_1), (0), EQ, H', ⟨Nat.le_refl _⟩, ⟨(RR HO_5)⟩, ⟨(RR HO_6)⟩, ⟨BK⟩, ⟨BK⟩, ⟨BL⟩⟩
     case round =>
      clear H'
      try clear c11
      try clear c11b0
      try clear c12
      try clear c12b0
      try clear c13
      try clear c13b0
      try clear hcz7002_0
      try clear hcz7002_1
      try clear hcz7002_2
      try clear hcz7002_3
      try clear hcz9_0
      try clear hcz9_1
      try clear hcz9_2
      try clear hfz7002_0
      try clear hfz7002_1
      try clear hfz7002_2
      try clear hfz7002_3
      try clear hfz9_0
      try clear hfz9_1
      try clear hfz9_2
      try clear hx238_0
      try clear hx238_1
      try clear hx238_2
      try clear hx238_3
      try clear p238
      try clear q238
      obtain ⟨x5_2, x8_2, rfl, HA, HK2, HO_5, HO_6, BK230, BK231, HB⟩ := hrel
      cases gk with
      | zero => exact absurd HA.out (by simp [bK.l1])
      | succ k2 =>
       have H := HA.out
       clear HA
       simp only [bK.l1] at H
       replace H := ifD H; rcases H with ⟨c20b0, H⟩ | ⟨c20b0, H⟩
       ·by_cases c21 : FZ = true
        ·subst c21
         rw [if_pos rfl] at H
         replace H := ifP H; obtain ⟨c22, H⟩ := H
         have LMc22 := ah.mk c22
         clear c22
         obtain ⟨y239, hy239⟩ : ∃ y_ : List Int, y_ = (x5_2 ++ [wrap64 (F3 + (wrap64 (x8_2 * FW)))]) := ⟨_, rfl⟩
         replace H : (bK.l1 k2 y239 t235 x7_1 (wrap64 (x8_2 + 1)) FV FW FX FY true F3 a1_3) = some r := by first | (rw [hy239]; with_reducible exact H) | (have H2_ := (Option.bind_some _ _).symm.trans H; rw [hy239]; with_reducible exact H2_) | (have H2_ := (Option.bind_some _ _).symm.trans H; with_reducible exact H2_) | with_reducible exact H | (rw [hy239]; exact H) | exact H
         have Ny239 := ah.mk hy239
         clear hy239
         have H' := ah.mk H
         clear H
         have hnb7003 := NB231_230.out
         have hnc7003 := NB230_231.out
         obtain ⟨hcz7004_0, hcz7004_1, hcz7004_2, hcz7004_3, hfz7004_0, hfz7004_1, hfz7004_2, hfz7004_3⟩ := cz4 BK231.out
         obtain ⟨hcz7005_0, hcz7005_1, hcz7005_2, hfz7005_0, hfz7005_1, hfz7005_2⟩ := cz3 BK230.out
         repeat (go_wp2_with (first | ((with_reducible refine dQ (b := .append) (xs := #[.tmp 32, .tmp 40]) rfl ?_); at_builtin; refine Kd.gU (Kd.int .i64) (w0 := w) w.heap.size rfl (.tmp 32) (.tmp 40) 43 3 (.int .i64 0) 8 rfl Tryz.underlying43 info3 rfl (by decide) (by omega) u5 x5_2 (wrap64 (F3 + (wrap64 (x8_2 * FW)))) [.int .i64 (wrap64 (F3 + (wrap64 (x8_2 * FW))))] (fun _ => True) (fun _ => False) rfl rfl ?aP (fun _ hk => hk.elim) ?aF ?aO ?aB ?aS ?aL ?_; (case aP => exact rfl); (case aB => exact BL); (case aF => exact (fun _ _ => trivial)); (case aO => exact (RR HO_5)); (case aS => exact (aQ BL)); (case aL => have := LMc22.out; omega); intro v240 w7006 ho hb hg hat; rw [← Ny239.out] at ho; have n0_ := ah.mk (Kd.mX (RR HO_6) (Kd.mZ (RR HO_5)) (by decide) hg); have n1_ := ah.mk (d9 (g := gb230) (o := .cells #[.int .i64 FV, .int .i64 FW, .string FX] 32 (0, 0)) BK hg (Kd.mg HO_5.out BK230.out (by decide))); have n2_ := ah.mk (d9 (g := gb231) (o := .cells #[.int .i64 FY, .bool true, .int .i64 F3, .int .i64 a1_3] 115 (0, 0)) BK hg (Kd.mg HO_5.out BK231.out (by decide))); have n3_ := ah.mk (hb); have n4_ := ah.mk (ho); clear HO_6 BK230 BK231 HB HO_5; have HO_6 := n0_; have BK230 := n1_; have BK231 := n2_; have HB := n3_; have HO241 := n4_; clear n0_ n1_ n2_ n3_ n4_; clear ho hb hg hat)); go_quiet (first | ((with_reducible refine dQ (b := .append) (xs := #[.tmp 32, .tmp 40]) rfl ?_); at_builtin; refine Kd.gU (Kd.int .i64) (w0 := w) w.heap.size rfl (.tmp 32) (.tmp 40) 43 3 (.int .i64 0) 8 rfl Tryz.underlying43 info3 rfl (by decide) (by omega) u5 x5_2 (wrap64 (F3 + (wrap64 (x8_2 * FW)))) [.int .i64 (wrap64 (F3 + (wrap64 (x8_2 * FW))))] (fun _ => True) (fun _ => False) rfl rfl ?aP (fun _ hk => hk.elim) ?aF ?aO ?aB ?aS ?aL ?_; (case aP => exact rfl); (case aB => exact BL); (case aF => exact (fun _ _ => trivial)); (case aO => exact (RR HO_5)); (case aS => exact (aQ BL)); (case aL => have := LMc22.out; omega); intro v240 w7006 ho hb hg hat; rw [← Ny239.out] at ho; have n0_ := ah.mk (Kd.mX (RR HO_6) (Kd.mZ (RR HO_5)) (by decide) hg); have n1_ := ah.mk (d9 (g := gb230) (o := .cells #[.int .i64 FV, .int .i64 FW, .string FX] 32 (0, 0)) BK hg (Kd.mg HO_5.out BK230.out (by decide))); have n2_ := ah.mk (d9 (g := gb231) (o := .cells #[.int .i64 FY, .bool true, .int .i64 F3, .int .i64 a1_3] 115 (0, 0)) BK hg (Kd.mg HO_5.out BK231.out (by decide))); have n3_ := ah.mk (hb); have n4_ := ah.mk (ho); clear HO_6 BK230 BK231 HB HO_5; have HO_6 := n0_; have BK230 := n1_; have BK231 := n2_; have HB := n3_; have HO241 := n4_; clear n0_ n1_ n2_ n3_ n4_; clear ho hb hg hat)))
         go_wp2_with (first | ((with_reducible refine dQ (b := .append) (xs := #[.tmp 32, .tmp 40]) rfl ?_); at_builtin; refine Kd.gU (Kd.int .i64) (w0 := w) w.heap.size rfl (.tmp 32) (.tmp 40) 43 3 (.int .i64 0) 8 rfl Tryz.underlying43 info3 rfl (by decide) (by omega) u5 x5_2 (wrap64 (F3 + (wrap64 (x8_2 * FW)))) [.int .i64 (wrap64 (F3 + (wrap64 (x8_2 * FW))))] (fun _ => True) (fun _ => False) rfl rfl ?aP (fun _ hk => hk.elim) ?aF ?aO ?aB ?aS ?aL ?_; (case aP => exact rfl); (case aB => exact BL); (case aF => exact (fun _ _ => trivial)); (case aO => exact (RR HO_5)); (case aS => exact (aQ BL)); (case aL => have := LMc22.out; omega); intro v240 w7006 ho hb hg hat; rw [← Ny239.out] at ho; have n0_ := ah.mk (Kd.mX (RR HO_6) (Kd.mZ (RR HO_5)) (by decide) hg); have n1_ := ah.mk (d9 (g := gb230) (o := .cells #[.int .i64 FV, .int .i64 FW, .string FX] 32 (0, 0)) BK hg (Kd.mg HO_5.out BK230.out (by decide))); have n2_ := ah.mk (d9 (g := gb231) (o := .cells #[.int .i64 FY, .bool true, .int .i64 F3, .int .i64 a1_3] 115 (0, 0)) BK hg (Kd.mg HO_5.out BK231.out (by decide))); have n3_ := ah.mk (hb); have n4_ := ah.mk (ho); clear HO_6 BK230 BK231 HB HO_5; have HO_6 := n0_; have BK230 := n1_; have BK231 := n2_; have HB := n3_; have HO241 := n4_; clear n0_ n1_ n2_ n3_ n4_; clear ho hb hg hat))
         go_roundg k2
         case measure => have := HK1.out; have := HK2.out; omega
         case rel => exact ⟨(y239), (wrap64 (x8_2 + 1)), EQ, H', ⟨by have := HK1.out; have := HK2.out; omega⟩, ⟨(RR HO241)⟩, ⟨(RR HO_6)⟩, ⟨BK⟩, ⟨BK⟩, ⟨BL⟩⟩
        ·replace c21 := Bool.eq_false_iff.mpr c21
         subst c21
         rw [if_neg Bool.false_ne_true] at H
         replace H := ifP H; obtain ⟨c27, H⟩ := H
         have LMc27 := ah.mk c27
         clear c27
         obtain ⟨y242, hy242⟩ : ∃ y_ : List Int, y_ = (x5_2 ++ [wrap64 (F3 + x8_2)]) := ⟨_, rfl⟩
         replace H : (bK.l1 k2 y242 t235 x7_1 (wrap64 (x8_2 + 1)) FV FW FX FY false F3 a1_3) = some r := by first | (rw [hy242]; with_reducible exact H) | (have H2_ := (Option.bind_some _ _).symm.trans H; rw [hy242]; with_reducible exact H2_) | (have H2_ := (Option.bind_some _ _).symm.trans H; with_reducible exact H2_) | with_reducible exact H | (rw [hy242]; exact H) | exact H
         have Ny242 := ah.mk hy242
         clear hy242
         have H' := ah.mk H
         clear H
         have hnb7003 := NB231_230.out
         have hnc7003 := NB230_231.out
         obtain ⟨hcz7004_0, hcz7004_1, hcz7004_2, hcz7004_3, hfz7004_0, hfz7004_1, hfz7004_2, hfz7004_3⟩ := cz4 BK231.out
         repeat (go_wp2_with (first | ((with_reducible refine dQ (b := .append) (xs := #[.tmp 42, .tmp 47]) rfl ?_); at_builtin; refine Kd.gU (Kd.int .i64) (w0 := w) w.heap.size rfl (.tmp 42) (.tmp 47) 43 3 (.int .i64 0) 8 rfl Tryz.underlying43 info3 rfl (by decide) (by omega) u5 x5_2 (wrap64 (F3 + x8_2)) [.int .i64 (wrap64 (F3 + x8_2))] (fun _ => True) (fun _ => False) rfl rfl ?aP (fun _ hk => hk.elim) ?aF ?aO ?aB ?aS ?aL ?_; (case aP => exact rfl); (case aB => exact BL); (case aF => exact (fun _ _ => trivial)); (case aO => exact (RR HO_5)); (case aS => exact (aQ BL)); (case aL => have := LMc27.out; omega); intro v243 w7005 ho hb hg hat; rw [← Ny242.out] at ho; have n0_ := ah.mk (Kd.mX (RR HO_6) (Kd.mZ (RR HO_5)) (by decide) hg); have n1_ := ah.mk (d9 (g := gb230) (o := .cells #[.int .i64 FV, .int .i64 FW, .string FX] 32 (0, 0)) BK hg (Kd.mg HO_5.out BK230.out (by decide))); have n2_ := ah.mk (d9 (g := gb231) (o := .cells #[.int .i64 FY, .bool false, .int .i64 F3, .int .i64 a1_3] 115 (0, 0)) BK hg (Kd.mg HO_5.out BK231.out (by decide))); have n3_ := ah.mk (hb); have n4_ := ah.mk (ho); clear HO_6 BK230 BK231 HB HO_5; have HO_6 := n0_; have BK230 := n1_; have BK231 := n2_; have HB := n3_; have HO244 := n4_; clear n0_ n1_ n2_ n3_ n4_; clear ho hb hg hat)); go_quiet (first | ((with_reducible refine dQ (b := .append) (xs := #[.tmp 42, .tmp 47]) rfl ?_); at_builtin; refine Kd.gU (Kd.int .i64) (w0 := w) w.heap.size rfl (.tmp 42) (.tmp 47) 43 3 (.int .i64 0) 8 rfl Tryz.underlying43 info3 rfl (by decide) (by omega) u5 x5_2 (wrap64 (F3 + x8_2)) [.int .i64 (wrap64 (F3 + x8_2))] (fun _ => True) (fun _ => False) rfl rfl ?aP (fun _ hk => hk.elim) ?aF ?aO ?aB ?aS ?aL ?_; (case aP => exact rfl); (case aB => exact BL); (case aF => exact (fun _ _ => trivial)); (case aO => exact (RR HO_5)); (case aS => exact (aQ BL)); (case aL => have := LMc27.out; omega); intro v243 w7005 ho hb hg hat; rw [← Ny242.out] at ho; have n0_ := ah.mk (Kd.mX (RR HO_6) (Kd.mZ (RR HO_5)) (by decide) hg); have n1_ := ah.mk (d9 (g := gb230) (o := .cells #[.int .i64 FV, .int .i64 FW, .string FX] 32 (0, 0)) BK hg (Kd.mg HO_5.out BK230.out (by decide))); have n2_ := ah.mk (d9 (g := gb231) (o := .cells #[.int .i64 FY, .bool false, .int .i64 F3, .int .i64 a1_3] 115 (0, 0)) BK hg (Kd.mg HO_5.out BK231.out (by decide))); have n3_ := ah.mk (hb); have n4_ := ah.mk (ho); clear HO_6 BK230 BK231 HB HO_5; have HO_6 := n0_; have BK230 := n1_; have BK231 := n2_; have HB := n3_; have HO244 := n4_; clear n0_ n1_ n2_ n3_ n4_; clear ho hb hg hat)))
         go_wp2_with (first | ((with_reducible refine dQ (b := .append) (xs := #[.tmp 42, .tmp 47]) rfl ?_); at_builtin; refine Kd.gU (Kd.int .i64) (w0 := w) w.heap.size rfl (.tmp 42) (.tmp 47) 43 3 (.int .i64 0) 8 rfl Tryz.underlying43 info3 rfl (by decide) (by omega) u5 x5_2 (wrap64 (F3 + x8_2)) [.int .i64 (wrap64 (F3 + x8_2))] (fun _ => True) (fun _ => False) rfl rfl ?aP (fun _ hk => hk.elim) ?aF ?aO ?aB ?aS ?aL ?_; (case aP => exact rfl); (case aB => exact BL); (case aF => exact (fun _ _ => trivial)); (case aO => exact (RR HO_5)); (case aS => exact (aQ BL)); (case aL => have := LMc27.out; omega); intro v243 w7005 ho hb hg hat; rw [← Ny242.out] at ho; have n0_ := ah.mk (Kd.mX (RR HO_6) (Kd.mZ (RR HO_5)) (by decide) hg); have n1_ := ah.mk (d9 (g := gb230) (o := .cells #[.int .i64 FV, .int .i64 FW, .string FX] 32 (0, 0)) BK hg (Kd.mg HO_5.out BK230.out (by decide))); have n2_ := ah.mk (d9 (g := gb231) (o := .cells #[.int .i64 FY, .bool false, .int .i64 F3, .int .i64 a1_3] 115 (0, 0)) BK hg (Kd.mg HO_5.out BK231.out (by decide))); have n3_ := ah.mk (hb); have n4_ := ah.mk (ho); clear HO_6 BK230 BK231 HB HO_5; have HO_6 := n0_; have BK230 := n1_; have BK231 := n2_; have HB := n3_; have HO244 := n4_; clear n0_ n1_ n2_ n3_ n4_; clear ho hb hg hat))
         go_roundg k2
         case measure => have := HK1.out; have := HK2.out; omega
         case rel => exact ⟨(y242), (wrap64 (x8_2 + 1)), EQ, H', ⟨by have := HK1.out; have := HK2.out; omega⟩, ⟨(RR HO244)⟩, ⟨(RR HO_6)⟩, ⟨BK⟩, ⟨BK⟩, ⟨BL⟩⟩
       ·have H' := ah.mk H
        clear H
        have hnb7003 := NB231_230.out
        have hnc7003 := NB230_231.out
        obtain ⟨hcz7004_0, hcz7004_1, hcz7004_2, hcz7004_3, hfz7004_0, hfz7004_1, hfz7004_2, hfz7004_3⟩ := cz4 BK231.out
        go_wp2
        repeat (go_quiet (fail); try go_wp2)
        go_roundg k2
        case measure => have := HK1.out; have := HK2.out; omega
        case rel => exact ⟨(x5_2), (wrap64 (x7_1 + 1)), EQ, H', ⟨by have := HK1.out; have := HK2.out; omega⟩, ⟨(RR HO_5)⟩, ⟨(RR HO_6)⟩, ⟨BK⟩, ⟨BK⟩, ⟨BL⟩⟩
   ·obtain rfl := Option.some.inj H
    go_wp2
    repeat (go_quiet (fail); try go_wp2)
    go_ret
    exact ⟨_, EWW, (RR HO_5), BL⟩
def iq.l0 : Nat → List Int → Int → Int → Option (Bool)
 | 0, _, _, _ => none
 | k + 1, a, b, c => if c < (a.length : Int) then (if 0 ≤ c then (if (rd a c) = b then (some true) else (iq.l0 k a b (wrap64 (c + 1)))) else (none)) else (some false)
def iq.f (k : Nat) (l0 : List Int) (a1 : Int) : Option (Bool) := iq.l0 k l0 a1 0
theorem iq.calls (k : Nat) (A0 : Option Addr) (c0 : Nat) (l0 : List Int) (a1 : Int) (r : Bool) (w : World) (hr0 : Kd.C (Kd.int .i64) w A0 l0.length l0) (hc0 : l0.length ≤ c0) (h : iq.f k l0 a1 = some r) :
  Calls Tryz.prog 191 #[.slice A0 l0.length c0, .int .i64 a1] w fun e w' => e = .returned (.bool r) ∧ cK w w' := by
 have HR0 := ah.mk hr0
 have HC0 := ah.mk hc0
 clear hr0 hc0
 have H : (iq.l0 k l0 a1 0) = some r := h
 clear h
 have H' := ah.mk H
 clear H
 go_enter Tryz.func191, Tryz.ntmps191
 go_wp2
 go_loopg [5] k (fun kq v5 w' => ∃ (x5_1 : Int), v5 = .int .i64 x5_1 ∧ ah (iq.l0 kq l0 a1 x5_1 = some r) ∧ ah (kq ≤ k) ∧ cK w w')
 case atStart => exact ⟨(0), EQ, H', ⟨Nat.le_refl _⟩, DR⟩
 case round =>
  clear H'
  obtain ⟨x5_1, rfl, HA, HK1, ⟨m1, rfl⟩⟩ := hrel
  cases gk with
  | zero => exact absurd HA.out (by simp [iq.l0])
  | succ k1 =>
   have H := HA.out
   clear HA
   simp only [iq.l0] at H
   replace H := ifD H; rcases H with ⟨c3b0, H⟩ | ⟨c3b0, H⟩
   ·replace H := ifN H; obtain ⟨c4b0, H⟩ := H
    have p245 : 0 ≤ (x5_1 : Int) := OD
    have q245 : x5_1 < (l0.length : Int) := OD
    obtain ⟨ad245, e245, hx245_0⟩ := Kd.mG HR0.out x5_1 p245 q245
    cases e245
    replace p245 := eq_true p245
    replace q245 := eq_true q245
    replace H := ifE H; rcases H with ⟨c5b0, c5b1, H⟩ | ⟨c5, c5b0, c5b1, H⟩
    ·obtain rfl := Option.some.inj H
     go_wp2
     go_ret
     exact ⟨EQ, DR⟩
    ·have H' := ah.mk H
     clear H
     go_wp2
     go_roundg k1
     case measure => have := HK1.out; omega
     case rel => exact ⟨(wrap64 (x5_1 + 1)), EQ, H', ⟨by have := HK1.out; omega⟩, DR⟩
   ·obtain rfl := Option.some.inj H
    go_wp2
    go_ret
    exact ⟨EQ, DR⟩
def cu.l0 : Nat → Int → List Int → List (dJ) → Int → Int → Int → ByteArray → Option (List Int)
 | 0, _, _, _, _, _, _, _ => none
 | k + 1, a, b, c, d, e, f, g => if d < (c.length : Int) then (if 0 ≤ d then ((bK.f k e f g ((aM c d).f0) ((aM c d).f1) ((aM c d).f2) ((aM c d).f3)).bind fun h => ((iq.f k h a).bind fun i => (if i = true then (if b.length < 17592186044416 then (cu.l0 k a (b ++ [d]) c (wrap64 (d + 1)) e f g) else (none)) else (cu.l0 k a b c (wrap64 (d + 1)) e f g)))) else (none)) else (some b)
def cu.f (k : Nat) (FV FW : Int) (FX : ByteArray) (a1 : Int) : Option (List Int) := (aT.f k FV FW FX).bind fun t250 => (cu.l0 k a1 (([] : List Int)) t250 0 FV FW FX)
def cu.T6 : Bool × List (List Nat × List Nat) := (true, [([], []), ([], []), ([], []), ([1, 2], [1, 2]), ([3], [3]), ([0, 4], [0, 4]), ([], []), ([5, 6, 5], [5, 6])])
def cu.B6 : List Nat := [0, 0, 0, 6, 14, 31, 0, 127]
theorem cu.Ap : kG .any (opsOf Tryz.f157 6) = cu.T6 := by kernel_rfl
theorem cu.vD : iW cu.T6.2 cu.B6 = true := by kernel_rfl
theorem cu.calls (k : Nat) (FV FW : Int) (FX : ByteArray) (a1 : Int) (r : List Int) (w : World) (h : cu.f k FV FW FX a1 = some r) :
  Calls Tryz.prog 157 #[.agg #[.int .i64 FV, .int .i64 FW, .string FX], .int .i64 a1] w fun e w' => ∃ v0_ : Value, e = .returned (v0_) ∧ Kd.R (Kd.int .i64) 3 w' w.heap.size (fun _ => True) v0_ r ∧ Below w.heap.size w w' := by
 have hu32 := Tryz.underlying32
 have hu115 := Tryz.underlying115
 have HB := ah.mk (Below.refl w.heap.size w)
 unfold cu.f at h
 have H := h
 clear h
 obtain ⟨y247, hy247⟩ : ∃ y_ : List Int, y_ = (([] : List Int)) := ⟨_, rfl⟩
 replace H : ((aT.f k FV FW FX).bind fun t250 => (cu.l0 k a1 y247 t250 0 FV FW FX)) = some r := by first | (rw [hy247]; with_reducible exact H) | (have H2_ := (Option.bind_some _ _).symm.trans H; rw [hy247]; with_reducible exact H2_) | (have H2_ := (Option.bind_some _ _).symm.trans H; with_reducible exact H2_) | with_reducible exact H | (rw [hy247]; exact H) | exact H
 have Ny247 := ah.mk hy247
 clear hy247
 replace H := be H; obtain ⟨t250, A3, H⟩ := H
 have H' := ah.mk H
 clear H
 go_enter Tryz.func157, Tryz.ntmps157
 go_wp2_with (first | ((with_reducible refine aJ (N := 2) rfl ?_); refine bg (N := 2) (cs := #[.int .i64 FV, .int .i64 FW, .string FX]) (t := 32) ?_; intro gb246 hg w4 hbox hb; have BK246 := ah.mk hbox; have GW246 := SZ (w := w) hg; have GE246 := GW246; replace HB := BS (w := w) hb; clear hb hbox hg) | ((with_reducible refine aJ (N := 8) rfl ?_); refine Kd.sK (Kd.int .i64) _ 3 ?hg (N := 8) ?hd (xs := ([] : List Int)) (inner := []) (ok := fun _ => True) (okp := fun _ => True) ?hr ?hp (fun _ hk => hk) trivial (Below.refl _ _) (Nat.le_refl _) (by simp) ?_; (case hd => rfl); (case hg => rfl); (case hr => first | (go_simp; done) | (go_simp; rfl)); (case hp => exact (gX.none _ _)); intro v248 w5 ho6 hb hg_ hnew_; clear hg_ hnew_; (first | rw [← Ny247.out] at ho6 | (simp only [Int.reduceToNat] at ho6; rw [← Ny247.out] at ho6)); have n0_ := ah.mk (Kd.cO ho6 (aQ BL)); replace BK246 := KB BK246 hb; replace HB := BS (w := w) hb; have HO249 := n0_; clear n0_; clear hb ho6; obtain ⟨hcz7_0, hcz7_1, hcz7_2, hfz7_0, hfz7_1, hfz7_2⟩ := cz3 BK246.out) | ((with_reducible refine ay (f := 49) rfl ?_); refine bE (some 10) Tryz.func49 #[.agg #[.int .i64 FV, .int .i64 FW, .string FX]] ?_; (with_reducible refine (aT.calls k FV FW FX t250 _ A3.out).mono ?_); rintro e w8 ⟨v251, rfl, ho0, hb⟩; refine ⟨_, rfl, ?_⟩; have n1_ := ah.mk (Kd.cO ho0 (aQ BL)); replace HO249 := RB HO249 hb; replace BK246 := KB BK246 hb; replace HB := BS (w := w) hb; have HO252 := n1_; clear n1_; (try clear hb); (try clear ho0)))
 go_loopg [5, 7] k (fun kq v5 v7 w' => ∃ (x5_1 : List Int) (x7_1 : Int), v7 = .int .i64 x7_1 ∧ ah (cu.l0 kq a1 x5_1 t250 x7_1 FV FW FX = some r) ∧ ah (kq ≤ k) ∧ ah (Kd.R (Kd.int .i64) 3 w' w.heap.size (fun _ => True) v5 x5_1) ∧ ah (Kd.R lW 115 w' w.heap.size (fun _ => True) v251 t250) ∧ ah (w'.heap[gb246]? = some (.cells #[.int .i64 FV, .int .i64 FW, .string FX] 32 (0, 0))) ∧ ah (Below w.heap.size w w'))
 case atStart => exact ⟨(y247), (0), EQ, H', ⟨Nat.le_refl _⟩, ⟨(RR HO249)⟩, ⟨(RR HO252)⟩, ⟨BK⟩, ⟨BL⟩⟩
 case round =>
  clear H'
  try clear hcz7_0
  try clear hcz7_1
  try clear hcz7_2
  try clear hfz7_0
  try clear hfz7_1
  try clear hfz7_2
  obtain ⟨x5_1, x7_1, rfl, HA, HK1, HO_5, HO_6, BK246, HB⟩ := hrel
  cases gk with
  | zero => exact absurd HA.out (by simp [cu.l0])
  | succ k1 =>
   have H := HA.out
   clear HA
   simp only [cu.l0] at H
   obtain ⟨Ao7000, co7000, eo7000⟩ := Kd.dL HO_6.out
   subst eo7000
   replace H := ifD H; rcases H with ⟨c9b0, H⟩ | ⟨c9b0, H⟩
   ·replace H := ifN H; obtain ⟨c10b0, H⟩ := H
    replace H := be H; obtain ⟨t254, A11, H⟩ := H
    replace H := be H; obtain ⟨t257, A12, H⟩ := H
    replace H := ah.mk H
    try go_wp2
    replace HO_5 := ah.mk (Kd.eu HO_5.out)
    replace HO_6 := ah.mk (Kd.eu HO_6.out)
    replace BK246 := ah.mk (aH BK246.out)
    replace HB := ah.mk (dH HB.out)
    have p253 : 0 ≤ (x7_1 : Int) := OD
    have q253 : x7_1 < (t250.length : Int) := OD
    obtain ⟨ad253, e253, hx253_0, hx253_1, hx253_2, hx253_3⟩ := nu (Kd.bP HO_6.out).2.2 x7_1 p253 q253
    cases e253
    replace p253 := eq_true p253
    replace q253 := eq_true q253
    refine ji (n := 8) (S := fun w' => w'.cell? ⟨gb246, 0, none⟩ = some (.int .i64 FV) ∧ w'.cell? ⟨gb246, 1, none⟩ = some (.int .i64 FW) ∧ w'.cell? ⟨gb246, 2, none⟩ = some (.string FX) ∧ w'.cell? (ad253.add ((x7_1).toNat * 4)) = some (.int .i64 ((aM t250 x7_1).f0)) ∧ w'.cell? ⟨(ad253.add ((x7_1).toNat * 4)).block, (ad253.add ((x7_1).toNat * 4)).off + 1, none⟩ = some (.bool ((aM t250 x7_1).f1)) ∧ w'.cell? ⟨(ad253.add ((x7_1).toNat * 4)).block, (ad253.add ((x7_1).toNat * 4)).off + 2, none⟩ = some (.int .i64 ((aM t250 x7_1).f2)) ∧ w'.cell? ⟨(ad253.add ((x7_1).toNat * 4)).block, (ad253.add ((x7_1).toNat * 4)).off + 3, none⟩ = some (.int .i64 ((aM t250 x7_1).f3))) (ds := []) #[F,F,F,F,F,F,F,F] (by kernel_rfl) rfl rfl ⟨(ak BK246.out 0).trans rfl, (ak BK246.out 1).trans rfl, (ak BK246.out 2).trans rfl, hx253_0, hx253_1, hx253_2, hx253_3⟩ (fun hHeld => ?_); refine iI cu.Ap cu.vD (fun HT_ HW_ => ?_)
    generalize wr.drew = w7001 at HO_5 HO_6 BK246 HB hx253_0 hx253_1 hx253_2 hx253_3 hHeld ⊢
    refine puS (i := 1) (N := some 18) #[F,T,F,F,F,F,F,F] (aK HT_.out (by kernel_rfl)) ?_
    refine puS (i := 2) (N := some 19) #[F,T,T,F,F,F,F,F] (aK HT_.out (by kernel_rfl)) ?_
    refine puS (i := 3) (N := some 20) #[F,T,T,T,F,F,F,F] (aK HT_.out (by kernel_rfl)) ?_
    refine puS (i := 6) (N := some 23) #[F,T,T,T,F,F,T,F] (aK HT_.out (by kernel_rfl)) ?_
    refine taS (i := 0) (N := some 17) #[T,T,T,T,F,F,T,F] (eF HT_.out HW_.out (by kernel_rfl)) hHeld ?_
    refine taS (i := 4) (N := some 21) #[T,T,T,T,T,F,T,F] (eF HT_.out HW_.out (by kernel_rfl)) hHeld ?_
    refine kW (i := 5) (N := some 22) #[T,T,T,T,T,T,T,F] rfl rfl (jf HT_.out (by kernel_rfl)) (by decide) (fun K hK => ?_)
    refine iZ Tryz.func125 #[.agg #[.int .i64 FV, .int .i64 FW, .string FX], .agg #[.int .i64 ((aM t250 x7_1).f0), .bool ((aM t250 x7_1).f1), .int .i64 ((aM t250 x7_1).f2), .int .i64 ((aM t250 x7_1).f3)]] ?_
    with_reducible refine (bK.calls k1 FV FW FX ((aM t250 x7_1).f0) ((aM t250 x7_1).f1) ((aM t250 x7_1).f2) ((aM t250 x7_1).f3) t254 _ A11.out).mono ?_
    rintro e w7002 ⟨v255, rfl, ho0, hb⟩
    have HS3_ := (hb.cell (World.block_lt_of_cell? _ _ (hHeld.2.2.2.1))).trans (hHeld.2.2.2.1)
    have HS4_ := (hb.cell (World.block_lt_of_cell? _ _ (hHeld.2.2.2.2.1))).trans (hHeld.2.2.2.2.1)
    have HS5_ := (hb.cell (World.block_lt_of_cell? _ _ (hHeld.2.2.2.2.2.1))).trans (hHeld.2.2.2.2.2.1)
    have HS6_ := (hb.cell (World.block_lt_of_cell? _ _ (hHeld.2.2.2.2.2.2))).trans (hHeld.2.2.2.2.2.2)
    refine ⟨_, rfl, ?_⟩
    have n0_ := ah.mk (Kd.jR (RR HO_5) (Kd.lV ho0) hb)
    have n1_ := RB HO_6 hb
    have n2_ := ah.mk (Kd.cO (Kd.mR ho0 (Kd.qb (RR HO_5))) (aQ BL))
    have n3_ := KB BK246 hb
    have n4_ := BS (w := w) hb
    clear HO_5
    clear HO_6
    clear BK246
    clear HB
    have HO_5 := n0_
    have HO_6 := n1_
    have HO256 := n2_
    have BK246 := n3_
    have HB := n4_
    clear n0_ n1_ n2_ n3_ n4_
    (try clear hb)
    (try clear ho0)
    obtain ⟨Ao7003, co7003, eo7003⟩ := Kd.dL HO256.out
    (first | subst eo7003 | (injection eo7003 with f1_ f2_ f3_; have f4_ := f1_.symm; have f5_ := f3_.symm; clear f1_ f2_ f3_; subst f4_; subst f5_))
    refine hK.out _ _ ⟨(ak BK246.out 0).trans rfl, (ak BK246.out 1).trans rfl, (ak BK246.out 2).trans rfl, HS3_, HS4_, HS5_, HS6_⟩ (fun hHeld => ?_)
    clear hK K
    refine nrm (some 22) ?_
    refine kW (i := 7) (N := some 24) #[T,T,T,T,T,T,T,T] rfl rfl (jf HT_.out (by kernel_rfl)) (by decide) (fun K hK => ?_)
    refine iZ Tryz.func191 #[.slice Ao7003 t254.length co7003, .int .i64 a1] ?_
    with_reducible refine (iq.calls k1 _ _ t254 a1 _ _ ?side1 ?side2 A12.out).mono ?_
    (case side1 => exact CR2 HO256)
    (case side2 => exact (Kd.bP HO256.out).2.1)
    rintro e w' ⟨rfl, ⟨nd, rfl⟩⟩
    refine ⟨_, rfl, ?_⟩
    refine hK.out _ _ ⟨(ak BK246.out 0).trans rfl, (ak BK246.out 1).trans rfl, (ak BK246.out 2).trans rfl, hHeld.2.2.2.1, hHeld.2.2.2.2.1, hHeld.2.2.2.2.2.1, hHeld.2.2.2.2.2.2⟩ (fun hHeld => ?_)
    clear hK K
    refine nrm (some 24) ?_
    replace H := H.out
    replace H := ifB H; rcases H with ⟨rfl, H⟩ | ⟨rfl, H⟩
    ·replace H := ifP H; obtain ⟨c14, H⟩ := H
     have LMc14 := ah.mk c14
     clear c14
     obtain ⟨y258, hy258⟩ : ∃ y_ : List Int, y_ = (x5_1 ++ [x7_1]) := ⟨_, rfl⟩
     replace H : (cu.l0 k1 a1 y258 t250 (wrap64 (x7_1 + 1)) FV FW FX) = some r := by first | (rw [hy258]; with_reducible exact H) | (have H2_ := (Option.bind_some _ _).symm.trans H; rw [hy258]; with_reducible exact H2_) | (have H2_ := (Option.bind_some _ _).symm.trans H; with_reducible exact H2_) | with_reducible exact H | (rw [hy258]; exact H) | exact H
     have Ny258 := ah.mk hy258
     clear hy258
     have H' := ah.mk H
     clear H
     refine iD (gG HT_.out (by kernel_rfl)) ?_
     try go_wp2_with (first | ((with_reducible refine dQ (b := .append) (xs := #[.tmp 25, .tmp 27]) rfl ?_); at_builtin; refine Kd.gU (Kd.int .i64) (w0 := w) w.heap.size rfl (.tmp 25) (.tmp 27) 43 3 (.int .i64 0) 8 rfl Tryz.underlying43 info3 rfl (by decide) (by omega) u5 x5_1 x7_1 [.int .i64 x7_1] (fun k_ => some k_ ≠ (.slice Ao7003 t254.length co7003 : Value).ownBlock) (fun _ => False) rfl rfl ?aP (fun _ hk => hk.elim) ?aF ?aO ?aB ?aS ?aL ?_; (case aP => exact rfl); (case aB => exact BL); (case aF => exact (fun k_ hk => Kd.fresh' (Kd.qb (RR HO256)) k_ hk)); (case aO => exact (by (with_reducible repeat (first | apply Kd.fI | apply Kd.fJ | apply Kd.eu)); exact Kd.dY HO_5.out (fun _ hk => hk.2))); (case aS => exact (aQ BL)); (case aL => have := LMc14.out; omega); intro v259 w7004 ho hb hg hat; rw [← Ny258.out] at ho; have n0_ := ah.mk (Kd.mX (RR HO_6) (Kd.mZ (RR HO_5)) (by decide) hg); have n1_ := ah.mk (d9 (g := gb246) (o := .cells #[.int .i64 FV, .int .i64 FW, .string FX] 32 (0, 0)) BK hg (Kd.mg HO_5.out BK246.out (by decide))); have n2_ := ah.mk (Kd.qJ (ok := (fun _ => True)) (RR HO256) hg hat); have n3_ := ah.mk (hb); have n4_ := ah.mk (ho); clear HO_6 BK246 HO256 HB HO_5; have HO_6 := n0_; have BK246 := n1_; have HO256 := n2_; have HB := n3_; have HO260 := n4_; clear n0_ n1_ n2_ n3_ n4_; clear ho hb hg hat))
     go_roundg k1
     case measure => have := HK1.out; omega
     case rel => exact ⟨(y258), (wrap64 (x7_1 + 1)), EQ, H', ⟨by have := HK1.out; omega⟩, ⟨by (with_reducible repeat (first | apply Kd.fI | apply Kd.fJ | apply Kd.eu)); exact Kd.dY HO260.out (fun _ hk => trivial)⟩, ⟨(RR HO_6)⟩, ⟨BK⟩, ⟨BL⟩⟩
    ·have H' := ah.mk H
     clear H
     refine iD (gG HT_.out (by kernel_rfl)) ?_
     try go_wp2
     go_roundg k1
     case measure => have := HK1.out; omega
     case rel => exact ⟨(x5_1), (wrap64 (x7_1 + 1)), EQ, H', ⟨by have := HK1.out; omega⟩, ⟨by (with_reducible repeat (first | apply Kd.fI | apply Kd.fJ | apply Kd.eu)); exact Kd.dY HO_5.out (fun _ hk => trivial)⟩, ⟨(RR HO_6)⟩, ⟨BK⟩, ⟨BL⟩⟩
   ·obtain rfl := Option.some.inj H
    go_wp2
    go_ret
    exact ⟨_, EWW, (RR HO_5), BL⟩
def jv.f (k : Nat) (FV FW : Int) (FX : ByteArray) (a1 : Int) : Option (Bool) := (cu.f k FV FW FX a1).bind fun t262 => (some ((t262.length : Int) == 2))
theorem jv.calls (k : Nat) (FV FW : Int) (FX : ByteArray) (a1 : Int) (r : Bool) (w : World) (h : jv.f k FV FW FX a1 = some r) :
  Calls Tryz.prog 190 #[.agg #[.int .i64 FV, .int .i64 FW, .string FX], .int .i64 a1] w fun e w' => e = .returned (.bool r) ∧ Below w.heap.size w w' := by
 have hu32 := Tryz.underlying32
 have HB := ah.mk (Below.refl w.heap.size w)
 unfold jv.f at h
 have H := h
 clear h
 replace H := be H; obtain ⟨t262, A3, H⟩ := H
 obtain rfl := Option.some.inj H
 go_enter Tryz.func190, Tryz.ntmps190
 go_wp2_with (first | ((with_reducible refine aJ (N := 2) rfl ?_); refine bg (N := 2) (cs := #[.int .i64 FV, .int .i64 FW, .string FX]) (t := 32) ?_; intro gb261 hg w4 hbox hb; have BK261 := ah.mk hbox; have GW261 := SZ (w := w) hg; have GE261 := GW261; replace HB := BS (w := w) hb; clear hb hbox hg; obtain ⟨hcz5_0, hcz5_1, hcz5_2, hfz5_0, hfz5_1, hfz5_2⟩ := cz3 BK261.out) | ((with_reducible refine ay (f := 157) rfl ?_); refine bE (some 7) Tryz.func157 #[.agg #[.int .i64 FV, .int .i64 FW, .string FX], .int .i64 a1] ?_; (with_reducible refine (cu.calls k FV FW FX a1 t262 _ A3.out).mono ?_); rintro e w6 ⟨v263, rfl, ho0, hb⟩; refine ⟨_, rfl, ?_⟩; have n0_ := ah.mk (Kd.cO ho0 (aQ BL)); replace BK261 := KB BK261 hb; replace HB := BS (w := w) hb; have HO264 := n0_; clear n0_; (try clear hb); (try clear ho0); obtain ⟨Ao7, co7, eo7⟩ := Kd.dL HO264.out; subst eo7))
 go_ret
 exact ⟨EWW, BL⟩
def dG.l0 : Nat → List Int → Int → Int → Int → Int → ByteArray → Option (Int)
 | 0, _, _, _, _, _, _ => none
 | k + 1, a, b, c, d, e, f => if c < (a.length : Int) then (if 0 ≤ c then ((jv.f k d e f (rd a c)).bind fun g => (if g = true then (dG.l0 k a b (wrap64 (c + 1)) d e f) else (dG.l0 k a (wrap64 (b + 1)) (wrap64 (c + 1)) d e f))) else (none)) else (some b)
def dG.f (k : Nat) (FV FW : Int) (FX : ByteArray) (a1 : Int) : Option (Int) := (aT.f k FV FW FX).bind fun t266 => ((bB.f a1 0 (wrap64 ((t266.length : Int) - 1))).bind fun t269 => (if t269 = true then (if 0 ≤ a1 then (if a1 < (t266.length : Int) then ((bK.f k FV FW FX ((aM t266 a1).f0) ((aM t266 a1).f1) ((aM t266 a1).f2) ((aM t266 a1).f3)).bind fun t271 => (dG.l0 k t271 0 0 FV FW FX)) else (none)) else (none)) else (some (-1))))
theorem dG.calls (k : Nat) (FV FW : Int) (FX : ByteArray) (a1 r : Int) (w : World) (h : dG.f k FV FW FX a1 = some r) :
  Calls Tryz.prog 155 #[.agg #[.int .i64 FV, .int .i64 FW, .string FX], .int .i64 a1] w fun e w' => e = .returned (.int .i64 r) ∧ Below w.heap.size w w' := by
 have hu32 := Tryz.underlying32
 have hu115 := Tryz.underlying115
 have HB := ah.mk (Below.refl w.heap.size w)
 unfold dG.f at h
 have H := h
 clear h
 replace H := be H; obtain ⟨t266, A3, H⟩ := H
 replace H := be H; obtain ⟨t269, A4, H⟩ := H
 replace H := ah.mk H
 go_enter Tryz.func155, Tryz.ntmps155
 go_wp2_with (first | ((with_reducible refine aJ (N := 2) rfl ?_); refine bg (N := 2) (cs := #[.int .i64 FV, .int .i64 FW, .string FX]) (t := 32) ?_; intro gb265 hg w9000 hbox hb; have BK265 := ah.mk hbox; have GW265 := SZ (w := w) hg; have GE265 := GW265; replace HB := BS (w := w) hb; clear hb hbox hg; obtain ⟨hcz9001_0, hcz9001_1, hcz9001_2, hfz9001_0, hfz9001_1, hfz9001_2⟩ := cz3 BK265.out) | ((with_reducible refine ay (f := 49) rfl ?_); refine bE (some 10) Tryz.func49 #[.agg #[.int .i64 FV, .int .i64 FW, .string FX]] ?_; (with_reducible refine (aT.calls k FV FW FX t266 _ A3.out).mono ?_); rintro e w9002 ⟨v267, rfl, ho0, hb⟩; refine ⟨_, rfl, ?_⟩; have n0_ := ah.mk (Kd.cO ho0 (aQ BL)); replace BK265 := KB BK265 hb; replace HB := BS (w := w) hb; have HO268 := n0_; clear n0_; (try clear hb); (try clear ho0); obtain ⟨Ao9003, co9003, eo9003⟩ := Kd.dL HO268.out; subst eo9003) | ((with_reducible refine ay (f := 86) rfl ?_); refine bE (some 15) Tryz.func86 #[.int .i64 a1, .int .i64 0, .int .i64 (wrap64 ((t266.length : Int) - 1))] ?_; (with_reducible refine (bB.calls a1 0 (wrap64 ((t266.length : Int) - 1)) _ _ A4.out).mono ?_); rintro e w' ⟨rfl, ⟨nd, rfl⟩⟩; refine ⟨_, rfl, ?_⟩; refine bU ?_))
 refine Hide.mk ?_
 replace H := H.out
 replace H := ifB H; rcases H with ⟨rfl, H⟩ | ⟨rfl, H⟩
 ·replace H := ifN H; obtain ⟨c6b0, H⟩ := H
  replace H := ifN H; obtain ⟨c7b0, H⟩ := H
  replace H := be H; obtain ⟨t271, A8, H⟩ := H
  have H' := ah.mk H
  clear H
  try go_wp2
  (try (rw [oo w9002]; generalize hq_ : World.drewN w9002 _ = w9002; have n0_ : ah (Kd.R lW 115 w9002 w.heap.size (fun _ => True) (.slice Ao9003 t266.length co9003) t266) := ⟨by rw [← hq_]; exact (RR HO268)⟩; have n1_ : ah (w9002.heap[gb265]? = some (.cells #[.int .i64 FV, .int .i64 FW, .string FX] 32 (0, 0))) := ⟨by rw [← hq_]; exact BK⟩; have n2_ : ah (Below w.heap.size w w9002) := ⟨by rw [← hq_]; exact BL⟩; clear HO268 BK265 HB hq_; have HO268 := n0_; have BK265 := n1_; have HB := n2_; clear n0_ n1_ n2_))
  replace HO268 := ah.mk (Kd.eu HO268.out)
  replace BK265 := ah.mk (aH BK265.out)
  replace HB := ah.mk (dH HB.out)
  have p270 : 0 ≤ (a1 : Int) := OD
  have q270 : a1 < (t266.length : Int) := OD
  obtain ⟨ad270, e270, hx270_0, hx270_1, hx270_2, hx270_3⟩ := nu (Kd.bP HO268.out).2.2 a1 p270 q270
  cases e270
  replace p270 := eq_true p270
  replace q270 := eq_true q270
  refine ji (n := 7) (S := fun w' => w'.cell? ⟨gb265, 0, none⟩ = some (.int .i64 FV) ∧ w'.cell? ⟨gb265, 1, none⟩ = some (.int .i64 FW) ∧ w'.cell? ⟨gb265, 2, none⟩ = some (.string FX) ∧ w'.cell? (ad270.add ((a1).toNat * 4)) = some (.int .i64 ((aM t266 a1).f0)) ∧ w'.cell? ⟨(ad270.add ((a1).toNat * 4)).block, (ad270.add ((a1).toNat * 4)).off + 1, none⟩ = some (.bool ((aM t266 a1).f1)) ∧ w'.cell? ⟨(ad270.add ((a1).toNat * 4)).block, (ad270.add ((a1).toNat * 4)).off + 2, none⟩ = some (.int .i64 ((aM t266 a1).f2)) ∧ w'.cell? ⟨(ad270.add ((a1).toNat * 4)).block, (ad270.add ((a1).toNat * 4)).off + 3, none⟩ = some (.int .i64 ((aM t266 a1).f3))) (ds := []) #[F,F,F,F,F,F,F] (by kernel_rfl) rfl rfl ⟨(ak BK265.out 0).trans rfl, (ak BK265.out 1).trans rfl, (ak BK265.out 2).trans rfl, hx270_0, hx270_1, hx270_2, hx270_3⟩ (fun hHeld => ?_)
  generalize w9002.drew = w9004 at HO268 BK265 HB hx270_0 hx270_1 hx270_2 hx270_3 hHeld ⊢
  refine puS (i := 1) (N := some 18) #[F,T,F,F,F,F,F] (by kernel_rfl) ?_
  refine puS (i := 2) (N := some 19) #[F,T,T,F,F,F,F] (by kernel_rfl) ?_
  refine puS (i := 3) (N := some 20) #[F,T,T,T,F,F,F] (by kernel_rfl) ?_
  refine taS (i := 0) (N := some 17) #[T,T,T,T,F,F,F] (by kernel_rfl) hHeld ?_
  refine taS (i := 4) (N := some 21) #[T,T,T,T,T,F,F] (by kernel_rfl) hHeld ?_
  refine kW (i := 5) (N := some 22) #[T,T,T,T,T,T,F] rfl rfl (by kernel_rfl) (by decide) (fun K hK => ?_)
  refine iZ Tryz.func125 #[.agg #[.int .i64 FV, .int .i64 FW, .string FX], .agg #[.int .i64 ((aM t266 a1).f0), .bool ((aM t266 a1).f1), .int .i64 ((aM t266 a1).f2), .int .i64 ((aM t266 a1).f3)]] ?_
  with_reducible refine (bK.calls k FV FW FX ((aM t266 a1).f0) ((aM t266 a1).f1) ((aM t266 a1).f2) ((aM t266 a1).f3) t271 _ A8.out).mono ?_
  rintro e w9005 ⟨v272, rfl, ho0, hb⟩
  have HS3_ := (hb.cell (World.block_lt_of_cell? _ _ (hHeld.2.2.2.1))).trans (hHeld.2.2.2.1)
  have HS4_ := (hb.cell (World.block_lt_of_cell? _ _ (hHeld.2.2.2.2.1))).trans (hHeld.2.2.2.2.1)
  have HS5_ := (hb.cell (World.block_lt_of_cell? _ _ (hHeld.2.2.2.2.2.1))).trans (hHeld.2.2.2.2.2.1)
  have HS6_ := (hb.cell (World.block_lt_of_cell? _ _ (hHeld.2.2.2.2.2.2))).trans (hHeld.2.2.2.2.2.2)
  refine ⟨_, rfl, ?_⟩
  have n0_ := RB HO268 hb
  have n1_ := ah.mk (Kd.cO ho0 (aQ BL))
  have n2_ := KB BK265 hb
  have n3_ := BS (w := w) hb
  clear HO268
  clear BK265
  clear HB
  have HO268 := n0_
  have HO273 := n1_
  have BK265 := n2_
  have HB := n3_
  clear n0_ n1_ n2_ n3_
  (try clear hb)
  (try clear ho0)
  refine hK.out _ _ ⟨(ak BK265.out 0).trans rfl, (ak BK265.out 1).trans rfl, (ak BK265.out 2).trans rfl, HS3_, HS4_, HS5_, HS6_⟩ (fun hHeld => ?_)
  clear hK K
  refine nrm (some 22) ?_
  refine puS (i := 6) (N := some 6) #[T,T,T,T,T,T,T] (by kernel_rfl) ?_
  refine iD (by kernel_rfl) ?_
  try go_wp2
  go_loopg [7, 8] k (fun kq v7 v8 w' => ∃ (x7_1 : Int) (x8_1 : Int), v7 = .int .i64 x7_1 ∧ v8 = .int .i64 x8_1 ∧ ah (dG.l0 kq t271 x7_1 x8_1 FV FW FX = some r) ∧ ah (kq ≤ k) ∧ ah (Kd.R (Kd.int .i64) 3 w' w.heap.size (fun _ => True) v272 t271) ∧ ah (w'.heap[gb265]? = some (.cells #[.int .i64 FV, .int .i64 FW, .string FX] 32 (0, 0))) ∧ ah (Below w.heap.size w w'))
  case atStart => exact ⟨(0), (0), EQ, EQ, H', ⟨Nat.le_refl _⟩, ⟨(RR HO273)⟩, ⟨BK⟩, ⟨BL⟩⟩
  case round =>
   clear H'
   try clear c5
   try clear c6
   try clear c6b0
   try clear c7
   try clear c7b0
   try clear hcz9001_0
   try clear hcz9001_1
   try clear hcz9001_2
   try clear hfz9001_0
   try clear hfz9001_1
   try clear hfz9001_2
   try clear hx270_0
   try clear hx270_1
   try clear hx270_2
   try clear hx270_3
   try clear p270
   try clear q270
   obtain ⟨x7_1, x8_1, rfl, rfl, HA, HK1, HO_6, BK265, HB⟩ := hrel
   cases gk with
   | zero => exact absurd HA.out (by simp [dG.l0])
   | succ k1 =>
    have H := HA.out
    clear HA
    simp only [dG.l0] at H
    obtain ⟨Ao9006, co9006, eo9006⟩ := Kd.dL HO_6.out
    subst eo9006
    replace H := ifD H; rcases H with ⟨c15b0, H⟩ | ⟨c15b0, H⟩
    ·replace H := ifN H; obtain ⟨c16b0, H⟩ := H
     replace H := be H; obtain ⟨t275, A17, H⟩ := H
     replace H := ah.mk H
     try go_wp2
     replace HO_6 := ah.mk (Kd.eu HO_6.out)
     replace BK265 := ah.mk (aH BK265.out)
     replace HB := ah.mk (dH HB.out)
     have p274 : 0 ≤ (x8_1 : Int) := OD
     have q274 : x8_1 < (t271.length : Int) := OD
     obtain ⟨ad274, e274, hx274_0⟩ := Kd.mG (Kd.bP HO_6.out).2.2 x8_1 p274 q274
     cases e274
     replace p274 := eq_true p274
     replace q274 := eq_true q274
     refine ji (n := 7) (S := fun w' => w'.cell? ⟨gb265, 0, none⟩ = some (.int .i64 FV) ∧ w'.cell? ⟨gb265, 1, none⟩ = some (.int .i64 FW) ∧ w'.cell? ⟨gb265, 2, none⟩ = some (.string FX) ∧ w'.cell? (ad274.add (x8_1).toNat) = some (.int .i64 (rd t271 x8_1))) (ds := []) #[F,F,F,F,F,F,F] (by kernel_rfl) rfl rfl ⟨(ak BK265.out 0).trans rfl, (ak BK265.out 1).trans rfl, (ak BK265.out 2).trans rfl, hx274_0⟩ (fun hHeld => ?_)
     generalize wr.drew = w9007 at HO_6 BK265 HB hx274_0 hHeld ⊢
     refine puS (i := 1) (N := some 30) #[F,T,F,F,F,F,F] (by kernel_rfl) ?_
     refine puS (i := 2) (N := some 31) #[F,T,T,F,F,F,F] (by kernel_rfl) ?_
     refine puS (i := 3) (N := some 32) #[F,T,T,T,F,F,F] (by kernel_rfl) ?_
     refine taS (i := 0) (N := some 29) #[T,T,T,T,F,F,F] (by kernel_rfl) hHeld ?_
     refine taS (i := 4) (N := some 33) #[T,T,T,T,T,F,F] (by kernel_rfl) hHeld ?_
     refine kW (i := 5) (N := some 34) #[T,T,T,T,T,T,F] rfl rfl (by kernel_rfl) (by decide) (fun K hK => ?_)
     refine iZ Tryz.func190 #[.agg #[.int .i64 FV, .int .i64 FW, .string FX], .int .i64 (rd t271 x8_1)] ?_
     with_reducible refine (jv.calls k1 FV FW FX (rd t271 x8_1) _ _ A17.out).mono ?_
     rintro e w9008 ⟨rfl, hb⟩
     have HS3_ := (hb.cell (World.block_lt_of_cell? _ _ (hHeld.2.2.2))).trans (hHeld.2.2.2)
     refine ⟨_, rfl, ?_⟩
     replace HO_6 := RB HO_6 hb
     replace BK265 := KB BK265 hb
     replace HB := BS (w := w) hb
     (try clear hb)
     refine hK.out _ _ ⟨(ak BK265.out 0).trans rfl, (ak BK265.out 1).trans rfl, (ak BK265.out 2).trans rfl, HS3_⟩ (fun hHeld => ?_)
     clear hK K
     refine nrm (some 34) ?_
     replace H := H.out
     replace H := ifB H; rcases H with ⟨rfl, H⟩ | ⟨rfl, H⟩
     ·have H' := ah.mk H
      clear H
      refine puS (i := 6) (N := some 35) #[T,T,T,T,T,T,T] (by kernel_rfl) ?_
      refine iD (by kernel_rfl) ?_
      try go_wp2
      go_roundg k1
      case measure => have := HK1.out; omega
      case rel => exact ⟨(x7_1), (wrap64 (x8_1 + 1)), EQ, EQ, H', ⟨by have := HK1.out; omega⟩, ⟨(RR HO_6)⟩, ⟨BK⟩, ⟨BL⟩⟩
     ·have H' := ah.mk H
      clear H
      refine puS (i := 6) (N := some 35) #[T,T,T,T,T,T,T] (by kernel_rfl) ?_
      refine iD (by kernel_rfl) ?_
      try go_wp2
      go_roundg k1
      case measure => have := HK1.out; omega
      case rel => exact ⟨(wrap64 (x7_1 + 1)), (wrap64 (x8_1 + 1)), EQ, EQ, H', ⟨by have := HK1.out; omega⟩, ⟨(RR HO_6)⟩, ⟨BK⟩, ⟨BL⟩⟩
    ·obtain rfl := Option.some.inj H
     go_wp2
     go_ret
     exact ⟨EWW, BL⟩
 ·obtain rfl := Option.some.inj H
  try go_wp2
  go_ret
  exact ⟨EWW, BL⟩
def jV.f (k : Nat) (FV FW : Int) (FX : ByteArray) (a1 : Int) : Option (Bool) := (bL.f k FV FW FX).bind fun t277 => (if t277 = true then ((bB.f a1 0 (wrap64 ((FX.size : Int) - 1))).bind fun t278 => (if t278 = true then (if 0 ≤ a1 then (if a1 < (FX.size : Int) then (some ((bt FX a1) == 46)) else (none)) else (none)) else (some false))) else (some false))
theorem jV.calls (k : Nat) (FV FW : Int) (FX : ByteArray) (a1 : Int) (r : Bool) (w : World) (h : jV.f k FV FW FX a1 = some r) :
  Calls Tryz.prog 156 #[.agg #[.int .i64 FV, .int .i64 FW, .string FX], .int .i64 a1] w fun e w' => e = .returned (.bool r) ∧ Below w.heap.size w w' := by
 have hu32 := Tryz.underlying32
 have HB := ah.mk (Below.refl w.heap.size w)
 unfold jV.f at h
 have H := h
 clear h
 replace H := be H; obtain ⟨t277, A3, H⟩ := H
 replace H := ah.mk H
 go_enter Tryz.func156, Tryz.ntmps156
 go_wp2_with (first | ((with_reducible refine aJ (N := 2) rfl ?_); (try (refine jd (by rfl) ?_; dsimp only)); refine bg (N := 2) (cs := #[.int .i64 FV, .int .i64 FW, .string FX]) (t := 32) ?_; intro gb276 hg w9000 hbox hb; have BK276 := ah.mk hbox; have GW276 := SZ (w := w) hg; have GE276 := GW276; replace HB := BS (w := w) hb; clear hb hbox hg; obtain ⟨hcz9001_0, hcz9001_1, hcz9001_2, hfz9001_0, hfz9001_1, hfz9001_2⟩ := cz3 BK276.out) | ((with_reducible refine ay (f := 96) rfl ?_); refine bE (some 6) Tryz.func96 #[.agg #[.int .i64 FV, .int .i64 FW, .string FX]] ?_; (with_reducible refine (bL.calls k FV FW FX _ _ A3.out).mono ?_); rintro e w9002 ⟨rfl, hb⟩; refine ⟨_, rfl, ?_⟩; replace BK276 := KB BK276 hb; replace HB := BS (w := w) hb; (try clear hb); obtain ⟨hcz9003_0, hcz9003_1, hcz9003_2, hfz9003_0, hfz9003_1, hfz9003_2⟩ := cz3 BK276.out; refine bU ?_))
 refine Hide.mk ?_
 replace H := H.out
 replace H := ifB H; rcases H with ⟨rfl, H⟩ | ⟨rfl, H⟩
 ·replace H := be H; obtain ⟨t278, A5, H⟩ := H
  replace H := ah.mk H
  go_wp2_with (first | (go_at_call 86; (with_reducible refine (bB.calls a1 0 (wrap64 ((FX.size : Int) - 1)) _ _ A5.out).mono ?_); rintro e w' ⟨rfl, ⟨nd, rfl⟩⟩; refine bU ?_))
  refine Hide.mk ?_
  replace H := H.out
  replace H := ifB H; rcases H with ⟨rfl, H⟩ | ⟨rfl, H⟩
  ·replace H := ifN H; obtain ⟨c7b0, H⟩ := H
   replace H := ifN H; obtain ⟨c8b0, H⟩ := H
   obtain rfl := Option.some.inj H
   have p9 : (0 ≤ (a1 : Int)) = True := OT
   have q9 : (a1 < (FX.size : Int)) = True := OT
   have hx9 := fO FX a1
   go_wp2
   go_ret
   exact ⟨EWW, BL⟩
  ·obtain rfl := Option.some.inj H
   try go_wp2
   go_ret
   exact ⟨EWW, BL⟩
 ·obtain rfl := Option.some.inj H
  try go_wp2
  go_ret
  exact ⟨EWW, BL⟩
end Go.Proofs.YtnfiedfaaaphoaaGreat.PFnExactOneRound
