/- Walks of functions: what each computes. -/
import Derived.Test.YthkfjbodohaglaaGreatDoorZRoundsNeededG0
import Derived.Test.YthkfjbodohaglaaGreatDoorZRoundsNeededG2
import Derived.Test.YthkfjbodohaglaaGreatDoorZRoundsNeededG3
import Derived.Test.YthkfjbodohaglaaGreatDoorZRoundsNeededG4
import Derived.Test.YthkfjbodohaglaaGreatDoorZRoundsNeededG5
import Derived.Test.YthkfjbodohaglaaGreatDoorZRoundsNeededW
import Derived.Test.YthkfjbodohaglaaGreatDoorZRoundsNeededShelf
import Derived.Test.YthkfjbodohaglaaGreatDoorZRoundsNeededHandSort
import Derived.Test.YthkfjbodohaglaaGreatDoorZRoundsNeededHandForm
import Derived.Test.YthkfjbodohaglaaGreatDoorZRoundsNeededHandAlone
import Derived.Test.YthkfjbodohaglaaGreatDoorZRoundsNeededHandReach
import Derived.Test.YthkfjbodohaglaaGreatDoorZRoundsNeededHandPut
import Derived.Test.YthkfjbodohaglaaGreatDoorZRoundsNeededHandRepl
namespace Go.Proofs.YthkfjbodohaglaaGreatDoor.PFnExactRoundsNeeded
open Go.RowKit Go.Proofs.YthkfjbodohaglaaGreatDoorW.PrintWords Go.Proofs.YthkfjbodohaglaaGreatDoorW.PrintLast Go.Proofs.YthkfjbodohaglaaGreatDoorW.PrintMore Go.Proofs.YthkfjbodohaglaaGreatDoor.Sq
attribute [local go_sem] kG kI lY lZ jH jI kH kJ
set_option maxHeartbeats 8000000
set_option maxRecDepth 100000
set_option linter.unusedVariables false
set_option linter.unusedSimpArgs false
def bN.l0 : Nat → ByteArray → ByteArray → List Int → Int → Option (ByteArray × Bool)
 | 0, _, _, _, _ => none
 | k + 1, a, b, c, d => if d < (c.length : Int) then (if 0 ≤ d then (if 0 ≤ (rd c d) then (if (rd c d) ≤ (a.size : Int) then (if d ≤ (wrap64 (d + 1)) then (if (wrap64 (d + 1)) ≤ (b.size : Int) then (if (a.extract 0 ((rd c d) : Int).toNat).size + (b.extract (d : Int).toNat ((wrap64 (d + 1)) : Int).toNat).size ≤ 9223372036854775807 then (if 0 ≤ (wrap64 ((rd c d) + 1)) then (if (wrap64 ((rd c d) + 1)) ≤ (a.size : Int) then (if ((a.extract 0 ((rd c d) : Int).toNat) ++ (b.extract (d : Int).toNat ((wrap64 (d + 1)) : Int).toNat)).size + (a.extract ((wrap64 ((rd c d) + 1)) : Int).toNat a.size).size ≤ 9223372036854775807 then (bN.l0 k (((a.extract 0 ((rd c d) : Int).toNat) ++ (b.extract (d : Int).toNat ((wrap64 (d + 1)) : Int).toNat)) ++ (a.extract ((wrap64 ((rd c d) + 1)) : Int).toNat a.size)) b c (wrap64 (d + 1))) else (none)) else (none)) else (none)) else (none)) else (none)) else (none)) else (none)) else (none)) else (none)) else (some (a, true))
def bN.f (k : Nat) (La Lb : Int) (Lc a1 : ByteArray) (a2 : Int) (a3 : ByteArray) : Option (ByteArray × Bool) := (bn.f k La Lb Lc a1 a2).bind fun t457 => ((bE.f k t457 a3).bind fun t458 => (if t458 = true then ((aN.f k La Lb Lc).bind fun t459 => (if 0 ≤ a2 then (if a2 < (t459.length : Int) then ((bJ.f k La Lb Lc ((aQ t459 a2).f0) ((aQ t459 a2).f1) ((aQ t459 a2).f2) ((aQ t459 a2).f3)).bind fun t463 => (bN.l0 k a1 a3 t463 0)) else (none)) else (none))) else (some (a1, false))))
def bN.T3 : Bool × List (List Nat × List Nat) := (true, [([], []), ([], []), ([1], [1]), ([], []), ([2, 3], [2, 3]), ([4], [4]), ([0, 5, 2], [0, 5]), ([6, 6, 0, 1, 2, 3, 4, 5, 6], [6])])
def bN.B3 : List Nat := [0, 0, 2, 0, 14, 30, 63, 127]
theorem bN.KW : kP .any (opsOf Tryz.f85 3) = bN.T3 := by kernel_rfl
theorem bN.KF : iZ bN.T3.2 bN.B3 = true := by kernel_rfl
def bN.T7 : Bool × List (List Nat × List Nat) := (true, [([], []), ([], []), ([], []), ([1, 2], [1, 2]), ([3], [3]), ([0, 4], [0, 4]), ([], []), ([], []), ([], []), ([8], [8]), ([6, 7, 9], [6, 7, 9]), ([5, 10], [5, 10]), ([], []), ([], []), ([], []), ([13, 14], [13, 14]), ([15], [15]), ([16], [16]), ([12, 17], [12, 17]), ([11, 18], [11, 18]), ([19, 0, 1, 2, 3, 4, 5, 6, 7, 8, 9, 10, 11, 12, 13, 14, 15, 16, 17, 18, 19], [0, 12, 19])])
def bN.B7 : List Nat := [0, 0, 0, 6, 14, 31, 0, 0, 0, 256, 960, 2047, 0, 0, 0, 24576, 57344, 122880, 258048, 524287, 1048575]
theorem bN.Ki : kP .any (opsOf Tryz.f85 7) = bN.T7 := by kernel_rfl
theorem bN.GH : iZ bN.T7.2 bN.B7 = true := by kernel_rfl
theorem bN.calls (k : Nat) (La Lb : Int) (Lc a1 : ByteArray) (a2 : Int) (a3 r1 : ByteArray) (r2 : Bool) (w : World) (h : bN.f k La Lb Lc a1 a2 a3 = some (r1, r2)) :
  Calls Tryz.prog 85 #[.agg #[.int .i64 La, .int .i64 Lb, .string Lc], .string a1, .int .i64 a2, .string a3] w fun e w' => e = .returned (.tuple #[.string r1, .bool r2]) ∧ Below w.heap.size w w' := by
 have hu34 := Tryz.underlying34
 have hu92 := Tryz.underlying92
 have HB := ah.mk (Below.refl w.heap.size w)
 unfold bN.f at h
 have H := h
 clear h
 replace H := be H; obtain ⟨t457, A5, H⟩ := H
 replace H := be H; obtain ⟨t458, A6, H⟩ := H
 replace H := ah.mk H
 go_enter Tryz.func85, Tryz.ntmps85
 go_wp2_with (first | ((with_reducible refine aJ (N := 4) rfl ?_); refine aZ (N := 4) (cs := #[.int .i64 La, .int .i64 Lb, .string Lc]) (t := 34) ?_; intro gb456 hg w9000 hbox hb; have BK456 := ah.mk hbox; have GW456 := SZ (w := w) hg; have GE456 := GW456; replace HB := BS (w := w) hb; clear hb hbox hg; obtain ⟨hcz9001_0, hcz9001_1, hcz9001_2, hfz9001_0, hfz9001_1, hfz9001_2⟩ := cz3 BK456.out) | ((with_reducible refine ay (f := 40) rfl ?_); refine bf (some 15) Tryz.func40 #[.agg #[.int .i64 La, .int .i64 Lb, .string Lc], .string a1, .int .i64 a2] ?_; (with_reducible refine (bn.calls k La Lb Lc a1 a2 t457 _ A5.out).mono ?_); rintro e w9002 ⟨rfl, hb⟩; refine ⟨_, rfl, ?_⟩; replace BK456 := KB BK456 hb; replace HB := BS (w := w) hb; (try clear hb)) | ((with_reducible refine ay (f := 70) rfl ?_); refine bf (some 17) Tryz.func70 #[.string t457, .string a3] ?_; (with_reducible refine (bE.calls k t457 a3 _ _ A6.out).mono ?_); rintro e w' ⟨rfl, ⟨nd, rfl⟩⟩; refine ⟨_, rfl, ?_⟩; refine bR ?_))
 refine Hide.mk ?_
 replace H := H.out
 replace H := ifB H; rcases H with ⟨rfl, H⟩ | ⟨rfl, H⟩
 ·replace H := be H; obtain ⟨t459, A8, H⟩ := H
  replace H := ifN H; obtain ⟨c9b0, H⟩ := H
  replace H := ifN H; obtain ⟨c10b0, H⟩ := H
  replace H := be H; obtain ⟨t463, A11, H⟩ := H
  have H' := ah.mk H
  clear H
  try go_wp2
  (try (rw [oH w9002]; generalize hq_ : World.drewN w9002 _ = w9002; have n0_ : ah (w9002.heap[gb456]? = some (.cells #[.int .i64 La, .int .i64 Lb, .string Lc] 34 (0, 0))) := ⟨by rw [← hq_]; exact BK⟩; have n1_ : ah (Below w.heap.size w w9002) := ⟨by rw [← hq_]; exact BL⟩; clear BK456 HB hq_; have BK456 := n0_; have HB := n1_; clear n0_ n1_))
  replace BK456 := ah.mk (aH BK456.out)
  replace HB := ah.mk (dK HB.out)
  refine jl (n := 8) (S := fun w' => w'.cell? ⟨gb456, 0, none⟩ = some (.int .i64 La) ∧ w'.cell? ⟨gb456, 1, none⟩ = some (.int .i64 Lb) ∧ w'.cell? ⟨gb456, 2, none⟩ = some (.string Lc)) (ds := []) #[F,F,F,F,F,F,F,F] (by kernel_rfl) rfl rfl ⟨(ak BK456.out 0).trans rfl, (ak BK456.out 1).trans rfl, (ak BK456.out 2).trans rfl⟩ (fun hHeld => ?_); refine iL bN.KW bN.KF (fun HT_ HW_ => ?_)
  generalize w9002.drew = w9003 at BK456 HB hHeld ⊢
  refine puS (i := 3) (N := some 23) #[F,F,F,T,F,F,F,F] (jk HT_.out (by kernel_rfl)) ?_
  refine taS (i := 0) (N := some 20) #[T,F,F,T,F,F,F,F] (qY HT_.out HW_.out (by kernel_rfl)) hHeld ?_
  refine taS (i := 1) (N := some 21) #[T,T,F,T,F,F,F,F] (qY HT_.out HW_.out (by kernel_rfl)) hHeld ?_
  refine lC (i := 2) (N := some 22) #[T,T,T,T,F,F,F,F] rfl rfl (jh HT_.out (by kernel_rfl)) (by decide) (fun K hK => ?_)
  refine jd Tryz.func54 #[.agg #[.int .i64 La, .int .i64 Lb, .string Lc]] ?_
  with_reducible refine (aN.calls k La Lb Lc t459 _ A8.out).mono ?_
  rintro e w9004 ⟨v460, rfl, ho0, hb⟩
  refine ⟨_, rfl, ?_⟩
  have n0_ := ah.mk (Kd.cK ho0 (aM BL))
  have n1_ := KB BK456 hb
  have n2_ := BS (w := w) hb
  clear BK456
  clear HB
  have HO461 := n0_
  have BK456 := n1_
  have HB := n2_
  clear n0_ n1_ n2_
  (try clear hb)
  (try clear ho0)
  obtain ⟨Ao9005, co9005, eo9005⟩ := Kd.dN HO461.out
  (first | subst eo9005 | (injection eo9005 with f1_ f2_ f3_; have f4_ := f1_.symm; have f5_ := f3_.symm; clear f1_ f2_ f3_; subst f4_; subst f5_))
  have p462 : 0 ≤ (a2 : Int) := OD
  have q462 : a2 < (t459.length : Int) := OD
  obtain ⟨ad462, e462, hx462_0, hx462_1, hx462_2, hx462_3⟩ := pI (Kd.bO HO461.out).2.2 a2 p462 q462
  cases e462
  replace p462 := eq_true p462
  replace q462 := eq_true q462
  refine hK.out _ _ ⟨(ak BK456.out 0).trans rfl, (ak BK456.out 1).trans rfl, (ak BK456.out 2).trans rfl⟩ (fun hHeld => ?_)
  clear hK K
  refine nrm (some 22) ?_
  refine puS (i := 4) (N := some 24) #[T,T,T,T,T,F,F,F] (jk HT_.out (by kernel_rfl)) ?_
  refine lC (i := 5) (N := some 25) #[T,T,T,T,T,T,F,F] rfl rfl (jh HT_.out (by kernel_rfl)) (by decide) (fun K hK => ?_)
  refine Kk (v := ?_) (w1 := w9004) (by rfl) (by rfl) ?_ ?_
  rotate_left
  ·go_simp
   with_reducible rfl
  refine hK.out _ _ ⟨(ak BK456.out 0).trans rfl, (ak BK456.out 1).trans rfl, (ak BK456.out 2).trans rfl⟩ (fun hHeld => ?_)
  clear hK K
  refine nrm (some 25) ?_
  refine lC (i := 6) (N := some 26) #[T,T,T,T,T,T,T,F] rfl rfl (jh HT_.out (by kernel_rfl)) (by decide) (fun K hK => ?_)
  refine jd Tryz.func66 #[.agg #[.int .i64 La, .int .i64 Lb, .string Lc], .agg #[.int .i64 ((aQ t459 a2).f0), .bool ((aQ t459 a2).f1), .int .i64 ((aQ t459 a2).f2), .int .i64 ((aQ t459 a2).f3)]] ?_
  with_reducible refine (bJ.calls k La Lb Lc ((aQ t459 a2).f0) ((aQ t459 a2).f1) ((aQ t459 a2).f2) ((aQ t459 a2).f3) t463 _ A11.out).mono ?_
  rintro e w9006 ⟨v464, rfl, ho0, hb⟩
  refine ⟨_, rfl, ?_⟩
  have n0_ := RB HO461 hb
  have n1_ := ah.mk (Kd.cK ho0 (aM BL))
  have n2_ := KB BK456 hb
  have n3_ := BS (w := w) hb
  clear HO461
  clear BK456
  clear HB
  have HO461 := n0_
  have HO465 := n1_
  have BK456 := n2_
  have HB := n3_
  clear n0_ n1_ n2_ n3_
  (try clear hb)
  (try clear ho0)
  refine hK.out _ _ ⟨(ak BK456.out 0).trans rfl, (ak BK456.out 1).trans rfl, (ak BK456.out 2).trans rfl⟩ (fun hHeld => ?_)
  clear hK K
  refine nrm (some 26) ?_
  refine puS (i := 7) (N := some 10) #[T,T,T,T,T,T,T,T] (jk HT_.out (by kernel_rfl)) ?_
  refine iF (gJ HT_.out (by kernel_rfl)) ?_
  try go_wp2
  go_loopg [1, 11] k (fun kq v1 v11 w' => ∃ (x1_1 : ByteArray) (x11_1 : Int), v1 = .string x1_1 ∧ v11 = .int .i64 x11_1 ∧ ah (bN.l0 kq x1_1 a3 t463 x11_1 = some (r1, r2)) ∧ ah (kq ≤ k) ∧ ah (Kd.R (Kd.int .i64) 3 w' w.heap.size (fun _ => True) v464 t463) ∧ ah (w'.heap[gb456]? = some (.cells #[.int .i64 La, .int .i64 Lb, .string Lc] 34 (0, 0))) ∧ ah (Below w.heap.size w w'))
  case atStart => exact ⟨(a1), (0), EQ, EQ, H', ⟨Nat.le_refl _⟩, ⟨(RR HO465)⟩, ⟨BK⟩, ⟨BL⟩⟩
  case round =>
   clear H'
   try clear c7
   try clear c9
   try clear c9b0
   try clear c10
   try clear c10b0
   try clear hcz9001_0
   try clear hcz9001_1
   try clear hcz9001_2
   try clear hfz9001_0
   try clear hfz9001_1
   try clear hfz9001_2
   try clear hx462_0
   try clear hx462_1
   try clear hx462_2
   try clear hx462_3
   try clear p462
   try clear q462
   obtain ⟨x1_1, x11_1, rfl, rfl, HA, HK1, HO_10, BK456, HB⟩ := hrel
   cases gk with
   | zero => exact absurd HA.out (by simp [bN.l0])
   | succ k1 =>
    have H := HA.out
    clear HA
    simp only [bN.l0] at H
    obtain ⟨Ao9007, co9007, eo9007⟩ := Kd.dN HO_10.out
    subst eo9007
    replace H := ifD H; rcases H with ⟨c19b0, H⟩ | ⟨c19b0, H⟩
    ·replace H := ifN H; obtain ⟨c20b0, H⟩ := H
     replace H := ifP H; obtain ⟨c21, H⟩ := H
     have c21b0 := eq_true c21
     have c21b1 : decide (0 ≤ (rd t463 x11_1)) = true := decide_eq_true c21
     clear c21
     replace H := ifP H; obtain ⟨c22, H⟩ := H
     have c22b0 := eq_true c22
     have c22b1 : decide ((rd t463 x11_1) ≤ (x1_1.size : Int)) = true := decide_eq_true c22
     clear c22
     have c23b0 := eq_true (OD : 0 ≤ x11_1)
     replace H := ifP H; obtain ⟨c24, H⟩ := H
     have c24b0 := eq_true c24
     have c24b1 : decide (x11_1 ≤ (wrap64 (x11_1 + 1))) = true := decide_eq_true c24
     replace H := ifP H; obtain ⟨c25, H⟩ := H
     have c25b0 := eq_true c25
     have c25b1 : decide ((wrap64 (x11_1 + 1)) ≤ (a3.size : Int)) = true := decide_eq_true c25
     by_cases c26 : (x1_1.extract 0 ((rd t463 x11_1) : Int).toNat).size + (a3.extract (x11_1 : Int).toNat ((wrap64 (x11_1 + 1)) : Int).toNat).size ≤ 9223372036854775807
     ·rw [if_pos c26] at H
      have c26b0 := eq_true c26
      have c26b1 : decide ((x1_1.extract 0 ((rd t463 x11_1) : Int).toNat).size + (a3.extract (x11_1 : Int).toNat ((wrap64 (x11_1 + 1)) : Int).toNat).size ≤ 9223372036854775807) = true := decide_eq_true c26
      try have c26b2 : (9223372036854775807 < (x1_1.extract 0 ((rd t463 x11_1) : Int).toNat).size + (a3.extract (x11_1 : Int).toNat ((wrap64 (x11_1 + 1)) : Int).toNat).size) = False := eq_false (Nat.not_lt.2 c26)
      have c26b3 : (9223372036854775807 < ((rd t463 x11_1)).toNat + (((wrap64 (x11_1 + 1))).toNat - (x11_1).toNat)) = False := eq_false (by
       have h1_ : (rd t463 x11_1) ≤ (x1_1.size : Int) := OD
       have h2_ : (wrap64 (x11_1 + 1)) ≤ (a3.size : Int) := OD
       have h_ := c26
       simp only [ByteArray.size_extract] at h_
       omega)
      obtain ⟨ji27, hji27⟩ : ∃ j_ : Int, (wrap64 ((rd t463 x11_1) + 1)) = j_ := ⟨_, rfl⟩
      replace H : (if 0 ≤ (ji27) then (if (ji27) ≤ (x1_1.size : Int) then (if ((x1_1.extract 0 ((rd t463 x11_1) : Int).toNat) ++ (a3.extract (x11_1 : Int).toNat ((wrap64 (x11_1 + 1)) : Int).toNat)).size + (x1_1.extract ((ji27) : Int).toNat x1_1.size).size ≤ 9223372036854775807 then (bN.l0 k1 (((x1_1.extract 0 ((rd t463 x11_1) : Int).toNat) ++ (a3.extract (x11_1 : Int).toNat ((wrap64 (x11_1 + 1)) : Int).toNat)) ++ (x1_1.extract ((ji27) : Int).toNat x1_1.size)) a3 t463 (wrap64 (x11_1 + 1))) else (none)) else (none)) else (none)) = some (r1, r2) := by first | (rw [hji27] at H; exact H) | (simp only [hji27] at H ⊢; exact H)
      have hji27w : (IntKind.i64.wrap ((rd t463 x11_1) + 1)) = ji27 := (gZ _).trans hji27
      replace H := ifP H; obtain ⟨c28, H⟩ := H
      have c28b0 := eq_true c28
      have c28b1 : decide (0 ≤ (ji27)) = true := decide_eq_true c28
      clear c28
      replace H := ifP H; obtain ⟨c29, H⟩ := H
      have c29b0 := eq_true c29
      have c29b1 : decide ((ji27) ≤ (x1_1.size : Int)) = true := decide_eq_true c29
      clear c29
      by_cases c30 : ((x1_1.extract 0 ((rd t463 x11_1) : Int).toNat) ++ (a3.extract (x11_1 : Int).toNat ((wrap64 (x11_1 + 1)) : Int).toNat)).size + (x1_1.extract ((ji27) : Int).toNat x1_1.size).size ≤ 9223372036854775807
      ·rw [if_pos c30] at H
       have c30b0 := eq_true c30
       have c30b1 : decide (((x1_1.extract 0 ((rd t463 x11_1) : Int).toNat) ++ (a3.extract (x11_1 : Int).toNat ((wrap64 (x11_1 + 1)) : Int).toNat)).size + (x1_1.extract ((ji27) : Int).toNat x1_1.size).size ≤ 9223372036854775807) = true := decide_eq_true c30
       try have c30b2 : (9223372036854775807 < ((x1_1.extract 0 ((rd t463 x11_1) : Int).toNat) ++ (a3.extract (x11_1 : Int).toNat ((wrap64 (x11_1 + 1)) : Int).toNat)).size + (x1_1.extract ((ji27) : Int).toNat x1_1.size).size) = False := eq_false (Nat.not_lt.2 c30)
       have c30b3 : (9223372036854775807 < ((rd t463 x11_1)).toNat + (((wrap64 (x11_1 + 1))).toNat - (x11_1).toNat) + (x1_1.size - (ji27).toNat)) = False := eq_false (by
        have h1_ : (rd t463 x11_1) ≤ (x1_1.size : Int) := OD
        have h2_ : (wrap64 (x11_1 + 1)) ≤ (a3.size : Int) := OD
        have h_ := c30
        simp only [ByteArray.size_append, ByteArray.size_extract] at h_
        omega)
       have H' := ah.mk H
       clear H
       try go_wp2
       replace HO_10 := ah.mk (Kd.eH HO_10.out)
       replace BK456 := ah.mk (aH BK456.out)
       replace HB := ah.mk (dK HB.out)
       have p466 : 0 ≤ (x11_1 : Int) := OD
       have q466 : x11_1 < (t463.length : Int) := OD
       obtain ⟨ad466, e466, hx466_0⟩ := Kd.mV (Kd.bO HO_10.out).2.2 x11_1 p466 q466
       cases e466
       replace p466 := eq_true p466
       replace q466 := eq_true q466
       have p467 : 0 ≤ (x11_1 : Int) := OD
       have q467 : x11_1 < (t463.length : Int) := OD
       obtain ⟨ad467, e467, hx467_0⟩ := Kd.mV (Kd.bO HO_10.out).2.2 x11_1 p467 q467
       obtain rfl : ad466 = ad467 := (by injection e467)
       replace p467 := eq_true p467
       replace q467 := eq_true q467
       refine jl (n := 21) (S := fun w' => w'.cell? (ad466.add (x11_1).toNat) = some (.int .i64 (rd t463 x11_1)) ∧ w'.cell? (ad466.add (x11_1).toNat) = some (.int .i64 (rd t463 x11_1))) (ds := []) #[F,F,F,F,F,F,F,F,F,F,F,F,F,F,F,F,F,F,F,F,F] (by kernel_rfl) rfl rfl ⟨hx466_0, hx467_0⟩ (fun hHeld => ?_); refine iL bN.Ki bN.GH (fun HT_ HW_ => ?_)
       generalize wr.drew = w9008 at HO_10 BK456 HB hx466_0 hx467_0 hHeld ⊢
       refine puS (i := 0) (N := some 33) #[T,F,F,F,F,F,F,F,F,F,F,F,F,F,F,F,F,F,F,F,F] (jk HT_.out (by kernel_rfl)) ?_
       refine puS (i := 1) (N := some 34) #[T,T,F,F,F,F,F,F,F,F,F,F,F,F,F,F,F,F,F,F,F] (jk HT_.out (by kernel_rfl)) ?_
       refine puS (i := 2) (N := some 35) #[T,T,T,F,F,F,F,F,F,F,F,F,F,F,F,F,F,F,F,F,F] (jk HT_.out (by kernel_rfl)) ?_
       refine puS (i := 3) (N := some 36) #[T,T,T,T,F,F,F,F,F,F,F,F,F,F,F,F,F,F,F,F,F] (jk HT_.out (by kernel_rfl)) ?_
       refine puS (i := 6) (N := some 39) #[T,T,T,T,F,F,T,F,F,F,F,F,F,F,F,F,F,F,F,F,F] (jk HT_.out (by kernel_rfl)) ?_
       refine puS (i := 7) (N := some 40) #[T,T,T,T,F,F,T,T,F,F,F,F,F,F,F,F,F,F,F,F,F] (jk HT_.out (by kernel_rfl)) ?_
       refine puS (i := 8) (N := some 41) #[T,T,T,T,F,F,T,T,T,F,F,F,F,F,F,F,F,F,F,F,F] (jk HT_.out (by kernel_rfl)) ?_
       refine puS (i := 9) (N := some 42) #[T,T,T,T,F,F,T,T,T,T,F,F,F,F,F,F,F,F,F,F,F] (jk HT_.out (by kernel_rfl)) ?_
       refine puS (i := 10) (N := some 43) #[T,T,T,T,F,F,T,T,T,T,T,F,F,F,F,F,F,F,F,F,F] (jk HT_.out (by kernel_rfl)) ?_
       refine puS (i := 12) (N := some 45) #[T,T,T,T,F,F,T,T,T,T,T,F,T,F,F,F,F,F,F,F,F] (jk HT_.out (by kernel_rfl)) ?_
       refine puS (i := 13) (N := some 46) #[T,T,T,T,F,F,T,T,T,T,T,F,T,T,F,F,F,F,F,F,F] (jk HT_.out (by kernel_rfl)) ?_
       refine puS (i := 14) (N := some 47) #[T,T,T,T,F,F,T,T,T,T,T,F,T,T,T,F,F,F,F,F,F] (jk HT_.out (by kernel_rfl)) ?_
       refine puS (i := 15) (N := some 48) #[T,T,T,T,F,F,T,T,T,T,T,F,T,T,T,T,F,F,F,F,F] (jk HT_.out (by kernel_rfl)) ?_
       refine taS (i := 4) (N := some 37) #[T,T,T,T,T,F,T,T,T,T,T,F,T,T,T,T,F,F,F,F,F] (qY HT_.out HW_.out (by kernel_rfl)) hHeld ?_
       refine puS (i := 5) (N := some 38) #[T,T,T,T,T,T,T,T,T,T,T,F,T,T,T,T,F,F,F,F,F] (jk HT_.out (by kernel_rfl)) ?_
       refine puS (i := 11) (N := some 44) #[T,T,T,T,T,T,T,T,T,T,T,T,T,T,T,T,F,F,F,F,F] (jk HT_.out (by kernel_rfl)) ?_
       refine taS (i := 16) (N := some 49) #[T,T,T,T,T,T,T,T,T,T,T,T,T,T,T,T,T,F,F,F,F] (qY HT_.out HW_.out (by kernel_rfl)) hHeld ?_
       refine puS (i := 17) (N := some 50) #[T,T,T,T,T,T,T,T,T,T,T,T,T,T,T,T,T,T,F,F,F] (jk HT_.out (by kernel_rfl)) ?_
       refine puS (i := 18) (N := some 51) #[T,T,T,T,T,T,T,T,T,T,T,T,T,T,T,T,T,T,T,F,F] (jk HT_.out (by kernel_rfl)) ?_
       refine puS (i := 19) (N := some 52) #[T,T,T,T,T,T,T,T,T,T,T,T,T,T,T,T,T,T,T,T,F] (jk HT_.out (by kernel_rfl)) ?_
       refine puS (i := 20) (N := some 1) #[T,T,T,T,T,T,T,T,T,T,T,T,T,T,T,T,T,T,T,T,T] (jk HT_.out (by kernel_rfl)) ?_
       refine iF (gJ HT_.out (by kernel_rfl)) ?_
       try go_wp2
       go_roundg k1
       case measure => have := HK1.out; omega
       case rel => exact ⟨(((x1_1.extract 0 ((rd t463 x11_1) : Int).toNat) ++ (a3.extract (x11_1 : Int).toNat ((wrap64 (x11_1 + 1)) : Int).toNat)) ++ (x1_1.extract ((ji27) : Int).toNat x1_1.size)), (wrap64 (x11_1 + 1)), (by first | rfl | (simp; done) | (simp only [← hji27] <;> (first | rfl | simp)) | (simp [*]; done)), EQ, H', ⟨by have := HK1.out; omega⟩, ⟨(RR HO_10)⟩, ⟨BK⟩, ⟨BL⟩⟩
      ·rw [if_neg c30] at H
       exact absurd H (by simp)
     ·rw [if_neg c26] at H
      exact absurd H (by simp)
    ·simp only [Option.some.injEq, Prod.mk.injEq] at H
     obtain ⟨rfl, rfl⟩ := H
     go_wp2
     go_ret2
     exact ⟨EWW, BL⟩
 ·simp only [Option.some.injEq, Prod.mk.injEq] at H
  obtain ⟨rfl, rfl⟩ := H
  try go_wp2
  go_ret2
  exact ⟨EWW, BL⟩
mutual
def bF.l0 : Nat → ByteArray → List (S62) → List ByteArray → Int → ByteArray → Int → Int → Int → ByteArray → List (S72) → List Int → Int → Option (ByteArray)
 | 0, _, _, _, _, _, _, _, _, _, _, _, _ => none
 | k + 1, a, b, c, d, e, f, g, h, i, j, l, m => if f < (j.length : Int) then ((dS.f k g h i j l m).bind fun n => (if n = true then ((bM.f k g h i a).bind fun o => (bF.j1 k a b c d e f o g h i j l m)) else (bF.j1 k a b c d e f false g h i j l m))) else (bF.j1 k a b c d e f false g h i j l m)
def bF.j1 : Nat → ByteArray → List (S62) → List ByteArray → Int → ByteArray → Int → Bool → Int → Int → ByteArray → List (S72) → List Int → Int → Option (ByteArray)
 | 0, _, _, _, _, _, _, _, _, _, _, _, _, _ => none
 | k + 1, a, b, c, d, e, f, g, h, i, j, l, m, n => if g = true then ((bn.f k h i j a f).bind fun o => (if 0 ≤ f then (if f < (l.length : Int) then ((aU.f k ((fO l f).f0) ((fO l f).f1) b c o d).bind fun p => ((fK.f k o).bind fun q => (if q = true then (if (p.length : Int) = 1 then (if 0 < (p.length : Int) then ((bN.f k h i j e f (fG ByteArray.empty p 0)).bind fun r => (bF.l0 k a b c d r.1 (wrap64 (f + 1)) h i j l m n)) else (none)) else (bF.l0 k a b c d e (wrap64 (f + 1)) h i j l m n)) else (bF.l0 k a b c d e (wrap64 (f + 1)) h i j l m n)))) else (none)) else (none))) else (some e)
end
def bF.f (k : Nat) (La Lb : Int) (Lc : ByteArray) (Ld : List (S72)) (Le : List Int) (Lf : Int) (a1 : ByteArray) (l2 : List (S62)) (l3 : List ByteArray) (a4 : Int) : Option (ByteArray) := bF.l0 k a1 l2 l3 a4 a1 0 La Lb Lc Ld Le Lf
def bF.T8 : Bool × List (List Nat × List Nat) := (true, [([], []), ([0], [0]), ([], []), ([], []), ([], []), ([4], [4]), ([5], [5]), ([1, 2, 3, 6], [1, 2, 3, 6]), ([7], [7]), ([8], [8]), ([8], [8]), ([9, 7, 0, 1, 2, 3, 4, 5, 6, 7, 8, 9], [2, 9])])
def bF.B8 : List Nat := [0, 1, 0, 0, 0, 16, 48, 127, 255, 511, 511, 1023]
theorem bF.Kj : kP .any (opsOf Tryz.f49 8) = bF.T8 := by kernel_rfl
theorem bF.GI : iZ bF.T8.2 bF.B8 = true := by kernel_rfl
theorem bF.calls (k : Nat) (La Lb : Int) (Lc : ByteArray) (A0_3 : Option Addr) (c0_3 : Nat) (Ld : List (S72)) (A0_4 : Option Addr) (c0_4 : Nat) (Le : List Int) (Lf : Int) (a1 : ByteArray) (A2 : Option Addr) (c2 : Nat) (l2 : List (S62)) (A3 : Option Addr) (c3 : Nat) (l3 : List ByteArray) (a4 : Int) (r : ByteArray) (w : World) (hr0_3 : Kd.C k72 w A0_3 Ld.length Ld) (hc0_3 : Ld.length ≤ c0_3) (hr0_4 : Kd.C (Kd.int .i64) w A0_4 Le.length Le) (hc0_4 : Le.length ≤ c0_4) (hr2 : Kd.C k62 w A2 l2.length l2) (hc2 : l2.length ≤ c2) (yp : Kd.C Kd.string w A3 l3.length l3) (yq : l3.length ≤ c3) (h : bF.f k La Lb Lc Ld Le Lf a1 l2 l3 a4 = some r) :
  Calls Tryz.prog 49 #[.agg #[.int .i64 La, .int .i64 Lb, .string Lc, .slice A0_3 Ld.length c0_3, .slice A0_4 Le.length c0_4, .int .i64 Lf], .string a1, .slice A2 l2.length c2, .slice A3 l3.length c3, .int .i64 a4] w fun e w' => e = .returned (.string r) ∧ Below w.heap.size w w' := by
 have yX := Tryz.underlying37;have yY := Tryz.underlying34;have yZ := Tryz.underlying72;have P := ah.mk hr0_3;have xk := ah.mk hc0_3;clear hr0_3 hc0_3;have xl := ah.mk hr0_4;have xm := ah.mk hc0_4;clear hr0_4 hc0_4;have yA := ah.mk hr2;have yB := ah.mk hc2;clear hr2 hc2;have yC := ah.mk yp;have yD := ah.mk yq;clear yp yq;have HB := ah.mk (Below.refl w.heap.size w);unfold bF.f at h;have H := h;clear h;have H' := ah.mk H;clear H;go_enter Tryz.func49, Tryz.ntmps49;go_wp2_with (first | ((with_reducible refine aJ (N := 5) rfl ?_); (try (refine je (by rfl) ?_; dsimp only)); refine aZ (N := 5) (cs := #[.int .i64 La, .int .i64 Lb, .string Lc, .slice A0_3 Ld.length c0_3, .slice A0_4 Le.length c0_4, .int .i64 Lf]) (t := 37) ?_; intro u hg w6 hbox hb; have a := ah.mk hbox; have xn := SZ (w := w) hg; have yE := xn; replace HB := BS (w := w) hb; clear hb hbox hg))
 go_loopg [11, 12] k (fun kq yF yG w' => ∃ (A : ByteArray) (m : Int), yF = .string A ∧ yG = .int .i64 m ∧ ah (bF.l0 kq a1 l2 l3 a4 A m La Lb Lc Ld Le Lf = some r) ∧ ah (kq ≤ k) ∧ ah (w'.heap[u]? = some (.cells #[.int .i64 La, .int .i64 Lb, .string Lc, (.slice A0_3 Ld.length c0_3), (.slice A0_4 Le.length c0_4), .int .i64 Lf] 37 (0, 0))) ∧ ah (Below w.heap.size w w'))
 case atStart => exact ⟨_, _, EQ, EQ, H', ⟨Nat.le_refl _⟩, ⟨BK⟩, ⟨BL⟩⟩
 case round =>
  clear H';(try clear c2);(try clear c3);obtain ⟨A, m, rfl, rfl, HA, G, a, HB⟩ := hrel
  cases gk with
  | zero => exact absurd HA.out (by simp [bF.l0])
  | succ k1 =>
   have H := HA.out;clear HA;simp only [bF.l0] at H;have xo := ah.mk H;clear H;go_upto_region 3 with (fail)
   go_cut [30] (fun yH wc => ∃ (kq : Nat) (L : Bool), yH = .bool L ∧ ah (bF.j1 kq a1 l2 l3 a4 A m L La Lb Lc Ld Le Lf = some r) ∧ ah (kq ≤ k1) ∧ ah (wc.heap[u]? = some (.cells #[.int .i64 La, .int .i64 Lb, .string Lc, (.slice A0_3 Ld.length c0_3), (.slice A0_4 Le.length c0_4), .int .i64 Lf] 37 (0, 0))) ∧ ah (Below w.heap.size w wc))
   case first =>
    have H := xo.out;clear xo;obtain ⟨xp, xq, xr, xs, xt, xu, xv, xw, xx, xy, xz, xA⟩ := cz6 a.out;replace H := ifD H; rcases H with ⟨I, H⟩ | ⟨I, H⟩
    ·(first | rw [I] | (simp only [gZ, iR]; rw [I]) | skip);replace H := be H; obtain ⟨za, A9, H⟩ := H;replace H := ah.mk H;go_wp2_with (first | (go_at_call 31; (with_reducible refine (dS.calls k1 La Lb Lc _ _ Ld _ _ Le Lf _ _ ?side1 ?side2 ?side3 ?side4 A9.out).mono ?_); (case side1 => exact CB P); (case side2 => exact xk.out); (case side3 => exact CB xl); (case side4 => exact xm.out); rintro e yI ⟨rfl, hb⟩; replace a := KB a hb; replace HB := BS (w := w) hb; (try clear hb); (try clear hb2); (try clear hk); (try clear hi); obtain ⟨xB, xC, xD, xE, xF, xG, xH, xI, xJ, xK, xL, xM⟩ := cz6 a.out; refine bR ?_));refine Hide.mk ?_;replace H := H.out;replace H := ifB H; rcases H with ⟨rfl, H⟩ | ⟨rfl, H⟩
     ·replace H := be H; obtain ⟨yr, yJ, H⟩ := H;have H' := ah.mk H;clear H;(try go_wp2_with (first | (go_at_call 65; (with_reducible refine (bM.calls k1 La Lb Lc a1 yr _ yJ.out).mono ?_); rintro e yK ⟨rfl, hb⟩; replace a := KB a hb; replace HB := BS (w := w) hb; (try clear hb); (try clear hb2); (try clear hk); (try clear hi))));go_meet;case rel => exact ⟨_, _, EQ, H', ⟨by have := G.out; first | omega | exact Nat.le_refl _⟩, ⟨BK⟩, ⟨BL⟩⟩
     ·have H' := ah.mk H;clear H;(try go_wp2);go_meet;case rel => exact ⟨_, _, EQ, H', ⟨by have := G.out; first | omega | exact Nat.le_refl _⟩, ⟨BK⟩, ⟨BL⟩⟩
    ·(first | rw [I] | (simp only [gZ, iR]; rw [I]) | skip);have H' := ah.mk H;clear H;go_wp2;go_meet;case rel => exact ⟨_, _, EQ, H', ⟨by have := G.out; first | omega | exact Nat.le_refl _⟩, ⟨BK⟩, ⟨BL⟩⟩
   case rest =>
    clear xo;(try clear c2);(try clear c3);obtain ⟨kq, L, rfl, HA, O, a, HB⟩ := hcut
    cases kq with
    | zero => exact absurd HA.out (by simp [bF.j1])
    | succ M =>
     have H := HA.out;clear HA;simp only [bF.j1] at H;replace H := ifB H; rcases H with ⟨rfl, H⟩ | ⟨rfl, H⟩
     ·replace H := be H; obtain ⟨J, yL, H⟩ := H;replace H := ifN H; obtain ⟨yM, H⟩ := H;replace H := ifN H; obtain ⟨yN, H⟩ := H;replace H := be H; obtain ⟨x, yO, H⟩ := H;replace H := be H; obtain ⟨zb, yP, H⟩ := H;obtain ⟨xN, xO, xP, xQ, xR, xS, xT, xU, xV, xW, xX, xY⟩ := cz6 a.out;replace H := ah.mk H;go_wp2_with (first | ((with_reducible refine ay (f := 40) rfl ?_); refine bf (some 37) Tryz.func40 #[.agg #[.int .i64 La, .int .i64 Lb, .string Lc], .string a1, .int .i64 m] ?_; (with_reducible refine (bn.calls M La Lb Lc a1 m J _ yL.out).mono ?_); rintro e yQ ⟨rfl, hb⟩; refine ⟨_, rfl, ?_⟩; replace a := KB a hb; replace HB := BS (w := w) hb; (try clear hb); obtain ⟨xZ, ya, yb, yc, yd, ye, yf, yg, yh, yi, yj, yk⟩ := cz6 a.out; have U : 0 ≤ (m : Int) := OD; have Y : m < (Ld.length : Int) := OD; obtain ⟨Z, xe, xf, ys, D, E, hl472_1, hi472_1⟩ := uN P.out m U Y; cases ys; replace D := (HB.out.cell (World.block_lt_of_cell? w _ D)).trans D; replace E := (HB.out.cell (World.block_lt_of_cell? w _ E)).trans E; have xa := ah.mk hi472_1; have xb := ah.mk hl472_1; clear hi472_1 hl472_1; replace U := eq_true U; replace Y := eq_true Y) | ((with_reducible refine ay (f := 42) rfl ?_); refine bf (some 47) Tryz.func42 #[.agg #[.int .i64 ((fO Ld m).f0), .slice xe ((fO Ld m).f1).length xf], .slice A2 l2.length c2, .slice A3 l3.length c3, .string J, .int .i64 a4] ?_; (with_reducible refine (aU.calls M ((fO Ld m).f0) _ _ ((fO Ld m).f1) _ _ l2 _ _ l3 J a4 x _ ?side1 ?side2 ?side3 ?side4 ?side5 ?side6 yO.out).mono ?_); (case side1 => exact CB xa); (case side2 => exact xb.out); (case side3 => exact CB yA); (case side4 => exact yB.out); (case side5 => exact CB yC); (case side6 => exact yD.out); rintro e y ⟨zc, rfl, yt, hb⟩; refine ⟨_, rfl, ?_⟩; replace a := KB a hb; have o := ah.mk (Kd.cK yt (aM BL)); replace HB := BS (w := w) hb; (try clear hb); (try clear yt)) | ((with_reducible refine ay (f := 84) rfl ?_); refine bf (some 49) Tryz.func84 #[.string J] ?_; (with_reducible refine (fK.calls M J _ _ yP.out).mono ?_); rintro e w' ⟨rfl, ⟨nd, rfl⟩⟩; refine ⟨_, rfl, ?_⟩; refine bR ?_));refine Hide.mk ?_;replace H := H.out;replace H := ifB H; rcases H with ⟨rfl, H⟩ | ⟨rfl, H⟩
      ·replace H := ah.mk H;obtain ⟨xg, xh, xi⟩ := Kd.dN o.out;subst xi;replace H := H.out;replace H := ifE H; rcases H with ⟨yl, ym, H⟩ | ⟨ze, yl, ym, H⟩
       ·replace H := ifP H; obtain ⟨yu, H⟩ := H;have yR : decide (0 < (x.length : Int)) = true := decide_eq_true yu;have yS : decide (0 < x.length) = true := decide_eq_true (by omega);clear yu;replace H := be H; obtain ⟨⟨yv, yw⟩, yT, H⟩ := H;dsimp only at H;have H' := ah.mk H;clear H;(try go_wp2);(try (rw [oH y]; generalize hq_ : World.drewN y _ = y; have n0_ : ah (Kd.R Kd.string 9 y w.heap.size (fun _ => True) (.slice xg x.length xh) x) := ⟨by rw [← hq_]; exact (RR o)⟩; have n1_ : ah (y.heap[u]? = some (.cells #[.int .i64 La, .int .i64 Lb, .string Lc, .slice (some Z) Ld.length c0_3, .slice A0_4 Le.length c0_4, .int .i64 Lf] 37 (0, 0))) := ⟨by rw [← hq_]; exact BK⟩; have n2_ : ah (Below w.heap.size w y) := ⟨by rw [← hq_]; exact BL⟩; clear o a HB hq_; have o := n0_; have a := n1_; have HB := n2_; clear n0_ n1_ n2_));replace o := ah.mk (Kd.eH o.out);replace a := ah.mk (aH a.out);replace HB := ah.mk (dK HB.out);have xc : 0 ≤ (0 : Int) := (by omega);have xd : 0 < (x.length : Int) := OD;obtain ⟨yn, yx, z⟩ := Kd.jv (Kd.bO o.out).2.2 0 xc xd
        cases yx
        have yU : (0 < x.length) = True := eq_true (by omega);(try rw [show ((0 : Int)).toNat = 0 from rfl] at z);(try rw [Addr.add_zero'] at z);replace xc := eq_true xc;replace xd := eq_true xd;refine jl (n := 12) (S := fun w' => w'.cell? ⟨u, 0, none⟩ = some (.int .i64 La) ∧ w'.cell? ⟨u, 1, none⟩ = some (.int .i64 Lb) ∧ w'.cell? ⟨u, 2, none⟩ = some (.string Lc) ∧ w'.cell? ⟨u, 3, none⟩ = some (.slice (some Z) Ld.length c0_3) ∧ w'.cell? ⟨u, 4, none⟩ = some (.slice A0_4 Le.length c0_4) ∧ w'.cell? ⟨u, 5, none⟩ = some (.int .i64 Lf) ∧ w'.cell? yn = some (.string (fG ByteArray.empty x 0))) (ds := []) #[F,F,F,F,F,F,F,F,F,F,F,F] (by kernel_rfl) rfl rfl ⟨(ak a.out 0).trans rfl, (ak a.out 1).trans rfl, (ak a.out 2).trans rfl, (ak a.out 3).trans rfl, (ak a.out 4).trans rfl, (ak a.out 5).trans rfl, z⟩ (fun hHeld => ?_); refine iL bF.Kj bF.GI (fun HT_ HW_ => ?_);generalize y.drew = yV at o a HB z hHeld ⊢;refine pS 0 (some 56) #[T,F,F,F,F,F,F,F,F,F,F,F] ?_;refine pS 2 (some 58) #[T,F,T,F,F,F,F,F,F,F,F,F] ?_;refine pS 3 (some 59) #[T,F,T,T,F,F,F,F,F,F,F,F] ?_;refine pS 4 (some 60) #[T,F,T,T,T,F,F,F,F,F,F,F] ?_;refine pS 5 (some 61) #[T,F,T,T,T,T,F,F,F,F,F,F] ?_;refine tS 1 (some 57) #[T,T,T,T,T,T,F,F,F,F,F,F] ?_;refine tS 6 (some 62) #[T,T,T,T,T,T,T,F,F,F,F,F] ?_;refine lC (i := 7) (N := some 63) #[T,T,T,T,T,T,T,T,F,F,F,F] rfl rfl (jh HT_.out (by kernel_rfl)) (by decide) (fun K hK => ?_);refine jd Tryz.func85 #[.agg #[.int .i64 La, .int .i64 Lb, .string Lc], .string A, .int .i64 m, .string (fG ByteArray.empty x 0)] ?_;(with_reducible refine (bN.calls M La Lb Lc A m (fG ByteArray.empty x 0) yv yw _ yT.out).mono ?_);rintro e yW ⟨rfl, hb⟩;have yy := (hb.cell (World.block_lt_of_cell? _ _ (hHeld.2.2.2.2.2.2))).trans (hHeld.2.2.2.2.2.2);refine ⟨_, rfl, ?_⟩;replace o := RB o hb;replace a := KB a hb;replace HB := BS (w := w) hb;(try clear hb);refine hK.out _ _ ⟨(ak a.out 0).trans rfl, (ak a.out 1).trans rfl, (ak a.out 2).trans rfl, (ak a.out 3).trans rfl, (ak a.out 4).trans rfl, (ak a.out 5).trans rfl, yy⟩ (fun hHeld => ?_);clear hK K;refine nrm (some 63) ?_;refine pS 8 (some 55) #[T,T,T,T,T,T,T,T,T,F,F,F] ?_;refine pS 9 (some 64) #[T,T,T,T,T,T,T,T,T,T,F,F] ?_;refine pS 10 (some 65) #[T,T,T,T,T,T,T,T,T,T,T,F] ?_;refine pS 11 (some 11) #[T,T,T,T,T,T,T,T,T,T,T,T] ?_;refine iF (gJ HT_.out (by kernel_rfl)) ?_;(try go_wp2);go_roundg M;case measure => have := G.out; have := O.out; omega
        case rel => exact ⟨_, _, EQ, EQ, H', kt G O, ⟨BK⟩, ⟨BL⟩⟩
       ·have H' := ah.mk H;clear H;(try go_wp2);go_roundg M;case measure => have := G.out; have := O.out; omega
        case rel => exact ⟨_, _, EQ, EQ, H', kt G O, ⟨BK⟩, ⟨BL⟩⟩
      ·have H' := ah.mk H;clear H;(try go_wp2);go_roundg M;case measure => have := G.out; have := O.out; omega
       case rel => exact ⟨_, _, EQ, EQ, H', kt G O, ⟨BK⟩, ⟨BL⟩⟩
     ·obtain rfl := Option.some.inj H;go_wp2;go_ret;exact ⟨EWW, BL⟩
def dH.l0 : Nat → List (S62) → List ByteArray → Int → ByteArray → Int → Int → Int → ByteArray → List (S72) → List Int → Int → Option (Int)
 | 0, _, _, _, _, _, _, _, _, _, _, _ => none
 | k + 1, a, b, c, d, e, f, g, h, i, j, l => (lG.f k f g h d).bind fun m => (if m = true then (some e) else ((bF.f k f g h i j l d a b c).bind fun n => (if n.toList = d.toList then (some (-1)) else (dH.l0 k a b c n (wrap64 (e + 1)) f g h i j l))))
def dH.f (k : Nat) (La Lb : Int) (Lc : ByteArray) (Ld : List (S72)) (Le : List Int) (Lf : Int) (l1 : List (S62)) (l2 : List ByteArray) (a3 : Int) : Option (Int) := (dS.f k La Lb Lc Ld Le Lf).bind fun t481 => (if t481 = true then ((bT.f k La Lb Lc).bind fun t482 => (dH.l0 k l1 l2 a3 t482 0 La Lb Lc Ld Le Lf)) else (some (-1)))
theorem dH.calls (k : Nat) (La Lb : Int) (Lc : ByteArray) (A0_3 : Option Addr) (c0_3 : Nat) (Ld : List (S72)) (A0_4 : Option Addr) (c0_4 : Nat) (Le : List Int) (Lf : Int) (A1 : Option Addr) (c1 : Nat) (l1 : List (S62)) (A2 : Option Addr) (c2 : Nat) (l2 : List ByteArray) (a3 r : Int) (w : World) (hr0_3 : Kd.C k72 w A0_3 Ld.length Ld) (hc0_3 : Ld.length ≤ c0_3) (hr0_4 : Kd.C (Kd.int .i64) w A0_4 Le.length Le) (hc0_4 : Le.length ≤ c0_4) (hr1 : Kd.C k62 w A1 l1.length l1) (hc1 : l1.length ≤ c1) (hr2 : Kd.C Kd.string w A2 l2.length l2) (hc2 : l2.length ≤ c2) (h : dH.f k La Lb Lc Ld Le Lf l1 l2 a3 = some r) :
  Calls Tryz.prog 25 #[.agg #[.int .i64 La, .int .i64 Lb, .string Lc, .slice A0_3 Ld.length c0_3, .slice A0_4 Le.length c0_4, .int .i64 Lf], .slice A1 l1.length c1, .slice A2 l2.length c2, .int .i64 a3] w fun e w' => e = .returned (.int .i64 r) ∧ Below w.heap.size w w' := by
 have yc := Tryz.underlying37;have yd := Tryz.underlying34;have xg := ah.mk hr0_3;have xh := ah.mk hc0_3;clear hr0_3 hc0_3;have xi := ah.mk hr0_4;have xj := ah.mk hc0_4;clear hr0_4 hc0_4;have xP := ah.mk hr1;have xQ := ah.mk hc1;clear hr1 hc1;have xR := ah.mk hr2;have xS := ah.mk hc2;clear hr2 hc2;have HB := ah.mk (Below.refl w.heap.size w);unfold dH.f at h;have H := h;clear h;replace H := be H; obtain ⟨ye, A5, H⟩ := H;replace H := ah.mk H;go_enter Tryz.func25, Tryz.ntmps25;go_wp2_with (first | ((with_reducible refine aJ (N := 4) rfl ?_); refine aZ (N := 4) (cs := #[.int .i64 La, .int .i64 Lb, .string Lc, .slice A0_3 Ld.length c0_3, .slice A0_4 Le.length c0_4, .int .i64 Lf]) (t := 37) ?_; intro xk hg xT hbox hb; have a := ah.mk hbox; have xl := SZ (w := w) hg; have xU := xl; replace HB := BS (w := w) hb; clear hb hbox hg; obtain ⟨o, u, x, y, z, A, D, E, G, I, J, K⟩ := cz6 a.out) | ((with_reducible refine ay (f := 31) rfl ?_); refine bf (some 13) Tryz.func31 #[.agg #[.int .i64 La, .int .i64 Lb, .string Lc, .slice A0_3 Ld.length c0_3, .slice A0_4 Le.length c0_4, .int .i64 Lf]] ?_; (with_reducible refine (dS.calls k La Lb Lc _ _ Ld _ _ Le Lf _ _ ?side1 ?side2 ?side3 ?side4 A5.out).mono ?_); (case side1 => exact CB xg); (case side2 => exact xh.out); (case side3 => exact CB xi); (case side4 => exact xj.out); rintro e xV ⟨rfl, hb⟩; refine ⟨_, rfl, ?_⟩; replace a := KB a hb; replace HB := BS (w := w) hb; (try clear hb); obtain ⟨L, M, O, P, U, Y, Z, xa, xb, xc, xd, xe⟩ := cz6 a.out; refine bR ?_));refine Hide.mk ?_;replace H := H.out;replace H := ifB H; rcases H with ⟨rfl, H⟩ | ⟨rfl, H⟩
 ·replace H := be H; obtain ⟨xM, A7, H⟩ := H;have H' := ah.mk H;clear H;try go_wp2_with (first | ((with_reducible refine ay (f := 41) rfl ?_); refine bf (some 17) Tryz.func41 #[.agg #[.int .i64 La, .int .i64 Lb, .string Lc]] ?_; (with_reducible refine (bT.calls k La Lb Lc xM _ A7.out).mono ?_); rintro e xW ⟨rfl, hb⟩; refine ⟨_, rfl, ?_⟩; replace a := KB a hb; replace HB := BS (w := w) hb; (try clear hb)))
  go_loopg [9, 10] k (fun kq v9 xX w' => ∃ (m : ByteArray) (xf : Int), v9 = .string m ∧ xX = .int .i64 xf ∧ ah (dH.l0 kq l1 l2 a3 m xf La Lb Lc Ld Le Lf = some r) ∧ ah (kq ≤ k) ∧ ah (w'.heap[xk]? = some (.cells #[.int .i64 La, .int .i64 Lb, .string Lc, (.slice A0_3 Ld.length c0_3), (.slice A0_4 Le.length c0_4), .int .i64 Lf] 37 (0, 0))) ∧ ah (Below w.heap.size w w'))
  case atStart => exact ⟨_, _, EQ, EQ, H', ⟨Nat.le_refl _⟩, ⟨BK⟩, ⟨BL⟩⟩
  case round =>
   clear H';(try clear c1);(try clear c2);(try clear c3);(try clear c6);(try clear L M O P U Y);(try clear o u x y z A);(try clear Z xa xb xc xd xe);(try clear D E G I J K);obtain ⟨m, xf, rfl, rfl, HA, xN, a, HB⟩ := hrel
   cases gk with
   | zero => exact absurd HA.out (by simp [dH.l0])
   | succ k1 =>
    have H := HA.out;clear HA;simp only [dH.l0] at H;replace H := be H; obtain ⟨yf, xY, H⟩ := H;obtain ⟨xm, xn, xo, xp, xq, xr, xs, xt, xu, xv, xw, xx⟩ := cz6 a.out;replace H := ah.mk H;go_wp2_with (first | ((with_reducible refine ay (f := 48) rfl ?_); refine bf (some 23) Tryz.func48 #[.agg #[.int .i64 La, .int .i64 Lb, .string Lc], .string m] ?_; (with_reducible refine (lG.calls k1 La Lb Lc m _ _ xY.out).mono ?_); rintro e xZ ⟨rfl, hb⟩; refine ⟨_, rfl, ?_⟩; replace a := KB a hb; replace HB := BS (w := w) hb; (try clear hb); obtain ⟨xy, xz, xA, xB, xC, xD, xE, xF, xG, xH, xI, xJ⟩ := cz6 a.out; refine bR ?_));refine Hide.mk ?_;replace H := H.out;replace H := ifB H; rcases H with ⟨rfl, H⟩ | ⟨rfl, H⟩
    ·obtain rfl := Option.some.inj H;(try go_wp2);go_ret;exact ⟨EWW, BL⟩
    ·replace H := be H; obtain ⟨xO, ya, H⟩ := H;replace H := ah.mk H;go_wp2_with (first | ((with_reducible refine ay (f := 49) rfl ?_); refine bf (some 30) Tryz.func49 #[.agg #[.int .i64 La, .int .i64 Lb, .string Lc, .slice A0_3 Ld.length c0_3, .slice A0_4 Le.length c0_4, .int .i64 Lf], .string m, .slice A1 l1.length c1, .slice A2 l2.length c2, .int .i64 a3] ?_; (with_reducible refine (bF.calls k1 La Lb Lc _ _ Ld _ _ Le Lf m _ _ l1 _ _ l2 a3 xO _ ?side1 ?side2 ?side3 ?side4 ?side5 ?side6 ?side7 ?side8 ya.out).mono ?_); (case side1 => exact CB xg); (case side2 => exact xh.out); (case side3 => exact CB xi); (case side4 => exact xj.out); (case side5 => exact CB xP); (case side6 => exact xQ.out); (case side7 => exact CB xR); (case side8 => exact xS.out); rintro e yb ⟨rfl, hb⟩; refine ⟨_, rfl, ?_⟩; replace a := KB a hb; replace HB := BS (w := w) hb; (try clear hb); refine bR ?_));refine Hide.mk ?_;replace H := H.out;replace H := ifE H; rcases H with ⟨xK, xL, H⟩ | ⟨yj, xK, xL, H⟩
     ·obtain rfl := Option.some.inj H;(try go_wp2);go_ret;exact ⟨EWW, BL⟩
     ·have H' := ah.mk H;clear H;(try go_wp2);go_roundg k1;case measure => have := xN.out; omega
      case rel => exact ⟨_, _, EQ, EQ, H', ks xN, ⟨BK⟩, ⟨BL⟩⟩
 ·obtain rfl := Option.some.inj H;(try go_wp2);go_ret;exact ⟨EWW, BL⟩
def dh.f (a0 a1 a2 : Int) : Option (Bool) := if a1 ≤ a0 then (some (decide (a0 ≤ a2))) else (some false)
theorem dh.calls (m o u : Int) (r : Bool) (w : World) (h : dh.f m o u = some r) :
  Calls Tryz.prog 60 #[.int .i64 m, .int .i64 o, .int .i64 u] w fun e w' => e = .returned (.bool r) ∧ cB w w' := by
 unfold dh.f at h;have H := h;clear h;replace H := ah.mk H;go_enter Tryz.func60, Tryz.ntmps60;replace H := H.out;replace H := ifD H; rcases H with ⟨a, H⟩ | ⟨a, H⟩
 ·obtain rfl := Option.some.inj H;(try go_wp2);go_ret;exact ⟨EQ, DR⟩
 ·obtain rfl := Option.some.inj H;(try go_wp2);go_ret;exact ⟨EQ, DR⟩
mutual
def bA.j0 : Nat → Bool → Int → Int → ByteArray → Option (Bool)
 | 0, _, _, _, _ => none
 | k + 1, a, b, c, d => if a = true then (some false) else (bA.l0 k (d.size : Int) 0 b c d)
def bA.l0 : Nat → Int → Int → Int → Int → ByteArray → Option (Bool)
 | 0, _, _, _, _, _ => none
 | k + 1, a, b, c, d, e => if b < a then (if 0 ≤ b then (if b < (e.size : Int) then (if (bt e b) = 35 then (bA.l0 k a (wrap64 (b + 1)) c d e) else (if (bt e b) = 46 then (bA.l0 k a (wrap64 (b + 1)) c d e) else (some false))) else (none)) else (none)) else (some true)
end
def bA.f (k : Nat) (La Lb : Int) (Lc : ByteArray) : Option (Bool) := (dh.f La 2 6).bind fun t486 => (if t486 = true then ((dh.f Lb 2 6).bind fun t487 => (if t487 = true then (bA.j0 k ((Lc.size : Int) != (wrap64 (La * Lb))) La Lb Lc) else (bA.j0 k true La Lb Lc))) else (bA.j0 k true La Lb Lc))
theorem bA.calls (k : Nat) (La Lb : Int) (Lc : ByteArray) (r : Bool) (w : World) (h : bA.f k La Lb Lc = some r) :
  Calls Tryz.prog 75 #[.agg #[.int .i64 La, .int .i64 Lb, .string Lc]] w fun e w' => e = .returned (.bool r) ∧ Below w.heap.size w w' := by
 have xq := Tryz.underlying34;have HB := ah.mk (Below.refl w.heap.size w);unfold bA.f at h;have H := h;clear h;have J := ah.mk H;clear H;go_enter Tryz.func75, Tryz.ntmps75;go_upto_region 1 with (first | ((with_reducible refine aJ (N := 1) rfl ?_); (try (refine je (by rfl) ?_; dsimp only)); refine aZ (N := 1) (cs := #[.int .i64 La, .int .i64 Lb, .string Lc]) (t := 34) ?_; intro E hg w3 hbox hb; have m := ah.mk hbox; have K := SZ (w := w) hg; have xl := K; replace HB := BS (w := w) hb; clear hb hbox hg));(try simp only [Act.put, List.setIfInBounds_toArray, List.set_cons_zero, List.set_cons_succ])
 go_cut [24] (fun xm wc => ∃ (kq : Nat) (o : Bool), xm = .bool o ∧ ah (bA.j0 kq o La Lb Lc = some r) ∧ ah (kq ≤ k) ∧ ah (wc.heap[E]? = some (.cells #[.int .i64 La, .int .i64 Lb, .string Lc] 34 (0, 0))) ∧ ah (Below w.heap.size w wc))
 case first =>
  have H := J.out;clear J;replace H := be H; obtain ⟨xr, A4, H⟩ := H;obtain ⟨L, M, O, P, U, Y⟩ := cz3 m.out;replace H := ah.mk H;go_wp2_with (first | ((with_reducible refine ay (f := 60) rfl ?_); refine bf (some 6) Tryz.func60 #[.int .i64 La, .int .i64 2, .int .i64 6] ?_; (with_reducible refine (dh.calls La 2 6 _ _ A4.out).mono ?_); rintro e w' ⟨rfl, ⟨nd, rfl⟩⟩; refine ⟨_, rfl, ?_⟩; refine bR ?_));refine Hide.mk ?_;replace H := H.out;replace H := ifB H; rcases H with ⟨rfl, H⟩ | ⟨rfl, H⟩
  ·replace H := be H; obtain ⟨xs, A6, H⟩ := H;replace H := ah.mk H;go_wp2_with (first | (go_at_call 60; (with_reducible refine (dh.calls Lb 2 6 _ _ A6.out).mono ?_); rintro e w' ⟨rfl, ⟨nd, rfl⟩⟩; refine bR ?_));refine Hide.mk ?_;replace H := H.out;replace H := ifB H; rcases H with ⟨rfl, H⟩ | ⟨rfl, H⟩
   ·have H' := ah.mk H;clear H;(try go_wp2);go_meet;case rel => exact ⟨_, _, EQ, H', ⟨by first | omega | exact Nat.le_refl _⟩, ⟨BK⟩, ⟨BL⟩⟩
   ·have H' := ah.mk H;clear H;(try go_wp2);go_meet;case rel => exact ⟨_, _, EQ, H', ⟨by first | omega | exact Nat.le_refl _⟩, ⟨BK⟩, ⟨BL⟩⟩
  ·have H' := ah.mk H;clear H;(try go_wp2);go_meet;case rel => exact ⟨_, _, EQ, H', ⟨by first | omega | exact Nat.le_refl _⟩, ⟨BK⟩, ⟨BL⟩⟩
 case rest =>
  clear J;obtain ⟨kq, o, rfl, HA, G, m, HB⟩ := hcut
  cases kq with
  | zero => exact absurd HA.out (by simp [bA.j0])
  | succ xk =>
   have H := HA.out;clear HA;simp only [bA.j0] at H;replace H := ifB H; rcases H with ⟨rfl, H⟩ | ⟨rfl, H⟩
   ·obtain rfl := Option.some.inj H;go_wp2;go_ret;exact ⟨EWW, BL⟩
   ·have H' := ah.mk H;clear H;obtain ⟨u, x, y, z, A, D⟩ := cz3 m.out;go_wp2
    go_loopg [28] xk (fun kq xn w' => ∃ (a : Int), xn = .int .i64 a ∧ ah (bA.l0 kq (Lc.size : Int) a La Lb Lc = some r) ∧ ah (kq ≤ xk) ∧ ah (w'.heap[E]? = some (.cells #[.int .i64 La, .int .i64 Lb, .string Lc] 34 (0, 0))) ∧ ah (Below w.heap.size w w'))
    case atStart => exact ⟨_, EQ, H', ⟨Nat.le_refl _⟩, ⟨BK⟩, ⟨BL⟩⟩
    case round =>
     clear H';(try clear xv);(try clear u x y z A D);obtain ⟨a, rfl, HA, I, m, HB⟩ := hrel
     cases gk with
     | zero => exact absurd HA.out (by simp [bA.l0])
     | succ k2 =>
      have H := HA.out;clear HA;simp only [bA.l0] at H;replace H := ifD H; rcases H with ⟨Z, H⟩ | ⟨Z, H⟩
      ·replace H := ifN H; obtain ⟨xo, H⟩ := H;replace H := ifN H; obtain ⟨xp, H⟩ := H;obtain ⟨xa, xb, xc, xd, xe, xf⟩ := cz3 m.out;have xw : (0 ≤ (a : Int)) = True := OT;have xx : (a < (Lc.size : Int)) = True := OT;have hx16 := fU Lc a;replace H := ifE H; rcases H with ⟨xg, xh, H⟩ | ⟨xy, xg, xh, H⟩
       ·have H' := ah.mk H;clear H;go_wp2;go_roundg k2;case measure => have := G.out; have := I.out; omega
        case rel => exact ⟨_, EQ, H', ⟨by have := G.out; have := I.out; omega⟩, ⟨BK⟩, ⟨BL⟩⟩
       ·have xz : (0 ≤ (a : Int)) = True := OT;have xA : (a < (Lc.size : Int)) = True := OT;have hx19 := fU Lc a;replace H := ifE H; rcases H with ⟨xi, xj, H⟩ | ⟨xB, xi, xj, H⟩
        ·have H' := ah.mk H;clear H;go_wp2;go_roundg k2;case measure => have := G.out; have := I.out; omega
         case rel => exact ⟨_, EQ, H', ⟨by have := G.out; have := I.out; omega⟩, ⟨BK⟩, ⟨BL⟩⟩
        ·obtain rfl := Option.some.inj H;go_wp2;go_ret;exact ⟨EWW, BL⟩
      ·obtain rfl := Option.some.inj H;go_wp2;go_ret;exact ⟨EWW, BL⟩
mutual
def eO.j0 : Nat → Int → Int → Int → Int → Int → Int → ByteArray → Option (Int)
 | 0, _, _, _, _, _, _, _ => none
 | k + 1, a, b, c, d, e, f, g => if 0 ≤ a then (if a < (g.size : Int) then (if (bt g a) = 46 then (if c > 0 then (if 0 ≤ (wrap64 (a - b)) then (if (wrap64 (a - b)) < (g.size : Int) then (eO.j1 k a b c d ((bt g (wrap64 (a - b))) == 46) e f g) else (none)) else (none)) else (eO.j1 k a b c d false e f g)) else (eO.j1 k a b c d true e f g)) else (none)) else (none)
def eO.j1 : Nat → Int → Int → Int → Int → Bool → Int → Int → ByteArray → Option (Int)
 | 0, _, _, _, _, _, _, _, _ => none
 | k + 1, a, b, c, d, e, f, g, h => if e = true then (some 0) else (eO.l0 k a b c d 0 f g h)
def eO.l0 : Nat → Int → Int → Int → Int → Int → Int → Int → ByteArray → Option (Int)
 | 0, _, _, _, _, _, _, _, _ => none
 | k + 1, a, b, c, d, e, f, g, h => if (wrap64 (c + e)) < d then (if 0 ≤ (wrap64 (a + (wrap64 (e * b)))) then (if (wrap64 (a + (wrap64 (e * b)))) < (h.size : Int) then (if (bt h (wrap64 (a + (wrap64 (e * b))))) = 46 then (eO.l0 k a b c d (wrap64 (e + 1)) f g h) else (some e)) else (none)) else (none)) else (some e)
end
def eO.f (k : Nat) (La Lb : Int) (Lc : ByteArray) (a1 : Int) (a2 : Bool) : Option (Int) := if Lb = 0 then (none) else (if a2 = true then (eO.j0 k a1 Lb (wrap64 (Int.tdiv a1 Lb)) La La Lb Lc) else (eO.j0 k a1 1 (Int.tmod a1 Lb) Lb La Lb Lc))
theorem eO.calls (k : Nat) (La Lb : Int) (Lc : ByteArray) (L : Int) (a2 : Bool) (r : Int) (w : World) (h : eO.f k La Lb Lc L a2 = some r) :
  Calls Tryz.prog 100 #[.agg #[.int .i64 La, .int .i64 Lb, .string Lc], .int .i64 L, .bool a2] w fun e w' => e = .returned (.int .i64 r) ∧ Below w.heap.size w w' := by
 have xN := Tryz.underlying34;have HB := ah.mk (Below.refl w.heap.size w);unfold eO.f at h;have H := h;clear h;by_cases c4 : Lb = 0
 ·rw [if_pos c4] at H;exact absurd H (by simp)
 ·rw [if_neg c4] at H;have O : (Lb == 0) = false := beq_eq_false_iff_ne.mpr c4;have P : (Lb != 0) = true := bne_iff_ne.mpr c4;have xc := ah.mk H;clear H;go_enter Tryz.func100, Tryz.ntmps100;go_upto_if 17 with (first | ((with_reducible refine aJ (N := 3) rfl ?_); refine aZ (N := 3) (cs := #[.int .i64 La, .int .i64 Lb, .string Lc]) (t := 34) ?_; intro G hg U hbox hb; have a := ah.mk hbox; have I := SZ (w := w) hg; have Y := I; replace HB := BS (w := w) hb; clear hb hbox hg; obtain ⟨m, o, u, x, y, z⟩ := cz3 a.out))
  repeat (go_quiet (first | ((with_reducible refine aJ (N := 3) rfl ?_); refine aZ (N := 3) (cs := #[.int .i64 La, .int .i64 Lb, .string Lc]) (t := 34) ?_; intro G hg U hbox hb; have a := ah.mk hbox; have I := SZ (w := w) hg; have Y := I; replace HB := BS (w := w) hb; clear hb hbox hg; obtain ⟨m, o, u, x, y, z⟩ := cz3 a.out)); go_upto_if 17 with (first | ((with_reducible refine aJ (N := 3) rfl ?_); refine aZ (N := 3) (cs := #[.int .i64 La, .int .i64 Lb, .string Lc]) (t := 34) ?_; intro G hg U hbox hb; have a := ah.mk hbox; have I := SZ (w := w) hg; have Y := I; replace HB := BS (w := w) hb; clear hb hbox hg; obtain ⟨m, o, u, x, y, z⟩ := cz3 a.out)))
  (try simp only [Act.put, List.setIfInBounds_toArray, List.set_cons_zero, List.set_cons_succ])
  go_cut [7, 8, 9] (fun v7 v8 v9 wc => ∃ (kq : Nat) (A : Int) (D : Int) (J : Int), v7 = .int .i64 A ∧ v8 = .int .i64 D ∧ v9 = .int .i64 J ∧ ah (eO.j0 kq L A D J La Lb Lc = some r) ∧ ah (kq ≤ k) ∧ ah (wc.heap[G]? = some (.cells #[.int .i64 La, .int .i64 Lb, .string Lc] 34 (0, 0))) ∧ ah (Below w.heap.size w wc))
  case first =>
   have H := xc.out;clear xc;by_cases c8 : a2 = true
   ·subst c8;rw [if_pos rfl] at H;have H' := ah.mk H;clear H;obtain ⟨xd, xe, xf, xg, xh, xi⟩ := cz3 a.out;go_wp2
    repeat (go_quiet (fail); try go_wp2)
    go_meet;case rel => exact ⟨_, _, _, _, EQ, EQ, EQ, H', ⟨by first | omega | exact Nat.le_refl _⟩, ⟨BK⟩, ⟨BL⟩⟩
   ·replace c8 := Bool.eq_false_iff.mpr c8;subst c8;rw [if_neg Bool.false_ne_true] at H;have H' := ah.mk H;clear H;go_wp2
    repeat (go_quiet (fail); try go_wp2)
    go_meet;case rel => exact ⟨_, _, _, _, EQ, EQ, EQ, H', ⟨by first | omega | exact Nat.le_refl _⟩, ⟨BK⟩, ⟨BL⟩⟩
  case rest =>
   clear xc;(try clear c4);(try clear O);(try clear P);(try clear m o u x y z);obtain ⟨kq, A, D, J, rfl, rfl, rfl, HA, Z, a, HB⟩ := hcut
   cases kq with
   | zero => exact absurd HA.out (by simp [eO.j0])
   | succ xB =>
    have H := HA.out;clear HA;simp only [eO.j0] at H;have xa := ah.mk H;clear H;go_upto_region 4 with (fail)
    repeat (go_quiet (fail); go_upto_region 4 with (fail))
    go_cut [43] (fun xG wc => ∃ (kq : Nat) (K : Bool), xG = .bool K ∧ ah (eO.j1 kq L A D J K La Lb Lc = some r) ∧ ah (kq ≤ xB) ∧ ah (wc.heap[G]? = some (.cells #[.int .i64 La, .int .i64 Lb, .string Lc] 34 (0, 0))) ∧ ah (Below w.heap.size w wc))
    case first =>
     have H := xa.out;clear xa;replace H := ifN H; obtain ⟨xb, H⟩ := H;(first | rw [xb] | (simp only [gZ, iR]; rw [xb]) | skip);replace H := ifN H; obtain ⟨xH, H⟩ := H;obtain ⟨xj, xk, xl, xm, xn, xo⟩ := cz3 a.out;have xR : (0 ≤ (L : Int)) = True := OT;have xS : (L < (Lc.size : Int)) = True := OT;have hx13 := fU Lc L;replace H := ifE H; rcases H with ⟨xp, xq, H⟩ | ⟨xT, xp, xq, H⟩
     ·by_cases M : D > 0
      ·rw [if_pos M] at H;have xr : decide (0 < D) = true := decide_eq_true M;clear M;obtain ⟨ji16, hji16⟩ : ∃ j_ : Int, (wrap64 (L - A)) = j_ := ⟨_, rfl⟩;replace H : (if 0 ≤ (ji16) then (if (ji16) < (Lc.size : Int) then (eO.j1 xB L A D J ((bt Lc (ji16)) == 46) La Lb Lc) else (none)) else (none)) = some r := by first | (rw [hji16] at H; exact H) | (simp only [hji16] at H ⊢; exact H)
       have hji16w : (IntKind.i64.wrap (L - A)) = ji16 := (gZ _).trans hji16;replace H := ifN H; obtain ⟨xI, H⟩ := H;replace H := ifN H; obtain ⟨xJ, H⟩ := H;have H' := ah.mk H;clear H;have xU : (0 ≤ ((ji16) : Int)) = True := OT;have xV : ((ji16) < (Lc.size : Int)) = True := OT;have hx19 := fU Lc (ji16);go_wp2
       repeat (go_quiet (fail); try go_wp2)
       go_meet;case rel => exact ⟨_, (((bt Lc (ji16)) == 46)), (by first | rfl | (simp; done) | (simp only [← hji16] <;> (first | rfl | simp)) | (simp [*]; done)), H', ⟨by have := Z.out; first | omega | exact Nat.le_refl _⟩, ⟨BK⟩, ⟨BL⟩⟩
      ·rw [if_neg M] at H;have xr : decide (0 < D) = false := decide_eq_false M;clear M;have H' := ah.mk H;clear H;go_wp2
       repeat (go_quiet (fail); try go_wp2)
       go_meet;case rel => exact ⟨_, _, EQ, H', ⟨by have := Z.out; first | omega | exact Nat.le_refl _⟩, ⟨BK⟩, ⟨BL⟩⟩
     ·have H' := ah.mk H;clear H;go_wp2
      repeat (go_quiet (fail); try go_wp2)
      go_meet;case rel => exact ⟨_, _, EQ, H', ⟨by have := Z.out; first | omega | exact Nat.le_refl _⟩, ⟨BK⟩, ⟨BL⟩⟩
    case rest =>
     clear xa;(try clear c4);(try clear O);(try clear P);(try clear m o u x y z);obtain ⟨kq, K, rfl, HA, xC, a, HB⟩ := hcut
     cases kq with
     | zero => exact absurd HA.out (by simp [eO.j1])
     | succ xD =>
      have H := HA.out;clear HA;simp only [eO.j1] at H;replace H := ifB H; rcases H with ⟨rfl, H⟩ | ⟨rfl, H⟩
      ·obtain rfl := Option.some.inj H;go_wp2
       repeat (go_quiet (fail); try go_wp2)
       go_ret;exact ⟨EWW, BL⟩
      ·have H' := ah.mk H;clear H;go_wp2
       repeat (go_quiet (fail); try go_wp2)
       go_loopg [10] xD (fun kq xK w' => ∃ (E : Int), xK = .int .i64 E ∧ ah (eO.l0 kq L A D J E La Lb Lc = some r) ∧ ah (kq ≤ xD) ∧ ah (w'.heap[G]? = some (.cells #[.int .i64 La, .int .i64 Lb, .string Lc] 34 (0, 0))) ∧ ah (Below w.heap.size w w'))
       case atStart => exact ⟨_, EQ, H', ⟨Nat.le_refl _⟩, ⟨BK⟩, ⟨BL⟩⟩
       case round =>
        clear H';(try clear c4);(try clear O);(try clear P);(try clear xW);(try clear m o u x y z);obtain ⟨E, rfl, HA, xE, a, HB⟩ := hrel
        cases gk with
        | zero => exact absurd HA.out (by simp [eO.l0])
        | succ k3 =>
         have H := HA.out;clear HA;simp only [eO.l0] at H;replace H := ifD H; rcases H with ⟨xs, H⟩ | ⟨xs, H⟩
         ·obtain ⟨ji25, hji25⟩ : ∃ j_ : Int, (wrap64 (L + (wrap64 (E * A)))) = j_ := ⟨_, rfl⟩;replace H : (if 0 ≤ (ji25) then (if (ji25) < (Lc.size : Int) then (if (bt Lc (ji25)) = 46 then (eO.l0 k3 L A D J (wrap64 (E + 1)) La Lb Lc) else (some E)) else (none)) else (none)) = some r := by first | (rw [hji25] at H; exact H) | (simp only [hji25] at H ⊢; exact H)
          have hji25w : (IntKind.i64.wrap (L + (wrap64 (E * A)))) = ji25 := (gZ _).trans hji25;replace H := ifN H; obtain ⟨xL, H⟩ := H;replace H := ifN H; obtain ⟨xM, H⟩ := H;obtain ⟨xt, xu, xv, xw, xx, xy⟩ := cz3 a.out;have xX : (0 ≤ ((ji25) : Int)) = True := OT;have xY : ((ji25) < (Lc.size : Int)) = True := OT;have hx28 := fU Lc (ji25);replace H := ifE H; rcases H with ⟨xz, xA, H⟩ | ⟨xZ, xz, xA, H⟩
          ·have H' := ah.mk H;clear H;go_wp2
           repeat (go_quiet (fail); try go_wp2)
           go_roundg k3;case measure => have := Z.out; have := xC.out; have := xE.out; omega
           case rel => exact ⟨_, EQ, H', ⟨by have := Z.out; have := xC.out; have := xE.out; omega⟩, ⟨BK⟩, ⟨BL⟩⟩
          ·obtain rfl := Option.some.inj H;go_wp2
           repeat (go_quiet (fail); try go_wp2)
           go_ret;exact ⟨by first | rfl | (simp [mF, mG] <;> rfl) | (simp only [← hji25]; first | rfl | (simp [mF, mG] <;> rfl)) | (simp [*, mF, mG] <;> rfl), BL⟩
         ·obtain rfl := Option.some.inj H;go_wp2
          repeat (go_quiet (fail); try go_wp2)
          go_ret;exact ⟨EWW, BL⟩
attribute [local go_sem high] Jv
mutual
def aX.l0 : Nat → List (S92) → Int → Int → Int → Int → Int → ByteArray → Option ((List (S92)))
 | 0, _, _, _, _, _, _, _ => none
 | k + 1, a, b, c, d, e, f, g => if d < c then ((eO.f k e f g d false).bind fun h => ((eO.f k e f g d true).bind fun i => (if h ≥ 2 then (aX.j1 k a b d h i c d true e f g) else (aX.j1 k a b d h i c d (decide (i ≥ 2)) e f g)))) else (some a)
def aX.j1 : Nat → List (S92) → Int → Int → Int → Int → Int → Int → Bool → Int → Int → ByteArray → Option ((List (S92)))
 | 0, _, _, _, _, _, _, _, _, _, _, _ => none
 | k + 1, a, b, c, d, e, f, g, h, i, j, l => if h = true then (aX.j2 k a (wrap64 (b + 1)) c d e f g i j l) else (aX.j2 k a b c d e f g i j l)
def aX.j2 : Nat → List (S92) → Int → Int → Int → Int → Int → Int → Int → Int → ByteArray → Option ((List (S92)))
 | 0, _, _, _, _, _, _, _, _, _, _ => none
 | k + 1, a, b, c, d, e, f, g, h, i, j => if d ≥ 2 then (if a.length < 4398046511104 then ((some (a ++ [(⟨b, false, c, d⟩ : S92)] : List (S92))).bind fun l => (if e ≥ 2 then (if l.length < 4398046511104 then (aX.l0 k (l ++ [(⟨b, true, c, e⟩ : S92)]) b f (wrap64 (g + 1)) h i j) else (none)) else (aX.l0 k l b f (wrap64 (g + 1)) h i j))) else (none)) else (if e ≥ 2 then (if a.length < 4398046511104 then (aX.l0 k (a ++ [(⟨b, true, c, e⟩ : S92)]) b f (wrap64 (g + 1)) h i j) else (none)) else (aX.l0 k a b f (wrap64 (g + 1)) h i j))
end
def aX.f (k : Nat) (La Lb : Int) (Lc : ByteArray) : Option ((List (S92))) := (bA.f k La Lb Lc).bind fun t490 => (if t490 = true then (aX.l0 k ([] : List (S92)) 0 (Lc.size : Int) 0 La Lb Lc) else (some ([] : List (S92))))
def aX.T8 : Bool × List (List Nat × List Nat) := (true, [([], []), ([], []), ([0, 1], [0, 1]), ([], []), ([], []), ([3, 4, 2], [3, 4]), ([2, 5, 0, 1, 2], [2]), ([5, 6, 0, 1, 2, 3, 4, 5, 6], [5])])
def aX.B8 : List Nat := [0, 0, 3, 0, 0, 31, 63, 127]
theorem aX.Kj : kP .any (opsOf Tryz.f59 8) = aX.T8 := by kernel_rfl
theorem aX.GI : iZ aX.T8.2 aX.B8 = true := by kernel_rfl
theorem aX.calls (k : Nat) (La Lb : Int) (Lc : ByteArray) (r : List (S92)) (w : World) (h : aX.f k La Lb Lc = some r) :
  Calls Tryz.prog 59 #[.agg #[.int .i64 La, .int .i64 Lb, .string Lc]] w fun e w' => ∃ v0_ : Value, e = .returned (v0_) ∧ Kd.R k92 92 w' w.heap.size (fun _ => True) v0_ r ∧ Below w.heap.size w w' := by
 have ya := Tryz.underlying34;have yb := Tryz.underlying92;have HB := ah.mk (Below.refl w.heap.size w);unfold aX.f at h;have H := h;clear h;replace H := be H; obtain ⟨yc, A2, H⟩ := H;replace H := ah.mk H;go_enter Tryz.func59, Tryz.ntmps59;go_wp2_with (first | ((with_reducible refine aJ (N := 1) rfl ?_); refine aZ (N := 1) (cs := #[.int .i64 La, .int .i64 Lb, .string Lc]) (t := 34) ?_; intro A hg xP hbox hb; have a := ah.mk hbox; have xv := SZ (w := w) hg; have xQ := xv; replace HB := BS (w := w) hb; clear hb hbox hg; obtain ⟨G, I, J, L, M, O⟩ := cz3 a.out) | ((with_reducible refine ay (f := 75) rfl ?_); refine bf (some 9) Tryz.func75 #[.agg #[.int .i64 La, .int .i64 Lb, .string Lc]] ?_; (with_reducible refine (bA.calls k La Lb Lc _ _ A2.out).mono ?_); rintro e xR ⟨rfl, hb⟩; refine ⟨_, rfl, ?_⟩; replace a := KB a hb; replace HB := BS (w := w) hb; (try clear hb); obtain ⟨P, U, Y, Z, xa, xb⟩ := cz3 a.out; refine bR ?_));refine Hide.mk ?_;replace H := H.out;replace H := ifB H; rcases H with ⟨rfl, H⟩ | ⟨rfl, H⟩
 ·have H' := ah.mk H;clear H;try go_wp2
  go_loopg [3, 4, 14] k (fun kq v3 v4 xT w' => ∃ (D : List (S92)) (xm : Int) (m : Int), v4 = .int .i64 xm ∧ xT = .int .i64 m ∧ ah (aX.l0 kq D xm (Lc.size : Int) m La Lb Lc = some r) ∧ ah (kq ≤ k) ∧ ah (Kd.R k92 92 w' w.heap.size (fun _ => True) v3 D) ∧ ah (w'.heap[A]? = some (.cells #[.int .i64 La, .int .i64 Lb, .string Lc] 34 (0, 0))) ∧ ah (Below w.heap.size w w'))
  case atStart => exact ⟨_, _, _, EQ, EQ, H', ⟨Nat.le_refl _⟩, ⟨by first | exact Kd.oF _ _ _ _ _ | exact Kd.rY _ _ _ _ _ | exact Kd.su _ _ _ _ _ | exact Kd.rZ _ _ _ _ _ | exact Kd.sj _ _ _ _ _⟩, ⟨BK⟩, ⟨BL⟩⟩
  case round =>
   clear H';(try clear c3);(try clear G I J);(try clear P U Y);(try clear L M O);(try clear Z xa xb);obtain ⟨D, xm, m, rfl, rfl, HA, xe, x, a, HB⟩ := hrel
   cases gk with
   | zero => exact absurd HA.out (by simp [aX.l0])
   | succ k1 =>
    have H := HA.out;clear HA;simp only [aX.l0] at H;replace H := ifD H; rcases H with ⟨xr, H⟩ | ⟨xr, H⟩
    ·replace H := be H; obtain ⟨z, A9, H⟩ := H;replace H := be H; obtain ⟨y, xU, H⟩ := H;have xt := ah.mk H;clear H;(try go_wp2);replace x := ah.mk (Kd.eH x.out);replace a := ah.mk (aH a.out);replace HB := ah.mk (dK HB.out);refine jl (n := 8) (S := fun w' => w'.cell? ⟨A, 0, none⟩ = some (.int .i64 La) ∧ w'.cell? ⟨A, 1, none⟩ = some (.int .i64 Lb) ∧ w'.cell? ⟨A, 2, none⟩ = some (.string Lc)) (ds := []) #[F,F,F,F,F,F,F,F] (by kernel_rfl) rfl rfl ⟨(ak a.out 0).trans rfl, (ak a.out 1).trans rfl, (ak a.out 2).trans rfl⟩ (fun hHeld => ?_); refine iL aX.Kj aX.GI (fun HT_ HW_ => ?_);generalize wr.drew = xV at x a HB hHeld ⊢;refine pS 1 (some 18) #[F,T,F,F,F,F,F,F] ?_;refine pS 4 (some 21) #[F,T,F,F,T,F,F,F] ?_;refine tS 0 (some 17) #[T,T,F,F,T,F,F,F] ?_;refine tS 3 (some 20) #[T,T,F,T,T,F,F,F] ?_;refine lC (i := 2) (N := some 19) #[T,T,T,T,T,F,F,F] rfl rfl (jh HT_.out (by kernel_rfl)) (by decide) (fun K hK => ?_);refine jd Tryz.func100 #[.agg #[.int .i64 La, .int .i64 Lb, .string Lc], .int .i64 m, .bool false] ?_;(with_reducible refine (eO.calls k1 La Lb Lc m false z _ A9.out).mono ?_);rintro e xW ⟨rfl, hb⟩;refine ⟨_, rfl, ?_⟩;replace x := RB x hb;replace a := KB a hb;replace HB := BS (w := w) hb;(try clear hb);refine hK.out _ _ ⟨(ak a.out 0).trans rfl, (ak a.out 1).trans rfl, (ak a.out 2).trans rfl⟩ (fun hHeld => ?_);clear hK K;refine nrm (some 19) ?_;refine lC (i := 5) (N := some 22) #[T,T,T,T,T,T,F,F] rfl rfl (jh HT_.out (by kernel_rfl)) (by decide) (fun K hK => ?_);refine jd Tryz.func100 #[.agg #[.int .i64 La, .int .i64 Lb, .string Lc], .int .i64 m, .bool true] ?_;(with_reducible refine (eO.calls k1 La Lb Lc m true y _ xU.out).mono ?_);rintro e xX ⟨rfl, hb⟩;refine ⟨_, rfl, ?_⟩;replace x := RB x hb;replace a := KB a hb;replace HB := BS (w := w) hb;(try clear hb);refine hK.out _ _ ⟨(ak a.out 0).trans rfl, (ak a.out 1).trans rfl, (ak a.out 2).trans rfl⟩ (fun hHeld => ?_);clear hK K;refine nrm (some 22) ?_;refine pS 6 (some 6) #[T,T,T,T,T,T,T,F] ?_;refine pS 7 (some 7) #[T,T,T,T,T,T,T,T] ?_;refine iF (gJ HT_.out (by kernel_rfl)) ?_;go_upto_region 9 with (fail)
     go_cut [28] (fun xY wc => ∃ (kq : Nat) (xj : Bool), xY = .bool xj ∧ ah (aX.j1 kq D xm m z y (Lc.size : Int) m xj La Lb Lc = some r) ∧ ah (kq ≤ k1) ∧ ah (Kd.R k92 92 wc w.heap.size (fun _ => True) u3 D) ∧ ah (wc.heap[A]? = some (.cells #[.int .i64 La, .int .i64 Lb, .string Lc] 34 (0, 0))) ∧ ah (Below w.heap.size w wc))
     case first =>
      have H := xt.out;clear xt;by_cases xn : z ≥ 2
      ·rw [if_pos xn] at H;have xf : decide (2 ≤ z) = true := decide_eq_true xn;clear xn;(first | rw [xf] | (simp only [gZ, iR]; rw [xf]) | skip);have H' := ah.mk H;clear H;go_wp2;go_meet;case rel => exact ⟨_, _, EQ, H', ⟨by have := xe.out; first | omega | exact Nat.le_refl _⟩, ⟨(RR x)⟩, ⟨BK⟩, ⟨BL⟩⟩
      ·rw [if_neg xn] at H;have xf : decide (2 ≤ z) = false := decide_eq_false xn;clear xn;(first | rw [xf] | (simp only [gZ, iR]; rw [xf]) | skip);have H' := ah.mk H;clear H;go_wp2;go_meet;case rel => exact ⟨_, _, EQ, H', ⟨by have := xe.out; first | omega | exact Nat.le_refl _⟩, ⟨(RR x)⟩, ⟨BK⟩, ⟨BL⟩⟩
     case rest =>
      clear xt;(try clear c3);(try clear c8);(try clear xr);(try clear G I J);(try clear P U Y);(try clear L M O);(try clear Z xa xb);obtain ⟨kq, xj, rfl, HA, E, x, a, HB⟩ := hcut
      cases kq with
      | zero => exact absurd HA.out (by simp [aX.j1])
      | succ xI =>
       have H := HA.out;clear HA;simp only [aX.j1] at H;have xu := ah.mk H;clear H;go_upto_if 28 with (fail)
       go_cut [4] (fun v4 wc => ∃ (kq : Nat) (u : Int), v4 = .int .i64 u ∧ ah (aX.j2 kq D u m z y (Lc.size : Int) m La Lb Lc = some r) ∧ ah (kq ≤ xI) ∧ ah (Kd.R k92 92 wc w.heap.size (fun _ => True) u3 D) ∧ ah (wc.heap[A]? = some (.cells #[.int .i64 La, .int .i64 Lb, .string Lc] 34 (0, 0))) ∧ ah (Below w.heap.size w wc))
       case first =>
        have H := xu.out;clear xu;replace H := ifB H; rcases H with ⟨rfl, H⟩ | ⟨rfl, H⟩
        ·have H' := ah.mk H;clear H;go_wp2;go_meet;case rel => exact ⟨_, _, EQ, H', ⟨by have := xe.out; have := E.out; first | omega | exact Nat.le_refl _⟩, ⟨(RR x)⟩, ⟨BK⟩, ⟨BL⟩⟩
        ·have H' := ah.mk H;clear H;go_wp2;go_meet;case rel => exact ⟨_, _, EQ, H', ⟨by have := xe.out; have := E.out; first | omega | exact Nat.le_refl _⟩, ⟨(RR x)⟩, ⟨BK⟩, ⟨BL⟩⟩
       case rest =>
        clear xu;(try clear c3);(try clear c8);(try clear xr);(try clear G I J);(try clear P U Y);(try clear L M O);(try clear Z xa xb);obtain ⟨kq, u, rfl, HA, xc, x, a, HB⟩ := hcut
        cases kq with
        | zero => exact absurd HA.out (by simp [aX.j2])
        | succ xd =>
         have H := HA.out;clear HA;simp only [aX.j2] at H;by_cases xo : z ≥ 2
         ·rw [if_pos xo] at H;have xw : decide (2 ≤ z) = true := decide_eq_true xo;clear xo;replace H := ifP H; obtain ⟨xJ, H⟩ := H;have xx := ah.mk xJ;clear xJ;obtain ⟨xl, xg⟩ : ∃ y_ : List (S92), y_ = (D ++ [(⟨u, false, m, z⟩ : S92)]) := ⟨_, rfl⟩;replace H : (if y ≥ 2 then (if xl.length < 4398046511104 then (aX.l0 xd (xl ++ [(⟨u, true, m, y⟩ : S92)]) u (Lc.size : Int) (wrap64 (m + 1)) La Lb Lc) else (none)) else (aX.l0 xd xl u (Lc.size : Int) (wrap64 (m + 1)) La Lb Lc)) = some r := by first | (rw [xg]; with_reducible exact H) | (have H2_ := (Option.bind_some _ _).symm.trans H; rw [xg]; with_reducible exact H2_) | (have H2_ := (Option.bind_some _ _).symm.trans H; with_reducible exact H2_) | with_reducible exact H | (rw [xg]; exact H) | exact H
          have xy := ah.mk xg;clear xg;replace H := ah.mk H;go_wp2_with (first | ((with_reducible refine dU (b := .append) (xs := #[.tmp 33, .tmp 38]) rfl ?_); at_builtin; refine Kd.gU k92 (w0 := w) w.heap.size rfl (.tmp 33) (.tmp 38) 83 92 (.agg #[(.int .i64 0), (.bool false), (.int .i64 0), (.int .i64 0)]) 32 rfl Tryz.underlying83 uS rfl (by decide) (by omega) u3 D (⟨u, false, m, z⟩ : S92) [.int .i64 u, .bool false, .int .i64 m, .int .i64 z] (fun _ => True) (fun _ => False) rfl rfl ?aP (fun _ hk => hk.elim) ?aF ?aO ?aB ?aS ?aL ?_; (case aP => exact rD _ _ _ (⟨u, false, m, z⟩ : S92)); (case aB => exact BL); (case aF => exact (fun _ _ => trivial)); (case aO => exact (RR x)); (case aS => exact (aM BL)); (case aL => have := xx.out; omega); intro xK xz ho hb hg hat; rw [← xy.out] at ho; replace a := ah.mk (eF (g := A) (o := .cells #[.int .i64 La, .int .i64 Lb, .string Lc] 34 (0, 0)) BK hg (Kd.mO x.out a.out (by decide))); replace HB := ah.mk (hb); have xk := ah.mk (ho); clear x; clear ho hb hg hat; refine bR ?_));refine Hide.mk ?_;replace H := H.out;by_cases xp : y ≥ 2
          ·rw [if_pos xp] at H;have xA : decide (2 ≤ y) = true := decide_eq_true xp;clear xp;replace H := ifP H; obtain ⟨xL, H⟩ := H;have xB := ah.mk xL;clear xL;obtain ⟨xM, xh⟩ : ∃ y_ : List (S92), y_ = (xl ++ [(⟨u, true, m, y⟩ : S92)]) := ⟨_, rfl⟩;replace H : (aX.l0 xd xM u (Lc.size : Int) (wrap64 (m + 1)) La Lb Lc) = some r := by first | (rw [xh]; with_reducible exact H) | (have H2_ := (Option.bind_some _ _).symm.trans H; rw [xh]; with_reducible exact H2_) | (have H2_ := (Option.bind_some _ _).symm.trans H; with_reducible exact H2_) | with_reducible exact H | (rw [xh]; exact H) | exact H
           have xC := ah.mk xh;clear xh;have H' := ah.mk H;clear H;(try go_wp2_with (first | ((with_reducible refine dU (b := .append) (xs := #[.tmp 42, .tmp 47]) rfl ?_); at_builtin; refine Kd.gU k92 (w0 := w) w.heap.size rfl (.tmp 42) (.tmp 47) 83 92 (.agg #[(.int .i64 0), (.bool false), (.int .i64 0), (.int .i64 0)]) 32 rfl Tryz.underlying83 uS rfl (by decide) (by omega) xK xl (⟨u, true, m, y⟩ : S92) [.int .i64 u, .bool true, .int .i64 m, .int .i64 y] (fun _ => True) (fun _ => False) rfl rfl ?aP (fun _ hk => hk.elim) ?aF ?aO ?aB ?aS ?aL ?_; (case aP => exact rD _ _ _ (⟨u, true, m, y⟩ : S92)); (case aB => exact BL); (case aF => exact (fun _ _ => trivial)); (case aO => exact (RR xk)); (case aS => exact (aM BL)); (case aL => have := xB.out; omega); intro yd xZ ho hb hg hat; rw [← xC.out] at ho; replace a := ah.mk (eF (g := A) (o := .cells #[.int .i64 La, .int .i64 Lb, .string Lc] 34 (0, 0)) BK hg (Kd.mO xk.out a.out (by decide))); replace HB := ah.mk (hb); have xD := ah.mk (ho); clear xk; clear ho hb hg hat)));go_roundg xd;case measure => have := xe.out; have := E.out; have := xc.out; omega
           case rel => exact ⟨_, _, _, EQ, EQ, H', ⟨by have := xe.out; have := E.out; have := xc.out; omega⟩, ⟨(RR xD)⟩, ⟨BK⟩, ⟨BL⟩⟩
          ·rw [if_neg xp] at H;have xA : decide (2 ≤ y) = false := decide_eq_false xp;clear xp;have H' := ah.mk H;clear H;(try go_wp2);go_roundg xd;case measure => have := xe.out; have := E.out; have := xc.out; omega
           case rel => exact ⟨_, _, _, EQ, EQ, H', ⟨by have := xe.out; have := E.out; have := xc.out; omega⟩, ⟨(RR xk)⟩, ⟨BK⟩, ⟨BL⟩⟩
         ·rw [if_neg xo] at H;have xw : decide (2 ≤ z) = false := decide_eq_false xo;clear xo;by_cases xq : y ≥ 2
          ·rw [if_pos xq] at H;have xE : decide (2 ≤ y) = true := decide_eq_true xq;clear xq;replace H := ifP H; obtain ⟨xN, H⟩ := H;have xF := ah.mk xN;clear xN;obtain ⟨xO, xi⟩ : ∃ y_ : List (S92), y_ = (D ++ [(⟨u, true, m, y⟩ : S92)]) := ⟨_, rfl⟩;replace H : (aX.l0 xd xO u (Lc.size : Int) (wrap64 (m + 1)) La Lb Lc) = some r := by first | (rw [xi]; with_reducible exact H) | (have H2_ := (Option.bind_some _ _).symm.trans H; rw [xi]; with_reducible exact H2_) | (have H2_ := (Option.bind_some _ _).symm.trans H; with_reducible exact H2_) | with_reducible exact H | (rw [xi]; exact H) | exact H
           have xG := ah.mk xi;clear xi;have H' := ah.mk H;clear H;go_wp2_with (first | ((with_reducible refine dU (b := .append) (xs := #[.tmp 42, .tmp 47]) rfl ?_); at_builtin; refine Kd.gU k92 (w0 := w) w.heap.size rfl (.tmp 42) (.tmp 47) 83 92 (.agg #[(.int .i64 0), (.bool false), (.int .i64 0), (.int .i64 0)]) 32 rfl Tryz.underlying83 uS rfl (by decide) (by omega) u3 D (⟨u, true, m, y⟩ : S92) [.int .i64 u, .bool true, .int .i64 m, .int .i64 y] (fun _ => True) (fun _ => False) rfl rfl ?aP (fun _ hk => hk.elim) ?aF ?aO ?aB ?aS ?aL ?_; (case aP => exact rD _ _ _ (⟨u, true, m, y⟩ : S92)); (case aB => exact BL); (case aF => exact (fun _ _ => trivial)); (case aO => exact (RR x)); (case aS => exact (aM BL)); (case aL => have := xF.out; omega); intro ye xz ho hb hg hat; rw [← xG.out] at ho; replace a := ah.mk (eF (g := A) (o := .cells #[.int .i64 La, .int .i64 Lb, .string Lc] 34 (0, 0)) BK hg (Kd.mO x.out a.out (by decide))); replace HB := ah.mk (hb); have xH := ah.mk (ho); clear x; clear ho hb hg hat));go_roundg xd;case measure => have := xe.out; have := E.out; have := xc.out; omega
           case rel => exact ⟨_, _, _, EQ, EQ, H', ⟨by have := xe.out; have := E.out; have := xc.out; omega⟩, ⟨(RR xH)⟩, ⟨BK⟩, ⟨BL⟩⟩
          ·rw [if_neg xq] at H;have xE : decide (2 ≤ y) = false := decide_eq_false xq;clear xq;have H' := ah.mk H;clear H;go_wp2;go_roundg xd;case measure => have := xe.out; have := E.out; have := xc.out; omega
           case rel => exact ⟨_, _, _, EQ, EQ, H', ⟨by have := xe.out; have := E.out; have := xc.out; omega⟩, ⟨(RR x)⟩, ⟨BK⟩, ⟨BL⟩⟩
    ·obtain rfl := Option.some.inj H;go_wp2;go_ret;exact ⟨_, EWW, (RR x), BL⟩
 ·obtain rfl := Option.some.inj H;(try go_wp2);go_ret;exact ⟨_, EWW, by first | exact Kd.oF _ _ _ _ _ | exact Kd.rY _ _ _ _ _ | exact Kd.su _ _ _ _ _ | exact Kd.rZ _ _ _ _ _ | exact Kd.sj _ _ _ _ _, BL⟩
def gV.f (a0 : ByteArray) : Option (ByteArray) := if a0.size ≤ 100 then (some (strOfNums (bytesOf a0).reverse)) else (none)
theorem gV.calls (a r : ByteArray) (w : World) (h : gV.f a = some r) :
  Calls Tryz.prog 148 #[.string a] w fun e w' => e = .returned (.string r) ∧ Below w.heap.size w w' := by
 by_cases h1 : a.size ≤ 100
 ·have hr : r = strOfNums (bytesOf a).reverse := by
   unfold gV.f at h;rw [if_pos h1] at h;exact (Option.some.inj h).symm
  subst hr;exact Go.Proofs.YthkfjbodohaglaaGreatDoor.HandSort.Cw a w h1
 ·simp [gV.f, h1] at h
def jO.f (k : Nat) (La Lb : Int) (Lc : ByteArray) : Option (Int × Int × ByteArray) := (bA.f k La Lb Lc).bind fun t504 => (if t504 = true then ((gV.f Lc).bind fun t505 => (some (La, Lb, t505))) else (some (0, 0, (⟨#[]⟩ : ByteArray))))
theorem jO.calls (k : Nat) (La Lb : Int) (Lc : ByteArray) (r1 r2 : Int) (r3 : ByteArray) (w : World) (h : jO.f k La Lb Lc = some (r1, r2, r3)) :
  Calls Tryz.prog 125 #[.agg #[.int .i64 La, .int .i64 Lb, .string Lc]] w fun e w' => e = .returned (.agg #[.int .i64 r1, .int .i64 r2, .string r3]) ∧ Below w.heap.size w w' := by
 have xu := Tryz.underlying34;have HB := ah.mk (Below.refl w.heap.size w);unfold jO.f at h;have H := h;clear h;replace H := be H; obtain ⟨xv, A2, H⟩ := H;replace H := ah.mk H;go_enter Tryz.func125, Tryz.ntmps125;go_wp2_with (first | ((with_reducible refine aJ (N := 1) rfl ?_); refine aZ (N := 1) (cs := #[.int .i64 La, .int .i64 Lb, .string Lc]) (t := 34) ?_; intro xo hg xp hbox hb; have a := ah.mk hbox; have J := SZ (w := w) hg; have xq := J; replace HB := BS (w := w) hb; clear hb hbox hg) | ((with_reducible refine aJ (N := 2) rfl ?_); refine aZ (N := 2) (cs := #[.int .i64 0, .int .i64 0, .string (⟨#[]⟩ : ByteArray)]) (t := 34) ?_; intro G hg xr hbox hb; have m := ah.mk (hbox); have K := SZ (w := w) hg; have xs := K; replace HB := BS (w := w) hb; have u := NL a hg; have o := NG a hg; replace a := KB a hb; clear hb hbox hg; have xm := u.out; have xn := o.out; obtain ⟨L, M, O, P, U, Y⟩ := cz3 a.out; refine bR ?_));refine Hide.mk ?_;replace H := H.out;replace H := ifB H; rcases H with ⟨rfl, H⟩ | ⟨rfl, H⟩
 ·replace H := be H; obtain ⟨I, A4, H⟩ := H;simp only [Option.some.injEq, Prod.mk.injEq] at H;obtain ⟨rfl, rfl, rfl⟩ := H;(try go_wp2_with (first | ((with_reducible refine ay (f := 75) rfl ?_); refine bf (some 4) Tryz.func75 #[.agg #[.int .i64 La, .int .i64 Lb, .string Lc]] ?_; (with_reducible refine (bA.calls k La Lb Lc _ _ A2.out).mono ?_); rintro e Z ⟨rfl, hb⟩; refine ⟨_, rfl, ?_⟩; replace a := KB a hb; replace m := KB m hb; replace HB := BS (w := w) hb; (try clear hb); obtain ⟨x, y, z, A, D, E⟩ := cz3 a.out) | ((with_reducible refine ay (f := 148) rfl ?_); refine bf (some 9) Tryz.func148 #[.string Lc] ?_; (with_reducible refine (gV.calls Lc I _ A4.out).mono ?_); rintro e xt ⟨rfl, hb⟩; refine ⟨_, rfl, ?_⟩; replace a := KB a hb; replace m := KB m hb; replace HB := BS (w := w) hb; (try clear hb); obtain ⟨xa, xb, xc, xd, xe, xf⟩ := cz3 a.out; obtain ⟨xg, xh, xi, xj, xk, xl⟩ := cz3 m.out)));refine bodyPost_ret (results_cell_row rfl _ _ G 34 #[.int .i64 La, .int .i64 Lb, .string I] (0, 0) _ rfl (by (with_reducible repeat (first | refine aD ?_ _ | refine aH ?_ | refine aC ?_ _)); refine aW (cs := #[.int .i64 La, .int .i64 Lb, .string (⟨#[]⟩ : ByteArray)]) ?_ 2 _ rfl; (with_reducible repeat (first | refine aD ?_ _ | refine aH ?_ | refine aC ?_ _)); refine aW (cs := #[.int .i64 La, .int .i64 0, .string (⟨#[]⟩ : ByteArray)]) ?_ 1 _ rfl; (with_reducible repeat (first | refine aD ?_ _ | refine aH ?_ | refine aC ?_ _)); refine aW (cs := #[.int .i64 0, .int .i64 0, .string (⟨#[]⟩ : ByteArray)]) ?_ 0 _ rfl; (with_reducible repeat (first | refine aD ?_ _ | refine aH ?_ | refine aC ?_ _)); refine dO ?_ o.out _; (with_reducible repeat (first | refine aD ?_ _ | refine aH ?_ | refine aC ?_ _)); exact m.out) Tryz.underlying34 rfl (by kernel_rfl)) rfl ?_;exact ⟨EWW, BL⟩
 ·simp only [Option.some.injEq, Prod.mk.injEq] at H;obtain ⟨rfl, rfl, rfl⟩ := H;(try go_wp2_with (first | ((with_reducible refine ay (f := 75) rfl ?_); refine bf (some 4) Tryz.func75 #[.agg #[.int .i64 La, .int .i64 Lb, .string Lc]] ?_; (with_reducible refine (bA.calls k La Lb Lc _ _ A2.out).mono ?_); rintro e Z ⟨rfl, hb⟩; refine ⟨_, rfl, ?_⟩; replace a := KB a hb; replace m := KB m hb; replace HB := BS (w := w) hb; (try clear hb); obtain ⟨x, y, z, A, D, E⟩ := cz3 m.out)));refine bodyPost_ret (results_cell_row rfl _ _ G 34 #[.int .i64 0, .int .i64 0, .string (⟨#[]⟩ : ByteArray)] (0, 0) _ rfl (by (with_reducible repeat (first | refine aD ?_ _ | refine aH ?_ | refine aC ?_ _)); refine aW (cs := #[.int .i64 0, .int .i64 0, .string (⟨#[]⟩ : ByteArray)]) ?_ 2 _ rfl; (with_reducible repeat (first | refine aD ?_ _ | refine aH ?_ | refine aC ?_ _)); refine aW (cs := #[.int .i64 0, .int .i64 0, .string (⟨#[]⟩ : ByteArray)]) ?_ 1 _ rfl; (with_reducible repeat (first | refine aD ?_ _ | refine aH ?_ | refine aC ?_ _)); refine aW (cs := #[.int .i64 0, .int .i64 0, .string (⟨#[]⟩ : ByteArray)]) ?_ 0 _ rfl; (with_reducible repeat (first | refine aD ?_ _ | refine aH ?_ | refine aC ?_ _)); exact m.out) Tryz.underlying34 rfl (by kernel_rfl)) rfl ?_;exact ⟨EWW, BL⟩
def dW.f (k : Nat) (La Lb : Int) (Lc : ByteArray) : Option (Bool) := (bA.f k La Lb Lc).bind fun t507 => (if t507 = true then ((jO.f k La Lb Lc).bind fun bt508 => (some (La == bt508.1 && (Lb == bt508.2.1 && (Lc.toList == bt508.2.2.toList))))) else (some false))
def dW.T1 : Bool × List (List Nat × List Nat) := (true, [([], []), ([0], [0]), ([1, 1], [1]), ([2], [2]), ([2], [2]), ([4, 2, 2], [2, 4]), ([3, 5, 2], [2, 3, 5]), ([2, 6], [2, 6]), ([7, 5, 0, 1, 2, 3, 4, 5, 6, 7], [7])])
def dW.B1 : List Nat := [0, 1, 3, 7, 7, 23, 63, 127, 255]
theorem dW.Kh : kP .any (opsOf Tryz.f96 1) = dW.T1 := by kernel_rfl
theorem dW.GD : iZ dW.T1.2 dW.B1 = true := by kernel_rfl
theorem dW.calls (k : Nat) (La Lb : Int) (Lc : ByteArray) (r : Bool) (w : World) (h : dW.f k La Lb Lc = some r) :
  Calls Tryz.prog 96 #[.agg #[.int .i64 La, .int .i64 Lb, .string Lc]] w fun e w' => e = .returned (.bool r) ∧ Below w.heap.size w w' := by
 have I := Tryz.underlying34;have HB := ah.mk (Below.refl w.heap.size w);unfold dW.f at h;have H := h;clear h;replace H := be H; obtain ⟨J, A2, H⟩ := H;replace H := ah.mk H;go_enter Tryz.func96, Tryz.ntmps96;(try go_wp2_with (first | ((with_reducible refine aJ (N := 1) rfl ?_); refine aZ (N := 1) (cs := #[.int .i64 La, .int .i64 Lb, .string Lc]) (t := 34) ?_; intro m hg o hbox hb; have a := ah.mk hbox; have u := SZ (w := w) hg; have A := u; replace HB := BS (w := w) hb; clear hb hbox hg)));replace a := ah.mk (aH a.out);replace HB := ah.mk (dK HB.out);refine jl (n := 9) (S := fun w' => w'.cell? ⟨m, 0, none⟩ = some (.int .i64 La) ∧ w'.cell? ⟨m, 1, none⟩ = some (.int .i64 Lb) ∧ w'.cell? ⟨m, 2, none⟩ = some (.string Lc)) (ds := []) #[F,F,F,F,F,F,F,F,F] (by kernel_rfl) rfl rfl ⟨(ak a.out 0).trans rfl, (ak a.out 1).trans rfl, (ak a.out 2).trans rfl⟩ (fun hHeld => ?_); refine iL dW.Kh dW.GD (fun HT_ HW_ => ?_);generalize o.drew = D at a HB hHeld ⊢;refine tS 0 (some 3) #[T,F,F,F,F,F,F,F,F] ?_;refine lC (i := 1) (N := some 4) #[T,T,F,F,F,F,F,F,F] rfl rfl (jh HT_.out (by kernel_rfl)) (by decide) (fun K hK => ?_);refine jd Tryz.func75 #[.agg #[.int .i64 La, .int .i64 Lb, .string Lc]] ?_;(with_reducible refine (bA.calls k La Lb Lc _ _ A2.out).mono ?_);rintro e E ⟨rfl, hb⟩;refine ⟨_, rfl, ?_⟩;replace a := KB a hb;replace HB := BS (w := w) hb;(try clear hb);refine hK.out _ _ ⟨(ak a.out 0).trans rfl, (ak a.out 1).trans rfl, (ak a.out 2).trans rfl⟩ (fun hHeld => ?_);clear hK K;refine nrm (some 4) ?_;replace H := H.out;replace H := ifB H; rcases H with ⟨rfl, H⟩ | ⟨rfl, H⟩
 ·replace H := be H; obtain ⟨⟨x, y, z⟩, L, H⟩ := H;dsimp only at H;obtain rfl := Option.some.inj H;refine pS 2 (some 5) #[T,T,T,F,F,F,F,F,F] ?_;refine tS 3 (some 6) #[T,T,T,T,F,F,F,F,F] ?_;refine tS 4 (some 7) #[T,T,T,T,T,F,F,F,F] ?_;refine lC (i := 5) (N := some 8) #[T,T,T,T,T,T,F,F,F] rfl rfl (jh HT_.out (by kernel_rfl)) (by decide) (fun K hK => ?_);refine jd Tryz.func125 #[.agg #[.int .i64 La, .int .i64 Lb, .string Lc]] ?_;(with_reducible refine (jO.calls k La Lb Lc x y z _ L.out).mono ?_);rintro e G ⟨rfl, hb⟩;refine ⟨_, rfl, ?_⟩;replace a := KB a hb;replace HB := BS (w := w) hb;(try clear hb);refine hK.out _ _ ⟨(ak a.out 0).trans rfl, (ak a.out 1).trans rfl, (ak a.out 2).trans rfl⟩ (fun hHeld => ?_);clear hK K;refine nrm (some 8) ?_;refine pS 6 (some 9) #[T,T,T,T,T,T,T,F,F] ?_;refine pS 7 (some 10) #[T,T,T,T,T,T,T,T,F] ?_;refine pS 8 (some 2) #[T,T,T,T,T,T,T,T,T] ?_;refine iF (gJ HT_.out (by kernel_rfl)) ?_;(try go_wp2);go_ret;exact ⟨EWW, BL⟩
 ·obtain rfl := Option.some.inj H;refine pS 2 (some 5) #[T,T,T,F,F,F,F,F,F] ?_;refine pU 3 (some 6) #[T,T,T,T,F,F,F,F,F] ?_;refine pU 4 (some 7) #[T,T,T,T,T,F,F,F,F] ?_;refine pU 5 (some 8) #[T,T,T,T,T,T,F,F,F] ?_;refine pU 6 (some 9) #[T,T,T,T,T,T,T,F,F] ?_;refine pS 7 (some 10) #[T,T,T,T,T,T,T,T,F] ?_;refine pS 8 (some 2) #[T,T,T,T,T,T,T,T,T] ?_;refine iF (gJ HT_.out (by kernel_rfl)) ?_;(try go_wp2);go_ret;exact ⟨EWW, BL⟩
def lI.f (a0 a1 : Int) : Option (Bool) := if a0 ≥ 0 then (some (decide (a0 < a1))) else (some false)
theorem lI.calls (a o : Int) (r : Bool) (w : World) (h : lI.f a o = some r) :
  Calls Tryz.prog 127 #[.int .i64 a, .int .i64 o] w fun e w' => e = .returned (.bool r) ∧ cB w w' := by
 unfold lI.f at h;have H := h;clear h;replace H := ah.mk H;go_enter Tryz.func127, Tryz.ntmps127;replace H := H.out;by_cases c3 : a ≥ 0
 ·rw [if_pos c3] at H;have m : decide (0 ≤ a) = true := decide_eq_true c3;clear c3;obtain rfl := Option.some.inj H;(try go_wp2);go_ret;exact ⟨EQ, DR⟩
 ·rw [if_neg c3] at H;have m : decide (0 ≤ a) = false := decide_eq_false c3;clear c3;obtain rfl := Option.some.inj H;(try go_wp2);go_ret;exact ⟨EQ, DR⟩
def jL.f (k : Nat) (La Lb : Int) (Lc : ByteArray) : Option Int := (bA.f k La Lb Lc).bind fun t => if t = true then HandForm.parts La Lb Lc k (Array.replicate Lc.size false) 0 0 else some 0
theorem jL.grid (k : Nat) (R C : Int) (s : ByteArray) (h : bA.f k R C s = some true) : (2 ≤ R ∧ R ≤ 6) ∧ (2 ≤ C ∧ C ≤ 6) ∧ (s.size : Int) = R * C := by
 unfold bA.f at h;obtain ⟨e, h1, h⟩ := Option.bind_eq_some_iff.mp h
 have j : ∀ x, bA.j0 k x R C s = some true → x = false := by
  intro x hx
  cases k with
  | zero => simp [bA.j0] at hx
  | succ k => cases x with
   | false => rfl
   | true => simp [bA.j0] at hx
 cases e with
 | false =>
  rw [if_neg (by decide)] at h
  cases (j _ h)
 | true =>
  rw [if_pos rfl] at h;obtain ⟨m, h2, h⟩ := Option.bind_eq_some_iff.mp h
  cases m with
  | false =>
   rw [if_neg (by decide)] at h
   cases (j _ h)
  | true =>
   rw [if_pos rfl] at h;have h3 := j _ h
   have ir : ∀ a, dh.f a 2 6 = some true → 2 ≤ a ∧ a ≤ 6 := by
    intro a ha;unfold dh.f at ha;split at ha
    ·rename_i x;exact ⟨x, of_decide_eq_true (Option.some.inj ha)⟩
    ·cases ha
   obtain ⟨r0, r1⟩ := ir _ h1;obtain ⟨o, c1⟩ := ir _ h2;have m1 : R * C ≤ 6 * 6 := Int.mul_le_mul (by omega) (by omega) (by omega) (by omega);have m2 : 0 ≤ R * C := Int.mul_nonneg (by omega) (by omega);have hw : wrap64 (R * C) = R * C := by unfold wrap64; omega
   rw [hw] at h3;exact ⟨⟨r0, r1⟩, ⟨o, c1⟩, by simpa using h3⟩
theorem jL.calls (k : Nat) (La Lb : Int) (Lc : ByteArray) (r : Int) (w : World) (h : jL.f k La Lb Lc = some r) :
  Calls Tryz.prog 126 #[.agg #[.int .i64 La, .int .i64 Lb, .string Lc]] w fun e w' => e = .returned (.int .i64 r) ∧ Below w.heap.size w w' := by
 obtain ⟨t, h1, h2⟩ := Option.bind_eq_some_iff.mp h;exact HandForm.Gf k La Lb Lc t r w (fun V => bA.calls k La Lb Lc t V h1) (fun e => jL.grid k _ _ _ (e ▸ h1)) h2
def iT.f (k : Nat) (La Lb : Int) (Lc : ByteArray) : Option (Bool) := (jL.f k La Lb Lc).bind fun t512 => (some (t512 == 1))
theorem iT.calls (k : Nat) (La Lb : Int) (Lc : ByteArray) (r : Bool) (w : World) (h : iT.f k La Lb Lc = some r) :
  Calls Tryz.prog 97 #[.agg #[.int .i64 La, .int .i64 Lb, .string Lc]] w fun e w' => e = .returned (.bool r) ∧ Below w.heap.size w w' := by
 have I := Tryz.underlying34;have HB := ah.mk (Below.refl w.heap.size w);unfold iT.f at h;have H := h;clear h;replace H := be H; obtain ⟨o, A2, H⟩ := H;obtain rfl := Option.some.inj H;go_enter Tryz.func97, Tryz.ntmps97;go_wp2_with (first | ((with_reducible refine aJ (N := 1) rfl ?_); refine aZ (N := 1) (cs := #[.int .i64 La, .int .i64 Lb, .string Lc]) (t := 34) ?_; intro E hg J hbox hb; have a := ah.mk hbox; have m := SZ (w := w) hg; have G := m; replace HB := BS (w := w) hb; clear hb hbox hg; obtain ⟨u, x, y, z, A, D⟩ := cz3 a.out) | ((with_reducible refine ay (f := 126) rfl ?_); refine bf (some 4) Tryz.func126 #[.agg #[.int .i64 La, .int .i64 Lb, .string Lc]] ?_; (with_reducible refine (jL.calls k La Lb Lc o _ A2.out).mono ?_); rintro e K ⟨rfl, hb⟩; refine ⟨_, rfl, ?_⟩; replace a := KB a hb; replace HB := BS (w := w) hb; (try clear hb)));go_ret;exact ⟨EWW, BL⟩
end Go.Proofs.YthkfjbodohaglaaGreatDoor.PFnExactRoundsNeeded
