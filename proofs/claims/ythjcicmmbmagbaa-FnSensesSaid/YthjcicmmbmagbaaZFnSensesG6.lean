/- Walks of functions: what each computes. -/
import Derived.Test.YthjcicmmbmagbaaZFnSensesG0
import Derived.Test.YthjcicmmbmagbaaZFnSensesG2
import Derived.Test.YthjcicmmbmagbaaZFnSensesG3
import Derived.Test.YthjcicmmbmagbaaZFnSensesG5
import Derived.Test.YthjcicmmbmagbaaZFnSensesW
import Derived.Test.YthjcicmmbmagbaaZFnSensesHandForm
import Derived.Test.YthjcicmmbmagbaaZFnSensesHandAlone
import Derived.Test.YthjcicmmbmagbaaZFnSensesHandIns
import Derived.Test.YthjcicmmbmagbaaZFnSensesHandRead
namespace Go.Proofs.Ythjcicmmbmagbaa.PFnSenses
open Go.RowKit Go.Proofs.YthjcicmmbmagbaaW.PrintWords Go.Proofs.YthjcicmmbmagbaaW.PrintLast Go.Proofs.YthjcicmmbmagbaaW.PrintMore
attribute [local go_sem] iF iG iR iQ ig gW iE iD
set_option linter.unusedVariables false
set_option linter.unusedSimpArgs false
def fA.f (s0_0 : List Int) (s0_1 : Int) (s0_2 : Int) (a1 : Int) : Option (Bool × Int × Int) := (bM.f s0_0 s0_1 s0_2 a1).bind fun bt229 => (some ((bt229.1 == 0), bt229.2.1, bt229.2.2))
set_option maxHeartbeats 8000000 in
set_option maxRecDepth 100000 in
theorem fA.calls (g : Nat) (s0_0 : List Int) (s0_1 : Int) (s0_2 : Int) (a1 : Int) (r1 : Bool) (r2 : Int) (r3 : Int) (w0 w : World) (hI : av w0 w g s0_0 s0_1 s0_2) (hB : Below w0.heap.size w0 w) (h : fA.f s0_0 s0_1 s0_2 a1 = some (r1, r2, r3)) :
  Calls Try.prog 69 #[.pointer (some ⟨g, 0, none⟩), .int .i64 a1] w fun e w' => e = .returned (.bool r1) ∧ av w0 w' g s0_0 r2 r3 ∧ Below w0.heap.size w0 w' ∧ bn w w' g none := by
 have HI0 := aj.mk hI
 have HK := aj.mk (bn.refl w g none)
 have HL := aj.mk hB.size
 clear hI
 have HW0 := aj.mk hB.size
 have HB := aj.mk hB
 clear hB
 have H : ((bM.f s0_0 s0_1 s0_2 a1).bind fun bt229 => (some ((bt229.1 == 0), bt229.2.1, bt229.2.2))) = some (r1, r2, r3) := h
 clear h
 replace H := Option.bind_eq_some_iff.mp H
 obtain ⟨⟨t229, t230, t231⟩, A30, H⟩ := H
 replace H : (some ((t229 == 0), t230, t231)) = some (r1, r2, r3) := H
 have A3 := aj.mk A30
 clear A30
 simp only [Option.some.injEq, Prod.mk.injEq] at H
 obtain ⟨rfl, rfl, rfl⟩ := H
 go_enter Try.func69, Try.ntmps69
 go_wp2_with (first | ((with_reducible refine bq (f := 118) rfl ?_); refine bT (some 7) rfl rfl Try.func118 (by kernel_rfl) rfl #[.pointer (some ⟨g, 0, none⟩), .int .i64 a1] rfl (by (try simp only [List.map_toArray, List.map_cons, List.map_nil]); first | done | rfl | (simp only [List.length_drop, List.length_take]; rfl)) ?_; (with_reducible refine (bM.calls g s0_0 s0_1 s0_2 a1 t229 t230 t231 w0 _ ?side1 ?side2 A3.out).mono ?_); (case side1 => repeat (first | (with_reducible first | exact HI0.out | apply av.alloc | apply av.drewN | apply av.drew | apply av.bX | apply av.bW) | exact HI0.out)); (case side2 => repeat (first | (with_reducible first | exact HB.out | apply au | apply ah | apply ak | refine ay ?_ (av.ge HI0.out)) | exact HB.out)); rintro e w4 ⟨rfl, hi, hb, hk⟩; refine ⟨_, rfl, ?_⟩; have n0_ := aj.mk (bn.trans (by repeat (first | (with_reducible first | exact HK.out | apply bn.dX | apply bF | apply bH | apply bE) | exact HK.out)) hk (.inl rfl)); have n1_ := aj.mk (hb); have n2_ := aj.mk (hi); clear HK; clear HB; clear HI0; have HK := n0_; have HB := n1_; have HI0 := n2_; clear n0_ n1_ n2_; (try clear hb); (try clear hb2); (try clear hk); (try clear hi)))
 go_ret
 exact ⟨by first | rfl | (simp [bA, bB] <;> rfl) | (simp [*, bA, bB] <;> rfl), by repeat (first | (with_reducible first | exact HI0.out | apply av.alloc | apply av.drewN | apply av.drew | apply av.bX | apply av.bW) | exact HI0.out), by repeat (first | (with_reducible first | exact HB.out | apply au | apply ah | apply ak | refine ay ?_ (av.ge HI0.out)) | exact HB.out), by repeat (first | (with_reducible first | exact HK.out | apply bn.dX | apply bF | apply bH | apply bE) | exact HK.out)⟩
mutual
def bK.l0 : Nat → List (S31) → List ByteArray → Int → List Int → Int → Int → Option ((List (S31)) × Int × Int)
 | 0, _, _, _, _, _, _ => none
 | k + 1, x3, x4, x5, x1000, x1001, x1002 => if x5 < (x4.length : Int) then ((fA.f x1000 x1001 x1002 3).bind fun bt238 => (if bt238.1 = true then (bK.l0 k x3 x4 (wrap64 (x5 + 1)) x1000 bt238.2.1 bt238.2.2) else (if 0 ≤ x5 then ((bM.f x1000 bt238.2.1 bt238.2.2 4).bind fun bt242 => ((bD.f k x3 (fO ByteArray.empty x4 x5) (wrap64 (1 + bt242.1))).bind fun bt245 => (bK.l0 k bt245.1 x4 (wrap64 (x5 + 1)) x1000 bt242.2.1 bt242.2.2))) else (none)))) else ((bM.f x1000 x1001 x1002 6).bind fun bt249 => (bK.l1 k x3 bt249.1 x1000 bt249.2.1 bt249.2.2))
def bK.l1 : Nat → List (S31) → Int → List Int → Int → Int → Option ((List (S31)) × Int × Int)
 | 0, _, _, _, _, _ => none
 | k + 1, x3, x6, x1000, x1001, x1002 => if x6 > 0 then ((gy.f x1000 x1001 x1002).bind fun bt252 => ((bM.f x1000 bt252.2.1 bt252.2.2 4).bind fun bt255 => ((bD.f k x3 bt252.1 (wrap64 (1 + bt255.1))).bind fun bt258 => (bK.l1 k bt258.1 (wrap64 (x6 - 1)) x1000 bt255.2.1 bt255.2.2)))) else (some (x3, x1001, x1002))
end
def bK.f (k : Nat) (s0_0 : List Int) (s0_1 : Int) (s0_2 : Int) : Option ((List (S31)) × Int × Int) := (dV.f).bind fun t235 => (bK.l0 k (([] : List (S31))) t235 0 s0_0 s0_1 s0_2)
def bK.T7 : Bool × List (List Nat × List Nat) := (true, [([], []), ([], []), ([], []), ([1, 2], [1, 2]), ([3], [3]), ([], []), ([5], [5]), ([6], [6]), ([4, 7], [4, 7]), ([0, 8, 6], [0, 8]), ([9], [9]), ([10], [10]), ([10], [10]), ([11, 9, 0, 1, 2, 3, 4, 5, 6, 7, 8, 9, 10, 11], [0, 11])])
def bK.B7 : List Nat := [0, 0, 0, 6, 14, 0, 32, 96, 254, 511, 1023, 2047, 2047, 4095]
theorem bK.sO : iJ .any (opsOf Try.f117 7) = bK.T7 := by kernel_rfl
theorem bK.rZ : iL bK.T7.2 bK.B7 = true := by kernel_rfl
set_option maxHeartbeats 8000000 in
set_option maxRecDepth 100000 in
theorem bK.calls (k : Nat) (g : Nat) (s0_0 : List Int) (s0_1 : Int) (s0_2 : Int) (r1 : List (S31)) (r2 : Int) (r3 : Int) (w0 w : World) (hI : av w0 w g s0_0 s0_1 s0_2) (hB : Below w0.heap.size w0 w) (h : bK.f k s0_0 s0_1 s0_2 = some (r1, r2, r3)) :
  Calls Try.prog 117 #[.pointer (some ⟨g, 0, none⟩)] w fun e w' => ∃ v0_ : Value, e = .returned (v0_) ∧ Kd.R k31 31 w' w.heap.size (fun _ => True) v0_ r1 ∧ av w0 w' g s0_0 r2 r3 ∧ Below w0.heap.size w0 w' ∧ bn w w' g none := by
 have hu31 := Try.underlying31
 have HI0 := aj.mk hI
 have HK := aj.mk (bn.refl w g none)
 have HL := aj.mk hB.size
 clear hI
 have HW0 := aj.mk hB.size
 have HB := aj.mk hB
 clear hB
 have H : ((dV.f).bind fun t235 => (bK.l0 k (([] : List (S31))) t235 0 s0_0 s0_1 s0_2)) = some (r1, r2, r3) := h
 clear h
 obtain ⟨y232, hy232⟩ : ∃ y_ : List (S31), y_ = (([] : List (S31))) := ⟨_, rfl⟩
 replace H : ((dV.f).bind fun t235 => (bK.l0 k y232 t235 0 s0_0 s0_1 s0_2)) = some (r1, r2, r3) := by first | (rw [hy232]; with_reducible exact H) | (have H2_ := (Option.bind_some _ _).symm.trans H; rw [hy232]; with_reducible exact H2_) | (have H2_ := (Option.bind_some _ _).symm.trans H; with_reducible exact H2_) | with_reducible exact H | (rw [hy232]; exact H) | exact H
 have Ny232 := aj.mk hy232
 clear hy232
 replace H := Option.bind_eq_some_iff.mp H
 obtain ⟨t235, A20, H⟩ := H
 replace H : (bK.l0 k y232 t235 0 s0_0 s0_1 s0_2) = some (r1, r2, r3) := H
 have A2 := aj.mk A20
 clear A20
 have H' := aj.mk H
 clear H
 go_enter Try.func117, Try.ntmps117
 go_wp2_with (first | ((with_reducible refine dz (N := 7) rfl ?_); refine Kd.kY k31 _ 31 ?hg (N := 7) ?hd (xs := ([] : List (S31))) (inner := []) (ok := fun _ => True) (okp := fun _ => True) ?hr ?hp (fun _ hk => hk) trivial (Below.refl _ _) (Nat.le_refl _) (by simp) ?_; (case hd => rfl); (case hg => rfl); (case hr => first | (go_simp; done) | (go_simp; rfl)); (case hp => exact (bZ.none _ _)); intro v233 w3 ho4 hb hg_ hnew_; clear hg_ hnew_; (first | rw [← Ny232.out] at ho4 | (simp only [Int.reduceToNat] at ho4; rw [← Ny232.out] at ho4)); have n0_ := aj.mk (Kd.cK ho4 (fI (w := w) (g := g) (row := none) (by repeat (first | (with_reducible first | exact HK.out | apply bn.dX | apply bF | apply bH | apply bE) | exact HK.out)))); have n1_ := aj.mk (av.below (by repeat (first | (with_reducible first | exact HI0.out | apply av.alloc | apply av.drewN | apply av.drew | apply av.bX | apply av.bW) | exact HI0.out)) hb); have n2_ := aj.mk (bn.trans (by repeat (first | (with_reducible first | exact HK.out | apply bn.dX | apply bF | apply bH | apply bE) | exact HK.out)) (bn.of_below hb g none) (.inl rfl)); have n3_ := aj.mk (aY (by repeat (first | (with_reducible first | exact HB.out | apply au | apply ah | apply ak | refine ay ?_ (av.ge HI0.out)) | exact HB.out)) hb); clear HI0; clear HK; clear HB; have HO234 := n0_; have HI0 := n1_; have HK := n2_; have HB := n3_; clear n0_ n1_ n2_ n3_; clear hb ho4) | ((with_reducible refine bq (f := 70) rfl ?_); refine bT (some 8) rfl rfl Try.func70 (by kernel_rfl) rfl #[] rfl (by (try simp only [List.map_toArray, List.map_cons, List.map_nil]); first | done | rfl | (simp only [List.length_drop, List.length_take]; rfl)) ?_; (with_reducible refine (dV.calls  t235 _ A2.out).mono ?_); rintro e w5 ⟨v236, rfl, ho0, hb⟩; refine ⟨_, rfl, ?_⟩; have n0_ := aj.mk (Kd.bY (by (with_reducible repeat (first | apply Kd.aN | apply Kd.aM | apply Kd.aW)); exact HO234.out) hb); have n1_ := aj.mk (Kd.cK ho0 (fI (w := w) (g := g) (row := none) (by repeat (first | (with_reducible first | exact HK.out | apply bn.dX | apply bF | apply bH | apply bE) | exact HK.out)))); have n2_ := aj.mk (av.below (by repeat (first | (with_reducible first | exact HI0.out | apply av.alloc | apply av.drewN | apply av.drew | apply av.bX | apply av.bW) | exact HI0.out)) hb); have n3_ := aj.mk (bn.trans (by repeat (first | (with_reducible first | exact HK.out | apply bn.dX | apply bF | apply bH | apply bE) | exact HK.out)) (bn.of_below hb g none) (.inl rfl)); have n4_ := aj.mk (aY (by repeat (first | (with_reducible first | exact HB.out | apply au | apply ah | apply ak | refine ay ?_ (av.ge HI0.out)) | exact HB.out)) hb); clear HO234; clear HI0; clear HK; clear HB; have HO234 := n0_; have HO237 := n1_; have HI0 := n2_; have HK := n3_; have HB := n4_; clear n0_ n1_ n2_ n3_ n4_; (try clear hb); (try clear hb2); (try clear hk); (try clear hi); (try clear ho0)))
 go_loopg [3, 5] k (fun kq v3 v5 w' => ∃ (x3_1 : List (S31)) (x5_1 : Int) (x1001_1 : Int) (x1002_1 : Int), v5 = .int .i64 x5_1 ∧ aj (bK.l0 kq x3_1 t235 x5_1 s0_0 x1001_1 x1002_1 = some (r1, r2, r3)) ∧ aj (kq ≤ k) ∧ aj (Kd.R k31 31 w' w.heap.size (fun _ => True) v3 x3_1) ∧ aj (Kd.R Kd.string 9 w' w.heap.size (fun _ => True) v236 t235) ∧ aj (av w0 w' g s0_0 x1001_1 x1002_1) ∧ aj (bn w w' g none) ∧ aj (Below w0.heap.size w0 w'))
 case atStart => exact ⟨(y232), (0), (s0_1), (s0_2), (by first | rfl | (simp; done) | (simp [*]; done)), H', ⟨Nat.le_refl _⟩, ⟨by (with_reducible repeat (first | apply Kd.aN | apply Kd.aM | apply Kd.aW)); exact HO234.out⟩, ⟨by (with_reducible repeat (first | apply Kd.aN | apply Kd.aM | apply Kd.aW)); exact HO237.out⟩, ⟨by repeat (first | (with_reducible first | exact HI0.out | apply av.alloc | apply av.drewN | apply av.drew | apply av.bX | apply av.bW) | exact HI0.out)⟩, ⟨by repeat (first | (with_reducible first | exact HK.out | apply bn.dX | apply bF | apply bH | apply bE) | exact HK.out)⟩, ⟨by repeat (first | (with_reducible first | exact HB.out | apply au | apply ah | apply ak | refine ay ?_ (av.ge HI0.out)) | exact HB.out)⟩⟩
 case round =>
  clear H'
  obtain ⟨x3_1, x5_1, x1001_1, x1002_1, rfl, HA, HK1, HO_3, HO_4, HI0, HK, HB⟩ := hrel
  cases gk with
  | zero => exact absurd HA.out (by simp [bK.l0])
  | succ k1 =>
   have H := HA.out
   clear HA
   simp only [bK.l0] at H
   by_cases c6 : x5_1 < (t235.length : Int)
   ·rw [if_pos c6] at H
    have c6b0 : decide (x5_1 < (t235.length : Int)) = true := decide_eq_true c6
    clear c6
    replace H := Option.bind_eq_some_iff.mp H
    obtain ⟨⟨t238, t239, t240⟩, A70, H⟩ := H
    replace H : (if t238 = true then (bK.l0 k1 x3_1 t235 (wrap64 (x5_1 + 1)) s0_0 t239 t240) else (if 0 ≤ x5_1 then ((bM.f s0_0 t239 t240 4).bind fun bt242 => ((bD.f k1 x3_1 (fO ByteArray.empty t235 x5_1) (wrap64 (1 + bt242.1))).bind fun bt245 => (bK.l0 k1 bt245.1 t235 (wrap64 (x5_1 + 1)) s0_0 bt242.2.1 bt242.2.2))) else (none))) = some (r1, r2, r3) := H
    have A7 := aj.mk A70
    clear A70
    by_cases c8 : t238 = true
    ·subst c8
     have H1 : (bK.l0 k1 x3_1 t235 (wrap64 (x5_1 + 1)) s0_0 t239 t240) = some (r1, r2, r3) := by rw [if_pos rfl] at H; exact H
     clear H
     have H := H1
     clear H1
     have H' := aj.mk H
     clear H
     obtain ⟨Ao9, co9, eo9⟩ := Kd.dO HO_4.out
     subst eo9
     go_wp2_with (first | ((with_reducible refine bq (f := 69) rfl ?_); refine bT (some 16) rfl rfl Try.func69 (by kernel_rfl) rfl #[.pointer (some ⟨g, 0, none⟩), .int .i64 3] rfl (by (try simp only [List.map_toArray, List.map_cons, List.map_nil]); first | done | rfl | (simp only [List.length_drop, List.length_take]; rfl)) ?_; (with_reducible refine (fA.calls g s0_0 x1001_1 x1002_1 3 true t239 t240 w0 _ ?side1 ?side2 A7.out).mono ?_); (case side1 => repeat (first | (with_reducible first | exact HI0.out | apply av.alloc | apply av.drewN | apply av.drew | apply av.bX | apply av.bW) | exact HI0.out)); (case side2 => repeat (first | (with_reducible first | exact HB.out | apply au | apply ah | apply ak | refine ay ?_ (av.ge HI0.out)) | exact HB.out)); rintro e w10 ⟨rfl, hi, hb, hk⟩; refine ⟨_, rfl, ?_⟩; have n0_ := aj.mk (Kd.bO (Kd.eP (av.apart (show av w0 _ g s0_0 x1001_1 x1002_1 from by repeat (first | (with_reducible first | exact HI0.out | apply av.alloc | apply av.drewN | apply av.drew | apply av.bX | apply av.bW) | exact HI0.out)) (by (with_reducible repeat (first | apply Kd.aN | apply Kd.aM | apply Kd.aW)); exact HO_3.out) (by decide)) hk (fun _ h => h.2)) (fun _ h => h.1)); have n1_ := aj.mk (Kd.bO (Kd.eP (av.apart (show av w0 _ g s0_0 x1001_1 x1002_1 from by repeat (first | (with_reducible first | exact HI0.out | apply av.alloc | apply av.drewN | apply av.drew | apply av.bX | apply av.bW) | exact HI0.out)) (by (with_reducible repeat (first | apply Kd.aN | apply Kd.aM | apply Kd.aW)); exact HO_4.out) (by decide)) hk (fun _ h => h.2)) (fun _ h => h.1)); have n2_ := aj.mk (bn.trans (by repeat (first | (with_reducible first | exact HK.out | apply bn.dX | apply bF | apply bH | apply bE) | exact HK.out)) hk (.inl rfl)); have n3_ := aj.mk (hb); have n4_ := aj.mk (hi); clear HO_3; clear HO_4; clear HK; clear HB; clear HI0; have HO_3 := n0_; have HO_4 := n1_; have HK := n2_; have HB := n3_; have HI0 := n4_; clear n0_ n1_ n2_ n3_ n4_; (try clear hb); (try clear hb2); (try clear hk); (try clear hi)))
     go_roundg k1
     case measure => have := HK1.out; omega
     case rel => exact ⟨(x3_1), (wrap64 (x5_1 + 1)), (t239), (t240), (by first | rfl | (simp; done) | (simp [*]; done)), H', ⟨by have := HK1.out; omega⟩, ⟨by (with_reducible repeat (first | apply Kd.aN | apply Kd.aM | apply Kd.aW)); exact HO_3.out⟩, ⟨by (with_reducible repeat (first | apply Kd.aN | apply Kd.aM | apply Kd.aW)); exact HO_4.out⟩, ⟨by repeat (first | (with_reducible first | exact HI0.out | apply av.alloc | apply av.drewN | apply av.drew | apply av.bX | apply av.bW) | exact HI0.out)⟩, ⟨by repeat (first | (with_reducible first | exact HK.out | apply bn.dX | apply bF | apply bH | apply bE) | exact HK.out)⟩, ⟨by repeat (first | (with_reducible first | exact HB.out | apply au | apply ah | apply ak | refine ay ?_ (av.ge HI0.out)) | exact HB.out)⟩⟩
    ·replace c8 := Bool.eq_false_iff.mpr c8
     subst c8
     have H1 : (if 0 ≤ x5_1 then ((bM.f s0_0 t239 t240 4).bind fun bt242 => ((bD.f k1 x3_1 (fO ByteArray.empty t235 x5_1) (wrap64 (1 + bt242.1))).bind fun bt245 => (bK.l0 k1 bt245.1 t235 (wrap64 (x5_1 + 1)) s0_0 bt242.2.1 bt242.2.2))) else (none)) = some (r1, r2, r3) := by rw [if_neg (show ¬ (false = true) by decide)] at H; exact H
     clear H
     have H := H1
     clear H1
     by_cases c11 : 0 ≤ x5_1
     ·rw [if_pos c11] at H
      have c11b0 : decide (0 ≤ x5_1) = true := decide_eq_true c11
      clear c11
      replace H := Option.bind_eq_some_iff.mp H
      obtain ⟨⟨t242, t243, t244⟩, A120, H⟩ := H
      replace H : ((bD.f k1 x3_1 (fO ByteArray.empty t235 x5_1) (wrap64 (1 + t242))).bind fun bt245 => (bK.l0 k1 bt245.1 t235 (wrap64 (x5_1 + 1)) s0_0 t243 t244)) = some (r1, r2, r3) := H
      have A12 := aj.mk A120
      clear A120
      replace H := Option.bind_eq_some_iff.mp H
      obtain ⟨⟨t245, t248⟩, A130, H⟩ := H
      replace H : (bK.l0 k1 t245 t235 (wrap64 (x5_1 + 1)) s0_0 t243 t244) = some (r1, r2, r3) := H
      have A13 := aj.mk A130
      clear A130
      have H' := aj.mk H
      clear H
      obtain ⟨Ao14, co14, eo14⟩ := Kd.dO HO_4.out
      subst eo14
      try go_wp2_with (first | ((with_reducible refine bq (f := 69) rfl ?_); refine bT (some 16) rfl rfl Try.func69 (by kernel_rfl) rfl #[.pointer (some ⟨g, 0, none⟩), .int .i64 3] rfl (by (try simp only [List.map_toArray, List.map_cons, List.map_nil]); first | done | rfl | (simp only [List.length_drop, List.length_take]; rfl)) ?_; (with_reducible refine (fA.calls g s0_0 x1001_1 x1002_1 3 false t239 t240 w0 _ ?side1 ?side2 A7.out).mono ?_); (case side1 => repeat (first | (with_reducible first | exact HI0.out | apply av.alloc | apply av.drewN | apply av.drew | apply av.bX | apply av.bW) | exact HI0.out)); (case side2 => repeat (first | (with_reducible first | exact HB.out | apply au | apply ah | apply ak | refine ay ?_ (av.ge HI0.out)) | exact HB.out)); rintro e w15 ⟨rfl, hi, hb, hk⟩; refine ⟨_, rfl, ?_⟩; have n0_ := aj.mk (Kd.bO (Kd.eP (av.apart (show av w0 _ g s0_0 x1001_1 x1002_1 from by repeat (first | (with_reducible first | exact HI0.out | apply av.alloc | apply av.drewN | apply av.drew | apply av.bX | apply av.bW) | exact HI0.out)) (by (with_reducible repeat (first | apply Kd.aN | apply Kd.aM | apply Kd.aW)); exact HO_3.out) (by decide)) hk (fun _ h => h.2)) (fun _ h => h.1)); have n1_ := aj.mk (Kd.bO (Kd.eP (av.apart (show av w0 _ g s0_0 x1001_1 x1002_1 from by repeat (first | (with_reducible first | exact HI0.out | apply av.alloc | apply av.drewN | apply av.drew | apply av.bX | apply av.bW) | exact HI0.out)) (by (with_reducible repeat (first | apply Kd.aN | apply Kd.aM | apply Kd.aW)); exact HO_4.out) (by decide)) hk (fun _ h => h.2)) (fun _ h => h.1)); have n2_ := aj.mk (bn.trans (by repeat (first | (with_reducible first | exact HK.out | apply bn.dX | apply bF | apply bH | apply bE) | exact HK.out)) hk (.inl rfl)); have n3_ := aj.mk (hb); have n4_ := aj.mk (hi); clear HO_3; clear HO_4; clear HK; clear HB; clear HI0; have HO_3 := n0_; have HO_4 := n1_; have HK := n2_; have HB := n3_; have HI0 := n4_; clear n0_ n1_ n2_ n3_ n4_; (try clear hb); (try clear hb2); (try clear hk); (try clear hi)))
      have n0_ := aj.mk (Kd.aW HO_3.out)
      have n1_ := aj.mk (Kd.aW HO_4.out)
      have n2_ := aj.mk (av.drew HI0.out)
      have n3_ := aj.mk (bH HK.out)
      have n4_ := aj.mk (ak HB.out)
      clear HO_3
      clear HO_4
      clear HI0
      clear HK
      clear HB
      have HO_3 := n0_
      have HO_4 := n1_
      have HI0 := n2_
      have HK := n3_
      have HB := n4_
      clear n0_ n1_ n2_ n3_ n4_
      have p241 : 0 ≤ (x5_1 : Int) := of_decide_eq_true (by first | (with_reducible assumption) | assumption)
      have q241 : x5_1 < (t235.length : Int) := of_decide_eq_true (by first | (with_reducible assumption) | assumption)
      obtain ⟨ad241, e241, hx241_0⟩ := Kd.fU (Kd.bJ HO_4.out).2.2 x5_1 p241 q241
      cases e241
      replace p241 := eq_true p241
      replace q241 := eq_true q241
      refine fK (n := 14) (S := fun w' => w'.cell? (ad241.add (x5_1).toNat) = some (.string (fO ByteArray.empty t235 x5_1))) (ds := []) #[false, false, false, false, false, false, false, false, false, false, false, false, false, false] (by kernel_rfl) rfl rfl (hx241_0) (fun hHeld => ?_); refine eu bK.sO bK.rZ (fun HT_ HW_ => ?_)
      generalize w15.drew = w16 at HO_3 HO_4 HI0 HK HB hx241_0 hHeld ⊢
      refine aX (i := 0) (N := some 19) (v := ?_) (a' := ?_) #[true, false, false, false, false, false, false, false, false, false, false, false, false, false] rfl rfl (aK HT_.out (by kernel_rfl)) (fun _ _ _ h => h) (Or.inl ⟨by rfl, ?_⟩) ?_ ?_
      rotate_left
      ·intro w'
       go_simp
       with_reducible rfl
      rotate_left
      ·simp only [Act.put, List.setIfInBounds_toArray, List.set_cons_zero, List.set_cons_succ, aG, aH]
       rfl
      refine aX (i := 1) (N := some 20) (v := ?_) (a' := ?_) #[true, true, false, false, false, false, false, false, false, false, false, false, false, false] rfl rfl (aK HT_.out (by kernel_rfl)) (fun _ _ _ h => h) (Or.inl ⟨by rfl, ?_⟩) ?_ ?_
      rotate_left
      ·intro w'
       go_simp
       with_reducible rfl
      rotate_left
      ·simp only [Act.put, List.setIfInBounds_toArray, List.set_cons_zero, List.set_cons_succ, aG, aH]
       rfl
      refine aX (i := 2) (N := some 21) (v := ?_) (a' := ?_) #[true, true, true, false, false, false, false, false, false, false, false, false, false, false] rfl rfl (aK HT_.out (by kernel_rfl)) (fun _ _ _ h => h) (Or.inl ⟨by rfl, ?_⟩) ?_ ?_
      rotate_left
      ·intro w'
       go_simp
       with_reducible rfl
      rotate_left
      ·simp only [Act.put, List.setIfInBounds_toArray, List.set_cons_zero, List.set_cons_succ, aG, aH]
       rfl
      refine aX (i := 3) (N := some 22) (v := ?_) (a' := ?_) #[true, true, true, true, false, false, false, false, false, false, false, false, false, false] rfl rfl (aK HT_.out (by kernel_rfl)) (fun _ _ _ h => h) (Or.inl ⟨by rfl, ?_⟩) ?_ ?_
      rotate_left
      ·intro w'
       go_simp
       with_reducible rfl
      rotate_left
      ·simp only [Act.put, List.setIfInBounds_toArray, List.set_cons_zero, List.set_cons_succ, aG, aH]
       rfl
      refine aX (i := 5) (N := some 24) (v := ?_) (a' := ?_) #[true, true, true, true, false, true, false, false, false, false, false, false, false, false] rfl rfl (aK HT_.out (by kernel_rfl)) (fun _ _ _ h => h) (Or.inl ⟨by rfl, ?_⟩) ?_ ?_
      rotate_left
      ·intro w'
       go_simp
       with_reducible rfl
      rotate_left
      ·simp only [Act.put, List.setIfInBounds_toArray, List.set_cons_zero, List.set_cons_succ, aG, aH]
       rfl
      refine eO (i := 4) (N := some 23) (v := ?_) (a' := ?_) #[true, true, true, true, true, true, false, false, false, false, false, false, false, false] rfl rfl (dx HT_.out HW_.out (by kernel_rfl)) (fun _ _ _ h => h) (Or.inl ⟨by rfl, ?_⟩) hHeld ?_ ?_
      rotate_left
      ·intro w' s0
       go_simp
       with_reducible rfl
      rotate_left
      ·simp only [Act.put, List.setIfInBounds_toArray, List.set_cons_zero, List.set_cons_succ, aG, aH]
       rfl
      refine fE (i := 6) (N := some 25) #[true, true, true, true, true, true, true, false, false, false, false, false, false, false] rfl rfl (dP HT_.out (by kernel_rfl)) (by decide) (fun K hK => ?_)
      refine fF Try.func118 (by kernel_rfl) rfl #[.pointer (some ⟨g, 0, none⟩), .int .i64 4] (by rfl) rfl rfl (by (try simp only [List.map_toArray, List.map_cons, List.map_nil]); first | done | rfl | (simp only [List.length_drop, List.length_take]; rfl)) ?_
      with_reducible refine (bM.calls g s0_0 t239 t240 4 t242 t243 t244 w0 _ ?side1 ?side2 A12.out).mono ?_
      (case side1 => repeat (first | (with_reducible first | exact HI0.out | apply av.alloc | apply av.drewN | apply av.drew | apply av.bX | apply av.bW) | exact HI0.out))
      (case side2 => repeat (first | (with_reducible first | exact HB.out | apply au | apply ah | apply ak | refine ay ?_ (av.ge HI0.out)) | exact HB.out))
      rintro e w17 ⟨rfl, hi, hb, hk⟩
      have HS0_ := kQ hk (hHeld) (by first | (rw [add_block]; exact Kd.lJ (av.own_ne HI0.out HO_4.out (by decide))) | (show (Addr.add _ _).block ≠ _; rw [add_block]; exact Kd.lJ (av.own_ne HI0.out HO_4.out (by decide))) | exact Kd.lJ (av.own_ne HI0.out HO_4.out (by decide)))
      refine ⟨_, rfl, ?_⟩
      have n0_ := aj.mk (Kd.bO (Kd.eP (av.apart (show av w0 _ g s0_0 t239 t240 from by repeat (first | (with_reducible first | exact HI0.out | apply av.alloc | apply av.drewN | apply av.drew | apply av.bX | apply av.bW) | exact HI0.out)) (by (with_reducible repeat (first | apply Kd.aN | apply Kd.aM | apply Kd.aW)); exact HO_3.out) (by decide)) hk (fun _ h => h.2)) (fun _ h => h.1))
      have n1_ := aj.mk (Kd.bO (Kd.eP (av.apart (show av w0 _ g s0_0 t239 t240 from by repeat (first | (with_reducible first | exact HI0.out | apply av.alloc | apply av.drewN | apply av.drew | apply av.bX | apply av.bW) | exact HI0.out)) (by (with_reducible repeat (first | apply Kd.aN | apply Kd.aM | apply Kd.aW)); exact HO_4.out) (by decide)) hk (fun _ h => h.2)) (fun _ h => h.1))
      have n2_ := aj.mk (bn.trans (by repeat (first | (with_reducible first | exact HK.out | apply bn.dX | apply bF | apply bH | apply bE) | exact HK.out)) hk (.inl rfl))
      have n3_ := aj.mk (hb)
      have n4_ := aj.mk (hi)
      clear HO_3
      clear HO_4
      clear HK
      clear HB
      clear HI0
      have HO_3 := n0_
      have HO_4 := n1_
      have HK := n2_
      have HB := n3_
      have HI0 := n4_
      clear n0_ n1_ n2_ n3_ n4_
      (try clear hb)
      (try clear hb2)
      (try clear hk)
      (try clear hi)
      obtain ⟨Ao18, co18, eo18⟩ := Kd.dO HO_3.out
      (first | subst eo18 | (injection eo18 with f1_ f2_ f3_; have f4_ := f1_.symm; have f5_ := f3_.symm; clear f1_ f2_ f3_; subst f4_; subst f5_))
      refine hK.out _ _ (HS0_) (fun hHeld => ?_)
      clear hK K
      refine dw (a' := ?_) ?_ ?_
      rotate_left
      ·show Act.put _ (some 25) _ = _
       simp only [Act.put, List.setIfInBounds_toArray, List.set_cons_zero, List.set_cons_succ, aG, aH]
       rfl
      refine aX (i := 7) (N := some 26) (v := ?_) (a' := ?_) #[true, true, true, true, true, true, true, true, false, false, false, false, false, false] rfl rfl (aK HT_.out (by kernel_rfl)) (fun _ _ _ h => h) (Or.inl ⟨by rfl, ?_⟩) ?_ ?_
      rotate_left
      ·intro w'
       go_simp
       with_reducible rfl
      rotate_left
      ·simp only [Act.put, List.setIfInBounds_toArray, List.set_cons_zero, List.set_cons_succ, aG, aH]
       rfl
      refine aX (i := 8) (N := some 27) (v := ?_) (a' := ?_) #[true, true, true, true, true, true, true, true, true, false, false, false, false, false] rfl rfl (aK HT_.out (by kernel_rfl)) (fun _ _ _ h => h) (Or.inl ⟨by rfl, ?_⟩) ?_ ?_
      rotate_left
      ·intro w'
       go_simp
       with_reducible rfl
      rotate_left
      ·simp only [Act.put, List.setIfInBounds_toArray, List.set_cons_zero, List.set_cons_succ, aG, aH]
       rfl
      refine fE (i := 9) (N := some 28) #[true, true, true, true, true, true, true, true, true, true, false, false, false, false] rfl rfl (dP HT_.out (by kernel_rfl)) (by decide) (fun K hK => ?_)
      refine fF Try.func12 (by kernel_rfl) rfl #[.slice Ao18 x3_1.length co18, .agg #[.string (fO ByteArray.empty t235 x5_1), .int .i64 (wrap64 (1 + t242))]] (by rfl) rfl rfl (by (try simp only [List.map_toArray, List.map_cons, List.map_nil]); first | done | rfl | (simp only [List.length_drop, List.length_take]; rfl)) ?_
      with_reducible refine (bD.calls k1 _ _ x3_1 (fO ByteArray.empty t235 x5_1) (wrap64 (1 + t242)) t245 t248 _ ?side1 ?side2 A13.out).mono ?_
      (case side1 => repeat (first | exact (Kd.bJ HO_3.out).2.2 | (with_reducible refine Kd.bU ?_ _) | (with_reducible refine Kd.bV ?_ _) | (with_reducible refine Kd.cB ?_)))
      (case side2 => exact (Kd.bJ HO_3.out).2.1)
      rintro e w19 ⟨v246, rfl, ho0, hb⟩
      have HS0_ := (hb.cell (World.block_lt_of_cell? _ _ (hHeld))).trans (hHeld)
      refine ⟨_, rfl, ?_⟩
      have n0_ := aj.mk (Kd.eT (by (with_reducible repeat (first | apply Kd.aN | apply Kd.aM | apply Kd.aW)); exact HO_3.out) (Kd.fZ ho0) hb)
      have n1_ := aj.mk (Kd.bY (by (with_reducible repeat (first | apply Kd.aN | apply Kd.aM | apply Kd.aW)); exact HO_4.out) hb)
      have n2_ := aj.mk (Kd.cK (Kd.gq ho0 (Kd.gM (by (with_reducible repeat (first | apply Kd.aN | apply Kd.aM | apply Kd.aW)); exact HO_3.out))) (fI (w := w) (g := g) (row := none) (by repeat (first | (with_reducible first | exact HK.out | apply bn.dX | apply bF | apply bH | apply bE) | exact HK.out))))
      have n3_ := aj.mk (av.below (by repeat (first | (with_reducible first | exact HI0.out | apply av.alloc | apply av.drewN | apply av.drew | apply av.bX | apply av.bW) | exact HI0.out)) hb)
      have n4_ := aj.mk (bn.trans (by repeat (first | (with_reducible first | exact HK.out | apply bn.dX | apply bF | apply bH | apply bE) | exact HK.out)) (bn.of_below hb g none) (.inl rfl))
      have n5_ := aj.mk (aY (by repeat (first | (with_reducible first | exact HB.out | apply au | apply ah | apply ak | refine ay ?_ (av.ge HI0.out)) | exact HB.out)) hb)
      clear HO_3
      clear HO_4
      clear HI0
      clear HK
      clear HB
      have HO_3 := n0_
      have HO_4 := n1_
      have HO247 := n2_
      have HI0 := n3_
      have HK := n4_
      have HB := n5_
      clear n0_ n1_ n2_ n3_ n4_ n5_
      (try clear hb)
      (try clear hb2)
      (try clear hk)
      (try clear hi)
      (try clear ho0)
      refine hK.out _ _ (HS0_) (fun hHeld => ?_)
      clear hK K
      refine dw (a' := ?_) ?_ ?_
      rotate_left
      ·show Act.put _ (some 28) _ = _
       simp only [Act.put, List.setIfInBounds_toArray, List.set_cons_zero, List.set_cons_succ, aG, aH]
       rfl
      refine aX (i := 10) (N := some 18) (v := ?_) (a' := ?_) #[true, true, true, true, true, true, true, true, true, true, true, false, false, false] rfl rfl (aK HT_.out (by kernel_rfl)) (fun _ _ _ h => h) (Or.inl ⟨by rfl, ?_⟩) ?_ ?_
      rotate_left
      ·intro w'
       go_simp
       with_reducible rfl
      rotate_left
      ·simp only [Act.put, List.setIfInBounds_toArray, List.set_cons_zero, List.set_cons_succ, aG, aH]
       rfl
      refine aX (i := 11) (N := some 29) (v := ?_) (a' := ?_) #[true, true, true, true, true, true, true, true, true, true, true, true, false, false] rfl rfl (aK HT_.out (by kernel_rfl)) (fun _ _ _ h => h) (Or.inl ⟨by rfl, ?_⟩) ?_ ?_
      rotate_left
      ·intro w'
       go_simp
       with_reducible rfl
      rotate_left
      ·simp only [Act.put, List.setIfInBounds_toArray, List.set_cons_zero, List.set_cons_succ, aG, aH]
       rfl
      refine aX (i := 12) (N := some 30) (v := ?_) (a' := ?_) #[true, true, true, true, true, true, true, true, true, true, true, true, true, false] rfl rfl (aK HT_.out (by kernel_rfl)) (fun _ _ _ h => h) (Or.inl ⟨by rfl, ?_⟩) ?_ ?_
      rotate_left
      ·intro w'
       go_simp
       with_reducible rfl
      rotate_left
      ·simp only [Act.put, List.setIfInBounds_toArray, List.set_cons_zero, List.set_cons_succ, aG, aH]
       rfl
      refine aX (i := 13) (N := some 3) (v := ?_) (a' := ?_) #[true, true, true, true, true, true, true, true, true, true, true, true, true, true] rfl rfl (aK HT_.out (by kernel_rfl)) (fun _ _ _ h => h) (Or.inl ⟨by rfl, ?_⟩) ?_ ?_
      rotate_left
      ·intro w'
       go_simp
       with_reducible rfl
      rotate_left
      ·simp only [Act.put, List.setIfInBounds_toArray, List.set_cons_zero, List.set_cons_succ, aG, aH]
       rfl
      refine gU (fD HT_.out (by kernel_rfl)) ?_
      try go_wp2
      go_roundg k1
      case measure => have := HK1.out; omega
      case rel => exact ⟨(t245), (wrap64 (x5_1 + 1)), (t243), (t244), (by first | rfl | (simp; done) | (simp [*]; done)), H', ⟨by have := HK1.out; omega⟩, ⟨by (with_reducible repeat (first | apply Kd.aN | apply Kd.aM | apply Kd.aW)); exact Kd.bO HO247.out (fun _ hk => trivial)⟩, ⟨by (with_reducible repeat (first | apply Kd.aN | apply Kd.aM | apply Kd.aW)); exact HO_4.out⟩, ⟨by repeat (first | (with_reducible first | exact HI0.out | apply av.alloc | apply av.drewN | apply av.drew | apply av.bX | apply av.bW) | exact HI0.out)⟩, ⟨by repeat (first | (with_reducible first | exact HK.out | apply bn.dX | apply bF | apply bH | apply bE) | exact HK.out)⟩, ⟨by repeat (first | (with_reducible first | exact HB.out | apply au | apply ah | apply ak | refine ay ?_ (av.ge HI0.out)) | exact HB.out)⟩⟩
     ·rw [if_neg c11] at H
      exact absurd H (by simp)
   ·rw [if_neg c6] at H
    have c6b0 : decide (x5_1 < (t235.length : Int)) = false := decide_eq_false c6
    clear c6
    replace H := Option.bind_eq_some_iff.mp H
    obtain ⟨⟨t249, t250, t251⟩, A200, H⟩ := H
    replace H : (bK.l1 k1 x3_1 t249 s0_0 t250 t251) = some (r1, r2, r3) := H
    have A20 := aj.mk A200
    clear A200
    have H' := aj.mk H
    clear H
    obtain ⟨Ao21, co21, eo21⟩ := Kd.dO HO_4.out
    subst eo21
    go_wp2_with (first | ((with_reducible refine bq (f := 118) rfl ?_); refine bT (some 32) rfl rfl Try.func118 (by kernel_rfl) rfl #[.pointer (some ⟨g, 0, none⟩), .int .i64 6] rfl (by (try simp only [List.map_toArray, List.map_cons, List.map_nil]); first | done | rfl | (simp only [List.length_drop, List.length_take]; rfl)) ?_; (with_reducible refine (bM.calls g s0_0 x1001_1 x1002_1 6 t249 t250 t251 w0 _ ?side1 ?side2 A20.out).mono ?_); (case side1 => repeat (first | (with_reducible first | exact HI0.out | apply av.alloc | apply av.drewN | apply av.drew | apply av.bX | apply av.bW) | exact HI0.out)); (case side2 => repeat (first | (with_reducible first | exact HB.out | apply au | apply ah | apply ak | refine ay ?_ (av.ge HI0.out)) | exact HB.out)); rintro e w22 ⟨rfl, hi, hb, hk⟩; refine ⟨_, rfl, ?_⟩; have n0_ := aj.mk (Kd.bO (Kd.eP (av.apart (show av w0 _ g s0_0 x1001_1 x1002_1 from by repeat (first | (with_reducible first | exact HI0.out | apply av.alloc | apply av.drewN | apply av.drew | apply av.bX | apply av.bW) | exact HI0.out)) (by (with_reducible repeat (first | apply Kd.aN | apply Kd.aM | apply Kd.aW)); exact HO_3.out) (by decide)) hk (fun _ h => h.2)) (fun _ h => h.1)); have n1_ := aj.mk (Kd.bO (Kd.eP (av.apart (show av w0 _ g s0_0 x1001_1 x1002_1 from by repeat (first | (with_reducible first | exact HI0.out | apply av.alloc | apply av.drewN | apply av.drew | apply av.bX | apply av.bW) | exact HI0.out)) (by (with_reducible repeat (first | apply Kd.aN | apply Kd.aM | apply Kd.aW)); exact HO_4.out) (by decide)) hk (fun _ h => h.2)) (fun _ h => h.1)); have n2_ := aj.mk (bn.trans (by repeat (first | (with_reducible first | exact HK.out | apply bn.dX | apply bF | apply bH | apply bE) | exact HK.out)) hk (.inl rfl)); have n3_ := aj.mk (hb); have n4_ := aj.mk (hi); clear HO_3; clear HO_4; clear HK; clear HB; clear HI0; have HO_3 := n0_; have HO_4 := n1_; have HK := n2_; have HB := n3_; have HI0 := n4_; clear n0_ n1_ n2_ n3_ n4_; (try clear hb); (try clear hb2); (try clear hk); (try clear hi)))
    go_loopg [3, 6] k1 (fun kq v3 v6 w' => ∃ (x3_2 : List (S31)) (x6_2 : Int) (x1001_2 : Int) (x1002_2 : Int), v6 = .int .i64 x6_2 ∧ aj (bK.l1 kq x3_2 x6_2 s0_0 x1001_2 x1002_2 = some (r1, r2, r3)) ∧ aj (kq ≤ k1) ∧ aj (Kd.R k31 31 w' w.heap.size (fun _ => True) v3 x3_2) ∧ aj (av w0 w' g s0_0 x1001_2 x1002_2) ∧ aj (bn w w' g none) ∧ aj (Below w0.heap.size w0 w'))
    case atStart => exact ⟨(x3_1), (t249), (t250), (t251), (by first | rfl | (simp; done) | (simp [*]; done)), H', ⟨Nat.le_refl _⟩, ⟨by (with_reducible repeat (first | apply Kd.aN | apply Kd.aM | apply Kd.aW)); exact HO_3.out⟩, ⟨by repeat (first | (with_reducible first | exact HI0.out | apply av.alloc | apply av.drewN | apply av.drew | apply av.bX | apply av.bW) | exact HI0.out)⟩, ⟨by repeat (first | (with_reducible first | exact HK.out | apply bn.dX | apply bF | apply bH | apply bE) | exact HK.out)⟩, ⟨by repeat (first | (with_reducible first | exact HB.out | apply au | apply ah | apply ak | refine ay ?_ (av.ge HI0.out)) | exact HB.out)⟩⟩
    case round =>
     clear H'
     try clear c6
     try clear c6b0
     obtain ⟨x3_2, x6_2, x1001_2, x1002_2, rfl, HA, HK2, HO_3, HI0, HK, HB⟩ := hrel
     cases gk with
     | zero => exact absurd HA.out (by simp [bK.l1])
     | succ k2 =>
      have H := HA.out
      clear HA
      simp only [bK.l1] at H
      by_cases c23 : x6_2 > 0
      ·rw [if_pos c23] at H
       have c23b0 : decide (0 < x6_2) = true := decide_eq_true c23
       clear c23
       replace H := Option.bind_eq_some_iff.mp H
       obtain ⟨⟨t252, t253, t254⟩, A240, H⟩ := H
       replace H : ((bM.f s0_0 t253 t254 4).bind fun bt255 => ((bD.f k2 x3_2 t252 (wrap64 (1 + bt255.1))).bind fun bt258 => (bK.l1 k2 bt258.1 (wrap64 (x6_2 - 1)) s0_0 bt255.2.1 bt255.2.2))) = some (r1, r2, r3) := H
       have A24 := aj.mk A240
       clear A240
       replace H := Option.bind_eq_some_iff.mp H
       obtain ⟨⟨t255, t256, t257⟩, A250, H⟩ := H
       replace H : ((bD.f k2 x3_2 t252 (wrap64 (1 + t255))).bind fun bt258 => (bK.l1 k2 bt258.1 (wrap64 (x6_2 - 1)) s0_0 t256 t257)) = some (r1, r2, r3) := H
       have A25 := aj.mk A250
       clear A250
       replace H := Option.bind_eq_some_iff.mp H
       obtain ⟨⟨t258, t261⟩, A260, H⟩ := H
       replace H : (bK.l1 k2 t258 (wrap64 (x6_2 - 1)) s0_0 t256 t257) = some (r1, r2, r3) := H
       have A26 := aj.mk A260
       clear A260
       have H' := aj.mk H
       clear H
       go_wp2_with (first | ((with_reducible refine bq (f := 120) rfl ?_); refine bT (some 40) rfl rfl Try.func120 (by kernel_rfl) rfl #[.pointer (some ⟨g, 0, none⟩)] rfl (by (try simp only [List.map_toArray, List.map_cons, List.map_nil]); first | done | rfl | (simp only [List.length_drop, List.length_take]; rfl)) ?_; (with_reducible refine (gy.calls g s0_0 x1001_2 x1002_2 t252 t253 t254 w0 _ ?side1 ?side2 A24.out).mono ?_); (case side1 => repeat (first | (with_reducible first | exact HI0.out | apply av.alloc | apply av.drewN | apply av.drew | apply av.bX | apply av.bW) | exact HI0.out)); (case side2 => repeat (first | (with_reducible first | exact HB.out | apply au | apply ah | apply ak | refine ay ?_ (av.ge HI0.out)) | exact HB.out)); rintro e w27 ⟨rfl, hi, hb, hk⟩; refine ⟨_, rfl, ?_⟩; have n0_ := aj.mk (Kd.bO (Kd.eP (av.apart (show av w0 _ g s0_0 x1001_2 x1002_2 from by repeat (first | (with_reducible first | exact HI0.out | apply av.alloc | apply av.drewN | apply av.drew | apply av.bX | apply av.bW) | exact HI0.out)) (by (with_reducible repeat (first | apply Kd.aN | apply Kd.aM | apply Kd.aW)); exact HO_3.out) (by decide)) hk (fun _ h => h.2)) (fun _ h => h.1)); have n1_ := aj.mk (bn.trans (by repeat (first | (with_reducible first | exact HK.out | apply bn.dX | apply bF | apply bH | apply bE) | exact HK.out)) hk (.inl rfl)); have n2_ := aj.mk (hb); have n3_ := aj.mk (hi); clear HO_3; clear HK; clear HB; clear HI0; have HO_3 := n0_; have HK := n1_; have HB := n2_; have HI0 := n3_; clear n0_ n1_ n2_ n3_; (try clear hb); (try clear hb2); (try clear hk); (try clear hi)) | ((with_reducible refine bq (f := 118) rfl ?_); refine bT (some 42) rfl rfl Try.func118 (by kernel_rfl) rfl #[.pointer (some ⟨g, 0, none⟩), .int .i64 4] rfl (by (try simp only [List.map_toArray, List.map_cons, List.map_nil]); first | done | rfl | (simp only [List.length_drop, List.length_take]; rfl)) ?_; (with_reducible refine (bM.calls g s0_0 t253 t254 4 t255 t256 t257 w0 _ ?side1 ?side2 A25.out).mono ?_); (case side1 => repeat (first | (with_reducible first | exact HI0.out | apply av.alloc | apply av.drewN | apply av.drew | apply av.bX | apply av.bW) | exact HI0.out)); (case side2 => repeat (first | (with_reducible first | exact HB.out | apply au | apply ah | apply ak | refine ay ?_ (av.ge HI0.out)) | exact HB.out)); rintro e w28 ⟨rfl, hi, hb, hk⟩; refine ⟨_, rfl, ?_⟩; have n0_ := aj.mk (Kd.bO (Kd.eP (av.apart (show av w0 _ g s0_0 t253 t254 from by repeat (first | (with_reducible first | exact HI0.out | apply av.alloc | apply av.drewN | apply av.drew | apply av.bX | apply av.bW) | exact HI0.out)) (by (with_reducible repeat (first | apply Kd.aN | apply Kd.aM | apply Kd.aW)); exact HO_3.out) (by decide)) hk (fun _ h => h.2)) (fun _ h => h.1)); have n1_ := aj.mk (bn.trans (by repeat (first | (with_reducible first | exact HK.out | apply bn.dX | apply bF | apply bH | apply bE) | exact HK.out)) hk (.inl rfl)); have n2_ := aj.mk (hb); have n3_ := aj.mk (hi); clear HO_3; clear HK; clear HB; clear HI0; have HO_3 := n0_; have HK := n1_; have HB := n2_; have HI0 := n3_; clear n0_ n1_ n2_ n3_; (try clear hb); (try clear hb2); (try clear hk); (try clear hi); obtain ⟨Ao29, co29, eo29⟩ := Kd.dO HO_3.out; subst eo29) | ((with_reducible refine bq (f := 12) rfl ?_); refine bT (some 45) rfl rfl Try.func12 (by kernel_rfl) rfl #[.slice Ao29 x3_2.length co29, .agg #[.string t252, .int .i64 (wrap64 (1 + t255))]] rfl (by (try simp only [List.map_toArray, List.map_cons, List.map_nil]); first | done | rfl | (simp only [List.length_drop, List.length_take]; rfl)) ?_; (with_reducible refine (bD.calls k2 _ _ x3_2 t252 (wrap64 (1 + t255)) t258 t261 _ ?side1 ?side2 A26.out).mono ?_); (case side1 => repeat (first | exact (Kd.bJ HO_3.out).2.2 | (with_reducible refine Kd.bU ?_ _) | (with_reducible refine Kd.bV ?_ _) | (with_reducible refine Kd.cB ?_))); (case side2 => exact (Kd.bJ HO_3.out).2.1); rintro e w30 ⟨v259, rfl, ho0, hb⟩; refine ⟨_, rfl, ?_⟩; have n0_ := aj.mk (Kd.eT (by (with_reducible repeat (first | apply Kd.aN | apply Kd.aM | apply Kd.aW)); exact HO_3.out) (Kd.fZ ho0) hb); have n1_ := aj.mk (Kd.cK (Kd.gq ho0 (Kd.gM (by (with_reducible repeat (first | apply Kd.aN | apply Kd.aM | apply Kd.aW)); exact HO_3.out))) (fI (w := w) (g := g) (row := none) (by repeat (first | (with_reducible first | exact HK.out | apply bn.dX | apply bF | apply bH | apply bE) | exact HK.out)))); have n2_ := aj.mk (av.below (by repeat (first | (with_reducible first | exact HI0.out | apply av.alloc | apply av.drewN | apply av.drew | apply av.bX | apply av.bW) | exact HI0.out)) hb); have n3_ := aj.mk (bn.trans (by repeat (first | (with_reducible first | exact HK.out | apply bn.dX | apply bF | apply bH | apply bE) | exact HK.out)) (bn.of_below hb g none) (.inl rfl)); have n4_ := aj.mk (aY (by repeat (first | (with_reducible first | exact HB.out | apply au | apply ah | apply ak | refine ay ?_ (av.ge HI0.out)) | exact HB.out)) hb); clear HO_3; clear HI0; clear HK; clear HB; have HO_3 := n0_; have HO260 := n1_; have HI0 := n2_; have HK := n3_; have HB := n4_; clear n0_ n1_ n2_ n3_ n4_; (try clear hb); (try clear hb2); (try clear hk); (try clear hi); (try clear ho0)))
       go_roundg k2
       case measure => have := HK1.out; have := HK2.out; omega
       case rel => exact ⟨(t258), (wrap64 (x6_2 - 1)), (t256), (t257), (by first | rfl | (simp; done) | (simp [*]; done)), H', ⟨by have := HK1.out; have := HK2.out; omega⟩, ⟨by (with_reducible repeat (first | apply Kd.aN | apply Kd.aM | apply Kd.aW)); exact Kd.bO HO260.out (fun _ hk => trivial)⟩, ⟨by repeat (first | (with_reducible first | exact HI0.out | apply av.alloc | apply av.drewN | apply av.drew | apply av.bX | apply av.bW) | exact HI0.out)⟩, ⟨by repeat (first | (with_reducible first | exact HK.out | apply bn.dX | apply bF | apply bH | apply bE) | exact HK.out)⟩, ⟨by repeat (first | (with_reducible first | exact HB.out | apply au | apply ah | apply ak | refine ay ?_ (av.ge HI0.out)) | exact HB.out)⟩⟩
      ·rw [if_neg c23] at H
       have c23b0 : decide (0 < x6_2) = false := decide_eq_false c23
       clear c23
       simp only [Option.some.injEq, Prod.mk.injEq] at H
       obtain ⟨rfl, rfl, rfl⟩ := H
       go_wp2
       go_ret
       exact ⟨_, by first | rfl | (simp [bA, bB] <;> rfl) | (simp [*, bA, bB] <;> rfl), by (with_reducible repeat (first | apply Kd.aN | apply Kd.aM | apply Kd.aW)); exact HO_3.out, by repeat (first | (with_reducible first | exact HI0.out | apply av.alloc | apply av.drewN | apply av.drew | apply av.bX | apply av.bW) | exact HI0.out), by repeat (first | (with_reducible first | exact HB.out | apply au | apply ah | apply ak | refine ay ?_ (av.ge HI0.out)) | exact HB.out), by repeat (first | (with_reducible first | exact HK.out | apply bn.dX | apply bF | apply bH | apply bE) | exact HK.out)⟩
def eZ.f (s0_0 : List Int) (s0_1 : Int) (s0_2 : Int) (l1 : List Int) : Option (Int × Int × Int) := (bM.f s0_0 s0_1 s0_2 (l1.length : Int)).bind fun bt262 => (if 0 ≤ bt262.1 then (if bt262.1 < (l1.length : Int) then (some (rd l1 bt262.1, bt262.2.1, bt262.2.2)) else (none)) else (none))
set_option maxHeartbeats 8000000 in
set_option maxRecDepth 100000 in
theorem eZ.calls (g : Nat) (s0_0 : List Int) (s0_1 : Int) (s0_2 : Int) (A1 : Option Addr) (c1 : Nat) (l1 : List Int) (r1 : Int) (r2 : Int) (r3 : Int) (w0 w : World) (hI : av w0 w g s0_0 s0_1 s0_2) (hB : Below w0.heap.size w0 w) (hr1 : Kd.C (Kd.int .i64) w A1 l1.length l1) (hc1 : l1.length ≤ c1) (hf1 : ∀ ad, A1 = some ad → 0 < l1.length → ad.block ≠ g) (h : eZ.f s0_0 s0_1 s0_2 l1 = some (r1, r2, r3)) :
  Calls Try.prog 63 #[.pointer (some ⟨g, 0, none⟩), .slice A1 l1.length c1] w fun e w' => e = .returned (.int .i64 r1) ∧ av w0 w' g s0_0 r2 r3 ∧ Below w0.heap.size w0 w' ∧ bn w w' g none := by
 have HR1 := aj.mk hr1
 have HC1 := aj.mk hc1
 clear hr1 hc1
 have HI0 := aj.mk hI
 have HK := aj.mk (bn.refl w g none)
 have HL := aj.mk hB.size
 clear hI
 have HW0 := aj.mk hB.size
 have HB := aj.mk hB
 clear hB
 have H : ((bM.f s0_0 s0_1 s0_2 (l1.length : Int)).bind fun bt262 => (if 0 ≤ bt262.1 then (if bt262.1 < (l1.length : Int) then (some (rd l1 bt262.1, bt262.2.1, bt262.2.2)) else (none)) else (none))) = some (r1, r2, r3) := h
 clear h
 replace H := Option.bind_eq_some_iff.mp H
 obtain ⟨⟨t262, t263, t264⟩, A30, H⟩ := H
 replace H : (if 0 ≤ t262 then (if t262 < (l1.length : Int) then (some (rd l1 t262, t263, t264)) else (none)) else (none)) = some (r1, r2, r3) := H
 have A3 := aj.mk A30
 clear A30
 by_cases c4 : 0 ≤ t262
 ·rw [if_pos c4] at H
  have c4b0 : decide (0 ≤ t262) = true := decide_eq_true c4
  clear c4
  by_cases c5 : t262 < (l1.length : Int)
  ·rw [if_pos c5] at H
   have c5b0 : decide (t262 < (l1.length : Int)) = true := decide_eq_true c5
   clear c5
   simp only [Option.some.injEq, Prod.mk.injEq] at H
   obtain ⟨rfl, rfl, rfl⟩ := H
   go_enter Try.func63, Try.ntmps63
   go_wp2_with (first | ((with_reducible refine bq (f := 118) rfl ?_); refine bT (some 9) rfl rfl Try.func118 (by kernel_rfl) rfl #[.pointer (some ⟨g, 0, none⟩), .int .i64 (l1.length : Int)] rfl (by (try simp only [List.map_toArray, List.map_cons, List.map_nil]); first | done | rfl | (simp only [List.length_drop, List.length_take]; rfl)) ?_; (with_reducible refine (bM.calls g s0_0 s0_1 s0_2 (l1.length : Int) t262 t263 t264 w0 _ ?side1 ?side2 A3.out).mono ?_); (case side1 => repeat (first | (with_reducible first | exact HI0.out | apply av.alloc | apply av.drewN | apply av.drew | apply av.bX | apply av.bW) | exact HI0.out)); (case side2 => repeat (first | (with_reducible first | exact HB.out | apply au | apply ah | apply ak | refine ay ?_ (av.ge HI0.out)) | exact HB.out)); rintro e w6 ⟨rfl, hi, hb, hk⟩; refine ⟨_, rfl, ?_⟩; have n0_ := aj.mk (bn.trans (by repeat (first | (with_reducible first | exact HK.out | apply bn.dX | apply bF | apply bH | apply bE) | exact HK.out)) hk (.inl rfl)); have n1_ := aj.mk (hb); have n2_ := aj.mk (hi); clear HK; clear HB; clear HI0; have HK := n0_; have HB := n1_; have HI0 := n2_; clear n0_ n1_ n2_; (try clear hb); (try clear hb2); (try clear hk); (try clear hi); have p265 : 0 ≤ (t262 : Int) := of_decide_eq_true (by first | (with_reducible assumption) | assumption); have q265 : t262 < (l1.length : Int) := of_decide_eq_true (by first | (with_reducible assumption) | assumption); obtain ⟨ad265, e265, hx265_0⟩ := Kd.jX HR1.out t262 p265 q265; cases e265; replace hx265_0 := kQ HK.out hx265_0 (by first | (rw [add_block]; exact hf1 _ rfl (by omega)) | exact hf1 _ rfl (by omega) | exact hf1 ad265 rfl (by omega)); replace p265 := eq_true p265; replace q265 := eq_true q265))
   go_ret
   exact ⟨by first | rfl | (simp [bA, bB] <;> rfl) | (simp [*, bA, bB] <;> rfl), by repeat (first | (with_reducible first | exact HI0.out | apply av.alloc | apply av.drewN | apply av.drew | apply av.bX | apply av.bW) | exact HI0.out), by repeat (first | (with_reducible first | exact HB.out | apply au | apply ah | apply ak | refine ay ?_ (av.ge HI0.out)) | exact HB.out), by repeat (first | (with_reducible first | exact HK.out | apply bn.dX | apply bF | apply bH | apply bE) | exact HK.out)⟩
  ·rw [if_neg c5] at H
   exact absurd H (by simp)
 ·rw [if_neg c4] at H
  exact absurd H (by simp)
def gH.f (s0_0 : List Int) (s0_1 : Int) (s0_2 : Int) : Option (Int × Int × Int) := (eZ.f s0_0 s0_1 s0_2 (([(-1), 0, 99, 100, 1000, 1001, 9223372036854775807, (-9223372036854775808)] : List Int))).bind fun bt269 => (some (bt269.1, bt269.2.1, bt269.2.2))
set_option maxHeartbeats 8000000 in
set_option maxRecDepth 100000 in
theorem gH.calls (g : Nat) (s0_0 : List Int) (s0_1 : Int) (s0_2 : Int) (r1 : Int) (r2 : Int) (r3 : Int) (w0 w : World) (hI : av w0 w g s0_0 s0_1 s0_2) (hB : Below w0.heap.size w0 w) (h : gH.f s0_0 s0_1 s0_2 = some (r1, r2, r3)) :
  Calls Try.prog 119 #[.pointer (some ⟨g, 0, none⟩)] w fun e w' => e = .returned (.int .i64 r1) ∧ av w0 w' g s0_0 r2 r3 ∧ Below w0.heap.size w0 w' ∧ bn w w' g none := by
 have HI0 := aj.mk hI
 have HK := aj.mk (bn.refl w g none)
 have HL := aj.mk hB.size
 clear hI
 have HW0 := aj.mk hB.size
 have HB := aj.mk hB
 clear hB
 have H : ((eZ.f s0_0 s0_1 s0_2 (([(-1), 0, 99, 100, 1000, 1001, 9223372036854775807, (-9223372036854775808)] : List Int))).bind fun bt269 => (some (bt269.1, bt269.2.1, bt269.2.2))) = some (r1, r2, r3) := h
 clear h
 obtain ⟨y266, hy266⟩ : ∃ y_ : List Int, y_ = (([(-1), 0, 99, 100, 1000, 1001, 9223372036854775807, (-9223372036854775808)] : List Int)) := ⟨_, rfl⟩
 replace H : ((eZ.f s0_0 s0_1 s0_2 y266).bind fun bt269 => (some (bt269.1, bt269.2.1, bt269.2.2))) = some (r1, r2, r3) := by first | (rw [hy266]; with_reducible exact H) | (have H2_ := (Option.bind_some _ _).symm.trans H; rw [hy266]; with_reducible exact H2_) | (have H2_ := (Option.bind_some _ _).symm.trans H; with_reducible exact H2_) | with_reducible exact H | (rw [hy266]; exact H) | exact H
 have Ny266 := aj.mk hy266
 clear hy266
 replace H := Option.bind_eq_some_iff.mp H
 obtain ⟨⟨t269, t270, t271⟩, A20, H⟩ := H
 replace H : (some (t269, t270, t271)) = some (r1, r2, r3) := H
 have A2 := aj.mk A20
 clear A20
 simp only [Option.some.injEq, Prod.mk.injEq] at H
 obtain ⟨rfl, rfl, rfl⟩ := H
 go_enter Try.func119, Try.ntmps119
 go_wp2_with (first | ((with_reducible refine dz (N := 4) rfl ?_); refine Kd.kY (Kd.int .i64) _ 3 ?hg (N := 4) ?hd (xs := ([(-1), 0, 99, 100, 1000, 1001, 9223372036854775807, (-9223372036854775808)] : List Int)) (inner := [.int .i64 (-1), .int .i64 0, .int .i64 99, .int .i64 100, .int .i64 1000, .int .i64 1001, .int .i64 9223372036854775807, .int .i64 (-9223372036854775808)]) (ok := fun _ => True) (okp := fun _ => True) ?hr ?hp (fun _ hk => hk) trivial (Below.refl _ _) (Nat.le_refl _) (by simp) ?_; (case hd => rfl); (case hg => rfl); (case hr => first | (go_simp; done) | (go_simp; rfl)); (case hp => exact (bZ.one (show Kd.M (Kd.int .i64) _ _ _ (-1) [.int .i64 (-1)] from rfl) (bZ.one (show Kd.M (Kd.int .i64) _ _ _ 0 [.int .i64 0] from rfl) (bZ.one (show Kd.M (Kd.int .i64) _ _ _ 99 [.int .i64 99] from rfl) (bZ.one (show Kd.M (Kd.int .i64) _ _ _ 100 [.int .i64 100] from rfl) (bZ.one (show Kd.M (Kd.int .i64) _ _ _ 1000 [.int .i64 1000] from rfl) (bZ.one (show Kd.M (Kd.int .i64) _ _ _ 1001 [.int .i64 1001] from rfl) (bZ.one (show Kd.M (Kd.int .i64) _ _ _ 9223372036854775807 [.int .i64 9223372036854775807] from rfl) (bZ.one (show Kd.M (Kd.int .i64) _ _ _ (-9223372036854775808) [.int .i64 (-9223372036854775808)] from rfl) (bZ.none _ _)))))))))); intro v267 w3 ho4 hb hg_ hnew_; clear hg_ hnew_; (first | rw [← Ny266.out] at ho4 | (simp only [Int.reduceToNat] at ho4; rw [← Ny266.out] at ho4)); have n0_ := aj.mk (Kd.cK ho4 (fI (w := w) (g := g) (row := none) (by repeat (first | (with_reducible first | exact HK.out | apply bn.dX | apply bF | apply bH | apply bE) | exact HK.out)))); have n1_ := aj.mk (av.below (by repeat (first | (with_reducible first | exact HI0.out | apply av.alloc | apply av.drewN | apply av.drew | apply av.bX | apply av.bW) | exact HI0.out)) hb); have n2_ := aj.mk (bn.trans (by repeat (first | (with_reducible first | exact HK.out | apply bn.dX | apply bF | apply bH | apply bE) | exact HK.out)) (bn.of_below hb g none) (.inl rfl)); have n3_ := aj.mk (aY (by repeat (first | (with_reducible first | exact HB.out | apply au | apply ah | apply ak | refine ay ?_ (av.ge HI0.out)) | exact HB.out)) hb); clear HI0; clear HK; clear HB; have HO268 := n0_; have HI0 := n1_; have HK := n2_; have HB := n3_; clear n0_ n1_ n2_ n3_; clear hb ho4; obtain ⟨Ao5, co5, eo5⟩ := Kd.dO HO268.out; subst eo5) | ((with_reducible refine bq (f := 63) rfl ?_); refine bT (some 5) rfl rfl Try.func63 (by kernel_rfl) rfl #[.pointer (some ⟨g, 0, none⟩), .slice Ao5 y266.length co5] rfl (by (try simp only [List.map_toArray, List.map_cons, List.map_nil]); first | done | rfl | (simp only [List.length_drop, List.length_take]; rfl)) ?_; (with_reducible refine (eZ.calls g s0_0 s0_1 s0_2 _ _ y266 t269 t270 t271 w0 _ ?side1 ?side2 ?side3 ?side4 ?side5 A2.out).mono ?_); (case side1 => repeat (first | (with_reducible first | exact HI0.out | apply av.alloc | apply av.drewN | apply av.drew | apply av.bX | apply av.bW) | exact HI0.out)); (case side2 => repeat (first | (with_reducible first | exact HB.out | apply au | apply ah | apply ak | refine ay ?_ (av.ge HI0.out)) | exact HB.out)); (case side3 => repeat (first | exact (Kd.bJ HO268.out).2.2 | (with_reducible refine Kd.bU ?_ _) | (with_reducible refine Kd.bV ?_ _) | (with_reducible refine Kd.cB ?_))); (case side4 => exact (Kd.bJ HO268.out).2.1); (case side5 => exact jK (av.own_ne HI0.out HO268.out (by decide))); rintro e w6 ⟨rfl, hi, hb, hk⟩; refine ⟨_, rfl, ?_⟩; have n0_ := aj.mk (Kd.bO (Kd.eP (av.apart (show av w0 _ g s0_0 s0_1 s0_2 from by repeat (first | (with_reducible first | exact HI0.out | apply av.alloc | apply av.drewN | apply av.drew | apply av.bX | apply av.bW) | exact HI0.out)) (by (with_reducible repeat (first | apply Kd.aN | apply Kd.aM | apply Kd.aW)); exact HO268.out) (by decide)) hk (fun _ h => h.2)) (fun _ h => h.1)); have n1_ := aj.mk (bn.trans (by repeat (first | (with_reducible first | exact HK.out | apply bn.dX | apply bF | apply bH | apply bE) | exact HK.out)) hk (.inl rfl)); have n2_ := aj.mk (hb); have n3_ := aj.mk (hi); clear HO268; clear HK; clear HB; clear HI0; have HO268 := n0_; have HK := n1_; have HB := n2_; have HI0 := n3_; clear n0_ n1_ n2_ n3_; (try clear hb); (try clear hb2); (try clear hk); (try clear hi)))
 go_ret
 exact ⟨by first | rfl | (simp [bA, bB] <;> rfl) | (simp [*, bA, bB] <;> rfl), by repeat (first | (with_reducible first | exact HI0.out | apply av.alloc | apply av.drewN | apply av.drew | apply av.bX | apply av.bW) | exact HI0.out), by repeat (first | (with_reducible first | exact HB.out | apply au | apply ah | apply ak | refine ay ?_ (av.ge HI0.out)) | exact HB.out), by repeat (first | (with_reducible first | exact HK.out | apply bn.dX | apply bF | apply bH | apply bE) | exact HK.out)⟩
def eH.f (k : Nat) (s0_0 : List Int) (s0_1 : Int) (s0_2 : Int) : Option ((List (S31)) × Int × Int) := (bK.f k s0_0 s0_1 s0_2).bind fun bt272 => (if (bt272.1.length : Int) = 0 then (some (bt272.1, bt272.2.1, bt272.2.2)) else ((bM.f s0_0 bt272.2.1 bt272.2.2 (bt272.1.length : Int)).bind fun bt277 => ((bM.f s0_0 bt277.2.1 bt277.2.2 9).bind fun bt280 => (if bt280.1 = 0 then ((dn.f s0_0 bt280.2.1 bt280.2.2).bind fun bt283 => (if 0 ≤ bt277.1 then (if bt277.1 < (bt272.1.length : Int) then (some ((bt272.1.set (bt277.1 : Int).toNat (⟨bt283.1, (aJ bt272.1 bt277.1).f1⟩ : S31)), bt283.2.1, bt283.2.2)) else (none)) else (none))) else (if bt280.1 = 1 then ((gH.f s0_0 bt280.2.1 bt280.2.2).bind fun bt287 => (if 0 ≤ bt277.1 then (if bt277.1 < (bt272.1.length : Int) then (some ((bt272.1.set (bt277.1 : Int).toNat (⟨(aJ bt272.1 bt277.1).f0, bt287.1⟩ : S31)), bt287.2.1, bt287.2.2)) else (none)) else (none))) else (if bt280.1 = 2 then (if 0 < (bt272.1.length : Int) then (if bt272.1.length < 5864062014805 then (some ((bt272.1 ++ [(⟨(aJ bt272.1 0).f0, (aJ bt272.1 0).f1⟩ : S31)]), bt280.2.1, bt280.2.2)) else (none)) else (none)) else (some (bt272.1, bt280.2.1, bt280.2.2))))))))
set_option maxHeartbeats 8000000 in
set_option maxRecDepth 100000 in
theorem eH.calls (k : Nat) (g : Nat) (s0_0 : List Int) (s0_1 : Int) (s0_2 : Int) (r1 : List (S31)) (r2 : Int) (r3 : Int) (w0 w : World) (hI : av w0 w g s0_0 s0_1 s0_2) (hB : Below w0.heap.size w0 w) (h : eH.f k s0_0 s0_1 s0_2 = some (r1, r2, r3)) :
  Calls Try.prog 61 #[.pointer (some ⟨g, 0, none⟩)] w fun e w' => ∃ v0_ : Value, e = .returned (v0_) ∧ Kd.R k31 31 w' w.heap.size (fun _ => True) v0_ r1 ∧ av w0 w' g s0_0 r2 r3 ∧ Below w0.heap.size w0 w' ∧ bn w w' g none := by
 have hu31 := Try.underlying31
 have HI0 := aj.mk hI
 have HK := aj.mk (bn.refl w g none)
 have HL := aj.mk hB.size
 clear hI
 have HW0 := aj.mk hB.size
 have HB := aj.mk hB
 clear hB
 have H : ((bK.f k s0_0 s0_1 s0_2).bind fun bt272 => (if (bt272.1.length : Int) = 0 then (some (bt272.1, bt272.2.1, bt272.2.2)) else ((bM.f s0_0 bt272.2.1 bt272.2.2 (bt272.1.length : Int)).bind fun bt277 => ((bM.f s0_0 bt277.2.1 bt277.2.2 9).bind fun bt280 => (if bt280.1 = 0 then ((dn.f s0_0 bt280.2.1 bt280.2.2).bind fun bt283 => (if 0 ≤ bt277.1 then (if bt277.1 < (bt272.1.length : Int) then (some ((bt272.1.set (bt277.1 : Int).toNat (⟨bt283.1, (aJ bt272.1 bt277.1).f1⟩ : S31)), bt283.2.1, bt283.2.2)) else (none)) else (none))) else (if bt280.1 = 1 then ((gH.f s0_0 bt280.2.1 bt280.2.2).bind fun bt287 => (if 0 ≤ bt277.1 then (if bt277.1 < (bt272.1.length : Int) then (some ((bt272.1.set (bt277.1 : Int).toNat (⟨(aJ bt272.1 bt277.1).f0, bt287.1⟩ : S31)), bt287.2.1, bt287.2.2)) else (none)) else (none))) else (if bt280.1 = 2 then (if 0 < (bt272.1.length : Int) then (if bt272.1.length < 5864062014805 then (some ((bt272.1 ++ [(⟨(aJ bt272.1 0).f0, (aJ bt272.1 0).f1⟩ : S31)]), bt280.2.1, bt280.2.2)) else (none)) else (none)) else (some (bt272.1, bt280.2.1, bt280.2.2))))))))) = some (r1, r2, r3) := h
 clear h
 replace H := Option.bind_eq_some_iff.mp H
 obtain ⟨⟨t272, t275, t276⟩, A20, H⟩ := H
 replace H : (if (t272.length : Int) = 0 then (some (t272, t275, t276)) else ((bM.f s0_0 t275 t276 (t272.length : Int)).bind fun bt277 => ((bM.f s0_0 bt277.2.1 bt277.2.2 9).bind fun bt280 => (if bt280.1 = 0 then ((dn.f s0_0 bt280.2.1 bt280.2.2).bind fun bt283 => (if 0 ≤ bt277.1 then (if bt277.1 < (t272.length : Int) then (some ((t272.set (bt277.1 : Int).toNat (⟨bt283.1, (aJ t272 bt277.1).f1⟩ : S31)), bt283.2.1, bt283.2.2)) else (none)) else (none))) else (if bt280.1 = 1 then ((gH.f s0_0 bt280.2.1 bt280.2.2).bind fun bt287 => (if 0 ≤ bt277.1 then (if bt277.1 < (t272.length : Int) then (some ((t272.set (bt277.1 : Int).toNat (⟨(aJ t272 bt277.1).f0, bt287.1⟩ : S31)), bt287.2.1, bt287.2.2)) else (none)) else (none))) else (if bt280.1 = 2 then (if 0 < (t272.length : Int) then (if t272.length < 5864062014805 then (some ((t272 ++ [(⟨(aJ t272 0).f0, (aJ t272 0).f1⟩ : S31)]), bt280.2.1, bt280.2.2)) else (none)) else (none)) else (some (t272, bt280.2.1, bt280.2.2)))))))) = some (r1, r2, r3) := H
 have A2 := aj.mk A20
 clear A20
 by_cases c3 : (t272.length : Int) = 0
 ·rw [if_pos c3] at H
  have c3b0 : ((t272.length : Int) == 0) = true := beq_iff_eq.mpr c3
  have c3b1 : ((t272.length : Int) != 0) = false := bne_eq_false_iff_eq.mpr c3
  clear c3
  simp only [Option.some.injEq, Prod.mk.injEq] at H
  obtain ⟨rfl, rfl, rfl⟩ := H
  go_enter Try.func61, Try.ntmps61
  go_wp2_with (first | ((with_reducible refine bq (f := 117) rfl ?_); refine bT (some 6) rfl rfl Try.func117 (by kernel_rfl) rfl #[.pointer (some ⟨g, 0, none⟩)] rfl (by (try simp only [List.map_toArray, List.map_cons, List.map_nil]); first | done | rfl | (simp only [List.length_drop, List.length_take]; rfl)) ?_; (with_reducible refine (bK.calls k g s0_0 s0_1 s0_2 t272 t275 t276 w0 _ ?side1 ?side2 A2.out).mono ?_); (case side1 => repeat (first | (with_reducible first | exact HI0.out | apply av.alloc | apply av.drewN | apply av.drew | apply av.bX | apply av.bW) | exact HI0.out)); (case side2 => repeat (first | (with_reducible first | exact HB.out | apply au | apply ah | apply ak | refine ay ?_ (av.ge HI0.out)) | exact HB.out)); rintro e w4 ⟨v273, rfl, ho0, hi, hb, hk⟩; refine ⟨_, rfl, ?_⟩; have n0_ := aj.mk (Kd.cK ho0 (fI (w := w) (g := g) (row := none) (by repeat (first | (with_reducible first | exact HK.out | apply bn.dX | apply bF | apply bH | apply bE) | exact HK.out)))); have n1_ := aj.mk (bn.trans (by repeat (first | (with_reducible first | exact HK.out | apply bn.dX | apply bF | apply bH | apply bE) | exact HK.out)) hk (.inl rfl)); have n2_ := aj.mk (hb); have n3_ := aj.mk (hi); clear HK; clear HB; clear HI0; have HO274 := n0_; have HK := n1_; have HB := n2_; have HI0 := n3_; clear n0_ n1_ n2_ n3_; (try clear hb); (try clear hb2); (try clear hk); (try clear hi); (try clear ho0); obtain ⟨Ao5, co5, eo5⟩ := Kd.dO HO274.out; subst eo5))
  go_ret
  exact ⟨_, by first | rfl | (simp [bA, bB] <;> rfl) | (simp [*, bA, bB] <;> rfl), by (with_reducible repeat (first | apply Kd.aN | apply Kd.aM | apply Kd.aW)); exact HO274.out, by repeat (first | (with_reducible first | exact HI0.out | apply av.alloc | apply av.drewN | apply av.drew | apply av.bX | apply av.bW) | exact HI0.out), by repeat (first | (with_reducible first | exact HB.out | apply au | apply ah | apply ak | refine ay ?_ (av.ge HI0.out)) | exact HB.out), by repeat (first | (with_reducible first | exact HK.out | apply bn.dX | apply bF | apply bH | apply bE) | exact HK.out)⟩
 ·rw [if_neg c3] at H
  have c3b0 : ((t272.length : Int) == 0) = false := beq_eq_false_iff_ne.mpr c3
  have c3b1 : ((t272.length : Int) != 0) = true := bne_iff_ne.mpr c3
  have c3b2 : ¬ (t272 = []) := fun h_ => c3 (by rw [h_]; rfl)
  replace H := Option.bind_eq_some_iff.mp H
  obtain ⟨⟨t277, t278, t279⟩, A60, H⟩ := H
  replace H : ((bM.f s0_0 t278 t279 9).bind fun bt280 => (if bt280.1 = 0 then ((dn.f s0_0 bt280.2.1 bt280.2.2).bind fun bt283 => (if 0 ≤ t277 then (if t277 < (t272.length : Int) then (some ((t272.set (t277 : Int).toNat (⟨bt283.1, (aJ t272 t277).f1⟩ : S31)), bt283.2.1, bt283.2.2)) else (none)) else (none))) else (if bt280.1 = 1 then ((gH.f s0_0 bt280.2.1 bt280.2.2).bind fun bt287 => (if 0 ≤ t277 then (if t277 < (t272.length : Int) then (some ((t272.set (t277 : Int).toNat (⟨(aJ t272 t277).f0, bt287.1⟩ : S31)), bt287.2.1, bt287.2.2)) else (none)) else (none))) else (if bt280.1 = 2 then (if 0 < (t272.length : Int) then (if t272.length < 5864062014805 then (some ((t272 ++ [(⟨(aJ t272 0).f0, (aJ t272 0).f1⟩ : S31)]), bt280.2.1, bt280.2.2)) else (none)) else (none)) else (some (t272, bt280.2.1, bt280.2.2)))))) = some (r1, r2, r3) := H
  have A6 := aj.mk A60
  clear A60
  replace H := Option.bind_eq_some_iff.mp H
  obtain ⟨⟨t280, t281, t282⟩, A70, H⟩ := H
  replace H : (if t280 = 0 then ((dn.f s0_0 t281 t282).bind fun bt283 => (if 0 ≤ t277 then (if t277 < (t272.length : Int) then (some ((t272.set (t277 : Int).toNat (⟨bt283.1, (aJ t272 t277).f1⟩ : S31)), bt283.2.1, bt283.2.2)) else (none)) else (none))) else (if t280 = 1 then ((gH.f s0_0 t281 t282).bind fun bt287 => (if 0 ≤ t277 then (if t277 < (t272.length : Int) then (some ((t272.set (t277 : Int).toNat (⟨(aJ t272 t277).f0, bt287.1⟩ : S31)), bt287.2.1, bt287.2.2)) else (none)) else (none))) else (if t280 = 2 then (if 0 < (t272.length : Int) then (if t272.length < 5864062014805 then (some ((t272 ++ [(⟨(aJ t272 0).f0, (aJ t272 0).f1⟩ : S31)]), t281, t282)) else (none)) else (none)) else (some (t272, t281, t282))))) = some (r1, r2, r3) := H
  have A7 := aj.mk A70
  clear A70
  by_cases c8 : t280 = 0
  ·rw [if_pos c8] at H
   have c8b0 : (t280 == 0) = true := beq_iff_eq.mpr c8
   have c8b1 : (t280 != 0) = false := bne_eq_false_iff_eq.mpr c8
   clear c8
   replace H := Option.bind_eq_some_iff.mp H
   obtain ⟨⟨t283, t284, t285⟩, A90, H⟩ := H
   replace H : (if 0 ≤ t277 then (if t277 < (t272.length : Int) then (some ((t272.set (t277 : Int).toNat (⟨t283, (aJ t272 t277).f1⟩ : S31)), t284, t285)) else (none)) else (none)) = some (r1, r2, r3) := H
   have A9 := aj.mk A90
   clear A90
   by_cases c10 : 0 ≤ t277
   ·rw [if_pos c10] at H
    have c10b0 : decide (0 ≤ t277) = true := decide_eq_true c10
    clear c10
    by_cases c11 : t277 < (t272.length : Int)
    ·rw [if_pos c11] at H
     have c11b0 : decide (t277 < (t272.length : Int)) = true := decide_eq_true c11
     clear c11
     obtain ⟨y286, hy286⟩ : ∃ y_ : List (S31), y_ = (t272.set (t277 : Int).toNat (⟨t283, (aJ t272 t277).f1⟩ : S31)) := ⟨_, rfl⟩
     replace H : (some (y286, t284, t285)) = some (r1, r2, r3) := by first | (rw [hy286]; with_reducible exact H) | (have H2_ := (Option.bind_some _ _).symm.trans H; rw [hy286]; with_reducible exact H2_) | (have H2_ := (Option.bind_some _ _).symm.trans H; with_reducible exact H2_) | with_reducible exact H | (rw [hy286]; exact H) | exact H
     have Ny286 := aj.mk hy286
     clear hy286
     simp only [Option.some.injEq, Prod.mk.injEq] at H
     obtain ⟨rfl, rfl, rfl⟩ := H
     go_enter Try.func61, Try.ntmps61
     go_wp2_with (first | ((with_reducible refine bq (f := 117) rfl ?_); refine bT (some 6) rfl rfl Try.func117 (by kernel_rfl) rfl #[.pointer (some ⟨g, 0, none⟩)] rfl (by (try simp only [List.map_toArray, List.map_cons, List.map_nil]); first | done | rfl | (simp only [List.length_drop, List.length_take]; rfl)) ?_; (with_reducible refine (bK.calls k g s0_0 s0_1 s0_2 t272 t275 t276 w0 _ ?side1 ?side2 A2.out).mono ?_); (case side1 => repeat (first | (with_reducible first | exact HI0.out | apply av.alloc | apply av.drewN | apply av.drew | apply av.bX | apply av.bW) | exact HI0.out)); (case side2 => repeat (first | (with_reducible first | exact HB.out | apply au | apply ah | apply ak | refine ay ?_ (av.ge HI0.out)) | exact HB.out)); rintro e w13 ⟨v273, rfl, ho0, hi, hb, hk⟩; refine ⟨_, rfl, ?_⟩; have n0_ := aj.mk (Kd.cK ho0 (fI (w := w) (g := g) (row := none) (by repeat (first | (with_reducible first | exact HK.out | apply bn.dX | apply bF | apply bH | apply bE) | exact HK.out)))); have n1_ := aj.mk (bn.trans (by repeat (first | (with_reducible first | exact HK.out | apply bn.dX | apply bF | apply bH | apply bE) | exact HK.out)) hk (.inl rfl)); have n2_ := aj.mk (hb); have n3_ := aj.mk (hi); clear HK; clear HB; clear HI0; have HO274 := n0_; have HK := n1_; have HB := n2_; have HI0 := n3_; clear n0_ n1_ n2_ n3_; (try clear hb); (try clear hb2); (try clear hk); (try clear hi); (try clear ho0); obtain ⟨Ao14, co14, eo14⟩ := Kd.dO HO274.out; subst eo14) | ((with_reducible refine bq (f := 118) rfl ?_); refine bT (some 14) rfl rfl Try.func118 (by kernel_rfl) rfl #[.pointer (some ⟨g, 0, none⟩), .int .i64 (t272.length : Int)] rfl (by (try simp only [List.map_toArray, List.map_cons, List.map_nil]); first | done | rfl | (simp only [List.length_drop, List.length_take]; rfl)) ?_; (with_reducible refine (bM.calls g s0_0 t275 t276 (t272.length : Int) t277 t278 t279 w0 _ ?side1 ?side2 A6.out).mono ?_); (case side1 => repeat (first | (with_reducible first | exact HI0.out | apply av.alloc | apply av.drewN | apply av.drew | apply av.bX | apply av.bW) | exact HI0.out)); (case side2 => repeat (first | (with_reducible first | exact HB.out | apply au | apply ah | apply ak | refine ay ?_ (av.ge HI0.out)) | exact HB.out)); rintro e w15 ⟨rfl, hi, hb, hk⟩; refine ⟨_, rfl, ?_⟩; have n0_ := aj.mk (Kd.bO (Kd.eP (av.apart (show av w0 _ g s0_0 t275 t276 from by repeat (first | (with_reducible first | exact HI0.out | apply av.alloc | apply av.drewN | apply av.drew | apply av.bX | apply av.bW) | exact HI0.out)) (by (with_reducible repeat (first | apply Kd.aN | apply Kd.aM | apply Kd.aW)); exact HO274.out) (by decide)) hk (fun _ h => h.2)) (fun _ h => h.1)); have n1_ := aj.mk (bn.trans (by repeat (first | (with_reducible first | exact HK.out | apply bn.dX | apply bF | apply bH | apply bE) | exact HK.out)) hk (.inl rfl)); have n2_ := aj.mk (hb); have n3_ := aj.mk (hi); clear HO274; clear HK; clear HB; clear HI0; have HO274 := n0_; have HK := n1_; have HB := n2_; have HI0 := n3_; clear n0_ n1_ n2_ n3_; (try clear hb); (try clear hb2); (try clear hk); (try clear hi)) | ((with_reducible refine bq (f := 118) rfl ?_); refine bT (some 16) rfl rfl Try.func118 (by kernel_rfl) rfl #[.pointer (some ⟨g, 0, none⟩), .int .i64 9] rfl (by (try simp only [List.map_toArray, List.map_cons, List.map_nil]); first | done | rfl | (simp only [List.length_drop, List.length_take]; rfl)) ?_; (with_reducible refine (bM.calls g s0_0 t278 t279 9 t280 t281 t282 w0 _ ?side1 ?side2 A7.out).mono ?_); (case side1 => repeat (first | (with_reducible first | exact HI0.out | apply av.alloc | apply av.drewN | apply av.drew | apply av.bX | apply av.bW) | exact HI0.out)); (case side2 => repeat (first | (with_reducible first | exact HB.out | apply au | apply ah | apply ak | refine ay ?_ (av.ge HI0.out)) | exact HB.out)); rintro e w16 ⟨rfl, hi, hb, hk⟩; refine ⟨_, rfl, ?_⟩; have n0_ := aj.mk (Kd.bO (Kd.eP (av.apart (show av w0 _ g s0_0 t278 t279 from by repeat (first | (with_reducible first | exact HI0.out | apply av.alloc | apply av.drewN | apply av.drew | apply av.bX | apply av.bW) | exact HI0.out)) (by (with_reducible repeat (first | apply Kd.aN | apply Kd.aM | apply Kd.aW)); exact HO274.out) (by decide)) hk (fun _ h => h.2)) (fun _ h => h.1)); have n1_ := aj.mk (bn.trans (by repeat (first | (with_reducible first | exact HK.out | apply bn.dX | apply bF | apply bH | apply bE) | exact HK.out)) hk (.inl rfl)); have n2_ := aj.mk (hb); have n3_ := aj.mk (hi); clear HO274; clear HK; clear HB; clear HI0; have HO274 := n0_; have HK := n1_; have HB := n2_; have HI0 := n3_; clear n0_ n1_ n2_ n3_; (try clear hb); (try clear hb2); (try clear hk); (try clear hi)) | ((with_reducible refine bq (f := 62) rfl ?_); refine bT (some 22) rfl rfl Try.func62 (by kernel_rfl) rfl #[.pointer (some ⟨g, 0, none⟩)] rfl (by (try simp only [List.map_toArray, List.map_cons, List.map_nil]); first | done | rfl | (simp only [List.length_drop, List.length_take]; rfl)) ?_; (with_reducible refine (dn.calls g s0_0 t281 t282 t283 t284 t285 w0 _ ?side1 ?side2 A9.out).mono ?_); (case side1 => repeat (first | (with_reducible first | exact HI0.out | apply av.alloc | apply av.drewN | apply av.drew | apply av.bX | apply av.bW) | exact HI0.out)); (case side2 => repeat (first | (with_reducible first | exact HB.out | apply au | apply ah | apply ak | refine ay ?_ (av.ge HI0.out)) | exact HB.out)); rintro e w17 ⟨rfl, hi, hb, hk⟩; refine ⟨_, rfl, ?_⟩; have n0_ := aj.mk (Kd.bO (Kd.eP (av.apart (show av w0 _ g s0_0 t281 t282 from by repeat (first | (with_reducible first | exact HI0.out | apply av.alloc | apply av.drewN | apply av.drew | apply av.bX | apply av.bW) | exact HI0.out)) (by (with_reducible repeat (first | apply Kd.aN | apply Kd.aM | apply Kd.aW)); exact HO274.out) (by decide)) hk (fun _ h => h.2)) (fun _ h => h.1)); have n1_ := aj.mk (bn.trans (by repeat (first | (with_reducible first | exact HK.out | apply bn.dX | apply bF | apply bH | apply bE) | exact HK.out)) hk (.inl rfl)); have n2_ := aj.mk (hb); have n3_ := aj.mk (hi); clear HO274; clear HK; clear HB; clear HI0; have HO274 := n0_; have HK := n1_; have HB := n2_; have HI0 := n3_; clear n0_ n1_ n2_ n3_; (try clear hb); (try clear hb2); (try clear hk); (try clear hi); have p12 : 0 ≤ (t277 : Int) := of_decide_eq_true (by first | (with_reducible assumption) | assumption); have q12 : (t277 : Int) < ((t272.length : Int) : Int) := of_decide_eq_true (by first | (with_reducible assumption) | assumption); obtain ⟨go12, co12, eo12, gb12, gl12, cl12, HG12⟩ := Kd.qy HO274.out (by omega); (first | cases eo12 | (injection eo12 with ea_ en_ ec_; (first | subst ea_ | (injection ea_ with ea_; subst ea_)); subst ec_; clear en_)); have GB12 := aj.mk gb12; have GG12 := aj.mk HG12; clear gb12 gl12 HG12; obtain ⟨ce12, hcl12, hM12, hcc12, hfr12⟩ := Kd.nE HO274.out z31 (t277 : Int) p12 q12; obtain rfl := jv hM12; have hx12_0 : w17.cell? ⟨go12, (t277 : Int).toNat * 2, none⟩ = some (.string ((aJ t272 t277).f0)) := hcc12 0 _ rfl; have hx12_1 : w17.cell? ⟨go12, (t277 : Int).toNat * 2 + 1, none⟩ = some (.int .i64 ((aJ t272 t277).f1)) := hcc12 1 _ rfl; have hf12_0 : w17.frozen? ⟨go12, (t277 : Int).toNat * 2, none⟩ = false := hfr12 0; have hf12_1 : w17.frozen? ⟨go12, (t277 : Int).toNat * 2 + 1, none⟩ = false := hfr12 1; clear hcl12 hcc12 hfr12 hM12; replace p12 := eq_true p12; replace q12 := eq_true q12; have HX18 := aj.mk (show Kd.R k31 31 w17 w.heap.size (fun _ => True) (.slice (some ⟨go12, 0, none⟩) t272.length co14) t272 from (by (with_reducible repeat (first | apply Kd.aN | apply Kd.aM | apply Kd.aW)); exact HO274.out)); obtain ⟨ce18, hcl18, hM18, hcc18, hfr18⟩ := Kd.nE HX18.out z31 (t277 : Int) (of_decide_eq_true (by first | (with_reducible assumption) | assumption)) (by have h_ : (t277 : Int) < ((t272.length : Int) : Int) := of_decide_eq_true (by first | (with_reducible assumption) | assumption); first | exact h_ | (have e_ := (Kd.bJ HO274.out).1; omega) | simpa using h_); obtain rfl := jv hM18; have HP18 := Kd.rD HX18.out (t277 : Int) (of_decide_eq_true (by first | (with_reducible assumption) | assumption)) (by have h_ : (t277 : Int) < ((t272.length : Int) : Int) := of_decide_eq_true (by first | (with_reducible assumption) | assumption); first | exact h_ | (have e_ := (Kd.bJ HO274.out).1; omega) | simpa using h_) (seg := [.string t283]) (j := 0) hcl18 hcc18 (show 1 ≤ 2 from by decide) (x' := (⟨t283, (aJ t272 t277).f1⟩ : S31)) (gD _ _ _ (⟨t283, (aJ t272 t277).f1⟩ : S31) ) (fun _ hk => hk); have hx18_0 := hcc18 0 _ rfl; (try simp only [show (k31).sz = 2 from rfl, Nat.mul_one, Nat.add_zero] at hx18_0); have hf18_0 := hfr18 0; (try simp only [show (k31).sz = 2 from rfl, Nat.mul_one, Nat.add_zero] at hf18_0); clear hcl18 hcc18 hfr18 hM18) | ((with_reducible refine mG (t := 9) (p := 24) rfl ?_); refine lC (t := 9) (p := 24) (v := ?vo_w19) (w1 := (w17.setCell ⟨go12, (t277 : Int).toNat * 2, none⟩ (.string t283))) ?hg ?ho ?hn ?hr ?_; (case ho => rfl); (case hg => rfl); (case hn => rfl); (case hr => first | (go_simp; done) | (go_simp; rfl)); intro w19 hw; have hg : w17.grownBy w19 (some go12) := (by rw [hw]; exact HP18.2); have hp_ : Kd.R k31 31 w19 w.heap.size (fun _ => True) (.slice (some ⟨go12, 0, none⟩) t272.length co14) y286 := (by rw [hw, Ny286.out]; exact HP18.1); clear HP18; have n0_ := aj.mk (av.grown (by repeat (first | (with_reducible first | exact HI0.out | apply av.alloc | apply av.drewN | apply av.drew | apply av.bX | apply av.bW) | exact HI0.out)) hg (av.own_ne HI0.out HO274.out (by decide))); have n1_ := aj.mk (hp_); have n2_ := aj.mk ((by rw [hw]; exact ay (HB.out) (Nat.le_trans HL.out GB12.out) : Below w0.heap.size w0 w19)); have n3_ := aj.mk (bn.trans (by repeat (first | (with_reducible first | exact HK.out | apply bn.dX | apply bF | apply bH | apply bE) | exact HK.out)) (bn.ji hg g) (Kd.lN HO274.out)); clear HI0; clear HO274; clear HB; clear HK; have HI0 := n0_; have HO274 := n1_; have HB := n2_; have HK := n3_; clear n0_ n1_ n2_ n3_; clear hg hw hp_))
     go_ret
     exact ⟨_, by first | rfl | (simp [bA, bB] <;> rfl) | (simp [*, bA, bB] <;> rfl), by (with_reducible repeat (first | apply Kd.aN | apply Kd.aM | apply Kd.aW)); exact HO274.out, by repeat (first | (with_reducible first | exact HI0.out | apply av.alloc | apply av.drewN | apply av.drew | apply av.bX | apply av.bW) | exact HI0.out), by repeat (first | (with_reducible first | exact HB.out | apply au | apply ah | apply ak | refine ay ?_ (av.ge HI0.out)) | exact HB.out), by repeat (first | (with_reducible first | exact HK.out | apply bn.dX | apply bF | apply bH | apply bE) | exact HK.out)⟩
    ·rw [if_neg c11] at H
     exact absurd H (by simp)
   ·rw [if_neg c10] at H
    exact absurd H (by simp)
  ·rw [if_neg c8] at H
   have c8b0 : (t280 == 0) = false := beq_eq_false_iff_ne.mpr c8
   have c8b1 : (t280 != 0) = true := bne_iff_ne.mpr c8
   by_cases c20 : t280 = 1
   ·rw [if_pos c20] at H
    have c20b0 : (t280 == 1) = true := beq_iff_eq.mpr c20
    have c20b1 : (t280 != 1) = false := bne_eq_false_iff_eq.mpr c20
    clear c20
    replace H := Option.bind_eq_some_iff.mp H
    obtain ⟨⟨t287, t288, t289⟩, A210, H⟩ := H
    replace H : (if 0 ≤ t277 then (if t277 < (t272.length : Int) then (some ((t272.set (t277 : Int).toNat (⟨(aJ t272 t277).f0, t287⟩ : S31)), t288, t289)) else (none)) else (none)) = some (r1, r2, r3) := H
    have A21 := aj.mk A210
    clear A210
    by_cases c22 : 0 ≤ t277
    ·rw [if_pos c22] at H
     have c22b0 : decide (0 ≤ t277) = true := decide_eq_true c22
     clear c22
     by_cases c23 : t277 < (t272.length : Int)
     ·rw [if_pos c23] at H
      have c23b0 : decide (t277 < (t272.length : Int)) = true := decide_eq_true c23
      clear c23
      obtain ⟨y290, hy290⟩ : ∃ y_ : List (S31), y_ = (t272.set (t277 : Int).toNat (⟨(aJ t272 t277).f0, t287⟩ : S31)) := ⟨_, rfl⟩
      replace H : (some (y290, t288, t289)) = some (r1, r2, r3) := by first | (rw [hy290]; with_reducible exact H) | (have H2_ := (Option.bind_some _ _).symm.trans H; rw [hy290]; with_reducible exact H2_) | (have H2_ := (Option.bind_some _ _).symm.trans H; with_reducible exact H2_) | with_reducible exact H | (rw [hy290]; exact H) | exact H
      have Ny290 := aj.mk hy290
      clear hy290
      simp only [Option.some.injEq, Prod.mk.injEq] at H
      obtain ⟨rfl, rfl, rfl⟩ := H
      go_enter Try.func61, Try.ntmps61
      go_wp2_with (first | ((with_reducible refine bq (f := 117) rfl ?_); refine bT (some 6) rfl rfl Try.func117 (by kernel_rfl) rfl #[.pointer (some ⟨g, 0, none⟩)] rfl (by (try simp only [List.map_toArray, List.map_cons, List.map_nil]); first | done | rfl | (simp only [List.length_drop, List.length_take]; rfl)) ?_; (with_reducible refine (bK.calls k g s0_0 s0_1 s0_2 t272 t275 t276 w0 _ ?side1 ?side2 A2.out).mono ?_); (case side1 => repeat (first | (with_reducible first | exact HI0.out | apply av.alloc | apply av.drewN | apply av.drew | apply av.bX | apply av.bW) | exact HI0.out)); (case side2 => repeat (first | (with_reducible first | exact HB.out | apply au | apply ah | apply ak | refine ay ?_ (av.ge HI0.out)) | exact HB.out)); rintro e w25 ⟨v273, rfl, ho0, hi, hb, hk⟩; refine ⟨_, rfl, ?_⟩; have n0_ := aj.mk (Kd.cK ho0 (fI (w := w) (g := g) (row := none) (by repeat (first | (with_reducible first | exact HK.out | apply bn.dX | apply bF | apply bH | apply bE) | exact HK.out)))); have n1_ := aj.mk (bn.trans (by repeat (first | (with_reducible first | exact HK.out | apply bn.dX | apply bF | apply bH | apply bE) | exact HK.out)) hk (.inl rfl)); have n2_ := aj.mk (hb); have n3_ := aj.mk (hi); clear HK; clear HB; clear HI0; have HO274 := n0_; have HK := n1_; have HB := n2_; have HI0 := n3_; clear n0_ n1_ n2_ n3_; (try clear hb); (try clear hb2); (try clear hk); (try clear hi); (try clear ho0); obtain ⟨Ao26, co26, eo26⟩ := Kd.dO HO274.out; subst eo26) | ((with_reducible refine bq (f := 118) rfl ?_); refine bT (some 14) rfl rfl Try.func118 (by kernel_rfl) rfl #[.pointer (some ⟨g, 0, none⟩), .int .i64 (t272.length : Int)] rfl (by (try simp only [List.map_toArray, List.map_cons, List.map_nil]); first | done | rfl | (simp only [List.length_drop, List.length_take]; rfl)) ?_; (with_reducible refine (bM.calls g s0_0 t275 t276 (t272.length : Int) t277 t278 t279 w0 _ ?side1 ?side2 A6.out).mono ?_); (case side1 => repeat (first | (with_reducible first | exact HI0.out | apply av.alloc | apply av.drewN | apply av.drew | apply av.bX | apply av.bW) | exact HI0.out)); (case side2 => repeat (first | (with_reducible first | exact HB.out | apply au | apply ah | apply ak | refine ay ?_ (av.ge HI0.out)) | exact HB.out)); rintro e w27 ⟨rfl, hi, hb, hk⟩; refine ⟨_, rfl, ?_⟩; have n0_ := aj.mk (Kd.bO (Kd.eP (av.apart (show av w0 _ g s0_0 t275 t276 from by repeat (first | (with_reducible first | exact HI0.out | apply av.alloc | apply av.drewN | apply av.drew | apply av.bX | apply av.bW) | exact HI0.out)) (by (with_reducible repeat (first | apply Kd.aN | apply Kd.aM | apply Kd.aW)); exact HO274.out) (by decide)) hk (fun _ h => h.2)) (fun _ h => h.1)); have n1_ := aj.mk (bn.trans (by repeat (first | (with_reducible first | exact HK.out | apply bn.dX | apply bF | apply bH | apply bE) | exact HK.out)) hk (.inl rfl)); have n2_ := aj.mk (hb); have n3_ := aj.mk (hi); clear HO274; clear HK; clear HB; clear HI0; have HO274 := n0_; have HK := n1_; have HB := n2_; have HI0 := n3_; clear n0_ n1_ n2_ n3_; (try clear hb); (try clear hb2); (try clear hk); (try clear hi)) | ((with_reducible refine bq (f := 118) rfl ?_); refine bT (some 16) rfl rfl Try.func118 (by kernel_rfl) rfl #[.pointer (some ⟨g, 0, none⟩), .int .i64 9] rfl (by (try simp only [List.map_toArray, List.map_cons, List.map_nil]); first | done | rfl | (simp only [List.length_drop, List.length_take]; rfl)) ?_; (with_reducible refine (bM.calls g s0_0 t278 t279 9 t280 t281 t282 w0 _ ?side1 ?side2 A7.out).mono ?_); (case side1 => repeat (first | (with_reducible first | exact HI0.out | apply av.alloc | apply av.drewN | apply av.drew | apply av.bX | apply av.bW) | exact HI0.out)); (case side2 => repeat (first | (with_reducible first | exact HB.out | apply au | apply ah | apply ak | refine ay ?_ (av.ge HI0.out)) | exact HB.out)); rintro e w28 ⟨rfl, hi, hb, hk⟩; refine ⟨_, rfl, ?_⟩; have n0_ := aj.mk (Kd.bO (Kd.eP (av.apart (show av w0 _ g s0_0 t278 t279 from by repeat (first | (with_reducible first | exact HI0.out | apply av.alloc | apply av.drewN | apply av.drew | apply av.bX | apply av.bW) | exact HI0.out)) (by (with_reducible repeat (first | apply Kd.aN | apply Kd.aM | apply Kd.aW)); exact HO274.out) (by decide)) hk (fun _ h => h.2)) (fun _ h => h.1)); have n1_ := aj.mk (bn.trans (by repeat (first | (with_reducible first | exact HK.out | apply bn.dX | apply bF | apply bH | apply bE) | exact HK.out)) hk (.inl rfl)); have n2_ := aj.mk (hb); have n3_ := aj.mk (hi); clear HO274; clear HK; clear HB; clear HI0; have HO274 := n0_; have HK := n1_; have HB := n2_; have HI0 := n3_; clear n0_ n1_ n2_ n3_; (try clear hb); (try clear hb2); (try clear hk); (try clear hi)) | ((with_reducible refine bq (f := 119) rfl ?_); refine bT (some 30) rfl rfl Try.func119 (by kernel_rfl) rfl #[.pointer (some ⟨g, 0, none⟩)] rfl (by (try simp only [List.map_toArray, List.map_cons, List.map_nil]); first | done | rfl | (simp only [List.length_drop, List.length_take]; rfl)) ?_; (with_reducible refine (gH.calls g s0_0 t281 t282 t287 t288 t289 w0 _ ?side1 ?side2 A21.out).mono ?_); (case side1 => repeat (first | (with_reducible first | exact HI0.out | apply av.alloc | apply av.drewN | apply av.drew | apply av.bX | apply av.bW) | exact HI0.out)); (case side2 => repeat (first | (with_reducible first | exact HB.out | apply au | apply ah | apply ak | refine ay ?_ (av.ge HI0.out)) | exact HB.out)); rintro e w29 ⟨rfl, hi, hb, hk⟩; refine ⟨_, rfl, ?_⟩; have n0_ := aj.mk (Kd.bO (Kd.eP (av.apart (show av w0 _ g s0_0 t281 t282 from by repeat (first | (with_reducible first | exact HI0.out | apply av.alloc | apply av.drewN | apply av.drew | apply av.bX | apply av.bW) | exact HI0.out)) (by (with_reducible repeat (first | apply Kd.aN | apply Kd.aM | apply Kd.aW)); exact HO274.out) (by decide)) hk (fun _ h => h.2)) (fun _ h => h.1)); have n1_ := aj.mk (bn.trans (by repeat (first | (with_reducible first | exact HK.out | apply bn.dX | apply bF | apply bH | apply bE) | exact HK.out)) hk (.inl rfl)); have n2_ := aj.mk (hb); have n3_ := aj.mk (hi); clear HO274; clear HK; clear HB; clear HI0; have HO274 := n0_; have HK := n1_; have HB := n2_; have HI0 := n3_; clear n0_ n1_ n2_ n3_; (try clear hb); (try clear hb2); (try clear hk); (try clear hi); have p24 : 0 ≤ (t277 : Int) := of_decide_eq_true (by first | (with_reducible assumption) | assumption); have q24 : (t277 : Int) < ((t272.length : Int) : Int) := of_decide_eq_true (by first | (with_reducible assumption) | assumption); obtain ⟨go24, co24, eo24, gb24, gl24, cl24, HG24⟩ := Kd.qy HO274.out (by omega); (first | cases eo24 | (injection eo24 with ea_ en_ ec_; (first | subst ea_ | (injection ea_ with ea_; subst ea_)); subst ec_; clear en_)); have GB24 := aj.mk gb24; have GG24 := aj.mk HG24; clear gb24 gl24 HG24; obtain ⟨ce24, hcl24, hM24, hcc24, hfr24⟩ := Kd.nE HO274.out z31 (t277 : Int) p24 q24; obtain rfl := jv hM24; have hx24_0 : w29.cell? ⟨go24, (t277 : Int).toNat * 2, none⟩ = some (.string ((aJ t272 t277).f0)) := hcc24 0 _ rfl; have hx24_1 : w29.cell? ⟨go24, (t277 : Int).toNat * 2 + 1, none⟩ = some (.int .i64 ((aJ t272 t277).f1)) := hcc24 1 _ rfl; have hf24_0 : w29.frozen? ⟨go24, (t277 : Int).toNat * 2, none⟩ = false := hfr24 0; have hf24_1 : w29.frozen? ⟨go24, (t277 : Int).toNat * 2 + 1, none⟩ = false := hfr24 1; clear hcl24 hcc24 hfr24 hM24; replace p24 := eq_true p24; replace q24 := eq_true q24; have HX30 := aj.mk (show Kd.R k31 31 w29 w.heap.size (fun _ => True) (.slice (some ⟨go24, 0, none⟩) t272.length co26) t272 from (by (with_reducible repeat (first | apply Kd.aN | apply Kd.aM | apply Kd.aW)); exact HO274.out)); obtain ⟨ce30, hcl30, hM30, hcc30, hfr30⟩ := Kd.nE HX30.out z31 (t277 : Int) (of_decide_eq_true (by first | (with_reducible assumption) | assumption)) (by have h_ : (t277 : Int) < ((t272.length : Int) : Int) := of_decide_eq_true (by first | (with_reducible assumption) | assumption); first | exact h_ | (have e_ := (Kd.bJ HO274.out).1; omega) | simpa using h_); obtain rfl := jv hM30; have HP30 := Kd.rD HX30.out (t277 : Int) (of_decide_eq_true (by first | (with_reducible assumption) | assumption)) (by have h_ : (t277 : Int) < ((t272.length : Int) : Int) := of_decide_eq_true (by first | (with_reducible assumption) | assumption); first | exact h_ | (have e_ := (Kd.bJ HO274.out).1; omega) | simpa using h_) (seg := [.int .i64 t287]) (j := 1) hcl30 hcc30 (show 2 ≤ 2 from by decide) (x' := (⟨(aJ t272 t277).f0, t287⟩ : S31)) (gD _ _ _ (⟨(aJ t272 t277).f0, t287⟩ : S31) ) (fun _ hk => hk); have hx30_1 := hcc30 1 _ rfl; (try simp only [show (k31).sz = 2 from rfl, Nat.mul_one, Nat.add_zero] at hx30_1); have hf30_1 := hfr30 1; (try simp only [show (k31).sz = 2 from rfl, Nat.mul_one, Nat.add_zero] at hf30_1); clear hcl30 hcc30 hfr30 hM30) | ((with_reducible refine mG (t := 3) (p := 32) rfl ?_); refine lC (t := 3) (p := 32) (v := ?vo_w31) (w1 := (w29.setCell ⟨go24, (t277 : Int).toNat * 2 + 1, none⟩ (.int .i64 t287))) ?hg ?ho ?hn ?hr ?_; (case ho => rfl); (case hg => rfl); (case hn => rfl); (case hr => first | (go_simp; done) | (go_simp; rfl)); intro w31 hw; have hg : w29.grownBy w31 (some go24) := (by rw [hw]; exact HP30.2); have hp_ : Kd.R k31 31 w31 w.heap.size (fun _ => True) (.slice (some ⟨go24, 0, none⟩) t272.length co26) y290 := (by rw [hw, Ny290.out]; exact HP30.1); clear HP30; have n0_ := aj.mk (av.grown (by repeat (first | (with_reducible first | exact HI0.out | apply av.alloc | apply av.drewN | apply av.drew | apply av.bX | apply av.bW) | exact HI0.out)) hg (av.own_ne HI0.out HO274.out (by decide))); have n1_ := aj.mk (hp_); have n2_ := aj.mk ((by rw [hw]; exact ay (HB.out) (Nat.le_trans HL.out GB24.out) : Below w0.heap.size w0 w31)); have n3_ := aj.mk (bn.trans (by repeat (first | (with_reducible first | exact HK.out | apply bn.dX | apply bF | apply bH | apply bE) | exact HK.out)) (bn.ji hg g) (Kd.lN HO274.out)); clear HI0; clear HO274; clear HB; clear HK; have HI0 := n0_; have HO274 := n1_; have HB := n2_; have HK := n3_; clear n0_ n1_ n2_ n3_; clear hg hw hp_))
      go_ret
      exact ⟨_, by first | rfl | (simp [bA, bB] <;> rfl) | (simp [*, bA, bB] <;> rfl), by (with_reducible repeat (first | apply Kd.aN | apply Kd.aM | apply Kd.aW)); exact HO274.out, by repeat (first | (with_reducible first | exact HI0.out | apply av.alloc | apply av.drewN | apply av.drew | apply av.bX | apply av.bW) | exact HI0.out), by repeat (first | (with_reducible first | exact HB.out | apply au | apply ah | apply ak | refine ay ?_ (av.ge HI0.out)) | exact HB.out), by repeat (first | (with_reducible first | exact HK.out | apply bn.dX | apply bF | apply bH | apply bE) | exact HK.out)⟩
     ·rw [if_neg c23] at H
      exact absurd H (by simp)
    ·rw [if_neg c22] at H
     exact absurd H (by simp)
   ·rw [if_neg c20] at H
    have c20b0 : (t280 == 1) = false := beq_eq_false_iff_ne.mpr c20
    have c20b1 : (t280 != 1) = true := bne_iff_ne.mpr c20
    by_cases c32 : t280 = 2
    ·rw [if_pos c32] at H
     have c32b0 : (t280 == 2) = true := beq_iff_eq.mpr c32
     have c32b1 : (t280 != 2) = false := bne_eq_false_iff_eq.mpr c32
     clear c32
     by_cases c33 : 0 < (t272.length : Int)
     ·rw [if_pos c33] at H
      have c33b0 : decide (0 < (t272.length : Int)) = true := decide_eq_true c33
      have c33b1 : decide (0 < t272.length) = true := decide_eq_true (by omega)
      clear c33
      by_cases c34 : t272.length < 5864062014805
      ·rw [if_pos c34] at H
       have LMc34 := aj.mk c34
       clear c34
       obtain ⟨y292, hy292⟩ : ∃ y_ : List (S31), y_ = (t272 ++ [(⟨(aJ t272 0).f0, (aJ t272 0).f1⟩ : S31)]) := ⟨_, rfl⟩
       replace H : (some (y292, t281, t282)) = some (r1, r2, r3) := by first | (rw [hy292]; with_reducible exact H) | (have H2_ := (Option.bind_some _ _).symm.trans H; rw [hy292]; with_reducible exact H2_) | (have H2_ := (Option.bind_some _ _).symm.trans H; with_reducible exact H2_) | with_reducible exact H | (rw [hy292]; exact H) | exact H
       have Ny292 := aj.mk hy292
       clear hy292
       simp only [Option.some.injEq, Prod.mk.injEq] at H
       obtain ⟨rfl, rfl, rfl⟩ := H
       go_enter Try.func61, Try.ntmps61
       go_wp2_with (first | ((with_reducible refine bq (f := 117) rfl ?_); refine bT (some 6) rfl rfl Try.func117 (by kernel_rfl) rfl #[.pointer (some ⟨g, 0, none⟩)] rfl (by (try simp only [List.map_toArray, List.map_cons, List.map_nil]); first | done | rfl | (simp only [List.length_drop, List.length_take]; rfl)) ?_; (with_reducible refine (bK.calls k g s0_0 s0_1 s0_2 t272 t275 t276 w0 _ ?side1 ?side2 A2.out).mono ?_); (case side1 => repeat (first | (with_reducible first | exact HI0.out | apply av.alloc | apply av.drewN | apply av.drew | apply av.bX | apply av.bW) | exact HI0.out)); (case side2 => repeat (first | (with_reducible first | exact HB.out | apply au | apply ah | apply ak | refine ay ?_ (av.ge HI0.out)) | exact HB.out)); rintro e w35 ⟨v273, rfl, ho0, hi, hb, hk⟩; refine ⟨_, rfl, ?_⟩; have n0_ := aj.mk (Kd.cK ho0 (fI (w := w) (g := g) (row := none) (by repeat (first | (with_reducible first | exact HK.out | apply bn.dX | apply bF | apply bH | apply bE) | exact HK.out)))); have n1_ := aj.mk (bn.trans (by repeat (first | (with_reducible first | exact HK.out | apply bn.dX | apply bF | apply bH | apply bE) | exact HK.out)) hk (.inl rfl)); have n2_ := aj.mk (hb); have n3_ := aj.mk (hi); clear HK; clear HB; clear HI0; have HO274 := n0_; have HK := n1_; have HB := n2_; have HI0 := n3_; clear n0_ n1_ n2_ n3_; (try clear hb); (try clear hb2); (try clear hk); (try clear hi); (try clear ho0); obtain ⟨Ao36, co36, eo36⟩ := Kd.dO HO274.out; subst eo36) | ((with_reducible refine bq (f := 118) rfl ?_); refine bT (some 14) rfl rfl Try.func118 (by kernel_rfl) rfl #[.pointer (some ⟨g, 0, none⟩), .int .i64 (t272.length : Int)] rfl (by (try simp only [List.map_toArray, List.map_cons, List.map_nil]); first | done | rfl | (simp only [List.length_drop, List.length_take]; rfl)) ?_; (with_reducible refine (bM.calls g s0_0 t275 t276 (t272.length : Int) t277 t278 t279 w0 _ ?side1 ?side2 A6.out).mono ?_); (case side1 => repeat (first | (with_reducible first | exact HI0.out | apply av.alloc | apply av.drewN | apply av.drew | apply av.bX | apply av.bW) | exact HI0.out)); (case side2 => repeat (first | (with_reducible first | exact HB.out | apply au | apply ah | apply ak | refine ay ?_ (av.ge HI0.out)) | exact HB.out)); rintro e w37 ⟨rfl, hi, hb, hk⟩; refine ⟨_, rfl, ?_⟩; have n0_ := aj.mk (Kd.bO (Kd.eP (av.apart (show av w0 _ g s0_0 t275 t276 from by repeat (first | (with_reducible first | exact HI0.out | apply av.alloc | apply av.drewN | apply av.drew | apply av.bX | apply av.bW) | exact HI0.out)) (by (with_reducible repeat (first | apply Kd.aN | apply Kd.aM | apply Kd.aW)); exact HO274.out) (by decide)) hk (fun _ h => h.2)) (fun _ h => h.1)); have n1_ := aj.mk (bn.trans (by repeat (first | (with_reducible first | exact HK.out | apply bn.dX | apply bF | apply bH | apply bE) | exact HK.out)) hk (.inl rfl)); have n2_ := aj.mk (hb); have n3_ := aj.mk (hi); clear HO274; clear HK; clear HB; clear HI0; have HO274 := n0_; have HK := n1_; have HB := n2_; have HI0 := n3_; clear n0_ n1_ n2_ n3_; (try clear hb); (try clear hb2); (try clear hk); (try clear hi)) | ((with_reducible refine bq (f := 118) rfl ?_); refine bT (some 16) rfl rfl Try.func118 (by kernel_rfl) rfl #[.pointer (some ⟨g, 0, none⟩), .int .i64 9] rfl (by (try simp only [List.map_toArray, List.map_cons, List.map_nil]); first | done | rfl | (simp only [List.length_drop, List.length_take]; rfl)) ?_; (with_reducible refine (bM.calls g s0_0 t278 t279 9 t280 t281 t282 w0 _ ?side1 ?side2 A7.out).mono ?_); (case side1 => repeat (first | (with_reducible first | exact HI0.out | apply av.alloc | apply av.drewN | apply av.drew | apply av.bX | apply av.bW) | exact HI0.out)); (case side2 => repeat (first | (with_reducible first | exact HB.out | apply au | apply ah | apply ak | refine ay ?_ (av.ge HI0.out)) | exact HB.out)); rintro e w38 ⟨rfl, hi, hb, hk⟩; refine ⟨_, rfl, ?_⟩; have n0_ := aj.mk (Kd.bO (Kd.eP (av.apart (show av w0 _ g s0_0 t278 t279 from by repeat (first | (with_reducible first | exact HI0.out | apply av.alloc | apply av.drewN | apply av.drew | apply av.bX | apply av.bW) | exact HI0.out)) (by (with_reducible repeat (first | apply Kd.aN | apply Kd.aM | apply Kd.aW)); exact HO274.out) (by decide)) hk (fun _ h => h.2)) (fun _ h => h.1)); have n1_ := aj.mk (bn.trans (by repeat (first | (with_reducible first | exact HK.out | apply bn.dX | apply bF | apply bH | apply bE) | exact HK.out)) hk (.inl rfl)); have n2_ := aj.mk (hb); have n3_ := aj.mk (hi); clear HO274; clear HK; clear HB; clear HI0; have HO274 := n0_; have HK := n1_; have HB := n2_; have HI0 := n3_; clear n0_ n1_ n2_ n3_; (try clear hb); (try clear hb2); (try clear hk); (try clear hi); have p291 : 0 ≤ (0 : Int) := (by omega); have q291 : 0 < (t272.length : Int) := of_decide_eq_true (by first | (with_reducible assumption) | assumption); obtain ⟨ad291, e291, hx291_0, hx291_1⟩ := eD (Kd.bJ HO274.out).2.2 0 p291 q291; cases e291; have qi291 : (0 < t272.length) = True := eq_true (by omega); (try rw [show ((0 : Int)).toNat = 0 from rfl] at hx291_0); (try rw [show 0 * 2 = 0 from rfl] at hx291_0); (try rw [Addr.add_zero'] at hx291_0); (try rw [show ((0 : Int)).toNat = 0 from rfl] at hx291_1); (try rw [show 0 * 2 = 0 from rfl] at hx291_1); (try rw [Addr.add_zero'] at hx291_1); replace p291 := eq_true p291; replace q291 := eq_true q291) | ((with_reducible refine gX (b := .append) (xs := #[.tmp 35, .tmp 39]) rfl ?_); at_builtin; refine Kd.j5 k31 w.heap.size rfl (.tmp 35) (.tmp 39) 27 31 (.agg #[(.string ⟨#[]⟩), (.int .i64 0)]) 24 rfl Try.underlying27 fT rfl (by decide) (by omega) (.slice (some ad291) t272.length co36) t272 (⟨(aJ t272 0).f0, (aJ t272 0).f1⟩ : S31) [.string ((aJ t272 0).f0), .int .i64 ((aJ t272 0).f1)] (fun _ => True) (fun _ => False) rfl rfl ?aP (fun _ hk => hk.elim) ?aF ?aO (Below.refl _ _) ?aS ?aL ?_; (case aP => exact gD _ _ _ (⟨(aJ t272 0).f0, (aJ t272 0).f1⟩ : S31)); (case aF => exact (fun _ _ => trivial)); (case aO => exact (by (with_reducible repeat (first | apply Kd.aN | apply Kd.aM | apply Kd.aW)); exact HO274.out)); (case aS => exact (fI (w := w) (g := g) (row := none) (by repeat (first | (with_reducible first | exact HK.out | apply bn.dX | apply bF | apply bH | apply bE) | exact HK.out)))); (case aL => have := LMc34.out; omega); intro v293 w39 ho hb hg hat; rw [← Ny292.out] at ho; have n0_ := aj.mk (av.grown (by repeat (first | (with_reducible first | exact HI0.out | apply av.alloc | apply av.drewN | apply av.drew | apply av.bX | apply av.bW) | exact HI0.out)) hg (av.own_ne HI0.out HO274.out (by decide))); have n1_ := aj.mk (kD (by repeat (first | (with_reducible first | exact HB.out | apply au | apply ah | apply ak | refine ay ?_ (av.ge HI0.out)) | exact HB.out)) HL.out hb); have n2_ := aj.mk (bn.trans (by repeat (first | (with_reducible first | exact HK.out | apply bn.dX | apply bF | apply bH | apply bE) | exact HK.out)) (bn.ji hg g) (Kd.lN HO274.out)); have n3_ := aj.mk (ho); clear HI0; clear HB; clear HK; clear HO274; have HI0 := n0_; have HB := n1_; have HK := n2_; have HO294 := n3_; clear n0_ n1_ n2_ n3_; clear ho hb hg hat))
       go_ret
       exact ⟨_, by first | rfl | (simp [bA, bB] <;> rfl) | (simp [*, bA, bB] <;> rfl), by (with_reducible repeat (first | apply Kd.aN | apply Kd.aM | apply Kd.aW)); exact HO294.out, by repeat (first | (with_reducible first | exact HI0.out | apply av.alloc | apply av.drewN | apply av.drew | apply av.bX | apply av.bW) | exact HI0.out), by repeat (first | (with_reducible first | exact HB.out | apply au | apply ah | apply ak | refine ay ?_ (av.ge HI0.out)) | exact HB.out), by repeat (first | (with_reducible first | exact HK.out | apply bn.dX | apply bF | apply bH | apply bE) | exact HK.out)⟩
      ·rw [if_neg c34] at H
       exact absurd H (by simp)
     ·rw [if_neg c33] at H
      exact absurd H (by simp)
    ·rw [if_neg c32] at H
     have c32b0 : (t280 == 2) = false := beq_eq_false_iff_ne.mpr c32
     have c32b1 : (t280 != 2) = true := bne_iff_ne.mpr c32
     simp only [Option.some.injEq, Prod.mk.injEq] at H
     obtain ⟨rfl, rfl, rfl⟩ := H
     go_enter Try.func61, Try.ntmps61
     go_wp2_with (first | ((with_reducible refine bq (f := 117) rfl ?_); refine bT (some 6) rfl rfl Try.func117 (by kernel_rfl) rfl #[.pointer (some ⟨g, 0, none⟩)] rfl (by (try simp only [List.map_toArray, List.map_cons, List.map_nil]); first | done | rfl | (simp only [List.length_drop, List.length_take]; rfl)) ?_; (with_reducible refine (bK.calls k g s0_0 s0_1 s0_2 t272 t275 t276 w0 _ ?side1 ?side2 A2.out).mono ?_); (case side1 => repeat (first | (with_reducible first | exact HI0.out | apply av.alloc | apply av.drewN | apply av.drew | apply av.bX | apply av.bW) | exact HI0.out)); (case side2 => repeat (first | (with_reducible first | exact HB.out | apply au | apply ah | apply ak | refine ay ?_ (av.ge HI0.out)) | exact HB.out)); rintro e w40 ⟨v273, rfl, ho0, hi, hb, hk⟩; refine ⟨_, rfl, ?_⟩; have n0_ := aj.mk (Kd.cK ho0 (fI (w := w) (g := g) (row := none) (by repeat (first | (with_reducible first | exact HK.out | apply bn.dX | apply bF | apply bH | apply bE) | exact HK.out)))); have n1_ := aj.mk (bn.trans (by repeat (first | (with_reducible first | exact HK.out | apply bn.dX | apply bF | apply bH | apply bE) | exact HK.out)) hk (.inl rfl)); have n2_ := aj.mk (hb); have n3_ := aj.mk (hi); clear HK; clear HB; clear HI0; have HO274 := n0_; have HK := n1_; have HB := n2_; have HI0 := n3_; clear n0_ n1_ n2_ n3_; (try clear hb); (try clear hb2); (try clear hk); (try clear hi); (try clear ho0); obtain ⟨Ao41, co41, eo41⟩ := Kd.dO HO274.out; subst eo41) | ((with_reducible refine bq (f := 118) rfl ?_); refine bT (some 14) rfl rfl Try.func118 (by kernel_rfl) rfl #[.pointer (some ⟨g, 0, none⟩), .int .i64 (t272.length : Int)] rfl (by (try simp only [List.map_toArray, List.map_cons, List.map_nil]); first | done | rfl | (simp only [List.length_drop, List.length_take]; rfl)) ?_; (with_reducible refine (bM.calls g s0_0 t275 t276 (t272.length : Int) t277 t278 t279 w0 _ ?side1 ?side2 A6.out).mono ?_); (case side1 => repeat (first | (with_reducible first | exact HI0.out | apply av.alloc | apply av.drewN | apply av.drew | apply av.bX | apply av.bW) | exact HI0.out)); (case side2 => repeat (first | (with_reducible first | exact HB.out | apply au | apply ah | apply ak | refine ay ?_ (av.ge HI0.out)) | exact HB.out)); rintro e w42 ⟨rfl, hi, hb, hk⟩; refine ⟨_, rfl, ?_⟩; have n0_ := aj.mk (Kd.bO (Kd.eP (av.apart (show av w0 _ g s0_0 t275 t276 from by repeat (first | (with_reducible first | exact HI0.out | apply av.alloc | apply av.drewN | apply av.drew | apply av.bX | apply av.bW) | exact HI0.out)) (by (with_reducible repeat (first | apply Kd.aN | apply Kd.aM | apply Kd.aW)); exact HO274.out) (by decide)) hk (fun _ h => h.2)) (fun _ h => h.1)); have n1_ := aj.mk (bn.trans (by repeat (first | (with_reducible first | exact HK.out | apply bn.dX | apply bF | apply bH | apply bE) | exact HK.out)) hk (.inl rfl)); have n2_ := aj.mk (hb); have n3_ := aj.mk (hi); clear HO274; clear HK; clear HB; clear HI0; have HO274 := n0_; have HK := n1_; have HB := n2_; have HI0 := n3_; clear n0_ n1_ n2_ n3_; (try clear hb); (try clear hb2); (try clear hk); (try clear hi)) | ((with_reducible refine bq (f := 118) rfl ?_); refine bT (some 16) rfl rfl Try.func118 (by kernel_rfl) rfl #[.pointer (some ⟨g, 0, none⟩), .int .i64 9] rfl (by (try simp only [List.map_toArray, List.map_cons, List.map_nil]); first | done | rfl | (simp only [List.length_drop, List.length_take]; rfl)) ?_; (with_reducible refine (bM.calls g s0_0 t278 t279 9 t280 t281 t282 w0 _ ?side1 ?side2 A7.out).mono ?_); (case side1 => repeat (first | (with_reducible first | exact HI0.out | apply av.alloc | apply av.drewN | apply av.drew | apply av.bX | apply av.bW) | exact HI0.out)); (case side2 => repeat (first | (with_reducible first | exact HB.out | apply au | apply ah | apply ak | refine ay ?_ (av.ge HI0.out)) | exact HB.out)); rintro e w43 ⟨rfl, hi, hb, hk⟩; refine ⟨_, rfl, ?_⟩; have n0_ := aj.mk (Kd.bO (Kd.eP (av.apart (show av w0 _ g s0_0 t278 t279 from by repeat (first | (with_reducible first | exact HI0.out | apply av.alloc | apply av.drewN | apply av.drew | apply av.bX | apply av.bW) | exact HI0.out)) (by (with_reducible repeat (first | apply Kd.aN | apply Kd.aM | apply Kd.aW)); exact HO274.out) (by decide)) hk (fun _ h => h.2)) (fun _ h => h.1)); have n1_ := aj.mk (bn.trans (by repeat (first | (with_reducible first | exact HK.out | apply bn.dX | apply bF | apply bH | apply bE) | exact HK.out)) hk (.inl rfl)); have n2_ := aj.mk (hb); have n3_ := aj.mk (hi); clear HO274; clear HK; clear HB; clear HI0; have HO274 := n0_; have HK := n1_; have HB := n2_; have HI0 := n3_; clear n0_ n1_ n2_ n3_; (try clear hb); (try clear hb2); (try clear hk); (try clear hi)))
     go_ret
     exact ⟨_, by first | rfl | (simp [bA, bB] <;> rfl) | (simp [*, bA, bB] <;> rfl), by (with_reducible repeat (first | apply Kd.aN | apply Kd.aM | apply Kd.aW)); exact HO274.out, by repeat (first | (with_reducible first | exact HI0.out | apply av.alloc | apply av.drewN | apply av.drew | apply av.bX | apply av.bW) | exact HI0.out), by repeat (first | (with_reducible first | exact HB.out | apply au | apply ah | apply ak | refine ay ?_ (av.ge HI0.out)) | exact HB.out), by repeat (first | (with_reducible first | exact HK.out | apply bn.dX | apply bF | apply bH | apply bE) | exact HK.out)⟩
def d9.f (k : Nat) (l0 : List Int) : Option ((List (S31)) × ByteArray × Int) := (dH.f k l0).bind fun bt296 => ((eH.f k bt296.1 bt296.2.1 bt296.2.2).bind fun bt300 => ((dn.f bt296.1 bt300.2.1 bt300.2.2).bind fun bt305 => ((eZ.f bt296.1 bt305.2.1 bt305.2.2 (([1, 2, 3, 99, 100, 0] : List Int))).bind fun bt311 => (some (bt300.1, bt305.1, bt311.1)))))
set_option maxHeartbeats 8000000 in
set_option maxRecDepth 100000 in
theorem d9.calls (k : Nat) (A0 : Option Addr) (c0 : Nat) (l0 : List Int) (r1 : List (S31)) (r2 : ByteArray) (r3 : Int) (w : World) (hr0 : Kd.C (Kd.int .u8) w A0 l0.length l0) (hc0 : l0.length ≤ c0) (h : d9.f k l0 = some (r1, r2, r3)) :
  Calls Try.prog 20 #[.slice A0 l0.length c0] w fun e w' => ∃ v0_ : Value, e = .returned (.tuple #[v0_, .agg #[.string r2, .int .i64 r3]]) ∧ Kd.R k31 31 w' w.heap.size (fun _ => True) v0_ r1 ∧ Below w.heap.size w w' := by
 have hu31 := Try.underlying31
 have HR0 := aj.mk hr0
 have HC0 := aj.mk hc0
 clear hr0 hc0
 have HB := aj.mk (Below.refl w.heap.size w)
 have H : ((dH.f k l0).bind fun bt296 => ((eH.f k bt296.1 bt296.2.1 bt296.2.2).bind fun bt300 => ((dn.f bt296.1 bt300.2.1 bt300.2.2).bind fun bt305 => ((eZ.f bt296.1 bt305.2.1 bt305.2.2 (([1, 2, 3, 99, 100, 0] : List Int))).bind fun bt311 => (some (bt300.1, bt305.1, bt311.1)))))) = some (r1, r2, r3) := h
 clear h
 replace H := Option.bind_eq_some_iff.mp H
 obtain ⟨⟨t296, t297, t298⟩, A20, H⟩ := H
 replace H : ((eH.f k t296 t297 t298).bind fun bt300 => ((dn.f t296 bt300.2.1 bt300.2.2).bind fun bt305 => ((eZ.f t296 bt305.2.1 bt305.2.2 (([1, 2, 3, 99, 100, 0] : List Int))).bind fun bt311 => (some (bt300.1, bt305.1, bt311.1))))) = some (r1, r2, r3) := H
 have A2 := aj.mk A20
 clear A20
 replace H := Option.bind_eq_some_iff.mp H
 obtain ⟨⟨t300, t303, t304⟩, A30, H⟩ := H
 replace H : ((dn.f t296 t303 t304).bind fun bt305 => ((eZ.f t296 bt305.2.1 bt305.2.2 (([1, 2, 3, 99, 100, 0] : List Int))).bind fun bt311 => (some (t300, bt305.1, bt311.1)))) = some (r1, r2, r3) := H
 have A3 := aj.mk A30
 clear A30
 replace H := Option.bind_eq_some_iff.mp H
 obtain ⟨⟨t305, t306, t307⟩, A40, H⟩ := H
 replace H : ((eZ.f t296 t306 t307 (([1, 2, 3, 99, 100, 0] : List Int))).bind fun bt311 => (some (t300, t305, bt311.1))) = some (r1, r2, r3) := H
 have A4 := aj.mk A40
 clear A40
 obtain ⟨y308, hy308⟩ : ∃ y_ : List Int, y_ = (([1, 2, 3, 99, 100, 0] : List Int)) := ⟨_, rfl⟩
 replace H : ((eZ.f t296 t306 t307 y308).bind fun bt311 => (some (t300, t305, bt311.1))) = some (r1, r2, r3) := by first | (rw [hy308]; with_reducible exact H) | (have H2_ := (Option.bind_some _ _).symm.trans H; rw [hy308]; with_reducible exact H2_) | (have H2_ := (Option.bind_some _ _).symm.trans H; with_reducible exact H2_) | with_reducible exact H | (rw [hy308]; exact H) | exact H
 have Ny308 := aj.mk hy308
 clear hy308
 replace H := Option.bind_eq_some_iff.mp H
 obtain ⟨⟨t311, t312, t313⟩, A50, H⟩ := H
 replace H : (some (t300, t305, t311)) = some (r1, r2, r3) := H
 have A5 := aj.mk A50
 clear A50
 simp only [Option.some.injEq, Prod.mk.injEq] at H
 obtain ⟨rfl, rfl, rfl⟩ := H
 go_enter Try.func20, Try.ntmps20
 try go_wp2_with (first | ((with_reducible refine dz (N := 3) rfl ?_); refine dD ?hg (N := 3) ?hd (cs := #[.string (⟨#[]⟩ : ByteArray), .int .i64 0]) (t := 31) ?hr ?_; (case hd => rfl); (case hg => rfl); (case hr => first | (go_simp; done) | (go_simp; rfl)); intro gb295 hg w6 hbox hb; have n0_ := aj.mk (aY (by repeat (first | (with_reducible first | exact HB.out | apply au | apply ah | apply ak) | exact HB.out)) hb); have n1_ := aj.mk (hbox); have n2_ := aj.mk ((by rw [hg]; exact (bf (by repeat (first | (with_reducible first | exact HB.out | apply au | apply ah | apply ak) | exact HB.out))) : w.heap.size ≤ gb295)); have n3_ := aj.mk ((by rw [hg]; exact (bf (by repeat (first | (with_reducible first | exact HB.out | apply au | apply ah | apply ak) | exact HB.out))) : w.heap.size ≤ gb295)); clear HB; have HB := n0_; have BK295 := n1_; have GW295 := n2_; have GE295 := n3_; clear n0_ n1_ n2_ n3_; clear hb hbox hg) | ((with_reducible refine bq (f := 60) rfl ?_); refine bT (some 8) rfl rfl Try.func60 (by kernel_rfl) rfl #[.slice A0 l0.length c0] rfl (by (try simp only [List.map_toArray, List.map_cons, List.map_nil]); first | done | rfl | (simp only [List.length_drop, List.length_take]; rfl)) ?_; (with_reducible refine (dH.calls k _ _ l0 t296 t297 t298 w _ ?side1 ?side2 ?side3 A2.out).mono ?_); (case side1 => repeat (first | (with_reducible first | exact HB.out | apply au | apply ah | apply ak | refine ay ?_ GE295.out) | exact HB.out)); (case side2 => exact HR0.out); (case side3 => exact HC0.out); rintro e w7 ⟨g299, rfl, hi, hb, hb2⟩; refine ⟨_, rfl, ?_⟩; have n0_ := aj.mk (bI (g := gb295) (o := .cells #[.string (⟨#[]⟩ : ByteArray), .int .i64 0] 31 (0, 0)) (by (with_reducible repeat (first | refine aA ?_ _ | refine aD ?_ | refine aC ?_ _)); exact BK295.out) hb2); have n1_ := aj.mk (hb); have n2_ := aj.mk (hi); have n3_ := aj.mk (av.ql hi (bI (g := gb295) (o := .cells #[.string (⟨#[]⟩ : ByteArray), .int .i64 0] 31 (0, 0)) (by (with_reducible repeat (first | refine aA ?_ _ | refine aD ?_ | refine aC ?_ _)); exact BK295.out) hb2) (by decide)); have n4_ := aj.mk (Ne.symm (av.ql hi (bI (g := gb295) (o := .cells #[.string (⟨#[]⟩ : ByteArray), .int .i64 0] 31 (0, 0)) (by (with_reducible repeat (first | refine aA ?_ _ | refine aD ?_ | refine aC ?_ _)); exact BK295.out) hb2) (by decide))); clear BK295; clear HB; have BK295 := n0_; have HB := n1_; have HI299 := n2_; have NB299_295 := n3_; have NB295_299 := n4_; clear n0_ n1_ n2_ n3_ n4_; (try clear hb); (try clear hb2); (try clear hk); (try clear hi)) | ((with_reducible refine bq (f := 61) rfl ?_); refine bT (some 10) rfl rfl Try.func61 (by kernel_rfl) rfl #[.pointer (some ⟨g299, 0, none⟩)] rfl (by (try simp only [List.map_toArray, List.map_cons, List.map_nil]); first | done | rfl | (simp only [List.length_drop, List.length_take]; rfl)) ?_; (with_reducible refine (eH.calls k g299 t296 t297 t298 t300 t303 t304 w _ ?side1 ?side2 A3.out).mono ?_); (case side1 => repeat (first | (with_reducible first | exact HI299.out | apply av.alloc | apply av.drewN | apply av.drew | apply av.bX | apply av.bW | refine av.far ?_ NB299_295.out _) | exact HI299.out)); (case side2 => repeat (first | (with_reducible first | exact HB.out | apply au | apply ah | apply ak | refine ay ?_ (av.ge HI299.out) | refine ay ?_ GE295.out) | exact HB.out)); rintro e w8 ⟨v301, rfl, ho0, hi, hb, hk⟩; refine ⟨_, rfl, ?_⟩; have n0_ := aj.mk (bn.blk hk (g' := gb295) (o := .cells #[.string (⟨#[]⟩ : ByteArray), .int .i64 0] 31 (0, 0)) (by (with_reducible repeat (first | refine aA ?_ _ | refine aD ?_ | refine aC ?_ _)); exact BK295.out) NB295_299.out (by simp)); have n1_ := aj.mk (Kd.cK (Kd.fq ho0 (g := gb295) (o := .cells #[.string (⟨#[]⟩ : ByteArray), .int .i64 0] 31 (0, 0)) (by (with_reducible repeat (first | refine aA ?_ _ | refine aD ?_ | refine aC ?_ _)); exact BK295.out)) (bf (by repeat (first | (with_reducible first | exact HB.out | apply au | apply ah | apply ak | refine ay ?_ (av.ge HI299.out) | refine ay ?_ GE295.out) | exact HB.out)))); have n2_ := aj.mk (hb); have n3_ := aj.mk (hi); clear BK295; clear HB; clear HI299; have BK295 := n0_; have HO302 := n1_; have HB := n2_; have HI299 := n3_; clear n0_ n1_ n2_ n3_; (try clear hb); (try clear hb2); (try clear hk); (try clear hi); (try clear ho0)) | ((with_reducible refine bq (f := 62) rfl ?_); refine bT (some 12) rfl rfl Try.func62 (by kernel_rfl) rfl #[.pointer (some ⟨g299, 0, none⟩)] rfl (by (try simp only [List.map_toArray, List.map_cons, List.map_nil]); first | done | rfl | (simp only [List.length_drop, List.length_take]; rfl)) ?_; (with_reducible refine (dn.calls g299 t296 t303 t304 t305 t306 t307 w _ ?side1 ?side2 A4.out).mono ?_); (case side1 => repeat (first | (with_reducible first | exact HI299.out | apply av.alloc | apply av.drewN | apply av.drew | apply av.bX | apply av.bW | refine av.far ?_ NB299_295.out _) | exact HI299.out)); (case side2 => repeat (first | (with_reducible first | exact HB.out | apply au | apply ah | apply ak | refine ay ?_ (av.ge HI299.out) | refine ay ?_ GE295.out) | exact HB.out)); rintro e w9 ⟨rfl, hi, hb, hk⟩; refine ⟨_, rfl, ?_⟩; have n0_ := aj.mk (bn.blk hk (g' := gb295) (o := .cells #[.string (⟨#[]⟩ : ByteArray), .int .i64 0] 31 (0, 0)) (by (with_reducible repeat (first | refine aA ?_ _ | refine aD ?_ | refine aC ?_ _)); exact BK295.out) NB295_299.out (by simp)); have n1_ := aj.mk (Kd.bO (Kd.eP (av.apart (show av w _ g299 t296 t303 t304 from by repeat (first | (with_reducible first | exact HI299.out | apply av.alloc | apply av.drewN | apply av.drew | apply av.bX | apply av.bW | refine av.far ?_ NB299_295.out _) | exact HI299.out)) (by (with_reducible repeat (first | apply Kd.aN | apply Kd.aM | apply Kd.aW)); exact HO302.out) (by decide)) hk (fun _ h => h.2)) (fun _ h => h.1)); have n2_ := aj.mk (hb); have n3_ := aj.mk (hi); clear BK295; clear HO302; clear HB; clear HI299; have BK295 := n0_; have HO302 := n1_; have HB := n2_; have HI299 := n3_; clear n0_ n1_ n2_ n3_; (try clear hb); (try clear hb2); (try clear hk); (try clear hi)) | ((with_reducible refine dz (N := 14) rfl ?_); refine Kd.kY (Kd.int .i64) _ 3 ?hg (N := 14) ?hd (xs := ([1, 2, 3, 99, 100, 0] : List Int)) (inner := [.int .i64 1, .int .i64 2, .int .i64 3, .int .i64 99, .int .i64 100, .int .i64 0]) (ok := fun _ => True) (okp := fun _ => True) ?hr ?hp (fun _ hk => hk) trivial (Below.refl _ _) (Nat.le_refl _) (by simp) ?_; (case hd => rfl); (case hg => rfl); (case hr => first | (go_simp; done) | (go_simp; rfl)); (case hp => exact (bZ.one (show Kd.M (Kd.int .i64) _ _ _ 1 [.int .i64 1] from rfl) (bZ.one (show Kd.M (Kd.int .i64) _ _ _ 2 [.int .i64 2] from rfl) (bZ.one (show Kd.M (Kd.int .i64) _ _ _ 3 [.int .i64 3] from rfl) (bZ.one (show Kd.M (Kd.int .i64) _ _ _ 99 [.int .i64 99] from rfl) (bZ.one (show Kd.M (Kd.int .i64) _ _ _ 100 [.int .i64 100] from rfl) (bZ.one (show Kd.M (Kd.int .i64) _ _ _ 0 [.int .i64 0] from rfl) (bZ.none _ _)))))))); intro v309 w10 ho11 hb hg_ hnew_; clear hg_ hnew_; (first | rw [← Ny308.out] at ho11 | (simp only [Int.reduceToNat] at ho11; rw [← Ny308.out] at ho11)); have n0_ := aj.mk (Kd.bY (by (with_reducible repeat (first | apply Kd.aN | apply Kd.aM | apply Kd.aW)); exact HO302.out) hb); have n1_ := aj.mk (Kd.cK ho11 (bf (by repeat (first | (with_reducible first | exact HB.out | apply au | apply ah | apply ak | refine ay ?_ (av.ge HI299.out) | refine ay ?_ GE295.out) | exact HB.out)))); have n2_ := aj.mk (bI (g := gb295) (o := .cells #[.string (⟨#[]⟩ : ByteArray), .int .i64 0] 31 (0, 0)) (by (with_reducible repeat (first | refine aA ?_ _ | refine aD ?_ | refine aC ?_ _)); exact BK295.out) hb); have n3_ := aj.mk (av.below (by repeat (first | (with_reducible first | exact HI299.out | apply av.alloc | apply av.drewN | apply av.drew | apply av.bX | apply av.bW | refine av.far ?_ NB299_295.out _) | exact HI299.out)) hb); have n4_ := aj.mk (aY (by repeat (first | (with_reducible first | exact HB.out | apply au | apply ah | apply ak | refine ay ?_ (av.ge HI299.out) | refine ay ?_ GE295.out) | exact HB.out)) hb); clear HO302; clear BK295; clear HI299; clear HB; have HO302 := n0_; have HO310 := n1_; have BK295 := n2_; have HI299 := n3_; have HB := n4_; clear n0_ n1_ n2_ n3_ n4_; clear hb ho11; obtain ⟨Ao12, co12, eo12⟩ := Kd.dO HO310.out; subst eo12) | ((with_reducible refine bq (f := 63) rfl ?_); refine bT (some 15) rfl rfl Try.func63 (by kernel_rfl) rfl #[.pointer (some ⟨g299, 0, none⟩), .slice Ao12 y308.length co12] rfl (by (try simp only [List.map_toArray, List.map_cons, List.map_nil]); first | done | rfl | (simp only [List.length_drop, List.length_take]; rfl)) ?_; (with_reducible refine (eZ.calls g299 t296 t306 t307 _ _ y308 t311 t312 t313 w _ ?side1 ?side2 ?side3 ?side4 ?side5 A5.out).mono ?_); (case side1 => repeat (first | (with_reducible first | exact HI299.out | apply av.alloc | apply av.drewN | apply av.drew | apply av.bX | apply av.bW | refine av.far ?_ NB299_295.out _) | exact HI299.out)); (case side2 => repeat (first | (with_reducible first | exact HB.out | apply au | apply ah | apply ak | refine ay ?_ (av.ge HI299.out) | refine ay ?_ GE295.out) | exact HB.out)); (case side3 => repeat (first | exact (Kd.bJ HO310.out).2.2 | (with_reducible refine Kd.bU ?_ _) | (with_reducible refine Kd.bV ?_ _) | (with_reducible refine Kd.cB ?_))); (case side4 => exact (Kd.bJ HO310.out).2.1); (case side5 => exact jK (av.own_ne HI299.out HO310.out (by decide))); rintro e w13 ⟨rfl, hi, hb, hk⟩; refine ⟨_, rfl, ?_⟩; have n0_ := aj.mk (bn.blk hk (g' := gb295) (o := .cells #[.string (⟨#[]⟩ : ByteArray), .int .i64 0] 31 (0, 0)) (by (with_reducible repeat (first | refine aA ?_ _ | refine aD ?_ | refine aC ?_ _)); exact BK295.out) NB295_299.out (by simp)); have n1_ := aj.mk (Kd.bO (Kd.eP (av.apart (show av w _ g299 t296 t306 t307 from by repeat (first | (with_reducible first | exact HI299.out | apply av.alloc | apply av.drewN | apply av.drew | apply av.bX | apply av.bW | refine av.far ?_ NB299_295.out _) | exact HI299.out)) (by (with_reducible repeat (first | apply Kd.aN | apply Kd.aM | apply Kd.aW)); exact HO302.out) (by decide)) hk (fun _ h => h.2)) (fun _ h => h.1)); have n2_ := aj.mk (Kd.bO (Kd.eP (av.apart (show av w _ g299 t296 t306 t307 from by repeat (first | (with_reducible first | exact HI299.out | apply av.alloc | apply av.drewN | apply av.drew | apply av.bX | apply av.bW | refine av.far ?_ NB299_295.out _) | exact HI299.out)) (by (with_reducible repeat (first | apply Kd.aN | apply Kd.aM | apply Kd.aW)); exact HO310.out) (by decide)) hk (fun _ h => h.2)) (fun _ h => h.1)); have n3_ := aj.mk (hb); have n4_ := aj.mk (hi); clear BK295; clear HO302; clear HO310; clear HB; clear HI299; have BK295 := n0_; have HO302 := n1_; have HO310 := n2_; have HB := n3_; have HI299 := n4_; clear n0_ n1_ n2_ n3_ n4_; (try clear hb); (try clear hb2); (try clear hk); (try clear hi)) | ((with_reducible refine dz (N := 6) rfl ?_); refine dD ?hg (N := 6) ?hd (cs := #[.string (⟨#[]⟩ : ByteArray), .int .i64 0]) (t := 31) ?hr ?_; (case hd => rfl); (case hg => rfl); (case hr => first | (go_simp; done) | (go_simp; rfl)); intro gb314 hg w14 hbox hb; have n0_ := aj.mk (Kd.bY (Kd.nJ (by (with_reducible repeat (first | apply Kd.aN | apply Kd.aM | apply Kd.aW)); exact HO302.out) gb314 (Nat.le_of_eq hg.symm)) hb); have n1_ := aj.mk (Kd.bY (by (with_reducible repeat (first | apply Kd.aN | apply Kd.aM | apply Kd.aW)); exact HO310.out) hb); have n2_ := aj.mk (bI (g := gb295) (o := .cells #[.string (⟨#[]⟩ : ByteArray), .int .i64 0] 31 (0, 0)) (by (with_reducible repeat (first | refine aA ?_ _ | refine aD ?_ | refine aC ?_ _)); exact BK295.out) hb); have n3_ := aj.mk (av.below (by repeat (first | (with_reducible first | exact HI299.out | apply av.alloc | apply av.drewN | apply av.drew | apply av.bX | apply av.bW | refine av.far ?_ NB299_295.out _) | exact HI299.out)) hb); have n4_ := aj.mk (aY (by repeat (first | (with_reducible first | exact HB.out | apply au | apply ah | apply ak | refine ay ?_ (av.ge HI299.out) | refine ay ?_ GE295.out) | exact HB.out)) hb); have n5_ := aj.mk (hbox); have n6_ := aj.mk ((by rw [hg]; exact (bf (by repeat (first | (with_reducible first | exact HB.out | apply au | apply ah | apply ak | refine ay ?_ (av.ge HI299.out) | refine ay ?_ GE295.out) | exact HB.out))) : w.heap.size ≤ gb314)); have n7_ := aj.mk ((by rw [hg]; exact (bf (by repeat (first | (with_reducible first | exact HB.out | apply au | apply ah | apply ak | refine ay ?_ (av.ge HI299.out) | refine ay ?_ GE295.out) | exact HB.out))) : w.heap.size ≤ gb314)); have n8_ := aj.mk ((by rw [hg]; exact Nat.ne_of_lt (gL (g := gb295) (o := .cells #[.string (⟨#[]⟩ : ByteArray), .int .i64 0] 31 (0, 0)) (by (with_reducible repeat (first | refine aA ?_ _ | refine aD ?_ | refine aC ?_ _)); exact BK295.out)) : gb295 ≠ gb314)); have n9_ := aj.mk ((by rw [hg]; exact Nat.ne_of_gt (gL (g := gb295) (o := .cells #[.string (⟨#[]⟩ : ByteArray), .int .i64 0] 31 (0, 0)) (by (with_reducible repeat (first | refine aA ?_ _ | refine aD ?_ | refine aC ?_ _)); exact BK295.out)) : gb314 ≠ gb295)); have n10_ := aj.mk ((by rw [hg]; exact Nat.ne_of_lt (av.lt (show av w _ g299 t296 t312 t313 from by repeat (first | (with_reducible first | exact HI299.out | apply av.alloc | apply av.drewN | apply av.drew | apply av.bX | apply av.bW | refine av.far ?_ NB299_295.out _) | exact HI299.out))) : g299 ≠ gb314)); have n11_ := aj.mk ((by rw [hg]; exact Nat.ne_of_gt (av.lt (show av w _ g299 t296 t312 t313 from by repeat (first | (with_reducible first | exact HI299.out | apply av.alloc | apply av.drewN | apply av.drew | apply av.bX | apply av.bW | refine av.far ?_ NB299_295.out _) | exact HI299.out))) : gb314 ≠ g299)); clear HO302; clear HO310; clear BK295; clear HI299; clear HB; have HO302 := n0_; have HO310 := n1_; have BK295 := n2_; have HI299 := n3_; have HB := n4_; have BK314 := n5_; have GW314 := n6_; have GE314 := n7_; have NB295_314 := n8_; have NB314_295 := n9_; have NB299_314 := n10_; have NB314_299 := n11_; clear n0_ n1_ n2_ n3_ n4_ n5_ n6_ n7_ n8_ n9_ n10_ n11_; clear hb hbox hg; have hnb15 := NB314_295.out; have hnc15 := NB295_314.out; have hnb16 := NB314_299.out; have hnc16 := NB299_314.out; have hcz17_0 : w14.cell? ⟨gb314, 0, none⟩ = some (.string (⟨#[]⟩ : ByteArray)) := (aT BK314.out 0).trans rfl; have hcz17_1 : w14.cell? ⟨gb314, 1, none⟩ = some (.int .i64 0) := (aT BK314.out 1).trans rfl; have hfz17_0 := bG BK314.out 0; have hfz17_1 := bG BK314.out 1))
 have n0_ : aj (Kd.R k31 31 ((w14.setCell ⟨gb314, 0, none⟩ (.string t305)).setCell ⟨gb314, 1, none⟩ (.int .i64 t311)) w.heap.size (fun k_ => k_ ≠ gb295 ∧ k_ ≠ gb314) v301 t300) := ⟨by (with_reducible repeat (first | apply Kd.aN | apply Kd.aM | apply Kd.aW)); exact Kd.bO (Kd.iP (p := ⟨gb314, 1, none⟩) (Kd.iP (p := ⟨gb314, 0, none⟩) (Kd.bO HO302.out (fun k_ hk => (⟨hk, hk.2⟩ : _ ∧ k_ ≠ gb314))) (fun _ hk => hk.2) (.string t305)) (fun _ hk => hk.2) (.int .i64 t311)) (fun _ hk => ⟨hk.1.1.2, hk.1.2⟩)⟩
 have n1_ : aj (Kd.R (Kd.int .i64) 3 ((w14.setCell ⟨gb314, 0, none⟩ (.string t305)).setCell ⟨gb314, 1, none⟩ (.int .i64 t311)) w.heap.size (fun _ => True) (.slice Ao12 y308.length co12) y308) := ⟨by (with_reducible repeat (first | apply Kd.aN | apply Kd.aM | apply Kd.aW)); exact Kd.bO (Kd.iP (p := ⟨gb314, 1, none⟩) (Kd.iP (p := ⟨gb314, 0, none⟩) (Kd.j6 HO310.out BK314.out (by decide)) (fun _ hk => hk.2) (.string t305)) (fun _ hk => hk.2) (.int .i64 t311)) (fun _ hk => trivial)⟩
 have n2_ : aj (((w14.setCell ⟨gb314, 0, none⟩ (.string t305)).setCell ⟨gb314, 1, none⟩ (.int .i64 t311)).heap[gb295]? = some (.cells #[.string (⟨#[]⟩ : ByteArray), .int .i64 0] 31 (0, 0))) := ⟨by (with_reducible repeat (first | refine aA ?_ _ | refine aD ?_ | refine aC ?_ _)); refine mX ?_ NB295_314.out _; (with_reducible repeat (first | refine aA ?_ _ | refine aD ?_ | refine aC ?_ _)); refine mX ?_ NB295_314.out _; (with_reducible repeat (first | refine aA ?_ _ | refine aD ?_ | refine aC ?_ _)); exact BK295.out⟩
 have n3_ : aj (((w14.setCell ⟨gb314, 0, none⟩ (.string t305)).setCell ⟨gb314, 1, none⟩ (.int .i64 t311)).heap[gb314]? = some (.cells #[.string t305, .int .i64 t311] 31 (0, 0))) := ⟨by (with_reducible repeat (first | refine aA ?_ _ | refine aD ?_ | refine aC ?_ _)); refine fB (cs := #[.string t305, .int .i64 0]) ?_ 1 _ rfl; (with_reducible repeat (first | refine aA ?_ _ | refine aD ?_ | refine aC ?_ _)); refine fB (cs := #[.string (⟨#[]⟩ : ByteArray), .int .i64 0]) ?_ 0 _ rfl; (with_reducible repeat (first | refine aA ?_ _ | refine aD ?_ | refine aC ?_ _)); exact BK314.out⟩
 have n4_ : aj (av w ((w14.setCell ⟨gb314, 0, none⟩ (.string t305)).setCell ⟨gb314, 1, none⟩ (.int .i64 t311)) g299 t296 t312 t313) := ⟨by repeat (first | (with_reducible first | exact HI299.out | apply av.alloc | apply av.drewN | apply av.drew | apply av.bX | apply av.bW | refine av.far ?_ NB299_295.out _ | refine av.far ?_ NB299_314.out _) | exact HI299.out)⟩
 have n5_ : aj (Below w.heap.size w ((w14.setCell ⟨gb314, 0, none⟩ (.string t305)).setCell ⟨gb314, 1, none⟩ (.int .i64 t311))) := ⟨by repeat (first | (with_reducible first | exact HB.out | apply au | apply ah | apply ak | refine ay ?_ (av.ge HI299.out) | refine ay ?_ GE295.out | refine ay ?_ GE314.out) | exact HB.out)⟩
 (try clear HO302)
 (try clear HO310)
 (try clear BK295)
 (try clear BK314)
 (try clear HI299)
 (try clear HB)
 generalize ((w14.setCell ⟨gb314, 0, none⟩ (.string t305)).setCell ⟨gb314, 1, none⟩ (.int .i64 t311)) = w18 at n0_ n1_ n2_ n3_ n4_ n5_ ⊢
 have HO302 := n0_
 have HO310 := n1_
 have BK295 := n2_
 have BK314 := n3_
 have HI299 := n4_
 have HB := n5_
 clear n0_ n1_ n2_ n3_ n4_ n5_
 have n0_ := aj.mk (Kd.aW HO302.out)
 have n1_ := aj.mk (Kd.aW HO310.out)
 have n2_ := aj.mk (aD BK295.out)
 have n3_ := aj.mk (aD BK314.out)
 have n4_ := aj.mk (av.drew HI299.out)
 have n5_ := aj.mk (ak HB.out)
 clear HO302
 clear HO310
 clear BK295
 clear BK314
 clear HI299
 clear HB
 have HO302 := n0_
 have HO310 := n1_
 have BK295 := n2_
 have BK314 := n3_
 have HI299 := n4_
 have HB := n5_
 clear n0_ n1_ n2_ n3_ n4_ n5_
 refine fK (n := 4) (S := fun w' => w'.cell? ⟨gb314, 0, none⟩ = some (.string t305) ∧ w'.cell? ⟨gb314, 1, none⟩ = some (.int .i64 t311)) (ds := []) #[false, false, false, false] (by kernel_rfl) rfl rfl ⟨(aT BK314.out 0).trans rfl, (aT BK314.out 1).trans rfl⟩ (fun hHeld => ?_)
 generalize w18.drew = w19 at HO302 HO310 BK295 BK314 HI299 HB hHeld ⊢
 refine aX (i := 0) (N := some 17) (v := ?_) (a' := ?_) #[true, false, false, false] rfl rfl (by kernel_rfl) (fun _ _ _ h => h) (Or.inl ⟨by rfl, ?_⟩) ?_ ?_
 rotate_left
 ·intro w'
  go_simp
  with_reducible rfl
 rotate_left
 ·simp only [Act.put, List.setIfInBounds_toArray, List.set_cons_zero, List.set_cons_succ, aG, aH]
  rfl
 refine aX (i := 2) (N := some 2) (v := ?_) (a' := ?_) #[true, false, true, false] rfl rfl (by kernel_rfl) (fun _ _ _ h => h) (Or.inl ⟨by rfl, ?_⟩) ?_ ?_
 rotate_left
 ·intro w'
  go_simp
  with_reducible rfl
 rotate_left
 ·simp only [Act.put, List.setIfInBounds_toArray, List.set_cons_zero, List.set_cons_succ, aG, aH]
  rfl
 refine eO (i := 1) (N := some 18) (v := ?_) (a' := ?_) #[true, true, true, false] rfl rfl (by kernel_rfl) (fun _ _ _ h => h) (Or.inl ⟨by rfl, ?_⟩) hHeld ?_ ?_
 rotate_left
 ·rintro w' ⟨s0, s1⟩
  go_simp
  with_reducible rfl
 rotate_left
 ·simp only [Act.put, List.setIfInBounds_toArray, List.set_cons_zero, List.set_cons_succ, aG, aH]
  rfl
 refine fE (i := 3) (N := none) #[true, true, true, true] rfl rfl (by kernel_rfl) (by decide) (fun K hK => ?_)
 have hs20 : w19.cell? ⟨gb295, 0, none⟩ = some (.string (⟨#[]⟩ : ByteArray)) := (aT BK295.out 0).trans rfl
 have hfs20 := bG BK295.out 0
 have hns20_1 := NB314_295.out
 have hms20_1 := NB295_314.out
 have hs21 : w19.cell? ⟨gb295, 1, none⟩ = some (.int .i64 0) := (aT BK295.out 1).trans rfl
 have hfs21 := bG BK295.out 1
 have hns21_1 := NB314_295.out
 have hms21_1 := NB295_314.out
 refine sj (w1 := ?_) (by rfl) rfl ?_ ?_
 rotate_left
 ·go_simp
  rfl
 refine hK.out _ _ ⟨((cell_far (p := ⟨gb295, _, none⟩) NB314_295.out _).trans (((cell_far (p := ⟨gb295, _, none⟩) NB314_295.out _).trans (hHeld.1)))), ((cell_far (p := ⟨gb295, _, none⟩) NB314_295.out _).trans (((cell_far (p := ⟨gb295, _, none⟩) NB314_295.out _).trans (hHeld.2))))⟩ (fun hHeld => ?_)
 clear hK K
 refine gU (by kernel_rfl) ?_
 try go_wp2
 refine bodyPost_ret (oP rfl _ _ gb295 31 #[.string t305, .int .i64 t311] (0, 0) _ rfl (by (with_reducible repeat (first | refine aA ?_ _ | refine aD ?_ | refine aC ?_ _)); refine fB (cs := #[.string t305, .int .i64 0]) ?_ 1 _ rfl; (with_reducible repeat (first | refine aA ?_ _ | refine aD ?_ | refine aC ?_ _)); refine fB (cs := #[.string (⟨#[]⟩ : ByteArray), .int .i64 0]) ?_ 0 _ rfl; (with_reducible repeat (first | refine aA ?_ _ | refine aD ?_ | refine aC ?_ _)); exact BK295.out) Try.underlying31 rfl (by kernel_rfl)) rfl ?_
 exact ⟨_, by first | rfl | (simp [bA, bB] <;> rfl) | (simp [*, bA, bB] <;> rfl), by (with_reducible repeat (first | apply Kd.aN | apply Kd.aM | apply Kd.aW)); exact Kd.bO (Kd.iP (p := ⟨gb295, 1, none⟩) (Kd.iP (p := ⟨gb295, 0, none⟩) (Kd.bO HO302.out (fun k_ hk => (⟨hk, hk.1⟩ : _ ∧ k_ ≠ gb295))) (fun _ hk => hk.2) (.string t305)) (fun _ hk => hk.2) (.int .i64 t311)) (fun _ hk => trivial), by repeat (first | (with_reducible first | exact HB.out | apply au | apply ah | apply ak | refine ay ?_ (av.ge HI299.out) | refine ay ?_ GE295.out | refine ay ?_ GE314.out) | exact HB.out)⟩
def cO.f (k : Nat) (l0 : List (S31)) (a1 : ByteArray) (a2 : Int) : Option (Bool) := (eF.f k l0 a1 a2).bind fun t315 => (some t315)
set_option maxHeartbeats 8000000 in
set_option maxRecDepth 100000 in
theorem cO.calls (k : Nat) (A0 : Option Addr) (c0 : Nat) (l0 : List (S31)) (a1 : ByteArray) (a2 : Int) (r : Bool) (w : World) (hr0 : Kd.C k31 w A0 l0.length l0) (hc0 : l0.length ≤ c0) (h : cO.f k l0 a1 a2 = some r) :
  Calls Try.prog 22 #[.slice A0 l0.length c0, .string a1, .int .i64 a2] w fun e w' => e = .returned (.bool r) ∧ Below w.heap.size w w' := by
 have hu31 := Try.underlying31
 have HR0 := aj.mk hr0
 have HC0 := aj.mk hc0
 clear hr0 hc0
 have HB := aj.mk (Below.refl w.heap.size w)
 have H : ((eF.f k l0 a1 a2).bind fun t315 => (some t315)) = some r := h
 clear h
 replace H := Option.bind_eq_some_iff.mp H
 obtain ⟨t315, A40, H⟩ := H
 replace H : (some t315) = some r := H
 have A4 := aj.mk A40
 clear A40
 obtain rfl := Option.some.inj H
 go_enter Try.func22, Try.ntmps22
 go_wp2_with (first | ((with_reducible refine bq (f := 54) rfl ?_); refine bT (some 11) rfl rfl Try.func54 (by kernel_rfl) rfl #[.slice A0 l0.length c0, .agg #[.string a1, .int .i64 a2]] rfl (by (try simp only [List.map_toArray, List.map_cons, List.map_nil]); first | done | rfl | (simp only [List.length_drop, List.length_take]; rfl)) ?_; (with_reducible refine (eF.calls k _ _ l0 a1 a2 t315 _ ?side1 ?side2 A4.out).mono ?_); (case side1 => repeat (first | exact HR0.out | (with_reducible refine Kd.bU ?_ _) | (with_reducible refine Kd.bV ?_ _) | (with_reducible refine Kd.cB ?_))); (case side2 => exact HC0.out); rintro e w5 ⟨rfl, hb⟩; refine ⟨_, rfl, ?_⟩; have n0_ := aj.mk (aY (by repeat (first | (with_reducible first | exact HB.out | apply au | apply ah | apply ak) | exact HB.out)) hb); clear HB; have HB := n0_; clear n0_; (try clear hb); (try clear hb2); (try clear hk); (try clear hi)))
 go_ret
 exact ⟨by first | rfl | (simp [bA, bB] <;> rfl) | (simp [*, bA, bB] <;> rfl), by repeat (first | (with_reducible first | exact HB.out | apply au | apply ah | apply ak) | exact HB.out)⟩
def cu.l0 : Nat → ByteArray → List Int → List (S31) → Int → Int → Option (List Int)
 | 0, _, _, _, _, _ => none
 | k + 1, x1, x5, x8, x9, x10 => if x10 < x9 then (if 0 ≤ x10 then (if x10 < (x8.length : Int) then (if ((aJ x8 x10).f0).toList = x1.toList then (if x5.length < 17592186044416 then (cu.l0 k x1 (x5 ++ [(aJ x8 x10).f1]) x8 x9 (wrap64 (x10 + 1))) else (none)) else (cu.l0 k x1 x5 x8 x9 (wrap64 (x10 + 1)))) else (none)) else (none)) else (some x5)
def cu.f (k : Nat) (l0 : List (S31)) (a1 : ByteArray) : Option (List Int) := cu.l0 k a1 ([] : List Int) l0 (l0.length : Int) 0
set_option maxHeartbeats 8000000 in
set_option maxRecDepth 100000 in
theorem cu.calls (k : Nat) (A0 : Option Addr) (c0 : Nat) (l0 : List (S31)) (a1 : ByteArray) (r : List Int) (w : World) (hr0 : Kd.C k31 w A0 l0.length l0) (hc0 : l0.length ≤ c0) (h : cu.f k l0 a1 = some r) :
  Calls Try.prog 25 #[.slice A0 l0.length c0, .string a1] w fun e w' => ∃ v0_ : Value, e = .returned (v0_) ∧ Kd.R (Kd.int .i64) 3 w' w.heap.size (fun _ => True) v0_ r ∧ Below w.heap.size w w' := by
 have hu31 := Try.underlying31
 have HR0 := aj.mk hr0
 have HC0 := aj.mk hc0
 clear hr0 hc0
 have HB := aj.mk (Below.refl w.heap.size w)
 have H : (cu.l0 k a1 ([] : List Int) l0 (l0.length : Int) 0) = some r := h
 clear h
 have H' := aj.mk H
 clear H
 go_enter Try.func25, Try.ntmps25
 go_wp2
 go_loopg [5, 10] k (fun kq v5 v10 w' => ∃ (x5_1 : List Int) (x10_1 : Int), v10 = .int .i64 x10_1 ∧ aj (cu.l0 kq a1 x5_1 l0 (l0.length : Int) x10_1 = some r) ∧ aj (kq ≤ k) ∧ aj (Kd.R (Kd.int .i64) 3 w' w.heap.size (fun _ => True) v5 x5_1) ∧ aj (Below w.heap.size w w'))
 case atStart => exact ⟨(([] : List Int)), (0), (by first | rfl | (simp; done) | (simp [*]; done)), H', ⟨Nat.le_refl _⟩, ⟨by first | exact Kd.nM _ _ _ _ _ | exact Kd.rE _ _ _ _ _ | exact Kd.q9 _ _ _ _ _ | exact Kd.rG _ _ _ _ _ | exact Kd.rz _ _ _ _ _⟩, ⟨by repeat (first | (with_reducible first | exact HB.out | apply au | apply ah | apply ak) | exact HB.out)⟩⟩
 case round =>
  clear H'
  obtain ⟨x5_1, x10_1, rfl, HA, HK1, HO_5, HB⟩ := hrel
  cases gk with
  | zero => exact absurd HA.out (by simp [cu.l0])
  | succ k1 =>
   have H := HA.out
   clear HA
   simp only [cu.l0] at H
   by_cases c3 : x10_1 < (l0.length : Int)
   ·rw [if_pos c3] at H
    have c3b0 : decide (x10_1 < (l0.length : Int)) = true := decide_eq_true c3
    clear c3
    by_cases c4 : 0 ≤ x10_1
    ·rw [if_pos c4] at H
     have c4b0 : decide (0 ≤ x10_1) = true := decide_eq_true c4
     clear c4
     by_cases c5 : x10_1 < (l0.length : Int)
     ·rw [if_pos c5] at H
      have c5b0 : decide (x10_1 < (l0.length : Int)) = true := decide_eq_true c5
      clear c5
      by_cases c6 : ((aJ l0 x10_1).f0).toList = a1.toList
      ·rw [if_pos c6] at H
       have c6b0 : (((aJ l0 x10_1).f0).toList == a1.toList) = true := beq_iff_eq.mpr c6
       have c6b1 : (((aJ l0 x10_1).f0).toList != a1.toList) = false := bne_eq_false_iff_eq.mpr c6
       clear c6
       by_cases c7 : x5_1.length < 17592186044416
       ·rw [if_pos c7] at H
        have LMc7 := aj.mk c7
        clear c7
        obtain ⟨y318, hy318⟩ : ∃ y_ : List Int, y_ = (x5_1 ++ [(aJ l0 x10_1).f1]) := ⟨_, rfl⟩
        replace H : (cu.l0 k1 a1 y318 l0 (l0.length : Int) (wrap64 (x10_1 + 1))) = some r := by first | (rw [hy318]; with_reducible exact H) | (have H2_ := (Option.bind_some _ _).symm.trans H; rw [hy318]; with_reducible exact H2_) | (have H2_ := (Option.bind_some _ _).symm.trans H; with_reducible exact H2_) | with_reducible exact H | (rw [hy318]; exact H) | exact H
        have Ny318 := aj.mk hy318
        clear hy318
        have H' := aj.mk H
        clear H
        have p316 : 0 ≤ (x10_1 : Int) := of_decide_eq_true (by first | (with_reducible assumption) | assumption)
        have q316 : x10_1 < (l0.length : Int) := of_decide_eq_true (by first | (with_reducible assumption) | assumption)
        obtain ⟨ad316, e316, hx316_0, hx316_1⟩ := eD HR0.out x10_1 p316 q316
        cases e316
        try replace hx316_0 := (HB.out.cell (World.block_lt_of_cell? w _ hx316_0)).trans hx316_0
        try replace hx316_1 := (HB.out.cell (World.block_lt_of_cell? w _ hx316_1)).trans hx316_1
        replace p316 := eq_true p316
        replace q316 := eq_true q316
        go_wp2_with (first | ((with_reducible refine dz (N := 7) rfl ?_); refine dD ?hg (N := 7) ?hd (cs := #[.string (⟨#[]⟩ : ByteArray), .int .i64 0]) (t := 31) ?hr ?_; (case hd => rfl); (case hg => rfl); (case hr => first | (go_simp; done) | (go_simp; rfl)); intro gb317 hg w8 hbox hb; have n0_ := aj.mk (Kd.bY (by (with_reducible repeat (first | apply Kd.aN | apply Kd.aM | apply Kd.aW)); exact HO_5.out) hb); have n1_ := aj.mk (aY (by repeat (first | (with_reducible first | exact HB.out | apply au | apply ah | apply ak) | exact HB.out)) hb); have n2_ := aj.mk (hbox); have n3_ := aj.mk ((by rw [hg]; exact (bf (by repeat (first | (with_reducible first | exact HB.out | apply au | apply ah | apply ak) | exact HB.out))) : w.heap.size ≤ gb317)); have n4_ := aj.mk ((by rw [hg]; exact (bf (by repeat (first | (with_reducible first | exact HB.out | apply au | apply ah | apply ak) | exact HB.out))) : w.heap.size ≤ gb317)); clear HO_5; clear HB; have HO_5 := n0_; have HB := n1_; have BK317 := n2_; have GW317 := n3_; have GE317 := n4_; clear n0_ n1_ n2_ n3_ n4_; clear hb hbox hg; have hcz9_0 : w8.cell? ⟨gb317, 0, none⟩ = some (.string (⟨#[]⟩ : ByteArray)) := (aT BK317.out 0).trans rfl; have hcz9_1 : w8.cell? ⟨gb317, 1, none⟩ = some (.int .i64 0) := (aT BK317.out 1).trans rfl; have hfz9_0 := bG BK317.out 0; have hfz9_1 := bG BK317.out 1) | ((with_reducible refine gX (b := .append) (xs := #[.tmp 18, .tmp 21]) rfl ?_); at_builtin; refine Kd.j5 (Kd.int .i64) (w0 := w) w.heap.size rfl (.tmp 18) (.tmp 21) 45 3 (.int .i64 0) 8 rfl Try.underlying45 info3 rfl (by decide) (by omega) u5 x5_1 ((aJ l0 x10_1).f1) [.int .i64 ((aJ l0 x10_1).f1)] (fun _ => True) (fun _ => False) rfl (by first | (go_simp; done) | (go_simp; rfl)) ?aP (fun _ hk => hk.elim) ?aF ?aO ?aB ?aS ?aL ?_; (case aP => exact rfl); (case aB => exact (by repeat (first | (with_reducible first | exact HB.out | apply au | apply ah | apply ak | refine ay ?_ GE317.out) | exact HB.out))); (case aF => exact (fun _ _ => trivial)); (case aO => exact (by (with_reducible repeat (first | apply Kd.aN | apply Kd.aM | apply Kd.aW)); exact Kd.bO (Kd.iP (p := ⟨gb317, 1, none⟩) (Kd.iP (p := ⟨gb317, 0, none⟩) (Kd.j6 HO_5.out BK317.out (by decide)) (fun _ hk => hk.2) (.string ((aJ l0 x10_1).f0))) (fun _ hk => hk.2) (.int .i64 ((aJ l0 x10_1).f1))) (fun _ hk => trivial))); (case aS => exact (bf (by repeat (first | (with_reducible first | exact HB.out | apply au | apply ah | apply ak | refine ay ?_ GE317.out) | exact HB.out)))); (case aL => have := LMc7.out; omega); intro v319 w10 ho hb hg hat; rw [← Ny318.out] at ho; have n0_ := aj.mk (eG (g := gb317) (o := .cells #[.string ((aJ l0 x10_1).f0), .int .i64 ((aJ l0 x10_1).f1)] 31 (0, 0)) (by (with_reducible repeat (first | refine aA ?_ _ | refine aD ?_ | refine aC ?_ _)); refine fB (cs := #[.string ((aJ l0 x10_1).f0), .int .i64 0]) ?_ 1 _ rfl; (with_reducible repeat (first | refine aA ?_ _ | refine aD ?_ | refine aC ?_ _)); refine fB (cs := #[.string (⟨#[]⟩ : ByteArray), .int .i64 0]) ?_ 0 _ rfl; (with_reducible repeat (first | refine aA ?_ _ | refine aD ?_ | refine aC ?_ _)); exact BK317.out) hg (Kd.qL HO_5.out BK317.out (by decide))); have n1_ := aj.mk (hb); have n2_ := aj.mk (ho); clear BK317; clear HB; clear HO_5; have BK317 := n0_; have HB := n1_; have HO320 := n2_; clear n0_ n1_ n2_; clear ho hb hg hat))
        go_roundg k1
        case measure => have := HK1.out; omega
        case rel => exact ⟨(y318), (wrap64 (x10_1 + 1)), (by first | rfl | (simp; done) | (simp [*]; done)), H', ⟨by have := HK1.out; omega⟩, ⟨by (with_reducible repeat (first | apply Kd.aN | apply Kd.aM | apply Kd.aW)); exact HO320.out⟩, ⟨by repeat (first | (with_reducible first | exact HB.out | apply au | apply ah | apply ak | refine ay ?_ GE317.out) | exact HB.out)⟩⟩
       ·rw [if_neg c7] at H
        exact absurd H (by simp)
      ·rw [if_neg c6] at H
       have c6b0 : (((aJ l0 x10_1).f0).toList == a1.toList) = false := beq_eq_false_iff_ne.mpr c6
       have c6b1 : (((aJ l0 x10_1).f0).toList != a1.toList) = true := bne_iff_ne.mpr c6
       have H' := aj.mk H
       clear H
       have p316 : 0 ≤ (x10_1 : Int) := of_decide_eq_true (by first | (with_reducible assumption) | assumption)
       have q316 : x10_1 < (l0.length : Int) := of_decide_eq_true (by first | (with_reducible assumption) | assumption)
       obtain ⟨ad316, e316, hx316_0, hx316_1⟩ := eD HR0.out x10_1 p316 q316
       cases e316
       try replace hx316_0 := (HB.out.cell (World.block_lt_of_cell? w _ hx316_0)).trans hx316_0
       try replace hx316_1 := (HB.out.cell (World.block_lt_of_cell? w _ hx316_1)).trans hx316_1
       replace p316 := eq_true p316
       replace q316 := eq_true q316
       go_wp2_with (first | ((with_reducible refine dz (N := 7) rfl ?_); refine dD ?hg (N := 7) ?hd (cs := #[.string (⟨#[]⟩ : ByteArray), .int .i64 0]) (t := 31) ?hr ?_; (case hd => rfl); (case hg => rfl); (case hr => first | (go_simp; done) | (go_simp; rfl)); intro gb317 hg w11 hbox hb; have n0_ := aj.mk (Kd.bY (by (with_reducible repeat (first | apply Kd.aN | apply Kd.aM | apply Kd.aW)); exact HO_5.out) hb); have n1_ := aj.mk (aY (by repeat (first | (with_reducible first | exact HB.out | apply au | apply ah | apply ak) | exact HB.out)) hb); have n2_ := aj.mk (hbox); have n3_ := aj.mk ((by rw [hg]; exact (bf (by repeat (first | (with_reducible first | exact HB.out | apply au | apply ah | apply ak) | exact HB.out))) : w.heap.size ≤ gb317)); have n4_ := aj.mk ((by rw [hg]; exact (bf (by repeat (first | (with_reducible first | exact HB.out | apply au | apply ah | apply ak) | exact HB.out))) : w.heap.size ≤ gb317)); clear HO_5; clear HB; have HO_5 := n0_; have HB := n1_; have BK317 := n2_; have GW317 := n3_; have GE317 := n4_; clear n0_ n1_ n2_ n3_ n4_; clear hb hbox hg; have hcz12_0 : w11.cell? ⟨gb317, 0, none⟩ = some (.string (⟨#[]⟩ : ByteArray)) := (aT BK317.out 0).trans rfl; have hcz12_1 : w11.cell? ⟨gb317, 1, none⟩ = some (.int .i64 0) := (aT BK317.out 1).trans rfl; have hfz12_0 := bG BK317.out 0; have hfz12_1 := bG BK317.out 1))
       go_roundg k1
       case measure => have := HK1.out; omega
       case rel => exact ⟨(x5_1), (wrap64 (x10_1 + 1)), (by first | rfl | (simp; done) | (simp [*]; done)), H', ⟨by have := HK1.out; omega⟩, ⟨by (with_reducible repeat (first | apply Kd.aN | apply Kd.aM | apply Kd.aW)); exact Kd.bO (Kd.iP (p := ⟨gb317, 1, none⟩) (Kd.iP (p := ⟨gb317, 0, none⟩) (Kd.j6 HO_5.out BK317.out (by decide)) (fun _ hk => hk.2) (.string ((aJ l0 x10_1).f0))) (fun _ hk => hk.2) (.int .i64 ((aJ l0 x10_1).f1))) (fun _ hk => trivial)⟩, ⟨by repeat (first | (with_reducible first | exact HB.out | apply au | apply ah | apply ak | refine ay ?_ GE317.out) | exact HB.out)⟩⟩
     ·rw [if_neg c5] at H
      exact absurd H (by simp)
    ·rw [if_neg c4] at H
     exact absurd H (by simp)
   ·rw [if_neg c3] at H
    have c3b0 : decide (x10_1 < (l0.length : Int)) = false := decide_eq_false c3
    clear c3
    obtain rfl := Option.some.inj H
    go_wp2
    go_ret
    exact ⟨_, by first | rfl | (simp [bA, bB] <;> rfl) | (simp [*, bA, bB] <;> rfl), by (with_reducible repeat (first | apply Kd.aN | apply Kd.aM | apply Kd.aW)); exact HO_5.out, by repeat (first | (with_reducible first | exact HB.out | apply au | apply ah | apply ak) | exact HB.out)⟩
end Go.Proofs.Ythjcicmmbmagbaa.PFnSenses
