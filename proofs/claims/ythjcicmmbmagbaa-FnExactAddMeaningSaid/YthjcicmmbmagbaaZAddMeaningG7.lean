/- Walks of functions: what each computes. -/
import Derived.Test.YthjcicmmbmagbaaZAddMeaningG0
import Derived.Test.YthjcicmmbmagbaaZAddMeaningG2
import Derived.Test.YthjcicmmbmagbaaZAddMeaningG3
import Derived.Test.YthjcicmmbmagbaaZAddMeaningG5
import Derived.Test.YthjcicmmbmagbaaZAddMeaningG6
import Derived.Test.YthjcicmmbmagbaaZAddMeaningW
import Derived.Test.YthjcicmmbmagbaaZAddMeaningHandSort
import Derived.Test.YthjcicmmbmagbaaZAddMeaningHandForm
import Derived.Test.YthjcicmmbmagbaaZAddMeaningHandAlone
import Derived.Test.YthjcicmmbmagbaaZAddMeaningHandIns
namespace Go.Proofs.Ythjcicmmbmagbaa.PFnExactAddMeaning
open Go.RowKit Go.Proofs.YthjcicmmbmagbaaW.PrintWords Go.Proofs.YthjcicmmbmagbaaW.PrintLast Go.Proofs.YthjcicmmbmagbaaW.PrintMore
attribute [local go_sem] gF gu gN gM fO fP gB gy
set_option linter.unusedVariables false
set_option linter.unusedSimpArgs false
mutual
def av.j0 : Nat → List (S24) → List (S31) → Bool → List (S31) → List (S31) → Bool → Bool → ByteArray → Int → Option (Bool)
 | 0, _, _, _, _, _, _, _, _, _ => none
 | k + 1, x0, x6, x7, x8, x9, x10, x51, x219000, x219001 => if x51 = true then (some false) else ((bE.f k x0).bind fun t240 => ((bg.f k x8 t240).bind fun t243 => (if t243 = true then ((bH.f k x8 1).bind fun bt244 => (if bt244.1 < 0 then (av.j1 k x0 x6 x7 x9 true x219000 x219001) else ((bg.f k x9 x6).bind fun t246 => (if t246 = true then (av.j1 k x0 x6 x7 x9 (x10 != x7) x219000 x219001) else (av.j1 k x0 x6 x7 x9 true x219000 x219001))))) else (some false))))
def av.j1 : Nat → List (S24) → List (S31) → Bool → List (S31) → Bool → ByteArray → Int → Option (Bool)
 | 0, _, _, _, _, _, _, _ => none
 | k + 1, x0, x6, x7, x9, x72, x219000, x219001 => if x72 = true then (some false) else ((bH.f k x9 1).bind fun bt247 => ((bC.f k bt247.2 1).bind fun t249 => (if t249 < 0 then (some false) else (if t249 = bt247.1 then ((bE.f k x0).bind fun t250 => ((bJ.f x219000 x219001).bind fun bt253 => ((aV.f k t250 bt253.1 bt253.2).bind fun bt255 => ((bg.f k bt255.1 x6).bind fun t259 => (if t259 = true then (av.j2 k bt247.2 bt247.1 (bt255.2 != x7)) else (av.j2 k bt247.2 bt247.1 true)))))) else (some false)))))
def av.j2 : Nat → List (S31) → Int → Bool → Option (Bool)
 | 0, _, _, _ => none
 | k + 1, x9, x12, x100 => if x100 = true then (some false) else ((bC.f k x9 1).bind fun t260 => (if t260 < 0 then (some false) else (if t260 = x12 then (some true) else (some false))))
end
def av.f (k : Nat) (l0 : List (S24)) (pG : ByteArray) (pI : Int) : Option (Bool) := (bS.f k l0 1048576).bind fun t219 => (if t219 < 0 then (some true) else ((dH.f pG pI t219).bind fun t220 => (if t220 < 0 then (some true) else ((bE.f k l0).bind fun t221 => ((bJ.f pG pI).bind fun bt224 => ((bA.f k t221 bt224.1 bt224.2).bind fun bt226 => ((bE.f k l0).bind fun t230 => ((bJ.f pG pI).bind fun bt233 => ((aV.f k t230 bt233.1 bt233.2).bind fun bt235 => ((bg.f k bt235.1 bt226.1).bind fun t239 => (if t239 = true then (av.j0 k l0 bt226.1 bt226.2 t230 bt235.1 bt235.2 (bt235.2 != bt226.2) pG pI) else (av.j0 k l0 bt226.1 bt226.2 t230 bt235.1 bt235.2 true pG pI))))))))))))
def av.T8 : Bool × List (List Nat × List Nat) := (true, [([], []), ([0], [0]), ([], []), ([2, 1], [2]), ([1, 3, 3], [1, 3]), ([4], [4]), ([5], [5]), ([5], [5]), ([6, 4, 0, 1, 2, 3, 4, 5, 6], [6]), ([7, 8, 0, 1, 2, 3, 4, 5, 6, 7, 8], [7])])
def av.B8 : List Nat := [0, 1, 0, 7, 15, 31, 63, 63, 127, 511]
theorem av.pq : fT .any (opsOf Try.f3 8) = av.T8 := by kernel_rfl
theorem av.oZ : fH av.T8.2 av.B8 = true := by kernel_rfl
def av.T27 : Bool × List (List Nat × List Nat) := (true, [([], []), ([0], [0]), ([], []), ([2, 1], [2]), ([1, 3, 3], [1, 3]), ([4], [4]), ([5], [5]), ([5], [5]), ([6, 4, 0, 1, 2, 3, 4, 5, 6], [6]), ([7, 8, 0, 1, 2, 3, 4, 5, 6, 7, 8], [7])])
def av.B27 : List Nat := [0, 1, 0, 7, 15, 31, 63, 63, 127, 511]
theorem av.o7 : fT .any (opsOf Try.f3 27) = av.T27 := by kernel_rfl
theorem av.oP : fH av.T27.2 av.B27 = true := by kernel_rfl
set_option maxHeartbeats 8000000 in
set_option maxRecDepth 100000 in
theorem av.calls (k : Nat) (A0 : Option Addr) (c0 : Nat) (l0 : List (S24)) (pG : ByteArray) (pI : Int) (r : Bool) (w : World) (hr0 : Kd.C k24 w A0 l0.length l0) (hc0 : l0.length ≤ c0) (h : av.f k l0 pG pI = some r) :
  Calls Try.prog 3 #[.slice A0 l0.length c0, .agg #[.string pG, .int .i64 pI]] w fun e w' => e = .returned (.bool r) ∧ Below w.heap.size w w' := by
 have hu24 := Try.underlying24
 have HR0 := ak.mk hr0
 have HC0 := ak.mk hc0
 clear hr0 hc0
 have HB := ak.mk (Below.refl w.heap.size w)
 have H : ((bS.f k l0 1048576).bind fun t219 => (if t219 < 0 then (some true) else ((dH.f pG pI t219).bind fun t220 => (if t220 < 0 then (some true) else ((bE.f k l0).bind fun t221 => ((bJ.f pG pI).bind fun bt224 => ((bA.f k t221 bt224.1 bt224.2).bind fun bt226 => ((bE.f k l0).bind fun t230 => ((bJ.f pG pI).bind fun bt233 => ((aV.f k t230 bt233.1 bt233.2).bind fun bt235 => ((bg.f k bt235.1 bt226.1).bind fun t239 => (if t239 = true then (av.j0 k l0 bt226.1 bt226.2 t230 bt235.1 bt235.2 (bt235.2 != bt226.2) pG pI) else (av.j0 k l0 bt226.1 bt226.2 t230 bt235.1 bt235.2 true pG pI))))))))))))) = some r := h
 clear h
 replace H := Option.bind_eq_some_iff.mp H
 obtain ⟨t219, A30, H⟩ := H
 replace H : (if t219 < 0 then (some true) else ((dH.f pG pI t219).bind fun t220 => (if t220 < 0 then (some true) else ((bE.f k l0).bind fun t221 => ((bJ.f pG pI).bind fun bt224 => ((bA.f k t221 bt224.1 bt224.2).bind fun bt226 => ((bE.f k l0).bind fun t230 => ((bJ.f pG pI).bind fun bt233 => ((aV.f k t230 bt233.1 bt233.2).bind fun bt235 => ((bg.f k bt235.1 bt226.1).bind fun t239 => (if t239 = true then (av.j0 k l0 bt226.1 bt226.2 t230 bt235.1 bt235.2 (bt235.2 != bt226.2) pG pI) else (av.j0 k l0 bt226.1 bt226.2 t230 bt235.1 bt235.2 true pG pI)))))))))))) = some r := H
 have A3 := ak.mk A30
 clear A30
 by_cases c4 : t219 < 0
 ·rw [if_pos c4] at H
  have c4b0 : decide (t219 < 0) = true := decide_eq_true c4
  clear c4
  obtain rfl := Option.some.inj H
  go_enter Try.func3, Try.ntmps3
  go_wp2_with (first | ((with_reducible refine bX (N := 3) rfl ?_); refine bV ?hg (N := 3) ?hd (cs := #[.string pG, .int .i64 pI]) (t := 24) ?hr ?_; (case hd => rfl); (case hg => rfl); (case hr => first | (go_simp; done) | (go_simp; rfl)); intro gb218 hg w5 hbox hb; have n0_ := ak.mk (aX (by repeat (first | (with_reducible first | exact HB.out | apply au | apply ah | apply aj) | exact HB.out)) hb); have n1_ := ak.mk (hbox); have n2_ := ak.mk ((by rw [hg]; exact (aW (by repeat (first | (with_reducible first | exact HB.out | apply au | apply ah | apply aj) | exact HB.out))) : w.heap.size ≤ gb218)); have n3_ := ak.mk ((by rw [hg]; exact (aW (by repeat (first | (with_reducible first | exact HB.out | apply au | apply ah | apply aj) | exact HB.out))) : w.heap.size ≤ gb218)); clear HB; have HB := n0_; have BK218 := n1_; have GW218 := n2_; have GE218 := n3_; clear n0_ n1_ n2_ n3_; clear hb hbox hg) | ((with_reducible refine bG (f := 10) rfl ?_); refine dz (some 18) rfl rfl Try.func10 (by kernel_rfl) rfl #[.slice A0 l0.length c0, .int .i64 1048576] rfl (by (try simp only [List.map_toArray, List.map_cons, List.map_nil]); first | done | rfl | (simp only [List.length_drop, List.length_take]; rfl)) ?_; (with_reducible refine (bS.calls k _ _ l0 1048576 t219 _ ?side1 ?side2 A3.out).mono ?_); (case side1 => repeat (first | exact (Kd.dB HR0.out HB.out) | (with_reducible refine Kd.bK ?_ _) | (with_reducible refine Kd.bL ?_ _) | (with_reducible refine Kd.bW ?_))); (case side2 => exact HC0.out); rintro e w6 ⟨rfl, hb⟩; refine ⟨_, rfl, ?_⟩; have n0_ := ak.mk (bD (g := gb218) (o := .cells #[.string pG, .int .i64 pI] 24 (0, 0)) (by (with_reducible repeat (first | refine aG ?_ _ | refine aK ?_ | refine aD ?_ _)); exact BK218.out) hb); have n1_ := ak.mk (aX (by repeat (first | (with_reducible first | exact HB.out | apply au | apply ah | apply aj | refine ay ?_ GE218.out) | exact HB.out)) hb); clear BK218; clear HB; have BK218 := n0_; have HB := n1_; clear n0_ n1_; (try clear hb); (try clear hb2); (try clear hk); (try clear hi)))
  go_ret
  exact ⟨by first | rfl | (simp [bn, bq] <;> rfl) | (simp [*, bn, bq] <;> rfl), by repeat (first | (with_reducible first | exact HB.out | apply au | apply ah | apply aj | refine ay ?_ GE218.out) | exact HB.out)⟩
 ·rw [if_neg c4] at H
  have c4b0 : decide (t219 < 0) = false := decide_eq_false c4
  clear c4
  replace H := Option.bind_eq_some_iff.mp H
  obtain ⟨t220, A70, H⟩ := H
  replace H : (if t220 < 0 then (some true) else ((bE.f k l0).bind fun t221 => ((bJ.f pG pI).bind fun bt224 => ((bA.f k t221 bt224.1 bt224.2).bind fun bt226 => ((bE.f k l0).bind fun t230 => ((bJ.f pG pI).bind fun bt233 => ((aV.f k t230 bt233.1 bt233.2).bind fun bt235 => ((bg.f k bt235.1 bt226.1).bind fun t239 => (if t239 = true then (av.j0 k l0 bt226.1 bt226.2 t230 bt235.1 bt235.2 (bt235.2 != bt226.2) pG pI) else (av.j0 k l0 bt226.1 bt226.2 t230 bt235.1 bt235.2 true pG pI)))))))))) = some r := H
  have A7 := ak.mk A70
  clear A70
  by_cases c8 : t220 < 0
  ·rw [if_pos c8] at H
   have c8b0 : decide (t220 < 0) = true := decide_eq_true c8
   clear c8
   obtain rfl := Option.some.inj H
   go_enter Try.func3, Try.ntmps3
   go_wp2_with (first | ((with_reducible refine bX (N := 3) rfl ?_); refine bV ?hg (N := 3) ?hd (cs := #[.string pG, .int .i64 pI]) (t := 24) ?hr ?_; (case hd => rfl); (case hg => rfl); (case hr => first | (go_simp; done) | (go_simp; rfl)); intro gb218 hg w9 hbox hb; have n0_ := ak.mk (aX (by repeat (first | (with_reducible first | exact HB.out | apply au | apply ah | apply aj) | exact HB.out)) hb); have n1_ := ak.mk (hbox); have n2_ := ak.mk ((by rw [hg]; exact (aW (by repeat (first | (with_reducible first | exact HB.out | apply au | apply ah | apply aj) | exact HB.out))) : w.heap.size ≤ gb218)); have n3_ := ak.mk ((by rw [hg]; exact (aW (by repeat (first | (with_reducible first | exact HB.out | apply au | apply ah | apply aj) | exact HB.out))) : w.heap.size ≤ gb218)); clear HB; have HB := n0_; have BK218 := n1_; have GW218 := n2_; have GE218 := n3_; clear n0_ n1_ n2_ n3_; clear hb hbox hg) | ((with_reducible refine bG (f := 10) rfl ?_); refine dz (some 18) rfl rfl Try.func10 (by kernel_rfl) rfl #[.slice A0 l0.length c0, .int .i64 1048576] rfl (by (try simp only [List.map_toArray, List.map_cons, List.map_nil]); first | done | rfl | (simp only [List.length_drop, List.length_take]; rfl)) ?_; (with_reducible refine (bS.calls k _ _ l0 1048576 t219 _ ?side1 ?side2 A3.out).mono ?_); (case side1 => repeat (first | exact (Kd.dB HR0.out HB.out) | (with_reducible refine Kd.bK ?_ _) | (with_reducible refine Kd.bL ?_ _) | (with_reducible refine Kd.bW ?_))); (case side2 => exact HC0.out); rintro e w10 ⟨rfl, hb⟩; refine ⟨_, rfl, ?_⟩; have n0_ := ak.mk (bD (g := gb218) (o := .cells #[.string pG, .int .i64 pI] 24 (0, 0)) (by (with_reducible repeat (first | refine aG ?_ _ | refine aK ?_ | refine aD ?_ _)); exact BK218.out) hb); have n1_ := ak.mk (aX (by repeat (first | (with_reducible first | exact HB.out | apply au | apply ah | apply aj | refine ay ?_ GE218.out) | exact HB.out)) hb); clear BK218; clear HB; have BK218 := n0_; have HB := n1_; clear n0_ n1_; (try clear hb); (try clear hb2); (try clear hk); (try clear hi); have hcz11_0 : w10.cell? ⟨gb218, 0, none⟩ = some (.string pG) := (aM BK218.out 0).trans rfl; have hcz11_1 : w10.cell? ⟨gb218, 1, none⟩ = some (.int .i64 pI) := (aM BK218.out 1).trans rfl; have hfz11_0 := bB BK218.out 0; have hfz11_1 := bB BK218.out 1) | ((with_reducible refine bG (f := 11) rfl ?_); refine dz (some 23) rfl rfl Try.func11 (by kernel_rfl) rfl #[.agg #[.string pG, .int .i64 pI], .int .i64 t219] rfl (by (try simp only [List.map_toArray, List.map_cons, List.map_nil]); first | done | rfl | (simp only [List.length_drop, List.length_take]; rfl)) ?_; (with_reducible refine (dH.calls pG pI t219 t220 _ A7.out).mono ?_); rintro e w12 ⟨rfl, hb⟩; refine ⟨_, rfl, ?_⟩; have n0_ := ak.mk (bD (g := gb218) (o := .cells #[.string pG, .int .i64 pI] 24 (0, 0)) (by (with_reducible repeat (first | refine aG ?_ _ | refine aK ?_ | refine aD ?_ _)); exact BK218.out) hb); have n1_ := ak.mk (aX (by repeat (first | (with_reducible first | exact HB.out | apply au | apply ah | apply aj | refine ay ?_ GE218.out) | exact HB.out)) hb); clear BK218; clear HB; have BK218 := n0_; have HB := n1_; clear n0_ n1_; (try clear hb); (try clear hb2); (try clear hk); (try clear hi)))
   go_ret
   exact ⟨by first | rfl | (simp [bn, bq] <;> rfl) | (simp [*, bn, bq] <;> rfl), by repeat (first | (with_reducible first | exact HB.out | apply au | apply ah | apply aj | refine ay ?_ GE218.out) | exact HB.out)⟩
  ·rw [if_neg c8] at H
   have c8b0 : decide (t220 < 0) = false := decide_eq_false c8
   clear c8
   replace H := Option.bind_eq_some_iff.mp H
   obtain ⟨t221, A130, H⟩ := H
   replace H : ((bJ.f pG pI).bind fun bt224 => ((bA.f k t221 bt224.1 bt224.2).bind fun bt226 => ((bE.f k l0).bind fun t230 => ((bJ.f pG pI).bind fun bt233 => ((aV.f k t230 bt233.1 bt233.2).bind fun bt235 => ((bg.f k bt235.1 bt226.1).bind fun t239 => (if t239 = true then (av.j0 k l0 bt226.1 bt226.2 t230 bt235.1 bt235.2 (bt235.2 != bt226.2) pG pI) else (av.j0 k l0 bt226.1 bt226.2 t230 bt235.1 bt235.2 true pG pI)))))))) = some r := H
   have A13 := ak.mk A130
   clear A130
   replace H := Option.bind_eq_some_iff.mp H
   obtain ⟨⟨t224, t225⟩, A140, H⟩ := H
   replace H : ((bA.f k t221 t224 t225).bind fun bt226 => ((bE.f k l0).bind fun t230 => ((bJ.f pG pI).bind fun bt233 => ((aV.f k t230 bt233.1 bt233.2).bind fun bt235 => ((bg.f k bt235.1 bt226.1).bind fun t239 => (if t239 = true then (av.j0 k l0 bt226.1 bt226.2 t230 bt235.1 bt235.2 (bt235.2 != bt226.2) pG pI) else (av.j0 k l0 bt226.1 bt226.2 t230 bt235.1 bt235.2 true pG pI))))))) = some r := H
   have A14 := ak.mk A140
   clear A140
   replace H := Option.bind_eq_some_iff.mp H
   obtain ⟨⟨t226, t229⟩, A150, H⟩ := H
   replace H : ((bE.f k l0).bind fun t230 => ((bJ.f pG pI).bind fun bt233 => ((aV.f k t230 bt233.1 bt233.2).bind fun bt235 => ((bg.f k bt235.1 t226).bind fun t239 => (if t239 = true then (av.j0 k l0 t226 t229 t230 bt235.1 bt235.2 (bt235.2 != t229) pG pI) else (av.j0 k l0 t226 t229 t230 bt235.1 bt235.2 true pG pI)))))) = some r := H
   have A15 := ak.mk A150
   clear A150
   replace H := Option.bind_eq_some_iff.mp H
   obtain ⟨t230, A160, H⟩ := H
   replace H : ((bJ.f pG pI).bind fun bt233 => ((aV.f k t230 bt233.1 bt233.2).bind fun bt235 => ((bg.f k bt235.1 t226).bind fun t239 => (if t239 = true then (av.j0 k l0 t226 t229 t230 bt235.1 bt235.2 (bt235.2 != t229) pG pI) else (av.j0 k l0 t226 t229 t230 bt235.1 bt235.2 true pG pI))))) = some r := H
   have A16 := ak.mk A160
   clear A160
   replace H := Option.bind_eq_some_iff.mp H
   obtain ⟨⟨t233, t234⟩, A170, H⟩ := H
   replace H : ((aV.f k t230 t233 t234).bind fun bt235 => ((bg.f k bt235.1 t226).bind fun t239 => (if t239 = true then (av.j0 k l0 t226 t229 t230 bt235.1 bt235.2 (bt235.2 != t229) pG pI) else (av.j0 k l0 t226 t229 t230 bt235.1 bt235.2 true pG pI)))) = some r := H
   have A17 := ak.mk A170
   clear A170
   replace H := Option.bind_eq_some_iff.mp H
   obtain ⟨⟨t235, t238⟩, A180, H⟩ := H
   replace H : ((bg.f k t235 t226).bind fun t239 => (if t239 = true then (av.j0 k l0 t226 t229 t230 t235 t238 (t238 != t229) pG pI) else (av.j0 k l0 t226 t229 t230 t235 t238 true pG pI))) = some r := H
   have A18 := ak.mk A180
   clear A180
   have HC19 := ak.mk H
   clear H
   go_enter Try.func3, Try.ntmps3
   try go_wp2_with (first | ((with_reducible refine bX (N := 3) rfl ?_); refine bV ?hg (N := 3) ?hd (cs := #[.string pG, .int .i64 pI]) (t := 24) ?hr ?_; (case hd => rfl); (case hg => rfl); (case hr => first | (go_simp; done) | (go_simp; rfl)); intro gb218 hg w20 hbox hb; have n0_ := ak.mk (aX (by repeat (first | (with_reducible first | exact HB.out | apply au | apply ah | apply aj) | exact HB.out)) hb); have n1_ := ak.mk (hbox); have n2_ := ak.mk ((by rw [hg]; exact (aW (by repeat (first | (with_reducible first | exact HB.out | apply au | apply ah | apply aj) | exact HB.out))) : w.heap.size ≤ gb218)); have n3_ := ak.mk ((by rw [hg]; exact (aW (by repeat (first | (with_reducible first | exact HB.out | apply au | apply ah | apply aj) | exact HB.out))) : w.heap.size ≤ gb218)); clear HB; have HB := n0_; have BK218 := n1_; have GW218 := n2_; have GE218 := n3_; clear n0_ n1_ n2_ n3_; clear hb hbox hg) | ((with_reducible refine bG (f := 10) rfl ?_); refine dz (some 18) rfl rfl Try.func10 (by kernel_rfl) rfl #[.slice A0 l0.length c0, .int .i64 1048576] rfl (by (try simp only [List.map_toArray, List.map_cons, List.map_nil]); first | done | rfl | (simp only [List.length_drop, List.length_take]; rfl)) ?_; (with_reducible refine (bS.calls k _ _ l0 1048576 t219 _ ?side1 ?side2 A3.out).mono ?_); (case side1 => repeat (first | exact (Kd.dB HR0.out HB.out) | (with_reducible refine Kd.bK ?_ _) | (with_reducible refine Kd.bL ?_ _) | (with_reducible refine Kd.bW ?_))); (case side2 => exact HC0.out); rintro e w21 ⟨rfl, hb⟩; refine ⟨_, rfl, ?_⟩; have n0_ := ak.mk (bD (g := gb218) (o := .cells #[.string pG, .int .i64 pI] 24 (0, 0)) (by (with_reducible repeat (first | refine aG ?_ _ | refine aK ?_ | refine aD ?_ _)); exact BK218.out) hb); have n1_ := ak.mk (aX (by repeat (first | (with_reducible first | exact HB.out | apply au | apply ah | apply aj | refine ay ?_ GE218.out) | exact HB.out)) hb); clear BK218; clear HB; have BK218 := n0_; have HB := n1_; clear n0_ n1_; (try clear hb); (try clear hb2); (try clear hk); (try clear hi); have hcz22_0 : w21.cell? ⟨gb218, 0, none⟩ = some (.string pG) := (aM BK218.out 0).trans rfl; have hcz22_1 : w21.cell? ⟨gb218, 1, none⟩ = some (.int .i64 pI) := (aM BK218.out 1).trans rfl; have hfz22_0 := bB BK218.out 0; have hfz22_1 := bB BK218.out 1) | ((with_reducible refine bG (f := 11) rfl ?_); refine dz (some 23) rfl rfl Try.func11 (by kernel_rfl) rfl #[.agg #[.string pG, .int .i64 pI], .int .i64 t219] rfl (by (try simp only [List.map_toArray, List.map_cons, List.map_nil]); first | done | rfl | (simp only [List.length_drop, List.length_take]; rfl)) ?_; (with_reducible refine (dH.calls pG pI t219 t220 _ A7.out).mono ?_); rintro e w23 ⟨rfl, hb⟩; refine ⟨_, rfl, ?_⟩; have n0_ := ak.mk (bD (g := gb218) (o := .cells #[.string pG, .int .i64 pI] 24 (0, 0)) (by (with_reducible repeat (first | refine aG ?_ _ | refine aK ?_ | refine aD ?_ _)); exact BK218.out) hb); have n1_ := ak.mk (aX (by repeat (first | (with_reducible first | exact HB.out | apply au | apply ah | apply aj | refine ay ?_ GE218.out) | exact HB.out)) hb); clear BK218; clear HB; have BK218 := n0_; have HB := n1_; clear n0_ n1_; (try clear hb); (try clear hb2); (try clear hk); (try clear hi)))
   have n0_ := ak.mk (aK BK218.out)
   have n1_ := ak.mk (aj HB.out)
   clear BK218
   clear HB
   have BK218 := n0_
   have HB := n1_
   clear n0_ n1_
   refine dU (n := 10) (S := fun w' => w'.cell? ⟨gb218, 0, none⟩ = some (.string pG) ∧ w'.cell? ⟨gb218, 1, none⟩ = some (.int .i64 pI)) (ds := []) #[false, false, false, false, false, false, false, false, false, false] (by kernel_rfl) rfl rfl ⟨(aM BK218.out 0).trans rfl, (aM BK218.out 1).trans rfl⟩ (fun hHeld => ?_); refine dA av.pq av.oZ (fun HT_ HW_ => ?_)
   generalize w23.drew = w24 at BK218 HB hHeld ⊢
   refine aP (i := 0) (N := some 27) (v := ?_) (a' := ?_) #[true, false, false, false, false, false, false, false, false, false] rfl rfl (aH HT_.out (by kernel_rfl)) (fun _ _ _ h => h) (Or.inl ⟨by rfl, ?_⟩) ?_ ?_
   rotate_left
   ·intro w'
    go_simp
    with_reducible rfl
   rotate_left
   ·simp only [Act.put, List.setIfInBounds_toArray, List.set_cons_zero, List.set_cons_succ, aA, aC]
    rfl
   refine dI (i := 2) (N := some 29) (v := ?_) (a' := ?_) #[true, false, true, false, false, false, false, false, false, false] rfl rfl (bN HT_.out HW_.out (by kernel_rfl)) (fun _ _ _ h => h) (Or.inl ⟨by rfl, ?_⟩) hHeld ?_ ?_
   rotate_left
   ·rintro w' ⟨s0, s1⟩
    go_simp
    with_reducible rfl
   rotate_left
   ·simp only [Act.put, List.setIfInBounds_toArray, List.set_cons_zero, List.set_cons_succ, aA, aC]
    rfl
   refine dS (i := 1) (N := some 28) #[true, true, true, false, false, false, false, false, false, false] rfl rfl (cK HT_.out (by kernel_rfl)) (by decide) (fun K hK => ?_)
   refine dP Try.func13 (by kernel_rfl) rfl #[.slice A0 l0.length c0] (by rfl) rfl rfl (by (try simp only [List.map_toArray, List.map_cons, List.map_nil]); first | done | rfl | (simp only [List.length_drop, List.length_take]; rfl)) ?_
   with_reducible refine (bE.calls k _ _ l0 t221 _ ?side1 ?side2 A13.out).mono ?_
   (case side1 => repeat (first | exact (Kd.dB HR0.out HB.out) | (with_reducible refine Kd.bK ?_ _) | (with_reducible refine Kd.bL ?_ _) | (with_reducible refine Kd.bW ?_)))
   (case side2 => exact HC0.out)
   rintro e w25 ⟨v222, rfl, ho0, hb⟩
   refine ⟨_, rfl, ?_⟩
   have n0_ := ak.mk (Kd.dD ho0 (aW (by repeat (first | (with_reducible first | exact HB.out | apply au | apply ah | apply aj | refine ay ?_ GE218.out) | exact HB.out))))
   have n1_ := ak.mk (bD (g := gb218) (o := .cells #[.string pG, .int .i64 pI] 24 (0, 0)) (by (with_reducible repeat (first | refine aG ?_ _ | refine aK ?_ | refine aD ?_ _)); exact BK218.out) hb)
   have n2_ := ak.mk (aX (by repeat (first | (with_reducible first | exact HB.out | apply au | apply ah | apply aj | refine ay ?_ GE218.out) | exact HB.out)) hb)
   clear BK218
   clear HB
   have HO223 := n0_
   have BK218 := n1_
   have HB := n2_
   clear n0_ n1_ n2_
   (try clear hb)
   (try clear hb2)
   (try clear hk)
   (try clear hi)
   (try clear ho0)
   refine hK.out _ _ ⟨(aM BK218.out 0).trans rfl, (aM BK218.out 1).trans rfl⟩ (fun hHeld => ?_)
   clear hK K
   refine bQ (a' := ?_) ?_ ?_
   rotate_left
   ·show Act.put _ (some 28) _ = _
    simp only [Act.put, List.setIfInBounds_toArray, List.set_cons_zero, List.set_cons_succ, aA, aC]
    rfl
   refine dS (i := 3) (N := some 30) #[true, true, true, true, false, false, false, false, false, false] rfl rfl (cK HT_.out (by kernel_rfl)) (by decide) (fun K hK => ?_)
   refine dP Try.func14 (by kernel_rfl) rfl #[.agg #[.string pG, .int .i64 pI]] (by rfl) rfl rfl (by (try simp only [List.map_toArray, List.map_cons, List.map_nil]); first | done | rfl | (simp only [List.length_drop, List.length_take]; rfl)) ?_
   with_reducible refine (bJ.calls pG pI t224 t225 _ A14.out).mono ?_
   rintro e w26 ⟨rfl, hb⟩
   refine ⟨_, rfl, ?_⟩
   have n0_ := ak.mk (Kd.bO (by (with_reducible repeat (first | apply Kd.aT | apply Kd.aU | apply Kd.aY)); exact HO223.out) hb)
   have n1_ := ak.mk (bD (g := gb218) (o := .cells #[.string pG, .int .i64 pI] 24 (0, 0)) (by (with_reducible repeat (first | refine aG ?_ _ | refine aK ?_ | refine aD ?_ _)); exact BK218.out) hb)
   have n2_ := ak.mk (aX (by repeat (first | (with_reducible first | exact HB.out | apply au | apply ah | apply aj | refine ay ?_ GE218.out) | exact HB.out)) hb)
   clear HO223
   clear BK218
   clear HB
   have HO223 := n0_
   have BK218 := n1_
   have HB := n2_
   clear n0_ n1_ n2_
   (try clear hb)
   (try clear hb2)
   (try clear hk)
   (try clear hi)
   obtain ⟨Ao27, co27, eo27⟩ := Kd.dJ HO223.out
   (first | subst eo27 | (injection eo27 with f1_ f2_ f3_; have f4_ := f1_.symm; have f5_ := f3_.symm; clear f1_ f2_ f3_; subst f4_; subst f5_))
   refine hK.out _ _ ⟨(aM BK218.out 0).trans rfl, (aM BK218.out 1).trans rfl⟩ (fun hHeld => ?_)
   clear hK K
   refine bQ (a' := ?_) ?_ ?_
   rotate_left
   ·show Act.put _ (some 30) _ = _
    simp only [Act.put, List.setIfInBounds_toArray, List.set_cons_zero, List.set_cons_succ, aA, aC]
    rfl
   refine dS (i := 4) (N := some 31) #[true, true, true, true, true, false, false, false, false, false] rfl rfl (cK HT_.out (by kernel_rfl)) (by decide) (fun K hK => ?_)
   refine dP Try.func12 (by kernel_rfl) rfl #[.slice Ao27 t221.length co27, .agg #[.string t224, .int .i64 t225]] (by rfl) rfl rfl (by (try simp only [List.map_toArray, List.map_cons, List.map_nil]); first | done | rfl | (simp only [List.length_drop, List.length_take]; rfl)) ?_
   with_reducible refine (bA.calls k _ _ t221 t224 t225 t226 t229 _ ?side1 ?side2 A15.out).mono ?_
   (case side1 => repeat (first | exact (Kd.bF HO223.out).2.2 | (with_reducible refine Kd.bK ?_ _) | (with_reducible refine Kd.bL ?_ _) | (with_reducible refine Kd.bW ?_)))
   (case side2 => exact (Kd.bF HO223.out).2.1)
   rintro e w28 ⟨v227, rfl, ho0, hb⟩
   refine ⟨_, rfl, ?_⟩
   have n0_ := ak.mk (Kd.cZ (by (with_reducible repeat (first | apply Kd.aT | apply Kd.aU | apply Kd.aY)); exact HO223.out) (Kd.dM ho0) hb)
   have n1_ := ak.mk (Kd.dD (Kd.dN ho0 (Kd.dZ (by (with_reducible repeat (first | apply Kd.aT | apply Kd.aU | apply Kd.aY)); exact HO223.out))) (aW (by repeat (first | (with_reducible first | exact HB.out | apply au | apply ah | apply aj | refine ay ?_ GE218.out) | exact HB.out))))
   have n2_ := ak.mk (bD (g := gb218) (o := .cells #[.string pG, .int .i64 pI] 24 (0, 0)) (by (with_reducible repeat (first | refine aG ?_ _ | refine aK ?_ | refine aD ?_ _)); exact BK218.out) hb)
   have n3_ := ak.mk (aX (by repeat (first | (with_reducible first | exact HB.out | apply au | apply ah | apply aj | refine ay ?_ GE218.out) | exact HB.out)) hb)
   clear HO223
   clear BK218
   clear HB
   have HO223 := n0_
   have HO228 := n1_
   have BK218 := n2_
   have HB := n3_
   clear n0_ n1_ n2_ n3_
   (try clear hb)
   (try clear hb2)
   (try clear hk)
   (try clear hi)
   (try clear ho0)
   refine hK.out _ _ ⟨(aM BK218.out 0).trans rfl, (aM BK218.out 1).trans rfl⟩ (fun hHeld => ?_)
   clear hK K
   refine bQ (a' := ?_) ?_ ?_
   rotate_left
   ·show Act.put _ (some 31) _ = _
    simp only [Act.put, List.setIfInBounds_toArray, List.set_cons_zero, List.set_cons_succ, aA, aC]
    rfl
   refine aP (i := 5) (N := some 26) (v := ?_) (a' := ?_) #[true, true, true, true, true, true, false, false, false, false] rfl rfl (aH HT_.out (by kernel_rfl)) (fun _ _ _ h => h) (Or.inl ⟨by rfl, ?_⟩) ?_ ?_
   rotate_left
   ·intro w'
    go_simp
    with_reducible rfl
   rotate_left
   ·simp only [Act.put, List.setIfInBounds_toArray, List.set_cons_zero, List.set_cons_succ, aA, aC]
    rfl
   refine aP (i := 6) (N := some 32) (v := ?_) (a' := ?_) #[true, true, true, true, true, true, true, false, false, false] rfl rfl (aH HT_.out (by kernel_rfl)) (fun _ _ _ h => h) (Or.inl ⟨by rfl, ?_⟩) ?_ ?_
   rotate_left
   ·intro w'
    go_simp
    with_reducible rfl
   rotate_left
   ·simp only [Act.put, List.setIfInBounds_toArray, List.set_cons_zero, List.set_cons_succ, aA, aC]
    rfl
   refine aP (i := 7) (N := some 33) (v := ?_) (a' := ?_) #[true, true, true, true, true, true, true, true, false, false] rfl rfl (aH HT_.out (by kernel_rfl)) (fun _ _ _ h => h) (Or.inl ⟨by rfl, ?_⟩) ?_ ?_
   rotate_left
   ·intro w'
    go_simp
    with_reducible rfl
   rotate_left
   ·simp only [Act.put, List.setIfInBounds_toArray, List.set_cons_zero, List.set_cons_succ, aA, aC]
    rfl
   refine aP (i := 8) (N := some 6) (v := ?_) (a' := ?_) #[true, true, true, true, true, true, true, true, true, false] rfl rfl (aH HT_.out (by kernel_rfl)) (fun _ _ _ h => h) (Or.inl ⟨by rfl, ?_⟩) ?_ ?_
   rotate_left
   ·intro w'
    go_simp
    with_reducible rfl
   rotate_left
   ·simp only [Act.put, List.setIfInBounds_toArray, List.set_cons_zero, List.set_cons_succ, aA, aC]
    rfl
   refine aP (i := 9) (N := some 7) (v := ?_) (a' := ?_) #[true, true, true, true, true, true, true, true, true, true] rfl rfl (aH HT_.out (by kernel_rfl)) (fun _ _ _ h => h) (Or.inl ⟨by rfl, ?_⟩) ?_ ?_
   rotate_left
   ·intro w'
    go_simp
    with_reducible rfl
   rotate_left
   ·simp only [Act.put, List.setIfInBounds_toArray, List.set_cons_zero, List.set_cons_succ, aA, aC]
    rfl
   refine eG (dO HT_.out (by kernel_rfl)) ?_
   go_upto_region 11 with (first | ((with_reducible refine bG (f := 13) rfl ?_); refine dz (some 35) rfl rfl Try.func13 (by kernel_rfl) rfl #[.slice A0 l0.length c0] rfl (by (try simp only [List.map_toArray, List.map_cons, List.map_nil]); first | done | rfl | (simp only [List.length_drop, List.length_take]; rfl)) ?_; (with_reducible refine (bE.calls k _ _ l0 t230 _ ?side1 ?side2 A16.out).mono ?_); (case side1 => repeat (first | exact (Kd.dB HR0.out HB.out) | (with_reducible refine Kd.bK ?_ _) | (with_reducible refine Kd.bL ?_ _) | (with_reducible refine Kd.bW ?_))); (case side2 => exact HC0.out); rintro e w29 ⟨v231, rfl, ho0, hb⟩; refine ⟨_, rfl, ?_⟩; have n0_ := ak.mk (Kd.cZ (by (with_reducible repeat (first | apply Kd.aT | apply Kd.aU | apply Kd.aY)); exact HO223.out) (Kd.dM ho0) hb); have n1_ := ak.mk (Kd.cZ (by (with_reducible repeat (first | apply Kd.aT | apply Kd.aU | apply Kd.aY)); exact HO228.out) (Kd.dM ho0) hb); have n2_ := ak.mk (Kd.dD (Kd.dN (Kd.dN ho0 (Kd.dZ (by (with_reducible repeat (first | apply Kd.aT | apply Kd.aU | apply Kd.aY)); exact HO223.out))) (Kd.dZ (by (with_reducible repeat (first | apply Kd.aT | apply Kd.aU | apply Kd.aY)); exact HO228.out))) (aW (by repeat (first | (with_reducible first | exact HB.out | apply au | apply ah | apply aj | refine ay ?_ GE218.out) | exact HB.out)))); have n3_ := ak.mk (bD (g := gb218) (o := .cells #[.string pG, .int .i64 pI] 24 (0, 0)) (by (with_reducible repeat (first | refine aG ?_ _ | refine aK ?_ | refine aD ?_ _)); exact BK218.out) hb); have n4_ := ak.mk (aX (by repeat (first | (with_reducible first | exact HB.out | apply au | apply ah | apply aj | refine ay ?_ GE218.out) | exact HB.out)) hb); clear HO223; clear HO228; clear BK218; clear HB; have HO223 := n0_; have HO228 := n1_; have HO232 := n2_; have BK218 := n3_; have HB := n4_; clear n0_ n1_ n2_ n3_ n4_; (try clear hb); (try clear hb2); (try clear hk); (try clear hi); (try clear ho0); have hcz30_0 : w29.cell? ⟨gb218, 0, none⟩ = some (.string pG) := (aM BK218.out 0).trans rfl; have hcz30_1 : w29.cell? ⟨gb218, 1, none⟩ = some (.int .i64 pI) := (aM BK218.out 1).trans rfl; have hfz30_0 := bB BK218.out 0; have hfz30_1 := bB BK218.out 1) | ((with_reducible refine bG (f := 14) rfl ?_); refine dz (some 39) rfl rfl Try.func14 (by kernel_rfl) rfl #[.agg #[.string pG, .int .i64 pI]] rfl (by (try simp only [List.map_toArray, List.map_cons, List.map_nil]); first | done | rfl | (simp only [List.length_drop, List.length_take]; rfl)) ?_; (with_reducible refine (bJ.calls pG pI t233 t234 _ A17.out).mono ?_); rintro e w31 ⟨rfl, hb⟩; refine ⟨_, rfl, ?_⟩; have n0_ := ak.mk (Kd.bO (by (with_reducible repeat (first | apply Kd.aT | apply Kd.aU | apply Kd.aY)); exact HO223.out) hb); have n1_ := ak.mk (Kd.bO (by (with_reducible repeat (first | apply Kd.aT | apply Kd.aU | apply Kd.aY)); exact HO228.out) hb); have n2_ := ak.mk (Kd.bO (by (with_reducible repeat (first | apply Kd.aT | apply Kd.aU | apply Kd.aY)); exact HO232.out) hb); have n3_ := ak.mk (bD (g := gb218) (o := .cells #[.string pG, .int .i64 pI] 24 (0, 0)) (by (with_reducible repeat (first | refine aG ?_ _ | refine aK ?_ | refine aD ?_ _)); exact BK218.out) hb); have n4_ := ak.mk (aX (by repeat (first | (with_reducible first | exact HB.out | apply au | apply ah | apply aj | refine ay ?_ GE218.out) | exact HB.out)) hb); clear HO223; clear HO228; clear HO232; clear BK218; clear HB; have HO223 := n0_; have HO228 := n1_; have HO232 := n2_; have BK218 := n3_; have HB := n4_; clear n0_ n1_ n2_ n3_ n4_; (try clear hb); (try clear hb2); (try clear hk); (try clear hi); obtain ⟨Ao32, co32, eo32⟩ := Kd.dJ HO232.out; subst eo32) | ((with_reducible refine bG (f := 15) rfl ?_); refine dz (some 40) rfl rfl Try.func15 (by kernel_rfl) rfl #[.slice Ao32 t230.length co32, .agg #[.string t233, .int .i64 t234]] rfl (by (try simp only [List.map_toArray, List.map_cons, List.map_nil]); first | done | rfl | (simp only [List.length_drop, List.length_take]; rfl)) ?_; (with_reducible refine (aV.calls k _ _ t230 t233 t234 t235 t238 _ ?side1 ?side2 A18.out).mono ?_); (case side1 => repeat (first | exact (Kd.bF HO232.out).2.2 | (with_reducible refine Kd.bK ?_ _) | (with_reducible refine Kd.bL ?_ _) | (with_reducible refine Kd.bW ?_))); (case side2 => exact (Kd.bF HO232.out).2.1); rintro e w33 ⟨v236, rfl, ho0, hb⟩; refine ⟨_, rfl, ?_⟩; have n0_ := ak.mk (Kd.cZ (by (with_reducible repeat (first | apply Kd.aT | apply Kd.aU | apply Kd.aY)); exact HO223.out) (Kd.dM ho0) hb); have n1_ := ak.mk (Kd.cZ (by (with_reducible repeat (first | apply Kd.aT | apply Kd.aU | apply Kd.aY)); exact HO228.out) (Kd.dM ho0) hb); have n2_ := ak.mk (Kd.cZ (by (with_reducible repeat (first | apply Kd.aT | apply Kd.aU | apply Kd.aY)); exact HO232.out) (Kd.dM ho0) hb); have n3_ := ak.mk (Kd.dD (Kd.dN (Kd.dN (Kd.dN ho0 (Kd.dZ (by (with_reducible repeat (first | apply Kd.aT | apply Kd.aU | apply Kd.aY)); exact HO223.out))) (Kd.dZ (by (with_reducible repeat (first | apply Kd.aT | apply Kd.aU | apply Kd.aY)); exact HO228.out))) (Kd.dZ (by (with_reducible repeat (first | apply Kd.aT | apply Kd.aU | apply Kd.aY)); exact HO232.out))) (aW (by repeat (first | (with_reducible first | exact HB.out | apply au | apply ah | apply aj | refine ay ?_ GE218.out) | exact HB.out)))); have n4_ := ak.mk (bD (g := gb218) (o := .cells #[.string pG, .int .i64 pI] 24 (0, 0)) (by (with_reducible repeat (first | refine aG ?_ _ | refine aK ?_ | refine aD ?_ _)); exact BK218.out) hb); have n5_ := ak.mk (aX (by repeat (first | (with_reducible first | exact HB.out | apply au | apply ah | apply aj | refine ay ?_ GE218.out) | exact HB.out)) hb); clear HO223; clear HO228; clear HO232; clear BK218; clear HB; have HO223 := n0_; have HO228 := n1_; have HO232 := n2_; have HO237 := n3_; have BK218 := n4_; have HB := n5_; clear n0_ n1_ n2_ n3_ n4_ n5_; (try clear hb); (try clear hb2); (try clear hk); (try clear hi); (try clear ho0)))
   (try simp only [Act.put, List.setIfInBounds_toArray, List.set_cons_zero, List.set_cons_succ])
   go_cut [51] (fun v51 wc => ∃ (kq : Nat) (x51_18 : Bool), v51 = .bool x51_18 ∧ ak (av.j0 kq l0 t226 t229 t230 t235 t238 x51_18 pG pI = some r) ∧ ak (kq ≤ k) ∧ ak (Kd.R k31 31 wc w.heap.size (fun k_ => some k_ ≠ ((.slice Ao32 t230.length co32) : Value).ownBlock ∧ some k_ ≠ (v236 : Value).ownBlock) v227 t226) ∧ ak (Kd.R k31 31 wc w.heap.size (fun k_ => some k_ ≠ (v227 : Value).ownBlock ∧ some k_ ≠ (v236 : Value).ownBlock) (.slice Ao32 t230.length co32) t230) ∧ ak (Kd.R k31 31 wc w.heap.size (fun k_ => some k_ ≠ (v227 : Value).ownBlock ∧ some k_ ≠ ((.slice Ao32 t230.length co32) : Value).ownBlock) v236 t235) ∧ ak (wc.heap[gb218]? = some (.cells #[.string pG, .int .i64 pI] 24 (0, 0))) ∧ ak (Below w.heap.size w wc))
   case first =>
    have H := HC19.out
    clear HC19
    replace H := Option.bind_eq_some_iff.mp H
    obtain ⟨t239, A340, H⟩ := H
    replace H : (if t239 = true then (av.j0 k l0 t226 t229 t230 t235 t238 (t238 != t229) pG pI) else (av.j0 k l0 t226 t229 t230 t235 t238 true pG pI)) = some r := H
    have A34 := ak.mk A340
    clear A340
    by_cases c35 : t239 = true
    ·subst c35
     have H1 : (av.j0 k l0 t226 t229 t230 t235 t238 (t238 != t229) pG pI) = some r := by rw [if_pos rfl] at H; exact H
     clear H
     have H := H1
     clear H1
     have H' := ak.mk H
     clear H
     obtain ⟨Ao36, co36, eo36⟩ := Kd.dJ HO237.out
     subst eo36
     obtain ⟨Ao37, co37, eo37⟩ := Kd.dJ HO228.out
     subst eo37
     go_wp2_with (first | ((with_reducible refine bG (f := 16) rfl ?_); refine dz (some 45) rfl rfl Try.func16 (by kernel_rfl) rfl #[.slice Ao36 t235.length co36, .slice Ao37 t226.length co37] rfl (by (try simp only [List.map_toArray, List.map_cons, List.map_nil]); first | done | rfl | (simp only [List.length_drop, List.length_take]; rfl)) ?_; (with_reducible refine (bg.calls k _ _ t235 _ _ t226 true _ ?side1 ?side2 ?side3 ?side4 A34.out).mono ?_); (case side1 => repeat (first | exact (Kd.bF HO237.out).2.2 | (with_reducible refine Kd.bK ?_ _) | (with_reducible refine Kd.bL ?_ _) | (with_reducible refine Kd.bW ?_))); (case side2 => exact (Kd.bF HO237.out).2.1); (case side3 => repeat (first | exact (Kd.bF HO228.out).2.2 | (with_reducible refine Kd.bK ?_ _) | (with_reducible refine Kd.bL ?_ _) | (with_reducible refine Kd.bW ?_))); (case side4 => exact (Kd.bF HO228.out).2.1); rintro e w38 ⟨rfl, hb⟩; refine ⟨_, rfl, ?_⟩; have n0_ := ak.mk (Kd.bO (by (with_reducible repeat (first | apply Kd.aT | apply Kd.aU | apply Kd.aY)); exact HO223.out) hb); have n1_ := ak.mk (Kd.bO (by (with_reducible repeat (first | apply Kd.aT | apply Kd.aU | apply Kd.aY)); exact HO228.out) hb); have n2_ := ak.mk (Kd.bO (by (with_reducible repeat (first | apply Kd.aT | apply Kd.aU | apply Kd.aY)); exact HO232.out) hb); have n3_ := ak.mk (Kd.bO (by (with_reducible repeat (first | apply Kd.aT | apply Kd.aU | apply Kd.aY)); exact HO237.out) hb); have n4_ := ak.mk (bD (g := gb218) (o := .cells #[.string pG, .int .i64 pI] 24 (0, 0)) (by (with_reducible repeat (first | refine aG ?_ _ | refine aK ?_ | refine aD ?_ _)); exact BK218.out) hb); have n5_ := ak.mk (aX (by repeat (first | (with_reducible first | exact HB.out | apply au | apply ah | apply aj | refine ay ?_ GE218.out) | exact HB.out)) hb); clear HO223; clear HO228; clear HO232; clear HO237; clear BK218; clear HB; have HO223 := n0_; have HO228 := n1_; have HO232 := n2_; have HO237 := n3_; have BK218 := n4_; have HB := n5_; clear n0_ n1_ n2_ n3_ n4_ n5_; (try clear hb); (try clear hb2); (try clear hk); (try clear hi)))
     go_meet
     case rel => exact ⟨_, ((t238 != t229)), (by first | rfl | (simp; done) | (simp [*]; done)), H', ⟨by first | omega | exact Nat.le_refl _⟩, ⟨by (with_reducible repeat (first | apply Kd.aT | apply Kd.aU | apply Kd.aY)); exact Kd.bM HO228.out (fun _ hk => ⟨hk.1.2, hk.2⟩)⟩, ⟨by (with_reducible repeat (first | apply Kd.aT | apply Kd.aU | apply Kd.aY)); exact Kd.bM HO232.out (fun _ hk => ⟨hk.1.2, hk.2⟩)⟩, ⟨by (with_reducible repeat (first | apply Kd.aT | apply Kd.aU | apply Kd.aY)); exact Kd.bM HO237.out (fun _ hk => ⟨hk.1.2, hk.2⟩)⟩, ⟨by (with_reducible repeat (first | refine aG ?_ _ | refine aK ?_ | refine aD ?_ _)); exact BK218.out⟩, ⟨by repeat (first | (with_reducible first | exact HB.out | apply au | apply ah | apply aj | refine ay ?_ GE218.out) | exact HB.out)⟩⟩
    ·replace c35 := Bool.eq_false_iff.mpr c35
     subst c35
     have H1 : (av.j0 k l0 t226 t229 t230 t235 t238 true pG pI) = some r := by rw [if_neg (show ¬ (false = true) by decide)] at H; exact H
     clear H
     have H := H1
     clear H1
     have H' := ak.mk H
     clear H
     obtain ⟨Ao39, co39, eo39⟩ := Kd.dJ HO237.out
     subst eo39
     obtain ⟨Ao40, co40, eo40⟩ := Kd.dJ HO228.out
     subst eo40
     go_wp2_with (first | ((with_reducible refine bG (f := 16) rfl ?_); refine dz (some 45) rfl rfl Try.func16 (by kernel_rfl) rfl #[.slice Ao39 t235.length co39, .slice Ao40 t226.length co40] rfl (by (try simp only [List.map_toArray, List.map_cons, List.map_nil]); first | done | rfl | (simp only [List.length_drop, List.length_take]; rfl)) ?_; (with_reducible refine (bg.calls k _ _ t235 _ _ t226 false _ ?side1 ?side2 ?side3 ?side4 A34.out).mono ?_); (case side1 => repeat (first | exact (Kd.bF HO237.out).2.2 | (with_reducible refine Kd.bK ?_ _) | (with_reducible refine Kd.bL ?_ _) | (with_reducible refine Kd.bW ?_))); (case side2 => exact (Kd.bF HO237.out).2.1); (case side3 => repeat (first | exact (Kd.bF HO228.out).2.2 | (with_reducible refine Kd.bK ?_ _) | (with_reducible refine Kd.bL ?_ _) | (with_reducible refine Kd.bW ?_))); (case side4 => exact (Kd.bF HO228.out).2.1); rintro e w41 ⟨rfl, hb⟩; refine ⟨_, rfl, ?_⟩; have n0_ := ak.mk (Kd.bO (by (with_reducible repeat (first | apply Kd.aT | apply Kd.aU | apply Kd.aY)); exact HO223.out) hb); have n1_ := ak.mk (Kd.bO (by (with_reducible repeat (first | apply Kd.aT | apply Kd.aU | apply Kd.aY)); exact HO228.out) hb); have n2_ := ak.mk (Kd.bO (by (with_reducible repeat (first | apply Kd.aT | apply Kd.aU | apply Kd.aY)); exact HO232.out) hb); have n3_ := ak.mk (Kd.bO (by (with_reducible repeat (first | apply Kd.aT | apply Kd.aU | apply Kd.aY)); exact HO237.out) hb); have n4_ := ak.mk (bD (g := gb218) (o := .cells #[.string pG, .int .i64 pI] 24 (0, 0)) (by (with_reducible repeat (first | refine aG ?_ _ | refine aK ?_ | refine aD ?_ _)); exact BK218.out) hb); have n5_ := ak.mk (aX (by repeat (first | (with_reducible first | exact HB.out | apply au | apply ah | apply aj | refine ay ?_ GE218.out) | exact HB.out)) hb); clear HO223; clear HO228; clear HO232; clear HO237; clear BK218; clear HB; have HO223 := n0_; have HO228 := n1_; have HO232 := n2_; have HO237 := n3_; have BK218 := n4_; have HB := n5_; clear n0_ n1_ n2_ n3_ n4_ n5_; (try clear hb); (try clear hb2); (try clear hk); (try clear hi)))
     go_meet
     case rel => exact ⟨_, (true), (by first | rfl | (simp; done) | (simp [*]; done)), H', ⟨by first | omega | exact Nat.le_refl _⟩, ⟨by (with_reducible repeat (first | apply Kd.aT | apply Kd.aU | apply Kd.aY)); exact Kd.bM HO228.out (fun _ hk => ⟨hk.1.2, hk.2⟩)⟩, ⟨by (with_reducible repeat (first | apply Kd.aT | apply Kd.aU | apply Kd.aY)); exact Kd.bM HO232.out (fun _ hk => ⟨hk.1.2, hk.2⟩)⟩, ⟨by (with_reducible repeat (first | apply Kd.aT | apply Kd.aU | apply Kd.aY)); exact Kd.bM HO237.out (fun _ hk => ⟨hk.1.2, hk.2⟩)⟩, ⟨by (with_reducible repeat (first | refine aG ?_ _ | refine aK ?_ | refine aD ?_ _)); exact BK218.out⟩, ⟨by repeat (first | (with_reducible first | exact HB.out | apply au | apply ah | apply aj | refine ay ?_ GE218.out) | exact HB.out)⟩⟩
   case rest =>
    clear HC19
    try clear c4
    try clear c4b0
    try clear c8
    try clear c8b0
    try clear hcz22_0
    try clear hcz22_1
    try clear hcz30_0
    try clear hcz30_1
    try clear hfz22_0
    try clear hfz22_1
    try clear hfz30_0
    try clear hfz30_1
    obtain ⟨kq, x51_18, rfl, HA, HJ18, HO_6, HO_8, HO_9, BK218, HB⟩ := hcut
    cases kq with
    | zero => exact absurd HA.out (by simp [av.j0])
    | succ kj18 =>
     have H := HA.out
     clear HA
     simp only [av.j0] at H
     by_cases c42 : x51_18 = true
     ·subst c42
      have H1 : (some false) = some r := by rw [if_pos rfl] at H; exact H
      clear H
      have H := H1
      clear H1
      obtain rfl := Option.some.inj H
      go_wp2
      go_ret
      exact ⟨by first | rfl | (simp [bn, bq] <;> rfl) | (simp [*, bn, bq] <;> rfl), by repeat (first | (with_reducible first | exact HB.out | apply au | apply ah | apply aj | refine ay ?_ GE218.out) | exact HB.out)⟩
     ·replace c42 := Bool.eq_false_iff.mpr c42
      subst c42
      have H1 : ((bE.f kj18 l0).bind fun t240 => ((bg.f kj18 t230 t240).bind fun t243 => (if t243 = true then ((bH.f kj18 t230 1).bind fun bt244 => (if bt244.1 < 0 then (av.j1 kj18 l0 t226 t229 t235 true pG pI) else ((bg.f kj18 t235 t226).bind fun t246 => (if t246 = true then (av.j1 kj18 l0 t226 t229 t235 (t238 != t229) pG pI) else (av.j1 kj18 l0 t226 t229 t235 true pG pI))))) else (some false)))) = some r := by rw [if_neg (show ¬ (false = true) by decide)] at H; exact H
      clear H
      have H := H1
      clear H1
      replace H := Option.bind_eq_some_iff.mp H
      obtain ⟨t240, A430, H⟩ := H
      replace H : ((bg.f kj18 t230 t240).bind fun t243 => (if t243 = true then ((bH.f kj18 t230 1).bind fun bt244 => (if bt244.1 < 0 then (av.j1 kj18 l0 t226 t229 t235 true pG pI) else ((bg.f kj18 t235 t226).bind fun t246 => (if t246 = true then (av.j1 kj18 l0 t226 t229 t235 (t238 != t229) pG pI) else (av.j1 kj18 l0 t226 t229 t235 true pG pI))))) else (some false))) = some r := H
      have A43 := ak.mk A430
      clear A430
      replace H := Option.bind_eq_some_iff.mp H
      obtain ⟨t243, A440, H⟩ := H
      replace H : (if t243 = true then ((bH.f kj18 t230 1).bind fun bt244 => (if bt244.1 < 0 then (av.j1 kj18 l0 t226 t229 t235 true pG pI) else ((bg.f kj18 t235 t226).bind fun t246 => (if t246 = true then (av.j1 kj18 l0 t226 t229 t235 (t238 != t229) pG pI) else (av.j1 kj18 l0 t226 t229 t235 true pG pI))))) else (some false)) = some r := H
      have A44 := ak.mk A440
      clear A440
      by_cases c45 : t243 = true
      ·subst c45
       have H1 : ((bH.f kj18 t230 1).bind fun bt244 => (if bt244.1 < 0 then (av.j1 kj18 l0 t226 t229 t235 true pG pI) else ((bg.f kj18 t235 t226).bind fun t246 => (if t246 = true then (av.j1 kj18 l0 t226 t229 t235 (t238 != t229) pG pI) else (av.j1 kj18 l0 t226 t229 t235 true pG pI))))) = some r := by rw [if_pos rfl] at H; exact H
       clear H
       have H := H1
       clear H1
       replace H := Option.bind_eq_some_iff.mp H
       obtain ⟨⟨t244, t245⟩, A460, H⟩ := H
       replace H : (if t244 < 0 then (av.j1 kj18 l0 t226 t229 t235 true pG pI) else ((bg.f kj18 t235 t226).bind fun t246 => (if t246 = true then (av.j1 kj18 l0 t226 t229 t235 (t238 != t229) pG pI) else (av.j1 kj18 l0 t226 t229 t235 true pG pI)))) = some r := H
       have A46 := ak.mk A460
       clear A460
       have HC47 := ak.mk H
       clear H
       go_upto_region 17 with (first | ((with_reducible refine bG (f := 13) rfl ?_); refine dz (some 54) rfl rfl Try.func13 (by kernel_rfl) rfl #[.slice A0 l0.length c0] rfl (by (try simp only [List.map_toArray, List.map_cons, List.map_nil]); first | done | rfl | (simp only [List.length_drop, List.length_take]; rfl)) ?_; (with_reducible refine (bE.calls kj18 _ _ l0 t240 _ ?side1 ?side2 A43.out).mono ?_); (case side1 => repeat (first | exact (Kd.dB HR0.out HB.out) | (with_reducible refine Kd.bK ?_ _) | (with_reducible refine Kd.bL ?_ _) | (with_reducible refine Kd.bW ?_))); (case side2 => exact HC0.out); rintro e w48 ⟨v241, rfl, ho0, hb⟩; refine ⟨_, rfl, ?_⟩; have n0_ := ak.mk (Kd.cZ (by (with_reducible repeat (first | apply Kd.aT | apply Kd.aU | apply Kd.aY)); exact HO_6.out) (Kd.dM ho0) hb); have n1_ := ak.mk (Kd.cZ (by (with_reducible repeat (first | apply Kd.aT | apply Kd.aU | apply Kd.aY)); exact HO_8.out) (Kd.dM ho0) hb); have n2_ := ak.mk (Kd.cZ (by (with_reducible repeat (first | apply Kd.aT | apply Kd.aU | apply Kd.aY)); exact HO_9.out) (Kd.dM ho0) hb); have n3_ := ak.mk (Kd.dD (Kd.dN (Kd.dN (Kd.dN ho0 (Kd.dZ (by (with_reducible repeat (first | apply Kd.aT | apply Kd.aU | apply Kd.aY)); exact HO_6.out))) (Kd.dZ (by (with_reducible repeat (first | apply Kd.aT | apply Kd.aU | apply Kd.aY)); exact HO_8.out))) (Kd.dZ (by (with_reducible repeat (first | apply Kd.aT | apply Kd.aU | apply Kd.aY)); exact HO_9.out))) (aW (by repeat (first | (with_reducible first | exact HB.out | apply au | apply ah | apply aj | refine ay ?_ GE218.out) | exact HB.out)))); have n4_ := ak.mk (bD (g := gb218) (o := .cells #[.string pG, .int .i64 pI] 24 (0, 0)) (by (with_reducible repeat (first | refine aG ?_ _ | refine aK ?_ | refine aD ?_ _)); exact BK218.out) hb); have n5_ := ak.mk (aX (by repeat (first | (with_reducible first | exact HB.out | apply au | apply ah | apply aj | refine ay ?_ GE218.out) | exact HB.out)) hb); clear HO_6; clear HO_8; clear HO_9; clear BK218; clear HB; have HO_6 := n0_; have HO_8 := n1_; have HO_9 := n2_; have HO242 := n3_; have BK218 := n4_; have HB := n5_; clear n0_ n1_ n2_ n3_ n4_ n5_; (try clear hb); (try clear hb2); (try clear hk); (try clear hi); (try clear ho0); obtain ⟨Ao49, co49, eo49⟩ := Kd.dJ HO242.out; subst eo49) | ((with_reducible refine bG (f := 16) rfl ?_); refine dz (some 55) rfl rfl Try.func16 (by kernel_rfl) rfl #[.slice Ao32 t230.length co32, .slice Ao49 t240.length co49] rfl (by (try simp only [List.map_toArray, List.map_cons, List.map_nil]); first | done | rfl | (simp only [List.length_drop, List.length_take]; rfl)) ?_; (with_reducible refine (bg.calls kj18 _ _ t230 _ _ t240 true _ ?side1 ?side2 ?side3 ?side4 A44.out).mono ?_); (case side1 => repeat (first | exact (Kd.bF HO_8.out).2.2 | (with_reducible refine Kd.bK ?_ _) | (with_reducible refine Kd.bL ?_ _) | (with_reducible refine Kd.bW ?_))); (case side2 => exact (Kd.bF HO_8.out).2.1); (case side3 => repeat (first | exact (Kd.bF HO242.out).2.2 | (with_reducible refine Kd.bK ?_ _) | (with_reducible refine Kd.bL ?_ _) | (with_reducible refine Kd.bW ?_))); (case side4 => exact (Kd.bF HO242.out).2.1); rintro e w50 ⟨rfl, hb⟩; refine ⟨_, rfl, ?_⟩; have n0_ := ak.mk (Kd.bO (by (with_reducible repeat (first | apply Kd.aT | apply Kd.aU | apply Kd.aY)); exact HO_6.out) hb); have n1_ := ak.mk (Kd.bO (by (with_reducible repeat (first | apply Kd.aT | apply Kd.aU | apply Kd.aY)); exact HO_8.out) hb); have n2_ := ak.mk (Kd.bO (by (with_reducible repeat (first | apply Kd.aT | apply Kd.aU | apply Kd.aY)); exact HO_9.out) hb); have n3_ := ak.mk (Kd.bO (by (with_reducible repeat (first | apply Kd.aT | apply Kd.aU | apply Kd.aY)); exact HO242.out) hb); have n4_ := ak.mk (bD (g := gb218) (o := .cells #[.string pG, .int .i64 pI] 24 (0, 0)) (by (with_reducible repeat (first | refine aG ?_ _ | refine aK ?_ | refine aD ?_ _)); exact BK218.out) hb); have n5_ := ak.mk (aX (by repeat (first | (with_reducible first | exact HB.out | apply au | apply ah | apply aj | refine ay ?_ GE218.out) | exact HB.out)) hb); clear HO_6; clear HO_8; clear HO_9; clear HO242; clear BK218; clear HB; have HO_6 := n0_; have HO_8 := n1_; have HO_9 := n2_; have HO242 := n3_; have BK218 := n4_; have HB := n5_; clear n0_ n1_ n2_ n3_ n4_ n5_; (try clear hb); (try clear hb2); (try clear hk); (try clear hi)) | ((with_reducible refine bG (f := 17) rfl ?_); refine dz (some 59) rfl rfl Try.func17 (by kernel_rfl) rfl #[.slice Ao32 t230.length co32, .int .i64 1] rfl (by (try simp only [List.map_toArray, List.map_cons, List.map_nil]); first | done | rfl | (simp only [List.length_drop, List.length_take]; rfl)) ?_; (with_reducible refine (bH.calls kj18 (fun k_ => some k_ = (.slice Ao32 t230.length co32 : Value).ownBlock) (.slice Ao32 t230.length co32) t230 1 t244 t245 w _ ?side1 ?side2 A46.out).mono ?_); (case side1 => repeat (first | (with_reducible first | exact HB.out | apply au | apply ah | apply aj | refine ay ?_ GE218.out) | exact HB.out)); (case side2 => exact Kd.jw rfl HO_8.out); rintro e w51 ⟨rfl, hy0, hb, hkp⟩; refine ⟨_, rfl, ?_⟩; have n0_ := ak.mk (Kd.bM (ok' := fun k_ => some k_ ≠ (.slice Ao32 t230.length co32 : Value).ownBlock ∧ some k_ ≠ (v236 : Value).ownBlock ∧ some k_ ≠ (.slice Ao49 t240.length co49 : Value).ownBlock) (Kd.iT (HO_6.out) hkp (fun k_ hk_ hs_ => (hk_.1.1) hs_)) (fun k_ hk_ => ⟨hk_.1.1.1, hk_.1.1.2, hk_.1.2⟩)); have n1_ := ak.mk (Kd.kT rfl hy0 (fun k_ e_ => HO_8.out.1 k_ e_)); have n2_ := ak.mk (Kd.bM (ok' := fun k_ => some k_ ≠ (v227 : Value).ownBlock ∧ some k_ ≠ (.slice Ao32 t230.length co32 : Value).ownBlock ∧ some k_ ≠ (.slice Ao49 t240.length co49 : Value).ownBlock) (Kd.iT (HO_9.out) hkp (fun k_ hk_ hs_ => (hk_.1.2) hs_)) (fun k_ hk_ => ⟨hk_.1.1.1, hk_.1.1.2, hk_.1.2⟩)); have n3_ := ak.mk (jk (by (with_reducible repeat (first | refine aG ?_ _ | refine aK ?_ | refine aD ?_ _)); exact BK218.out) hkp (fun hs_ => (fun e_ => (Kd.oq HO_8.out BK218.out (by decide)) e_) hs_)); have n4_ := ak.mk (Kd.bM (ok' := fun k_ => some k_ ≠ (v227 : Value).ownBlock ∧ some k_ ≠ (.slice Ao32 t230.length co32 : Value).ownBlock ∧ some k_ ≠ (v236 : Value).ownBlock) (Kd.iT (HO242.out) hkp (fun k_ hk_ hs_ => (hk_.1.2) hs_)) (fun k_ hk_ => ⟨hk_.1.1.1.2, hk_.1.1.2, hk_.1.2⟩)); have n5_ := ak.mk (hb); clear HO_6; clear HO_8; clear HO_9; clear BK218; clear HO242; clear HB; have HO_6 := n0_; have HO_8 := n1_; have HO_9 := n2_; have BK218 := n3_; have HO242 := n4_; have HB := n5_; clear n0_ n1_ n2_ n3_ n4_ n5_; (try clear hb); (try clear hkp); (try clear hy0)))
       (try simp only [Act.put, List.setIfInBounds_toArray, List.set_cons_zero, List.set_cons_succ])
       go_cut [72] (fun v72 wc => ∃ (kq : Nat) (x72_46 : Bool), v72 = .bool x72_46 ∧ ak (av.j1 kq l0 t226 t229 t235 x72_46 pG pI = some r) ∧ ak (kq ≤ kj18) ∧ ak (Kd.R k31 31 wc w.heap.size (fun k_ => some k_ ≠ (v236 : Value).ownBlock) v227 t226) ∧ ak (Kd.R k31 31 wc w.heap.size (fun k_ => some k_ ≠ (v227 : Value).ownBlock) v236 t235) ∧ ak (wc.heap[gb218]? = some (.cells #[.string pG, .int .i64 pI] 24 (0, 0))) ∧ ak (Below w.heap.size w wc))
       case first =>
        have H := HC47.out
        clear HC47
        by_cases c52 : t244 < 0
        ·rw [if_pos c52] at H
         have c52b0 : decide (t244 < 0) = true := decide_eq_true c52
         clear c52
         (first | rw [c52b0] | (simp only [aA, aC]; rw [c52b0]) | skip)
         have H' := ak.mk H
         clear H
         go_wp2
         go_meet
         case rel => exact ⟨_, (true), (by first | rfl | (simp; done) | (simp [*]; done)), H', ⟨by have := HJ18.out; first | omega | exact Nat.le_refl _⟩, ⟨by (with_reducible repeat (first | apply Kd.aT | apply Kd.aU | apply Kd.aY)); exact Kd.bM HO_6.out (fun _ hk => hk.2.1)⟩, ⟨by (with_reducible repeat (first | apply Kd.aT | apply Kd.aU | apply Kd.aY)); exact Kd.bM HO_9.out (fun _ hk => hk.1)⟩, ⟨by (with_reducible repeat (first | refine aG ?_ _ | refine aK ?_ | refine aD ?_ _)); exact BK218.out⟩, ⟨by repeat (first | (with_reducible first | exact HB.out | apply au | apply ah | apply aj | refine ay ?_ GE218.out) | exact HB.out)⟩⟩
        ·rw [if_neg c52] at H
         have c52b0 : decide (t244 < 0) = false := decide_eq_false c52
         clear c52
         (first | rw [c52b0] | (simp only [aA, aC]; rw [c52b0]) | skip)
         replace H := Option.bind_eq_some_iff.mp H
         obtain ⟨t246, A530, H⟩ := H
         replace H : (if t246 = true then (av.j1 kj18 l0 t226 t229 t235 (t238 != t229) pG pI) else (av.j1 kj18 l0 t226 t229 t235 true pG pI)) = some r := H
         have A53 := ak.mk A530
         clear A530
         by_cases c54 : t246 = true
         ·subst c54
          have H1 : (av.j1 kj18 l0 t226 t229 t235 (t238 != t229) pG pI) = some r := by rw [if_pos rfl] at H; exact H
          clear H
          have H := H1
          clear H1
          have H' := ak.mk H
          clear H
          obtain ⟨Ao55, co55, eo55⟩ := Kd.dJ HO_9.out
          subst eo55
          obtain ⟨Ao56, co56, eo56⟩ := Kd.dJ HO_6.out
          subst eo56
          go_wp2_with (first | (go_at_call 16; (with_reducible refine (bg.calls kj18 _ _ t235 _ _ t226 true _ ?side1 ?side2 ?side3 ?side4 A53.out).mono ?_); (case side1 => repeat (first | exact (Kd.bF HO_9.out).2.2 | (with_reducible refine Kd.bK ?_ _) | (with_reducible refine Kd.bL ?_ _) | (with_reducible refine Kd.bW ?_))); (case side2 => exact (Kd.bF HO_9.out).2.1); (case side3 => repeat (first | exact (Kd.bF HO_6.out).2.2 | (with_reducible refine Kd.bK ?_ _) | (with_reducible refine Kd.bL ?_ _) | (with_reducible refine Kd.bW ?_))); (case side4 => exact (Kd.bF HO_6.out).2.1); rintro e w57 ⟨rfl, hb⟩; have n0_ := ak.mk (Kd.bO (by (with_reducible repeat (first | apply Kd.aT | apply Kd.aU | apply Kd.aY)); exact HO_6.out) hb); have n1_ := ak.mk (Kd.bO (by (with_reducible repeat (first | apply Kd.aT | apply Kd.aU | apply Kd.aY)); exact HO_8.out) hb); have n2_ := ak.mk (Kd.bO (by (with_reducible repeat (first | apply Kd.aT | apply Kd.aU | apply Kd.aY)); exact HO_9.out) hb); have n3_ := ak.mk (Kd.bO (by (with_reducible repeat (first | apply Kd.aT | apply Kd.aU | apply Kd.aY)); exact HO242.out) hb); have n4_ := ak.mk (bD (g := gb218) (o := .cells #[.string pG, .int .i64 pI] 24 (0, 0)) (by (with_reducible repeat (first | refine aG ?_ _ | refine aK ?_ | refine aD ?_ _)); exact BK218.out) hb); have n5_ := ak.mk (aX (by repeat (first | (with_reducible first | exact HB.out | apply au | apply ah | apply aj | refine ay ?_ GE218.out) | exact HB.out)) hb); clear HO_6; clear HO_8; clear HO_9; clear HO242; clear BK218; clear HB; have HO_6 := n0_; have HO_8 := n1_; have HO_9 := n2_; have HO242 := n3_; have BK218 := n4_; have HB := n5_; clear n0_ n1_ n2_ n3_ n4_ n5_; (try clear hb); (try clear hb2); (try clear hk); (try clear hi)))
          go_meet
          case rel => exact ⟨_, ((t238 != t229)), (by first | rfl | (simp; done) | (simp [*]; done)), H', ⟨by have := HJ18.out; first | omega | exact Nat.le_refl _⟩, ⟨by (with_reducible repeat (first | apply Kd.aT | apply Kd.aU | apply Kd.aY)); exact Kd.bM HO_6.out (fun _ hk => hk.2.1)⟩, ⟨by (with_reducible repeat (first | apply Kd.aT | apply Kd.aU | apply Kd.aY)); exact Kd.bM HO_9.out (fun _ hk => hk.1)⟩, ⟨by (with_reducible repeat (first | refine aG ?_ _ | refine aK ?_ | refine aD ?_ _)); exact BK218.out⟩, ⟨by repeat (first | (with_reducible first | exact HB.out | apply au | apply ah | apply aj | refine ay ?_ GE218.out) | exact HB.out)⟩⟩
         ·replace c54 := Bool.eq_false_iff.mpr c54
          subst c54
          have H1 : (av.j1 kj18 l0 t226 t229 t235 true pG pI) = some r := by rw [if_neg (show ¬ (false = true) by decide)] at H; exact H
          clear H
          have H := H1
          clear H1
          have H' := ak.mk H
          clear H
          obtain ⟨Ao58, co58, eo58⟩ := Kd.dJ HO_9.out
          subst eo58
          obtain ⟨Ao59, co59, eo59⟩ := Kd.dJ HO_6.out
          subst eo59
          go_wp2_with (first | (go_at_call 16; (with_reducible refine (bg.calls kj18 _ _ t235 _ _ t226 false _ ?side1 ?side2 ?side3 ?side4 A53.out).mono ?_); (case side1 => repeat (first | exact (Kd.bF HO_9.out).2.2 | (with_reducible refine Kd.bK ?_ _) | (with_reducible refine Kd.bL ?_ _) | (with_reducible refine Kd.bW ?_))); (case side2 => exact (Kd.bF HO_9.out).2.1); (case side3 => repeat (first | exact (Kd.bF HO_6.out).2.2 | (with_reducible refine Kd.bK ?_ _) | (with_reducible refine Kd.bL ?_ _) | (with_reducible refine Kd.bW ?_))); (case side4 => exact (Kd.bF HO_6.out).2.1); rintro e w60 ⟨rfl, hb⟩; have n0_ := ak.mk (Kd.bO (by (with_reducible repeat (first | apply Kd.aT | apply Kd.aU | apply Kd.aY)); exact HO_6.out) hb); have n1_ := ak.mk (Kd.bO (by (with_reducible repeat (first | apply Kd.aT | apply Kd.aU | apply Kd.aY)); exact HO_8.out) hb); have n2_ := ak.mk (Kd.bO (by (with_reducible repeat (first | apply Kd.aT | apply Kd.aU | apply Kd.aY)); exact HO_9.out) hb); have n3_ := ak.mk (Kd.bO (by (with_reducible repeat (first | apply Kd.aT | apply Kd.aU | apply Kd.aY)); exact HO242.out) hb); have n4_ := ak.mk (bD (g := gb218) (o := .cells #[.string pG, .int .i64 pI] 24 (0, 0)) (by (with_reducible repeat (first | refine aG ?_ _ | refine aK ?_ | refine aD ?_ _)); exact BK218.out) hb); have n5_ := ak.mk (aX (by repeat (first | (with_reducible first | exact HB.out | apply au | apply ah | apply aj | refine ay ?_ GE218.out) | exact HB.out)) hb); clear HO_6; clear HO_8; clear HO_9; clear HO242; clear BK218; clear HB; have HO_6 := n0_; have HO_8 := n1_; have HO_9 := n2_; have HO242 := n3_; have BK218 := n4_; have HB := n5_; clear n0_ n1_ n2_ n3_ n4_ n5_; (try clear hb); (try clear hb2); (try clear hk); (try clear hi)))
          go_meet
          case rel => exact ⟨_, (true), (by first | rfl | (simp; done) | (simp [*]; done)), H', ⟨by have := HJ18.out; first | omega | exact Nat.le_refl _⟩, ⟨by (with_reducible repeat (first | apply Kd.aT | apply Kd.aU | apply Kd.aY)); exact Kd.bM HO_6.out (fun _ hk => hk.2.1)⟩, ⟨by (with_reducible repeat (first | apply Kd.aT | apply Kd.aU | apply Kd.aY)); exact Kd.bM HO_9.out (fun _ hk => hk.1)⟩, ⟨by (with_reducible repeat (first | refine aG ?_ _ | refine aK ?_ | refine aD ?_ _)); exact BK218.out⟩, ⟨by repeat (first | (with_reducible first | exact HB.out | apply au | apply ah | apply aj | refine ay ?_ GE218.out) | exact HB.out)⟩⟩
       case rest =>
        clear HC47
        try clear c4
        try clear c4b0
        try clear c8
        try clear c8b0
        try clear c42
        try clear c45
        try clear hcz22_0
        try clear hcz22_1
        try clear hcz30_0
        try clear hcz30_1
        try clear hfz22_0
        try clear hfz22_1
        try clear hfz30_0
        try clear hfz30_1
        obtain ⟨kq, x72_46, rfl, HA, HJ46, HO_6, HO_9, BK218, HB⟩ := hcut
        cases kq with
        | zero => exact absurd HA.out (by simp [av.j1])
        | succ kj46 =>
         have H := HA.out
         clear HA
         simp only [av.j1] at H
         by_cases c61 : x72_46 = true
         ·subst c61
          have H1 : (some false) = some r := by rw [if_pos rfl] at H; exact H
          clear H
          have H := H1
          clear H1
          obtain rfl := Option.some.inj H
          go_wp2
          go_ret
          exact ⟨by first | rfl | (simp [bn, bq] <;> rfl) | (simp [*, bn, bq] <;> rfl), by repeat (first | (with_reducible first | exact HB.out | apply au | apply ah | apply aj | refine ay ?_ GE218.out) | exact HB.out)⟩
         ·replace c61 := Bool.eq_false_iff.mpr c61
          subst c61
          have H1 : ((bH.f kj46 t235 1).bind fun bt247 => ((bC.f kj46 bt247.2 1).bind fun t249 => (if t249 < 0 then (some false) else (if t249 = bt247.1 then ((bE.f kj46 l0).bind fun t250 => ((bJ.f pG pI).bind fun bt253 => ((aV.f kj46 t250 bt253.1 bt253.2).bind fun bt255 => ((bg.f kj46 bt255.1 t226).bind fun t259 => (if t259 = true then (av.j2 kj46 bt247.2 bt247.1 (bt255.2 != t229)) else (av.j2 kj46 bt247.2 bt247.1 true)))))) else (some false))))) = some r := by rw [if_neg (show ¬ (false = true) by decide)] at H; exact H
          clear H
          have H := H1
          clear H1
          replace H := Option.bind_eq_some_iff.mp H
          obtain ⟨⟨t247, t248⟩, A620, H⟩ := H
          replace H : ((bC.f kj46 t248 1).bind fun t249 => (if t249 < 0 then (some false) else (if t249 = t247 then ((bE.f kj46 l0).bind fun t250 => ((bJ.f pG pI).bind fun bt253 => ((aV.f kj46 t250 bt253.1 bt253.2).bind fun bt255 => ((bg.f kj46 bt255.1 t226).bind fun t259 => (if t259 = true then (av.j2 kj46 t248 t247 (bt255.2 != t229)) else (av.j2 kj46 t248 t247 true)))))) else (some false)))) = some r := H
          have A62 := ak.mk A620
          clear A620
          replace H := Option.bind_eq_some_iff.mp H
          obtain ⟨t249, A630, H⟩ := H
          replace H : (if t249 < 0 then (some false) else (if t249 = t247 then ((bE.f kj46 l0).bind fun t250 => ((bJ.f pG pI).bind fun bt253 => ((aV.f kj46 t250 bt253.1 bt253.2).bind fun bt255 => ((bg.f kj46 bt255.1 t226).bind fun t259 => (if t259 = true then (av.j2 kj46 t248 t247 (bt255.2 != t229)) else (av.j2 kj46 t248 t247 true)))))) else (some false))) = some r := H
          have A63 := ak.mk A630
          clear A630
          by_cases c64 : t249 < 0
          ·rw [if_pos c64] at H
           have c64b0 : decide (t249 < 0) = true := decide_eq_true c64
           clear c64
           obtain rfl := Option.some.inj H
           obtain ⟨Ao65, co65, eo65⟩ := Kd.dJ HO_9.out
           subst eo65
           go_wp2_with (first | ((with_reducible refine bG (f := 17) rfl ?_); refine dz (some 75) rfl rfl Try.func17 (by kernel_rfl) rfl #[.slice Ao65 t235.length co65, .int .i64 1] rfl (by (try simp only [List.map_toArray, List.map_cons, List.map_nil]); first | done | rfl | (simp only [List.length_drop, List.length_take]; rfl)) ?_; (with_reducible refine (bH.calls kj46 (fun k_ => some k_ = (.slice Ao65 t235.length co65 : Value).ownBlock) (.slice Ao65 t235.length co65) t235 1 t247 t248 w _ ?side1 ?side2 A62.out).mono ?_); (case side1 => repeat (first | (with_reducible first | exact HB.out | apply au | apply ah | apply aj | refine ay ?_ GE218.out) | exact HB.out)); (case side2 => exact Kd.jw rfl HO_9.out); rintro e w66 ⟨rfl, hy0, hb, hkp⟩; refine ⟨_, rfl, ?_⟩; have n0_ := ak.mk (Kd.bM (ok' := fun k_ => some k_ ≠ (.slice Ao65 t235.length co65 : Value).ownBlock) (Kd.iT (HO_6.out) hkp (fun k_ hk_ hs_ => (hk_) hs_)) (fun k_ hk_ => hk_.1)); have n1_ := ak.mk (Kd.kT rfl hy0 (fun k_ e_ => HO_9.out.1 k_ e_)); have n2_ := ak.mk (jk (by (with_reducible repeat (first | refine aG ?_ _ | refine aK ?_ | refine aD ?_ _)); exact BK218.out) hkp (fun hs_ => (fun e_ => (Kd.oq HO_9.out BK218.out (by decide)) e_) hs_)); have n3_ := ak.mk (hb); clear HO_6; clear HO_9; clear BK218; clear HB; have HO_6 := n0_; have HO_9 := n1_; have BK218 := n2_; have HB := n3_; clear n0_ n1_ n2_ n3_; (try clear hb); (try clear hkp); (try clear hy0)) | ((with_reducible refine bG (f := 18) rfl ?_); refine dz (some 78) rfl rfl Try.func18 (by kernel_rfl) rfl #[.slice Ao65 t248.length co65, .int .i64 1] rfl (by (try simp only [List.map_toArray, List.map_cons, List.map_nil]); first | done | (rw [show t248.length = t235.length from (Kd.bF HO_9.out).1.symm] <;> rfl) | rfl | (simp only [List.length_drop, List.length_take]; rfl)) ?_; (with_reducible refine (bC.calls kj46 _ _ t248 1 t249 _ ?side1 ?side2 A63.out).mono ?_); (case side1 => repeat (first | exact (Kd.bF HO_9.out).2.2 | (with_reducible refine Kd.bK ?_ _) | (with_reducible refine Kd.bL ?_ _) | (with_reducible refine Kd.bW ?_))); (case side2 => rw [show t248.length = t235.length from (Kd.bF HO_9.out).1.symm]; exact (Kd.bF HO_9.out).2.1); rintro e w67 ⟨rfl, hb⟩; refine ⟨_, rfl, ?_⟩; have n0_ := ak.mk (Kd.bO (by (with_reducible repeat (first | apply Kd.aT | apply Kd.aU | apply Kd.aY)); exact HO_6.out) hb); have n1_ := ak.mk (Kd.bO (by (with_reducible repeat (first | apply Kd.aT | apply Kd.aU | apply Kd.aY)); exact HO_9.out) hb); have n2_ := ak.mk (bD (g := gb218) (o := .cells #[.string pG, .int .i64 pI] 24 (0, 0)) (by (with_reducible repeat (first | refine aG ?_ _ | refine aK ?_ | refine aD ?_ _)); exact BK218.out) hb); have n3_ := ak.mk (aX (by repeat (first | (with_reducible first | exact HB.out | apply au | apply ah | apply aj | refine ay ?_ GE218.out) | exact HB.out)) hb); clear HO_6; clear HO_9; clear BK218; clear HB; have HO_6 := n0_; have HO_9 := n1_; have BK218 := n2_; have HB := n3_; clear n0_ n1_ n2_ n3_; (try clear hb); (try clear hb2); (try clear hk); (try clear hi)))
           go_ret
           exact ⟨by first | rfl | (simp [bn, bq] <;> rfl) | (simp [*, bn, bq] <;> rfl), by repeat (first | (with_reducible first | exact HB.out | apply au | apply ah | apply aj | refine ay ?_ GE218.out) | exact HB.out)⟩
          ·rw [if_neg c64] at H
           have c64b0 : decide (t249 < 0) = false := decide_eq_false c64
           clear c64
           by_cases c68 : t249 = t247
           ·rw [if_pos c68] at H
            have c68b0 : (t249 == t247) = true := beq_iff_eq.mpr c68
            have c68b1 : (t249 != t247) = false := bne_eq_false_iff_eq.mpr c68
            clear c68
            replace H := Option.bind_eq_some_iff.mp H
            obtain ⟨t250, A690, H⟩ := H
            replace H : ((bJ.f pG pI).bind fun bt253 => ((aV.f kj46 t250 bt253.1 bt253.2).bind fun bt255 => ((bg.f kj46 bt255.1 t226).bind fun t259 => (if t259 = true then (av.j2 kj46 t248 t247 (bt255.2 != t229)) else (av.j2 kj46 t248 t247 true))))) = some r := H
            have A69 := ak.mk A690
            clear A690
            replace H := Option.bind_eq_some_iff.mp H
            obtain ⟨⟨t253, t254⟩, A700, H⟩ := H
            replace H : ((aV.f kj46 t250 t253 t254).bind fun bt255 => ((bg.f kj46 bt255.1 t226).bind fun t259 => (if t259 = true then (av.j2 kj46 t248 t247 (bt255.2 != t229)) else (av.j2 kj46 t248 t247 true)))) = some r := H
            have A70 := ak.mk A700
            clear A700
            replace H := Option.bind_eq_some_iff.mp H
            obtain ⟨⟨t255, t258⟩, A710, H⟩ := H
            replace H : ((bg.f kj46 t255 t226).bind fun t259 => (if t259 = true then (av.j2 kj46 t248 t247 (t258 != t229)) else (av.j2 kj46 t248 t247 true))) = some r := H
            have A71 := ak.mk A710
            clear A710
            have HC72 := ak.mk H
            clear H
            obtain ⟨Ao73, co73, eo73⟩ := Kd.dJ HO_9.out
            subst eo73
            try go_wp2_with (first | ((with_reducible refine bG (f := 17) rfl ?_); refine dz (some 75) rfl rfl Try.func17 (by kernel_rfl) rfl #[.slice Ao73 t235.length co73, .int .i64 1] rfl (by (try simp only [List.map_toArray, List.map_cons, List.map_nil]); first | done | rfl | (simp only [List.length_drop, List.length_take]; rfl)) ?_; (with_reducible refine (bH.calls kj46 (fun k_ => some k_ = (.slice Ao73 t235.length co73 : Value).ownBlock) (.slice Ao73 t235.length co73) t235 1 t247 t248 w _ ?side1 ?side2 A62.out).mono ?_); (case side1 => repeat (first | (with_reducible first | exact HB.out | apply au | apply ah | apply aj | refine ay ?_ GE218.out) | exact HB.out)); (case side2 => exact Kd.jw rfl HO_9.out); rintro e w74 ⟨rfl, hy0, hb, hkp⟩; refine ⟨_, rfl, ?_⟩; have n0_ := ak.mk (Kd.bM (ok' := fun k_ => some k_ ≠ (.slice Ao73 t235.length co73 : Value).ownBlock) (Kd.iT (HO_6.out) hkp (fun k_ hk_ hs_ => (hk_) hs_)) (fun k_ hk_ => hk_.1)); have n1_ := ak.mk (Kd.kT rfl hy0 (fun k_ e_ => HO_9.out.1 k_ e_)); have n2_ := ak.mk (jk (by (with_reducible repeat (first | refine aG ?_ _ | refine aK ?_ | refine aD ?_ _)); exact BK218.out) hkp (fun hs_ => (fun e_ => (Kd.oq HO_9.out BK218.out (by decide)) e_) hs_)); have n3_ := ak.mk (hb); clear HO_6; clear HO_9; clear BK218; clear HB; have HO_6 := n0_; have HO_9 := n1_; have BK218 := n2_; have HB := n3_; clear n0_ n1_ n2_ n3_; (try clear hb); (try clear hkp); (try clear hy0)) | ((with_reducible refine bG (f := 18) rfl ?_); refine dz (some 78) rfl rfl Try.func18 (by kernel_rfl) rfl #[.slice Ao73 t248.length co73, .int .i64 1] rfl (by (try simp only [List.map_toArray, List.map_cons, List.map_nil]); first | done | (rw [show t248.length = t235.length from (Kd.bF HO_9.out).1.symm] <;> rfl) | rfl | (simp only [List.length_drop, List.length_take]; rfl)) ?_; (with_reducible refine (bC.calls kj46 _ _ t248 1 t249 _ ?side1 ?side2 A63.out).mono ?_); (case side1 => repeat (first | exact (Kd.bF HO_9.out).2.2 | (with_reducible refine Kd.bK ?_ _) | (with_reducible refine Kd.bL ?_ _) | (with_reducible refine Kd.bW ?_))); (case side2 => rw [show t248.length = t235.length from (Kd.bF HO_9.out).1.symm]; exact (Kd.bF HO_9.out).2.1); rintro e w75 ⟨rfl, hb⟩; refine ⟨_, rfl, ?_⟩; have n0_ := ak.mk (Kd.bO (by (with_reducible repeat (first | apply Kd.aT | apply Kd.aU | apply Kd.aY)); exact HO_6.out) hb); have n1_ := ak.mk (Kd.bO (by (with_reducible repeat (first | apply Kd.aT | apply Kd.aU | apply Kd.aY)); exact HO_9.out) hb); have n2_ := ak.mk (bD (g := gb218) (o := .cells #[.string pG, .int .i64 pI] 24 (0, 0)) (by (with_reducible repeat (first | refine aG ?_ _ | refine aK ?_ | refine aD ?_ _)); exact BK218.out) hb); have n3_ := ak.mk (aX (by repeat (first | (with_reducible first | exact HB.out | apply au | apply ah | apply aj | refine ay ?_ GE218.out) | exact HB.out)) hb); clear HO_6; clear HO_9; clear BK218; clear HB; have HO_6 := n0_; have HO_9 := n1_; have BK218 := n2_; have HB := n3_; clear n0_ n1_ n2_ n3_; (try clear hb); (try clear hb2); (try clear hk); (try clear hi)))
            have n0_ := ak.mk (Kd.aY HO_6.out)
            have n1_ := ak.mk (Kd.aY HO_9.out)
            have n2_ := ak.mk (aK BK218.out)
            have n3_ := ak.mk (aj HB.out)
            clear HO_6
            clear HO_9
            clear BK218
            clear HB
            have HO_6 := n0_
            have HO_9 := n1_
            have BK218 := n2_
            have HB := n3_
            clear n0_ n1_ n2_ n3_
            refine dU (n := 10) (S := fun w' => w'.cell? ⟨gb218, 0, none⟩ = some (.string pG) ∧ w'.cell? ⟨gb218, 1, none⟩ = some (.int .i64 pI)) (ds := []) #[false, false, false, false, false, false, false, false, false, false] (by kernel_rfl) rfl rfl ⟨(aM BK218.out 0).trans rfl, (aM BK218.out 1).trans rfl⟩ (fun hHeld => ?_); refine dA av.o7 av.oP (fun HT_ HW_ => ?_)
            generalize w75.drew = w76 at HO_6 HO_9 BK218 HB hHeld ⊢
            refine aP (i := 0) (N := some 85) (v := ?_) (a' := ?_) #[true, false, false, false, false, false, false, false, false, false] rfl rfl (aH HT_.out (by kernel_rfl)) (fun _ _ _ h => h) (Or.inl ⟨by rfl, ?_⟩) ?_ ?_
            rotate_left
            ·intro w'
             go_simp
             with_reducible rfl
            rotate_left
            ·simp only [Act.put, List.setIfInBounds_toArray, List.set_cons_zero, List.set_cons_succ, aA, aC]
             rfl
            refine dI (i := 2) (N := some 87) (v := ?_) (a' := ?_) #[true, false, true, false, false, false, false, false, false, false] rfl rfl (bN HT_.out HW_.out (by kernel_rfl)) (fun _ _ _ h => h) (Or.inl ⟨by rfl, ?_⟩) hHeld ?_ ?_
            rotate_left
            ·rintro w' ⟨s0, s1⟩
             go_simp
             with_reducible rfl
            rotate_left
            ·simp only [Act.put, List.setIfInBounds_toArray, List.set_cons_zero, List.set_cons_succ, aA, aC]
             rfl
            refine dS (i := 1) (N := some 86) #[true, true, true, false, false, false, false, false, false, false] rfl rfl (cK HT_.out (by kernel_rfl)) (by decide) (fun K hK => ?_)
            refine dP Try.func13 (by kernel_rfl) rfl #[.slice A0 l0.length c0] (by rfl) rfl rfl (by (try simp only [List.map_toArray, List.map_cons, List.map_nil]); first | done | rfl | (simp only [List.length_drop, List.length_take]; rfl)) ?_
            with_reducible refine (bE.calls kj46 _ _ l0 t250 _ ?side1 ?side2 A69.out).mono ?_
            (case side1 => repeat (first | exact (Kd.dB HR0.out HB.out) | (with_reducible refine Kd.bK ?_ _) | (with_reducible refine Kd.bL ?_ _) | (with_reducible refine Kd.bW ?_)))
            (case side2 => exact HC0.out)
            rintro e w77 ⟨v251, rfl, ho0, hb⟩
            refine ⟨_, rfl, ?_⟩
            have n0_ := ak.mk (Kd.cZ (by (with_reducible repeat (first | apply Kd.aT | apply Kd.aU | apply Kd.aY)); exact HO_6.out) (Kd.dM ho0) hb)
            have n1_ := ak.mk (Kd.cZ (by (with_reducible repeat (first | apply Kd.aT | apply Kd.aU | apply Kd.aY)); exact HO_9.out) (Kd.dM ho0) hb)
            have n2_ := ak.mk (Kd.dD (Kd.dN (Kd.dN ho0 (Kd.dZ (by (with_reducible repeat (first | apply Kd.aT | apply Kd.aU | apply Kd.aY)); exact HO_6.out))) (Kd.dZ (by (with_reducible repeat (first | apply Kd.aT | apply Kd.aU | apply Kd.aY)); exact HO_9.out))) (aW (by repeat (first | (with_reducible first | exact HB.out | apply au | apply ah | apply aj | refine ay ?_ GE218.out) | exact HB.out))))
            have n3_ := ak.mk (bD (g := gb218) (o := .cells #[.string pG, .int .i64 pI] 24 (0, 0)) (by (with_reducible repeat (first | refine aG ?_ _ | refine aK ?_ | refine aD ?_ _)); exact BK218.out) hb)
            have n4_ := ak.mk (aX (by repeat (first | (with_reducible first | exact HB.out | apply au | apply ah | apply aj | refine ay ?_ GE218.out) | exact HB.out)) hb)
            clear HO_6
            clear HO_9
            clear BK218
            clear HB
            have HO_6 := n0_
            have HO_9 := n1_
            have HO252 := n2_
            have BK218 := n3_
            have HB := n4_
            clear n0_ n1_ n2_ n3_ n4_
            (try clear hb)
            (try clear hb2)
            (try clear hk)
            (try clear hi)
            (try clear ho0)
            refine hK.out _ _ ⟨(aM BK218.out 0).trans rfl, (aM BK218.out 1).trans rfl⟩ (fun hHeld => ?_)
            clear hK K
            refine bQ (a' := ?_) ?_ ?_
            rotate_left
            ·show Act.put _ (some 86) _ = _
             simp only [Act.put, List.setIfInBounds_toArray, List.set_cons_zero, List.set_cons_succ, aA, aC]
             rfl
            refine dS (i := 3) (N := some 88) #[true, true, true, true, false, false, false, false, false, false] rfl rfl (cK HT_.out (by kernel_rfl)) (by decide) (fun K hK => ?_)
            refine dP Try.func14 (by kernel_rfl) rfl #[.agg #[.string pG, .int .i64 pI]] (by rfl) rfl rfl (by (try simp only [List.map_toArray, List.map_cons, List.map_nil]); first | done | rfl | (simp only [List.length_drop, List.length_take]; rfl)) ?_
            with_reducible refine (bJ.calls pG pI t253 t254 _ A70.out).mono ?_
            rintro e w78 ⟨rfl, hb⟩
            refine ⟨_, rfl, ?_⟩
            have n0_ := ak.mk (Kd.bO (by (with_reducible repeat (first | apply Kd.aT | apply Kd.aU | apply Kd.aY)); exact HO_6.out) hb)
            have n1_ := ak.mk (Kd.bO (by (with_reducible repeat (first | apply Kd.aT | apply Kd.aU | apply Kd.aY)); exact HO_9.out) hb)
            have n2_ := ak.mk (Kd.bO (by (with_reducible repeat (first | apply Kd.aT | apply Kd.aU | apply Kd.aY)); exact HO252.out) hb)
            have n3_ := ak.mk (bD (g := gb218) (o := .cells #[.string pG, .int .i64 pI] 24 (0, 0)) (by (with_reducible repeat (first | refine aG ?_ _ | refine aK ?_ | refine aD ?_ _)); exact BK218.out) hb)
            have n4_ := ak.mk (aX (by repeat (first | (with_reducible first | exact HB.out | apply au | apply ah | apply aj | refine ay ?_ GE218.out) | exact HB.out)) hb)
            clear HO_6
            clear HO_9
            clear HO252
            clear BK218
            clear HB
            have HO_6 := n0_
            have HO_9 := n1_
            have HO252 := n2_
            have BK218 := n3_
            have HB := n4_
            clear n0_ n1_ n2_ n3_ n4_
            (try clear hb)
            (try clear hb2)
            (try clear hk)
            (try clear hi)
            obtain ⟨Ao79, co79, eo79⟩ := Kd.dJ HO252.out
            (first | subst eo79 | (injection eo79 with f1_ f2_ f3_; have f4_ := f1_.symm; have f5_ := f3_.symm; clear f1_ f2_ f3_; subst f4_; subst f5_))
            refine hK.out _ _ ⟨(aM BK218.out 0).trans rfl, (aM BK218.out 1).trans rfl⟩ (fun hHeld => ?_)
            clear hK K
            refine bQ (a' := ?_) ?_ ?_
            rotate_left
            ·show Act.put _ (some 88) _ = _
             simp only [Act.put, List.setIfInBounds_toArray, List.set_cons_zero, List.set_cons_succ, aA, aC]
             rfl
            refine dS (i := 4) (N := some 89) #[true, true, true, true, true, false, false, false, false, false] rfl rfl (cK HT_.out (by kernel_rfl)) (by decide) (fun K hK => ?_)
            refine dP Try.func15 (by kernel_rfl) rfl #[.slice Ao79 t250.length co79, .agg #[.string t253, .int .i64 t254]] (by rfl) rfl rfl (by (try simp only [List.map_toArray, List.map_cons, List.map_nil]); first | done | rfl | (simp only [List.length_drop, List.length_take]; rfl)) ?_
            with_reducible refine (aV.calls kj46 _ _ t250 t253 t254 t255 t258 _ ?side1 ?side2 A71.out).mono ?_
            (case side1 => repeat (first | exact (Kd.bF HO252.out).2.2 | (with_reducible refine Kd.bK ?_ _) | (with_reducible refine Kd.bL ?_ _) | (with_reducible refine Kd.bW ?_)))
            (case side2 => exact (Kd.bF HO252.out).2.1)
            rintro e w80 ⟨v256, rfl, ho0, hb⟩
            refine ⟨_, rfl, ?_⟩
            have n0_ := ak.mk (Kd.cZ (by (with_reducible repeat (first | apply Kd.aT | apply Kd.aU | apply Kd.aY)); exact HO_6.out) (Kd.dM ho0) hb)
            have n1_ := ak.mk (Kd.cZ (by (with_reducible repeat (first | apply Kd.aT | apply Kd.aU | apply Kd.aY)); exact HO_9.out) (Kd.dM ho0) hb)
            have n2_ := ak.mk (Kd.cZ (by (with_reducible repeat (first | apply Kd.aT | apply Kd.aU | apply Kd.aY)); exact HO252.out) (Kd.dM ho0) hb)
            have n3_ := ak.mk (Kd.dD (Kd.dN (Kd.dN (Kd.dN ho0 (Kd.dZ (by (with_reducible repeat (first | apply Kd.aT | apply Kd.aU | apply Kd.aY)); exact HO_6.out))) (Kd.dZ (by (with_reducible repeat (first | apply Kd.aT | apply Kd.aU | apply Kd.aY)); exact HO_9.out))) (Kd.dZ (by (with_reducible repeat (first | apply Kd.aT | apply Kd.aU | apply Kd.aY)); exact HO252.out))) (aW (by repeat (first | (with_reducible first | exact HB.out | apply au | apply ah | apply aj | refine ay ?_ GE218.out) | exact HB.out))))
            have n4_ := ak.mk (bD (g := gb218) (o := .cells #[.string pG, .int .i64 pI] 24 (0, 0)) (by (with_reducible repeat (first | refine aG ?_ _ | refine aK ?_ | refine aD ?_ _)); exact BK218.out) hb)
            have n5_ := ak.mk (aX (by repeat (first | (with_reducible first | exact HB.out | apply au | apply ah | apply aj | refine ay ?_ GE218.out) | exact HB.out)) hb)
            clear HO_6
            clear HO_9
            clear HO252
            clear BK218
            clear HB
            have HO_6 := n0_
            have HO_9 := n1_
            have HO252 := n2_
            have HO257 := n3_
            have BK218 := n4_
            have HB := n5_
            clear n0_ n1_ n2_ n3_ n4_ n5_
            (try clear hb)
            (try clear hb2)
            (try clear hk)
            (try clear hi)
            (try clear ho0)
            refine hK.out _ _ ⟨(aM BK218.out 0).trans rfl, (aM BK218.out 1).trans rfl⟩ (fun hHeld => ?_)
            clear hK K
            refine bQ (a' := ?_) ?_ ?_
            rotate_left
            ·show Act.put _ (some 89) _ = _
             simp only [Act.put, List.setIfInBounds_toArray, List.set_cons_zero, List.set_cons_succ, aA, aC]
             rfl
            refine aP (i := 5) (N := some 84) (v := ?_) (a' := ?_) #[true, true, true, true, true, true, false, false, false, false] rfl rfl (aH HT_.out (by kernel_rfl)) (fun _ _ _ h => h) (Or.inl ⟨by rfl, ?_⟩) ?_ ?_
            rotate_left
            ·intro w'
             go_simp
             with_reducible rfl
            rotate_left
            ·simp only [Act.put, List.setIfInBounds_toArray, List.set_cons_zero, List.set_cons_succ, aA, aC]
             rfl
            refine aP (i := 6) (N := some 90) (v := ?_) (a' := ?_) #[true, true, true, true, true, true, true, false, false, false] rfl rfl (aH HT_.out (by kernel_rfl)) (fun _ _ _ h => h) (Or.inl ⟨by rfl, ?_⟩) ?_ ?_
            rotate_left
            ·intro w'
             go_simp
             with_reducible rfl
            rotate_left
            ·simp only [Act.put, List.setIfInBounds_toArray, List.set_cons_zero, List.set_cons_succ, aA, aC]
             rfl
            refine aP (i := 7) (N := some 91) (v := ?_) (a' := ?_) #[true, true, true, true, true, true, true, true, false, false] rfl rfl (aH HT_.out (by kernel_rfl)) (fun _ _ _ h => h) (Or.inl ⟨by rfl, ?_⟩) ?_ ?_
            rotate_left
            ·intro w'
             go_simp
             with_reducible rfl
            rotate_left
            ·simp only [Act.put, List.setIfInBounds_toArray, List.set_cons_zero, List.set_cons_succ, aA, aC]
             rfl
            refine aP (i := 8) (N := some 14) (v := ?_) (a' := ?_) #[true, true, true, true, true, true, true, true, true, false] rfl rfl (aH HT_.out (by kernel_rfl)) (fun _ _ _ h => h) (Or.inl ⟨by rfl, ?_⟩) ?_ ?_
            rotate_left
            ·intro w'
             go_simp
             with_reducible rfl
            rotate_left
            ·simp only [Act.put, List.setIfInBounds_toArray, List.set_cons_zero, List.set_cons_succ, aA, aC]
             rfl
            refine aP (i := 9) (N := some 15) (v := ?_) (a' := ?_) #[true, true, true, true, true, true, true, true, true, true] rfl rfl (aH HT_.out (by kernel_rfl)) (fun _ _ _ h => h) (Or.inl ⟨by rfl, ?_⟩) ?_ ?_
            rotate_left
            ·intro w'
             go_simp
             with_reducible rfl
            rotate_left
            ·simp only [Act.put, List.setIfInBounds_toArray, List.set_cons_zero, List.set_cons_succ, aA, aC]
             rfl
            refine eG (dO HT_.out (by kernel_rfl)) ?_
            go_upto_region 28 with (fail)
            go_cut [100] (fun v100 wc => ∃ (kq : Nat) (x100_71 : Bool), v100 = .bool x100_71 ∧ ak (av.j2 kq t248 t247 x100_71 = some r) ∧ ak (kq ≤ kj46) ∧ ak (Kd.R k31 31 wc w.heap.size (fun _ => True) (.slice Ao73 t235.length co73) t248) ∧ ak (wc.heap[gb218]? = some (.cells #[.string pG, .int .i64 pI] 24 (0, 0))) ∧ ak (Below w.heap.size w wc))
            case first =>
             have H := HC72.out
             clear HC72
             replace H := Option.bind_eq_some_iff.mp H
             obtain ⟨t259, A810, H⟩ := H
             replace H : (if t259 = true then (av.j2 kj46 t248 t247 (t258 != t229)) else (av.j2 kj46 t248 t247 true)) = some r := H
             have A81 := ak.mk A810
             clear A810
             by_cases c82 : t259 = true
             ·subst c82
              have H1 : (av.j2 kj46 t248 t247 (t258 != t229)) = some r := by rw [if_pos rfl] at H; exact H
              clear H
              have H := H1
              clear H1
              have H' := ak.mk H
              clear H
              obtain ⟨Ao83, co83, eo83⟩ := Kd.dJ HO257.out
              subst eo83
              obtain ⟨Ao84, co84, eo84⟩ := Kd.dJ HO_6.out
              subst eo84
              go_wp2_with (first | ((with_reducible refine bG (f := 16) rfl ?_); refine dz (some 94) rfl rfl Try.func16 (by kernel_rfl) rfl #[.slice Ao83 t255.length co83, .slice Ao84 t226.length co84] rfl (by (try simp only [List.map_toArray, List.map_cons, List.map_nil]); first | done | rfl | (simp only [List.length_drop, List.length_take]; rfl)) ?_; (with_reducible refine (bg.calls kj46 _ _ t255 _ _ t226 true _ ?side1 ?side2 ?side3 ?side4 A81.out).mono ?_); (case side1 => repeat (first | exact (Kd.bF HO257.out).2.2 | (with_reducible refine Kd.bK ?_ _) | (with_reducible refine Kd.bL ?_ _) | (with_reducible refine Kd.bW ?_))); (case side2 => exact (Kd.bF HO257.out).2.1); (case side3 => repeat (first | exact (Kd.bF HO_6.out).2.2 | (with_reducible refine Kd.bK ?_ _) | (with_reducible refine Kd.bL ?_ _) | (with_reducible refine Kd.bW ?_))); (case side4 => exact (Kd.bF HO_6.out).2.1); rintro e w85 ⟨rfl, hb⟩; refine ⟨_, rfl, ?_⟩; have n0_ := ak.mk (Kd.bO (by (with_reducible repeat (first | apply Kd.aT | apply Kd.aU | apply Kd.aY)); exact HO_6.out) hb); have n1_ := ak.mk (Kd.bO (by (with_reducible repeat (first | apply Kd.aT | apply Kd.aU | apply Kd.aY)); exact HO_9.out) hb); have n2_ := ak.mk (Kd.bO (by (with_reducible repeat (first | apply Kd.aT | apply Kd.aU | apply Kd.aY)); exact HO252.out) hb); have n3_ := ak.mk (Kd.bO (by (with_reducible repeat (first | apply Kd.aT | apply Kd.aU | apply Kd.aY)); exact HO257.out) hb); have n4_ := ak.mk (bD (g := gb218) (o := .cells #[.string pG, .int .i64 pI] 24 (0, 0)) (by (with_reducible repeat (first | refine aG ?_ _ | refine aK ?_ | refine aD ?_ _)); exact BK218.out) hb); have n5_ := ak.mk (aX (by repeat (first | (with_reducible first | exact HB.out | apply au | apply ah | apply aj | refine ay ?_ GE218.out) | exact HB.out)) hb); clear HO_6; clear HO_9; clear HO252; clear HO257; clear BK218; clear HB; have HO_6 := n0_; have HO_9 := n1_; have HO252 := n2_; have HO257 := n3_; have BK218 := n4_; have HB := n5_; clear n0_ n1_ n2_ n3_ n4_ n5_; (try clear hb); (try clear hb2); (try clear hk); (try clear hi)))
              go_meet
              case rel => exact ⟨_, ((t258 != t229)), (by first | rfl | (simp; done) | (simp [*]; done)), H', ⟨by have := HJ18.out; have := HJ46.out; first | omega | exact Nat.le_refl _⟩, ⟨by (with_reducible repeat (first | apply Kd.aT | apply Kd.aU | apply Kd.aY)); exact Kd.bM HO_9.out (fun _ hk => trivial)⟩, ⟨by (with_reducible repeat (first | refine aG ?_ _ | refine aK ?_ | refine aD ?_ _)); exact BK218.out⟩, ⟨by repeat (first | (with_reducible first | exact HB.out | apply au | apply ah | apply aj | refine ay ?_ GE218.out) | exact HB.out)⟩⟩
             ·replace c82 := Bool.eq_false_iff.mpr c82
              subst c82
              have H1 : (av.j2 kj46 t248 t247 true) = some r := by rw [if_neg (show ¬ (false = true) by decide)] at H; exact H
              clear H
              have H := H1
              clear H1
              have H' := ak.mk H
              clear H
              obtain ⟨Ao86, co86, eo86⟩ := Kd.dJ HO257.out
              subst eo86
              obtain ⟨Ao87, co87, eo87⟩ := Kd.dJ HO_6.out
              subst eo87
              go_wp2_with (first | ((with_reducible refine bG (f := 16) rfl ?_); refine dz (some 94) rfl rfl Try.func16 (by kernel_rfl) rfl #[.slice Ao86 t255.length co86, .slice Ao87 t226.length co87] rfl (by (try simp only [List.map_toArray, List.map_cons, List.map_nil]); first | done | rfl | (simp only [List.length_drop, List.length_take]; rfl)) ?_; (with_reducible refine (bg.calls kj46 _ _ t255 _ _ t226 false _ ?side1 ?side2 ?side3 ?side4 A81.out).mono ?_); (case side1 => repeat (first | exact (Kd.bF HO257.out).2.2 | (with_reducible refine Kd.bK ?_ _) | (with_reducible refine Kd.bL ?_ _) | (with_reducible refine Kd.bW ?_))); (case side2 => exact (Kd.bF HO257.out).2.1); (case side3 => repeat (first | exact (Kd.bF HO_6.out).2.2 | (with_reducible refine Kd.bK ?_ _) | (with_reducible refine Kd.bL ?_ _) | (with_reducible refine Kd.bW ?_))); (case side4 => exact (Kd.bF HO_6.out).2.1); rintro e w88 ⟨rfl, hb⟩; refine ⟨_, rfl, ?_⟩; have n0_ := ak.mk (Kd.bO (by (with_reducible repeat (first | apply Kd.aT | apply Kd.aU | apply Kd.aY)); exact HO_6.out) hb); have n1_ := ak.mk (Kd.bO (by (with_reducible repeat (first | apply Kd.aT | apply Kd.aU | apply Kd.aY)); exact HO_9.out) hb); have n2_ := ak.mk (Kd.bO (by (with_reducible repeat (first | apply Kd.aT | apply Kd.aU | apply Kd.aY)); exact HO252.out) hb); have n3_ := ak.mk (Kd.bO (by (with_reducible repeat (first | apply Kd.aT | apply Kd.aU | apply Kd.aY)); exact HO257.out) hb); have n4_ := ak.mk (bD (g := gb218) (o := .cells #[.string pG, .int .i64 pI] 24 (0, 0)) (by (with_reducible repeat (first | refine aG ?_ _ | refine aK ?_ | refine aD ?_ _)); exact BK218.out) hb); have n5_ := ak.mk (aX (by repeat (first | (with_reducible first | exact HB.out | apply au | apply ah | apply aj | refine ay ?_ GE218.out) | exact HB.out)) hb); clear HO_6; clear HO_9; clear HO252; clear HO257; clear BK218; clear HB; have HO_6 := n0_; have HO_9 := n1_; have HO252 := n2_; have HO257 := n3_; have BK218 := n4_; have HB := n5_; clear n0_ n1_ n2_ n3_ n4_ n5_; (try clear hb); (try clear hb2); (try clear hk); (try clear hi)))
              go_meet
              case rel => exact ⟨_, (true), (by first | rfl | (simp; done) | (simp [*]; done)), H', ⟨by have := HJ18.out; have := HJ46.out; first | omega | exact Nat.le_refl _⟩, ⟨by (with_reducible repeat (first | apply Kd.aT | apply Kd.aU | apply Kd.aY)); exact Kd.bM HO_9.out (fun _ hk => trivial)⟩, ⟨by (with_reducible repeat (first | refine aG ?_ _ | refine aK ?_ | refine aD ?_ _)); exact BK218.out⟩, ⟨by repeat (first | (with_reducible first | exact HB.out | apply au | apply ah | apply aj | refine ay ?_ GE218.out) | exact HB.out)⟩⟩
            case rest =>
             clear HC72
             try clear c4
             try clear c4b0
             try clear c8
             try clear c8b0
             try clear c42
             try clear c45
             try clear c61
             try clear c64
             try clear c64b0
             try clear c68
             try clear c68b0
             try clear c68b1
             try clear hcz22_0
             try clear hcz22_1
             try clear hcz30_0
             try clear hcz30_1
             try clear hfz22_0
             try clear hfz22_1
             try clear hfz30_0
             try clear hfz30_1
             obtain ⟨kq, x100_71, rfl, HA, HJ71, HO_9, BK218, HB⟩ := hcut
             have hl9_71 := (Kd.bF HO_9.out).1
             rw [hl9_71] at HO_9
             (try simp only [hl9_71])
             (try simp only [hl9_71] at BK218)
             cases kq with
             | zero => exact absurd HA.out (by simp [av.j2])
             | succ kj71 =>
              have H := HA.out
              clear HA
              simp only [av.j2] at H
              by_cases c89 : x100_71 = true
              ·subst c89
               have H1 : (some false) = some r := by rw [if_pos rfl] at H; exact H
               clear H
               have H := H1
               clear H1
               obtain rfl := Option.some.inj H
               go_wp2
               go_ret
               exact ⟨by first | rfl | (simp [bn, bq] <;> rfl) | (simp [*, bn, bq] <;> rfl), by repeat (first | (with_reducible first | exact HB.out | apply au | apply ah | apply aj | refine ay ?_ GE218.out) | exact HB.out)⟩
              ·replace c89 := Bool.eq_false_iff.mpr c89
               subst c89
               have H1 : ((bC.f kj71 t248 1).bind fun t260 => (if t260 < 0 then (some false) else (if t260 = t247 then (some true) else (some false)))) = some r := by rw [if_neg (show ¬ (false = true) by decide)] at H; exact H
               clear H
               have H := H1
               clear H1
               replace H := Option.bind_eq_some_iff.mp H
               obtain ⟨t260, A900, H⟩ := H
               replace H : (if t260 < 0 then (some false) else (if t260 = t247 then (some true) else (some false))) = some r := H
               have A90 := ak.mk A900
               clear A900
               by_cases c91 : t260 < 0
               ·rw [if_pos c91] at H
                have c91b0 : decide (t260 < 0) = true := decide_eq_true c91
                clear c91
                obtain rfl := Option.some.inj H
                go_wp2_with (first | ((with_reducible refine bG (f := 18) rfl ?_); refine dz (some 103) rfl rfl Try.func18 (by kernel_rfl) rfl #[.slice Ao73 t248.length co73, .int .i64 1] rfl (by (try simp only [List.map_toArray, List.map_cons, List.map_nil]); first | done | rfl | (simp only [List.length_drop, List.length_take]; rfl)) ?_; (with_reducible refine (bC.calls kj71 _ _ t248 1 t260 _ ?side1 ?side2 A90.out).mono ?_); (case side1 => repeat (first | exact (Kd.bF HO_9.out).2.2 | (with_reducible refine Kd.bK ?_ _) | (with_reducible refine Kd.bL ?_ _) | (with_reducible refine Kd.bW ?_))); (case side2 => exact (Kd.bF HO_9.out).2.1); rintro e w92 ⟨rfl, hb⟩; refine ⟨_, rfl, ?_⟩; have n0_ := ak.mk (Kd.bO (by (with_reducible repeat (first | apply Kd.aT | apply Kd.aU | apply Kd.aY)); exact HO_9.out) hb); have n1_ := ak.mk (bD (g := gb218) (o := .cells #[.string pG, .int .i64 pI] 24 (0, 0)) (by (with_reducible repeat (first | refine aG ?_ _ | refine aK ?_ | refine aD ?_ _)); exact BK218.out) hb); have n2_ := ak.mk (aX (by repeat (first | (with_reducible first | exact HB.out | apply au | apply ah | apply aj | refine ay ?_ GE218.out) | exact HB.out)) hb); clear HO_9; clear BK218; clear HB; have HO_9 := n0_; have BK218 := n1_; have HB := n2_; clear n0_ n1_ n2_; (try clear hb); (try clear hb2); (try clear hk); (try clear hi)))
                go_ret
                exact ⟨by first | rfl | (simp [bn, bq] <;> rfl) | (simp [*, bn, bq] <;> rfl), by repeat (first | (with_reducible first | exact HB.out | apply au | apply ah | apply aj | refine ay ?_ GE218.out) | exact HB.out)⟩
               ·rw [if_neg c91] at H
                have c91b0 : decide (t260 < 0) = false := decide_eq_false c91
                clear c91
                by_cases c93 : t260 = t247
                ·rw [if_pos c93] at H
                 have c93b0 : (t260 == t247) = true := beq_iff_eq.mpr c93
                 have c93b1 : (t260 != t247) = false := bne_eq_false_iff_eq.mpr c93
                 clear c93
                 obtain rfl := Option.some.inj H
                 go_wp2_with (first | ((with_reducible refine bG (f := 18) rfl ?_); refine dz (some 103) rfl rfl Try.func18 (by kernel_rfl) rfl #[.slice Ao73 t248.length co73, .int .i64 1] rfl (by (try simp only [List.map_toArray, List.map_cons, List.map_nil]); first | done | rfl | (simp only [List.length_drop, List.length_take]; rfl)) ?_; (with_reducible refine (bC.calls kj71 _ _ t248 1 t260 _ ?side1 ?side2 A90.out).mono ?_); (case side1 => repeat (first | exact (Kd.bF HO_9.out).2.2 | (with_reducible refine Kd.bK ?_ _) | (with_reducible refine Kd.bL ?_ _) | (with_reducible refine Kd.bW ?_))); (case side2 => exact (Kd.bF HO_9.out).2.1); rintro e w94 ⟨rfl, hb⟩; refine ⟨_, rfl, ?_⟩; have n0_ := ak.mk (Kd.bO (by (with_reducible repeat (first | apply Kd.aT | apply Kd.aU | apply Kd.aY)); exact HO_9.out) hb); have n1_ := ak.mk (bD (g := gb218) (o := .cells #[.string pG, .int .i64 pI] 24 (0, 0)) (by (with_reducible repeat (first | refine aG ?_ _ | refine aK ?_ | refine aD ?_ _)); exact BK218.out) hb); have n2_ := ak.mk (aX (by repeat (first | (with_reducible first | exact HB.out | apply au | apply ah | apply aj | refine ay ?_ GE218.out) | exact HB.out)) hb); clear HO_9; clear BK218; clear HB; have HO_9 := n0_; have BK218 := n1_; have HB := n2_; clear n0_ n1_ n2_; (try clear hb); (try clear hb2); (try clear hk); (try clear hi)))
                 go_ret
                 exact ⟨by first | rfl | (simp [bn, bq] <;> rfl) | (simp [*, bn, bq] <;> rfl), by repeat (first | (with_reducible first | exact HB.out | apply au | apply ah | apply aj | refine ay ?_ GE218.out) | exact HB.out)⟩
                ·rw [if_neg c93] at H
                 have c93b0 : (t260 == t247) = false := beq_eq_false_iff_ne.mpr c93
                 have c93b1 : (t260 != t247) = true := bne_iff_ne.mpr c93
                 obtain rfl := Option.some.inj H
                 go_wp2_with (first | ((with_reducible refine bG (f := 18) rfl ?_); refine dz (some 103) rfl rfl Try.func18 (by kernel_rfl) rfl #[.slice Ao73 t248.length co73, .int .i64 1] rfl (by (try simp only [List.map_toArray, List.map_cons, List.map_nil]); first | done | rfl | (simp only [List.length_drop, List.length_take]; rfl)) ?_; (with_reducible refine (bC.calls kj71 _ _ t248 1 t260 _ ?side1 ?side2 A90.out).mono ?_); (case side1 => repeat (first | exact (Kd.bF HO_9.out).2.2 | (with_reducible refine Kd.bK ?_ _) | (with_reducible refine Kd.bL ?_ _) | (with_reducible refine Kd.bW ?_))); (case side2 => exact (Kd.bF HO_9.out).2.1); rintro e w95 ⟨rfl, hb⟩; refine ⟨_, rfl, ?_⟩; have n0_ := ak.mk (Kd.bO (by (with_reducible repeat (first | apply Kd.aT | apply Kd.aU | apply Kd.aY)); exact HO_9.out) hb); have n1_ := ak.mk (bD (g := gb218) (o := .cells #[.string pG, .int .i64 pI] 24 (0, 0)) (by (with_reducible repeat (first | refine aG ?_ _ | refine aK ?_ | refine aD ?_ _)); exact BK218.out) hb); have n2_ := ak.mk (aX (by repeat (first | (with_reducible first | exact HB.out | apply au | apply ah | apply aj | refine ay ?_ GE218.out) | exact HB.out)) hb); clear HO_9; clear BK218; clear HB; have HO_9 := n0_; have BK218 := n1_; have HB := n2_; clear n0_ n1_ n2_; (try clear hb); (try clear hb2); (try clear hk); (try clear hi)))
                 go_ret
                 exact ⟨by first | rfl | (simp [bn, bq] <;> rfl) | (simp [*, bn, bq] <;> rfl), by repeat (first | (with_reducible first | exact HB.out | apply au | apply ah | apply aj | refine ay ?_ GE218.out) | exact HB.out)⟩
           ·rw [if_neg c68] at H
            have c68b0 : (t249 == t247) = false := beq_eq_false_iff_ne.mpr c68
            have c68b1 : (t249 != t247) = true := bne_iff_ne.mpr c68
            obtain rfl := Option.some.inj H
            obtain ⟨Ao96, co96, eo96⟩ := Kd.dJ HO_9.out
            subst eo96
            go_wp2_with (first | ((with_reducible refine bG (f := 17) rfl ?_); refine dz (some 75) rfl rfl Try.func17 (by kernel_rfl) rfl #[.slice Ao96 t235.length co96, .int .i64 1] rfl (by (try simp only [List.map_toArray, List.map_cons, List.map_nil]); first | done | rfl | (simp only [List.length_drop, List.length_take]; rfl)) ?_; (with_reducible refine (bH.calls kj46 (fun k_ => some k_ = (.slice Ao96 t235.length co96 : Value).ownBlock) (.slice Ao96 t235.length co96) t235 1 t247 t248 w _ ?side1 ?side2 A62.out).mono ?_); (case side1 => repeat (first | (with_reducible first | exact HB.out | apply au | apply ah | apply aj | refine ay ?_ GE218.out) | exact HB.out)); (case side2 => exact Kd.jw rfl HO_9.out); rintro e w97 ⟨rfl, hy0, hb, hkp⟩; refine ⟨_, rfl, ?_⟩; have n0_ := ak.mk (Kd.bM (ok' := fun k_ => some k_ ≠ (.slice Ao96 t235.length co96 : Value).ownBlock) (Kd.iT (HO_6.out) hkp (fun k_ hk_ hs_ => (hk_) hs_)) (fun k_ hk_ => hk_.1)); have n1_ := ak.mk (Kd.kT rfl hy0 (fun k_ e_ => HO_9.out.1 k_ e_)); have n2_ := ak.mk (jk (by (with_reducible repeat (first | refine aG ?_ _ | refine aK ?_ | refine aD ?_ _)); exact BK218.out) hkp (fun hs_ => (fun e_ => (Kd.oq HO_9.out BK218.out (by decide)) e_) hs_)); have n3_ := ak.mk (hb); clear HO_6; clear HO_9; clear BK218; clear HB; have HO_6 := n0_; have HO_9 := n1_; have BK218 := n2_; have HB := n3_; clear n0_ n1_ n2_ n3_; (try clear hb); (try clear hkp); (try clear hy0)) | ((with_reducible refine bG (f := 18) rfl ?_); refine dz (some 78) rfl rfl Try.func18 (by kernel_rfl) rfl #[.slice Ao96 t248.length co96, .int .i64 1] rfl (by (try simp only [List.map_toArray, List.map_cons, List.map_nil]); first | done | (rw [show t248.length = t235.length from (Kd.bF HO_9.out).1.symm] <;> rfl) | rfl | (simp only [List.length_drop, List.length_take]; rfl)) ?_; (with_reducible refine (bC.calls kj46 _ _ t248 1 t249 _ ?side1 ?side2 A63.out).mono ?_); (case side1 => repeat (first | exact (Kd.bF HO_9.out).2.2 | (with_reducible refine Kd.bK ?_ _) | (with_reducible refine Kd.bL ?_ _) | (with_reducible refine Kd.bW ?_))); (case side2 => rw [show t248.length = t235.length from (Kd.bF HO_9.out).1.symm]; exact (Kd.bF HO_9.out).2.1); rintro e w98 ⟨rfl, hb⟩; refine ⟨_, rfl, ?_⟩; have n0_ := ak.mk (Kd.bO (by (with_reducible repeat (first | apply Kd.aT | apply Kd.aU | apply Kd.aY)); exact HO_6.out) hb); have n1_ := ak.mk (Kd.bO (by (with_reducible repeat (first | apply Kd.aT | apply Kd.aU | apply Kd.aY)); exact HO_9.out) hb); have n2_ := ak.mk (bD (g := gb218) (o := .cells #[.string pG, .int .i64 pI] 24 (0, 0)) (by (with_reducible repeat (first | refine aG ?_ _ | refine aK ?_ | refine aD ?_ _)); exact BK218.out) hb); have n3_ := ak.mk (aX (by repeat (first | (with_reducible first | exact HB.out | apply au | apply ah | apply aj | refine ay ?_ GE218.out) | exact HB.out)) hb); clear HO_6; clear HO_9; clear BK218; clear HB; have HO_6 := n0_; have HO_9 := n1_; have BK218 := n2_; have HB := n3_; clear n0_ n1_ n2_ n3_; (try clear hb); (try clear hb2); (try clear hk); (try clear hi)))
            go_ret
            exact ⟨by first | rfl | (simp [bn, bq] <;> rfl) | (simp [*, bn, bq] <;> rfl), by repeat (first | (with_reducible first | exact HB.out | apply au | apply ah | apply aj | refine ay ?_ GE218.out) | exact HB.out)⟩
      ·replace c45 := Bool.eq_false_iff.mpr c45
       subst c45
       have H1 : (some false) = some r := by rw [if_neg (show ¬ (false = true) by decide)] at H; exact H
       clear H
       have H := H1
       clear H1
       obtain rfl := Option.some.inj H
       go_wp2_with (first | ((with_reducible refine bG (f := 13) rfl ?_); refine dz (some 54) rfl rfl Try.func13 (by kernel_rfl) rfl #[.slice A0 l0.length c0] rfl (by (try simp only [List.map_toArray, List.map_cons, List.map_nil]); first | done | rfl | (simp only [List.length_drop, List.length_take]; rfl)) ?_; (with_reducible refine (bE.calls kj18 _ _ l0 t240 _ ?side1 ?side2 A43.out).mono ?_); (case side1 => repeat (first | exact (Kd.dB HR0.out HB.out) | (with_reducible refine Kd.bK ?_ _) | (with_reducible refine Kd.bL ?_ _) | (with_reducible refine Kd.bW ?_))); (case side2 => exact HC0.out); rintro e w99 ⟨v241, rfl, ho0, hb⟩; refine ⟨_, rfl, ?_⟩; have n0_ := ak.mk (Kd.cZ (by (with_reducible repeat (first | apply Kd.aT | apply Kd.aU | apply Kd.aY)); exact HO_6.out) (Kd.dM ho0) hb); have n1_ := ak.mk (Kd.cZ (by (with_reducible repeat (first | apply Kd.aT | apply Kd.aU | apply Kd.aY)); exact HO_8.out) (Kd.dM ho0) hb); have n2_ := ak.mk (Kd.cZ (by (with_reducible repeat (first | apply Kd.aT | apply Kd.aU | apply Kd.aY)); exact HO_9.out) (Kd.dM ho0) hb); have n3_ := ak.mk (Kd.dD (Kd.dN (Kd.dN (Kd.dN ho0 (Kd.dZ (by (with_reducible repeat (first | apply Kd.aT | apply Kd.aU | apply Kd.aY)); exact HO_6.out))) (Kd.dZ (by (with_reducible repeat (first | apply Kd.aT | apply Kd.aU | apply Kd.aY)); exact HO_8.out))) (Kd.dZ (by (with_reducible repeat (first | apply Kd.aT | apply Kd.aU | apply Kd.aY)); exact HO_9.out))) (aW (by repeat (first | (with_reducible first | exact HB.out | apply au | apply ah | apply aj | refine ay ?_ GE218.out) | exact HB.out)))); have n4_ := ak.mk (bD (g := gb218) (o := .cells #[.string pG, .int .i64 pI] 24 (0, 0)) (by (with_reducible repeat (first | refine aG ?_ _ | refine aK ?_ | refine aD ?_ _)); exact BK218.out) hb); have n5_ := ak.mk (aX (by repeat (first | (with_reducible first | exact HB.out | apply au | apply ah | apply aj | refine ay ?_ GE218.out) | exact HB.out)) hb); clear HO_6; clear HO_8; clear HO_9; clear BK218; clear HB; have HO_6 := n0_; have HO_8 := n1_; have HO_9 := n2_; have HO242 := n3_; have BK218 := n4_; have HB := n5_; clear n0_ n1_ n2_ n3_ n4_ n5_; (try clear hb); (try clear hb2); (try clear hk); (try clear hi); (try clear ho0); obtain ⟨Ao100, co100, eo100⟩ := Kd.dJ HO242.out; subst eo100) | ((with_reducible refine bG (f := 16) rfl ?_); refine dz (some 55) rfl rfl Try.func16 (by kernel_rfl) rfl #[.slice Ao32 t230.length co32, .slice Ao100 t240.length co100] rfl (by (try simp only [List.map_toArray, List.map_cons, List.map_nil]); first | done | rfl | (simp only [List.length_drop, List.length_take]; rfl)) ?_; (with_reducible refine (bg.calls kj18 _ _ t230 _ _ t240 false _ ?side1 ?side2 ?side3 ?side4 A44.out).mono ?_); (case side1 => repeat (first | exact (Kd.bF HO_8.out).2.2 | (with_reducible refine Kd.bK ?_ _) | (with_reducible refine Kd.bL ?_ _) | (with_reducible refine Kd.bW ?_))); (case side2 => exact (Kd.bF HO_8.out).2.1); (case side3 => repeat (first | exact (Kd.bF HO242.out).2.2 | (with_reducible refine Kd.bK ?_ _) | (with_reducible refine Kd.bL ?_ _) | (with_reducible refine Kd.bW ?_))); (case side4 => exact (Kd.bF HO242.out).2.1); rintro e w101 ⟨rfl, hb⟩; refine ⟨_, rfl, ?_⟩; have n0_ := ak.mk (Kd.bO (by (with_reducible repeat (first | apply Kd.aT | apply Kd.aU | apply Kd.aY)); exact HO_6.out) hb); have n1_ := ak.mk (Kd.bO (by (with_reducible repeat (first | apply Kd.aT | apply Kd.aU | apply Kd.aY)); exact HO_8.out) hb); have n2_ := ak.mk (Kd.bO (by (with_reducible repeat (first | apply Kd.aT | apply Kd.aU | apply Kd.aY)); exact HO_9.out) hb); have n3_ := ak.mk (Kd.bO (by (with_reducible repeat (first | apply Kd.aT | apply Kd.aU | apply Kd.aY)); exact HO242.out) hb); have n4_ := ak.mk (bD (g := gb218) (o := .cells #[.string pG, .int .i64 pI] 24 (0, 0)) (by (with_reducible repeat (first | refine aG ?_ _ | refine aK ?_ | refine aD ?_ _)); exact BK218.out) hb); have n5_ := ak.mk (aX (by repeat (first | (with_reducible first | exact HB.out | apply au | apply ah | apply aj | refine ay ?_ GE218.out) | exact HB.out)) hb); clear HO_6; clear HO_8; clear HO_9; clear HO242; clear BK218; clear HB; have HO_6 := n0_; have HO_8 := n1_; have HO_9 := n2_; have HO242 := n3_; have BK218 := n4_; have HB := n5_; clear n0_ n1_ n2_ n3_ n4_ n5_; (try clear hb); (try clear hb2); (try clear hk); (try clear hi)))
       go_ret
       exact ⟨by first | rfl | (simp [bn, bq] <;> rfl) | (simp [*, bn, bq] <;> rfl), by repeat (first | (with_reducible first | exact HB.out | apply au | apply ah | apply aj | refine ay ?_ GE218.out) | exact HB.out)⟩
end Go.Proofs.Ythjcicmmbmagbaa.PFnExactAddMeaning
