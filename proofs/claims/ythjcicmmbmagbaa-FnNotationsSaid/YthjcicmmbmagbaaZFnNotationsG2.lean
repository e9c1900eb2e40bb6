/- Walks of functions: what each computes. -/
import Derived.Test.YthjcicmmbmagbaaZFnNotationsG0
import Derived.Test.YthjcicmmbmagbaaZFnNotationsG1
import Derived.Test.YthjcicmmbmagbaaZFnNotationsW
import Derived.Test.YthjcicmmbmagbaaZFnNotationsShelf
import Derived.Test.YthjcicmmbmagbaaZFnNotationsHandSort
import Derived.Test.YthjcicmmbmagbaaZFnNotationsHandForm
import Derived.Test.YthjcicmmbmagbaaZFnNotationsHandAlone
import Derived.Test.YthjcicmmbmagbaaZFnNotationsHandRead
namespace Go.Proofs.Ythjcicmmbmagbaa.PFnNotations
open Go.RowKit Go.Proofs.YthjcicmmbmagbaaW.PrintWords Go.Proofs.YthjcicmmbmagbaaW.PrintLast Go.Proofs.YthjcicmmbmagbaaW.PrintMore Go.Proofs.Ythjcicmmbmagbaa.Sq
attribute [local go_sem] jY jI lY lI jB jq jJ jW
set_option maxHeartbeats 8000000
set_option maxRecDepth 100000
set_option linter.unusedVariables false
set_option linter.unusedSimpArgs false
def gF.f (k : Nat) (s0_0 : List Int) (s0_1 s0_2 : Int) : Option ((List (bq)) × Int × Int) := (bV.f k s0_0 s0_1 s0_2).bind fun bt212 => ((bM.f s0_0 bt212.2.1 bt212.2.2 (bt212.1.length : Int)).bind fun bt217 => ((bM.f s0_0 bt217.2.1 bt217.2.2 12).bind fun bt220 => (if bt220.1 = 0 then ((fu.f s0_0 bt220.2.1 bt220.2.2 (([0, 10, 3, 5] : List Int))).bind fun bt226 => (if 0 ≤ bt217.1 then (if bt217.1 < (bt212.1.length : Int) then (some ((bt212.1.set (bt217.1 : Int).toNat (⟨bt226.1, (ah bt212.1 bt217.1).f1, (ah bt212.1 bt217.1).f2, (ah bt212.1 bt217.1).f3⟩ : bq)), bt226.2.1, bt226.2.2)) else (none)) else (none))) else (if bt220.1 = 1 then ((gQ.f s0_0 bt220.2.1 bt220.2.2).bind fun bt230 => (if 0 ≤ bt217.1 then (if bt217.1 < (bt212.1.length : Int) then (some ((bt212.1.set (bt217.1 : Int).toNat (⟨(ah bt212.1 bt217.1).f0, bt230.1, (ah bt212.1 bt217.1).f2, (ah bt212.1 bt217.1).f3⟩ : bq)), bt230.2.1, bt230.2.2)) else (none)) else (none))) else (if bt220.1 = 2 then ((fM.f s0_0 bt220.2.1 bt220.2.2).bind fun bt234 => (if 0 ≤ bt217.1 then (if bt217.1 < (bt212.1.length : Int) then (some ((bt212.1.set (bt217.1 : Int).toNat (⟨(ah bt212.1 bt217.1).f0, (ah bt212.1 bt217.1).f1, bt234.1, (ah bt212.1 bt217.1).f3⟩ : bq)), bt234.2.1, bt234.2.2)) else (none)) else (none))) else (if bt220.1 = 3 then ((fM.f s0_0 bt220.2.1 bt220.2.2).bind fun bt238 => (if 0 ≤ bt217.1 then (if bt217.1 < (bt212.1.length : Int) then (some ((bt212.1.set (bt217.1 : Int).toNat (⟨(ah bt212.1 bt217.1).f0, (ah bt212.1 bt217.1).f1, (ah bt212.1 bt217.1).f2, bt238.1⟩ : bq)), bt238.2.1, bt238.2.2)) else (none)) else (none))) else (if bt220.1 = 4 then (some (([] : List (bq)), bt220.2.1, bt220.2.2)) else (some (bt212.1, bt220.2.1, bt220.2.2)))))))))
theorem gF.calls (k g : Nat) (s0_0 : List Int) (s0_1 s0_2 : Int) (r1 : List (bq)) (r2 r3 : Int) (w0 w : World) (hI : ak w0 w g s0_0 s0_1 s0_2) (hB : Below w0.heap.size w0 w) (h : gF.f k s0_0 s0_1 s0_2 = some (r1, r2, r3)) :
  Calls Try.prog 155 #[.pointer (some ⟨g, 0, none⟩)] w fun e w' => ∃ v0_ : Value, e = .returned (v0_) ∧ Kd.R eY 110 w' w.heap.size (fun _ => True) v0_ r1 ∧ ak w0 w' g s0_0 r2 r3 ∧ Below w0.heap.size w0 w' ∧ ay w w' g none := by
 have HI0 := aj.mk hI
 have HK := aj.mk (ay.refl w g none)
 have HL := aj.mk hB.size
 clear hI
 have HW0 := aj.mk hB.size
 have HB := aj.mk hB
 clear hB
 unfold gF.f at h
 have H := h
 clear h
 replace H := be H; obtain ⟨⟨t212, t215, t216⟩, A2, H⟩ := H
 dsimp only at H
 replace H := be H; obtain ⟨⟨t217, t218, t219⟩, A3, H⟩ := H
 dsimp only at H
 replace H := be H; obtain ⟨⟨t220, t221, t222⟩, A4, H⟩ := H
 dsimp only at H
 replace H := aj.mk H
 go_enter Try.func155, Try.ntmps155
 go_wp2_with (first | ((with_reducible refine aJ (f := 162) rfl ?_); refine bI (some 6) Try.func162 #[.pointer (some ⟨g, 0, none⟩)] ?_; (with_reducible refine (bV.calls k g s0_0 s0_1 s0_2 t212 t215 t216 w0 _ ?side1 ?side2 A2.out).mono ?_); (case side1 => repeat (first | (with_reducible first | exact HI0.out | apply ak.alloc | apply ak.drewN | apply ak.drew | apply ak.bG | apply ak.bF) | exact HI0.out)); (case side2 => repeat (first | (with_reducible first | exact HB.out | apply aI | apply aA | apply aG | refine aD ?_ (ak.ge HI0.out)) | exact HB.out)); rintro e w9000 ⟨v213, rfl, ho0, hi, hb, hk⟩; refine ⟨_, rfl, ?_⟩; have n0_ := aj.mk (Kd.dF ho0 (eG (w := w) (g := g) (row := none) (by repeat (first | (with_reducible first | exact HK.out | apply ay.cO | apply aK | apply aR | apply aM) | exact HK.out)))); have n1_ := aj.mk (ay.trans (by repeat (first | (with_reducible first | exact HK.out | apply ay.cO | apply aK | apply aR | apply aM) | exact HK.out)) hk (.inl rfl)); have n2_ := aj.mk (hb); have n3_ := aj.mk (hi); clear HK HB HI0; have HO214 := n0_; have HK := n1_; have HB := n2_; have HI0 := n3_; clear n0_ n1_ n2_ n3_; (try clear hb); (try clear hk); (try clear hi); (try clear ho0); obtain ⟨Ao9001, co9001, eo9001⟩ := Kd.dh HO214.out; subst eo9001) | ((with_reducible refine aJ (f := 118) rfl ?_); refine bI (some 10) Try.func118 #[.pointer (some ⟨g, 0, none⟩), .int .i64 (t212.length : Int)] ?_; (with_reducible refine (bM.calls g s0_0 t215 t216 (t212.length : Int) t217 t218 t219 w0 _ ?side1 ?side2 A3.out).mono ?_); (case side1 => repeat (first | (with_reducible first | exact HI0.out | apply ak.alloc | apply ak.drewN | apply ak.drew | apply ak.bG | apply ak.bF) | exact HI0.out)); (case side2 => repeat (first | (with_reducible first | exact HB.out | apply aI | apply aA | apply aG | refine aD ?_ (ak.ge HI0.out)) | exact HB.out)); rintro e w9002 ⟨rfl, hi, hb, hk⟩; refine ⟨_, rfl, ?_⟩; have n0_ := aj.mk (Kd.dD (Kd.gJ (ak.apart (show ak w0 _ g s0_0 t215 t216 from by repeat (first | (with_reducible first | exact HI0.out | apply ak.alloc | apply ak.drewN | apply ak.drew | apply ak.bG | apply ak.bF) | exact HI0.out)) (RR HO214) (by decide)) hk (fun _ h => h.2)) (fun _ h => h.1)); have n1_ := aj.mk (ay.trans (by repeat (first | (with_reducible first | exact HK.out | apply ay.cO | apply aK | apply aR | apply aM) | exact HK.out)) hk (.inl rfl)); have n2_ := aj.mk (hb); have n3_ := aj.mk (hi); clear HO214 HK HB HI0; have HO214 := n0_; have HK := n1_; have HB := n2_; have HI0 := n3_; clear n0_ n1_ n2_ n3_; (try clear hb); (try clear hk); (try clear hi)) | ((with_reducible refine aJ (f := 118) rfl ?_); refine bI (some 12) Try.func118 #[.pointer (some ⟨g, 0, none⟩), .int .i64 12] ?_; (with_reducible refine (bM.calls g s0_0 t218 t219 12 t220 t221 t222 w0 _ ?side1 ?side2 A4.out).mono ?_); (case side1 => repeat (first | (with_reducible first | exact HI0.out | apply ak.alloc | apply ak.drewN | apply ak.drew | apply ak.bG | apply ak.bF) | exact HI0.out)); (case side2 => repeat (first | (with_reducible first | exact HB.out | apply aI | apply aA | apply aG | refine aD ?_ (ak.ge HI0.out)) | exact HB.out)); rintro e w9003 ⟨rfl, hi, hb, hk⟩; refine ⟨_, rfl, ?_⟩; have n0_ := aj.mk (Kd.dD (Kd.gJ (ak.apart (show ak w0 _ g s0_0 t218 t219 from by repeat (first | (with_reducible first | exact HI0.out | apply ak.alloc | apply ak.drewN | apply ak.drew | apply ak.bG | apply ak.bF) | exact HI0.out)) (RR HO214) (by decide)) hk (fun _ h => h.2)) (fun _ h => h.1)); have n1_ := aj.mk (ay.trans (by repeat (first | (with_reducible first | exact HK.out | apply ay.cO | apply aK | apply aR | apply aM) | exact HK.out)) hk (.inl rfl)); have n2_ := aj.mk (hb); have n3_ := aj.mk (hi); clear HO214 HK HB HI0; have HO214 := n0_; have HK := n1_; have HB := n2_; have HI0 := n3_; clear n0_ n1_ n2_ n3_; (try clear hb); (try clear hk); (try clear hi); refine eU ?_))
 refine Hide.mk ?_
 replace H := H.out
 replace H := ifE H; rcases H with ⟨c5b0, c5b1, H⟩ | ⟨c5, c5b0, c5b1, H⟩
 ·obtain ⟨y223, hy223⟩ : ∃ y_ : List Int, y_ = (([0, 10, 3, 5] : List Int)) := ⟨_, rfl⟩
  replace H : ((fu.f s0_0 t221 t222 y223).bind fun bt226 => (if 0 ≤ t217 then (if t217 < (t212.length : Int) then (some ((t212.set (t217 : Int).toNat (⟨bt226.1, (ah t212 t217).f1, (ah t212 t217).f2, (ah t212 t217).f3⟩ : bq)), bt226.2.1, bt226.2.2)) else (none)) else (none))) = some (r1, r2, r3) := by first | (rw [hy223]; with_reducible exact H) | (have H2_ := (Option.bind_some _ _).symm.trans H; rw [hy223]; with_reducible exact H2_) | (have H2_ := (Option.bind_some _ _).symm.trans H; with_reducible exact H2_) | with_reducible exact H | (rw [hy223]; exact H) | exact H
  have Ny223 := aj.mk hy223
  clear hy223
  replace H := be H; obtain ⟨⟨t226, t227, t228⟩, A6, H⟩ := H
  dsimp only at H
  replace H := ifN H; obtain ⟨c7b0, H⟩ := H
  replace H := ifN H; obtain ⟨c8b0, H⟩ := H
  obtain ⟨y229, hy229⟩ : ∃ y_ : List (bq), y_ = (t212.set (t217 : Int).toNat (⟨t226, (ah t212 t217).f1, (ah t212 t217).f2, (ah t212 t217).f3⟩ : bq)) := ⟨_, rfl⟩
  replace H : (some (y229, t227, t228)) = some (r1, r2, r3) := by first | (rw [hy229]; with_reducible exact H) | (have H2_ := (Option.bind_some _ _).symm.trans H; rw [hy229]; with_reducible exact H2_) | (have H2_ := (Option.bind_some _ _).symm.trans H; with_reducible exact H2_) | with_reducible exact H | (rw [hy229]; exact H) | exact H
  have Ny229 := aj.mk hy229
  clear hy229
  simp only [Option.some.injEq, Prod.mk.injEq] at H
  obtain ⟨rfl, rfl, rfl⟩ := H
  try go_wp2_with (first | ((with_reducible refine dz (N := 18) rfl ?_); refine Kd.kS (Kd.int .i64) _ 3 ?hg (N := 18) ?hd (xs := ([0, 10, 3, 5] : List Int)) (inner := [.int .i64 0, .int .i64 10, .int .i64 3, .int .i64 5]) (ok := fun _ => True) (okp := fun _ => True) ?hr ?hp (fun _ hk => hk) trivial (Below.refl _ _) (Nat.le_refl _) (by simp) ?_; (case hd => rfl); (case hg => rfl); (case hr => first | (go_simp; done) | (go_simp; rfl)); (case hp => exact (bD.one (show Kd.M (Kd.int .i64) _ _ _ 0 [.int .i64 0] from rfl) (bD.one (show Kd.M (Kd.int .i64) _ _ _ 10 [.int .i64 10] from rfl) (bD.one (show Kd.M (Kd.int .i64) _ _ _ 3 [.int .i64 3] from rfl) (bD.one (show Kd.M (Kd.int .i64) _ _ _ 5 [.int .i64 5] from rfl) (bD.none _ _)))))); intro v224 w9004 ho15 hb hg_ hnew_; clear hg_ hnew_; (first | rw [← Ny223.out] at ho15 | (simp only [Int.reduceToNat] at ho15; rw [← Ny223.out] at ho15)); have n0_ := RB HO214 hb; have n1_ := aj.mk (Kd.dF ho15 (eG (w := w) (g := g) (row := none) (by repeat (first | (with_reducible first | exact HK.out | apply ay.cO | apply aK | apply aR | apply aM) | exact HK.out)))); have n2_ := aj.mk (ak.below (by repeat (first | (with_reducible first | exact HI0.out | apply ak.alloc | apply ak.drewN | apply ak.drew | apply ak.bG | apply ak.bF) | exact HI0.out)) hb); have n3_ := aj.mk (ay.trans (by repeat (first | (with_reducible first | exact HK.out | apply ay.cO | apply aK | apply aR | apply aM) | exact HK.out)) (ay.of_below hb g none) (.inl rfl)); have n4_ := aj.mk (eu (by repeat (first | (with_reducible first | exact HB.out | apply aI | apply aA | apply aG | refine aD ?_ (ak.ge HI0.out)) | exact HB.out)) hb); clear HO214 HI0 HK HB; have HO214 := n0_; have HO225 := n1_; have HI0 := n2_; have HK := n3_; have HB := n4_; clear n0_ n1_ n2_ n3_ n4_; clear hb ho15; obtain ⟨Ao9005, co9005, eo9005⟩ := Kd.dh HO225.out; subst eo9005) | ((with_reducible refine aJ (f := 63) rfl ?_); refine bI (some 19) Try.func63 #[.pointer (some ⟨g, 0, none⟩), .slice Ao9005 y223.length co9005] ?_; (with_reducible refine (fu.calls g s0_0 t221 t222 _ _ y223 t226 t227 t228 w0 _ ?side1 ?side2 ?side3 ?side4 ?side5 A6.out).mono ?_); (case side1 => repeat (first | (with_reducible first | exact HI0.out | apply ak.alloc | apply ak.drewN | apply ak.drew | apply ak.bG | apply ak.bF) | exact HI0.out)); (case side2 => repeat (first | (with_reducible first | exact HB.out | apply aI | apply aA | apply aG | refine aD ?_ (ak.ge HI0.out)) | exact HB.out)); (case side3 => exact CR2 HO225); (case side4 => exact (Kd.aZ HO225.out).2.1); (case side5 => exact iT (ak.own_ne HI0.out HO225.out (by decide))); rintro e w9006 ⟨rfl, hi, hb, hk⟩; refine ⟨_, rfl, ?_⟩; have n0_ := aj.mk (Kd.dD (Kd.gJ (ak.apart (show ak w0 _ g s0_0 t221 t222 from by repeat (first | (with_reducible first | exact HI0.out | apply ak.alloc | apply ak.drewN | apply ak.drew | apply ak.bG | apply ak.bF) | exact HI0.out)) (RR HO214) (by decide)) hk (fun _ h => h.2)) (fun _ h => h.1)); have n1_ := aj.mk (Kd.dD (Kd.gJ (ak.apart (show ak w0 _ g s0_0 t221 t222 from by repeat (first | (with_reducible first | exact HI0.out | apply ak.alloc | apply ak.drewN | apply ak.drew | apply ak.bG | apply ak.bF) | exact HI0.out)) (RR HO225) (by decide)) hk (fun _ h => h.2)) (fun _ h => h.1)); have n2_ := aj.mk (ay.trans (by repeat (first | (with_reducible first | exact HK.out | apply ay.cO | apply aK | apply aR | apply aM) | exact HK.out)) hk (.inl rfl)); have n3_ := aj.mk (hb); have n4_ := aj.mk (hi); clear HO214 HO225 HK HB HI0; have HO214 := n0_; have HO225 := n1_; have HK := n2_; have HB := n3_; have HI0 := n4_; clear n0_ n1_ n2_ n3_ n4_; (try clear hb); (try clear hk); (try clear hi); have p9 : 0 ≤ (t217 : Int) := OD; have q9 : (t217 : Int) < ((t212.length : Int) : Int) := OD; obtain ⟨go9, co9007, eo9007, gb9, gl9, cl9, HG9⟩ := Kd.nT HO214.out (by omega); (first | cases eo9007 | (injection eo9007 with ea_ en_ ec_; (first | subst ea_ | (injection ea_ with ea_; subst ea_)); subst ec_; clear en_)); have GB9 := aj.mk gb9; have GG9 := aj.mk HG9; clear gb9 gl9 HG9; obtain ⟨ce9, hcl9, hM9, hcc9, hfr9⟩ := Kd.jN HO214.out pE (t217 : Int) p9 q9; obtain rfl := gD hM9; have hx9_0 : w9006.cell? ⟨go9, (t217 : Int).toNat * 4, none⟩ = some (.int .i64 ((ah t212 t217).f0)) := hcc9 0 _ rfl; have hx9_1 : w9006.cell? ⟨go9, (t217 : Int).toNat * 4 + 1, none⟩ = some (.string ((ah t212 t217).f1)) := hcc9 1 _ rfl; have hx9_2 : w9006.cell? ⟨go9, (t217 : Int).toNat * 4 + 2, none⟩ = some (.int .i64 ((ah t212 t217).f2)) := hcc9 2 _ rfl; have hx9_3 : w9006.cell? ⟨go9, (t217 : Int).toNat * 4 + 3, none⟩ = some (.int .i64 ((ah t212 t217).f3)) := hcc9 3 _ rfl; have hf9_0 : w9006.frozen? ⟨go9, (t217 : Int).toNat * 4, none⟩ = false := hfr9 0; have hf9_1 : w9006.frozen? ⟨go9, (t217 : Int).toNat * 4 + 1, none⟩ = false := hfr9 1; have hf9_2 : w9006.frozen? ⟨go9, (t217 : Int).toNat * 4 + 2, none⟩ = false := hfr9 2; have hf9_3 : w9006.frozen? ⟨go9, (t217 : Int).toNat * 4 + 3, none⟩ = false := hfr9 3; clear hcl9 hcc9 hfr9 hM9; replace p9 := eq_true p9; replace q9 := eq_true q9; have HX18 := aj.mk (show Kd.R eY 110 w9006 w.heap.size (fun _ => True) (.slice (some ⟨go9, 0, none⟩) t212.length co9001) t212 from (RR HO214)); obtain ⟨ce18, hcl18, hM18, hcc18, hfr18⟩ := Kd.jN HX18.out pE (t217 : Int) (OD) (by have h_ : (t217 : Int) < ((t212.length : Int) : Int) := OD; first | exact h_ | (have e_ := (Kd.aZ HO214.out).1; omega) | simpa using h_); obtain rfl := gD hM18; have HP18 := Kd.tC HX18.out (t217 : Int) (OD) (by have h_ : (t217 : Int) < ((t212.length : Int) : Int) := OD; first | exact h_ | (have e_ := (Kd.aZ HO214.out).1; omega) | simpa using h_) (seg := [.int .i64 t226]) (j := 0) hcl18 hcc18 (show 1 ≤ 4 from by decide) (x' := (⟨t226, (ah t212 t217).f1, (ah t212 t217).f2, (ah t212 t217).f3⟩ : bq)) (jA _ _ _ (⟨t226, (ah t212 t217).f1, (ah t212 t217).f2, (ah t212 t217).f3⟩ : bq) ) (fun _ hk => hk); have hx18_0 := hcc18 0 _ rfl; (try simp only [show (eY).sz = 4 from rfl, Nat.mul_one, Nat.add_zero] at hx18_0); have hf18_0 := hfr18 0; (try simp only [show (eY).sz = 4 from rfl, Nat.mul_one, Nat.add_zero] at hf18_0); clear hcl18 hcc18 hfr18 hM18) | ((with_reducible refine fZ (t := 3) (p := 21) rfl ?_); refine fJ (t := 3) (p := 21) (v := ?vo_w19) (w1 := (w9006.setCell ⟨go9, (t217 : Int).toNat * 4, none⟩ (.int .i64 t226))) ?hg ?ho ?hn ?hr ?_; (case ho => rfl); (case hg => rfl); (case hn => rfl); (case hr => first | (go_simp; done) | (go_simp; rfl)); intro w9008 hw; have hg : w9006.grownBy w9008 (some go9) := (by rw [hw]; exact HP18.2); have hp_ : Kd.R eY 110 w9008 w.heap.size (fun _ => True) (.slice (some ⟨go9, 0, none⟩) t212.length co9001) y229 := (by rw [hw, Ny229.out]; exact HP18.1); clear HP18; have n0_ := aj.mk (ak.grown (by repeat (first | (with_reducible first | exact HI0.out | apply ak.alloc | apply ak.drewN | apply ak.drew | apply ak.bG | apply ak.bF) | exact HI0.out)) hg (ak.own_ne HI0.out HO214.out (by decide))); have n1_ := aj.mk (hp_); have n2_ := aj.mk (Kd.tH (v := (.slice (some ⟨go9, 0, none⟩) t212.length co9001)) (RR HO225) (Kd.sK HO214.out) (by decide) hg); have n3_ := aj.mk ((by rw [hw]; exact aD (HB.out) (Nat.le_trans HL.out GB9.out) : Below w0.heap.size w0 w9008)); have n4_ := aj.mk (ay.trans (by repeat (first | (with_reducible first | exact HK.out | apply ay.cO | apply aK | apply aR | apply aM) | exact HK.out)) (ay.jc hg g) (Kd.lQ HO214.out)); clear HI0 HO214 HO225 HB HK; have HI0 := n0_; have HO214 := n1_; have HO225 := n2_; have HB := n3_; have HK := n4_; clear n0_ n1_ n2_ n3_ n4_; clear hg hw hp_))
  go_ret
  exact ⟨_, EWW, (RR HO214), by repeat (first | (with_reducible first | exact HI0.out | apply ak.alloc | apply ak.drewN | apply ak.drew | apply ak.bG | apply ak.bF) | exact HI0.out), by repeat (first | (with_reducible first | exact HB.out | apply aI | apply aA | apply aG | refine aD ?_ (ak.ge HI0.out)) | exact HB.out), by repeat (first | (with_reducible first | exact HK.out | apply ay.cO | apply aK | apply aR | apply aM) | exact HK.out)⟩
 ·replace H := ifE H; rcases H with ⟨c20b0, c20b1, H⟩ | ⟨c20, c20b0, c20b1, H⟩
  ·replace H := be H; obtain ⟨⟨t230, t231, t232⟩, A21, H⟩ := H
   dsimp only at H
   replace H := ifN H; obtain ⟨c22b0, H⟩ := H
   replace H := ifN H; obtain ⟨c23b0, H⟩ := H
   obtain ⟨y233, hy233⟩ : ∃ y_ : List (bq), y_ = (t212.set (t217 : Int).toNat (⟨(ah t212 t217).f0, t230, (ah t212 t217).f2, (ah t212 t217).f3⟩ : bq)) := ⟨_, rfl⟩
   replace H : (some (y233, t231, t232)) = some (r1, r2, r3) := by first | (rw [hy233]; with_reducible exact H) | (have H2_ := (Option.bind_some _ _).symm.trans H; rw [hy233]; with_reducible exact H2_) | (have H2_ := (Option.bind_some _ _).symm.trans H; with_reducible exact H2_) | with_reducible exact H | (rw [hy233]; exact H) | exact H
   have Ny233 := aj.mk hy233
   clear hy233
   simp only [Option.some.injEq, Prod.mk.injEq] at H
   obtain ⟨rfl, rfl, rfl⟩ := H
   try go_wp2_with (first | ((with_reducible refine aJ (f := 62) rfl ?_); refine bI (some 27) Try.func62 #[.pointer (some ⟨g, 0, none⟩)] ?_; (with_reducible refine (gQ.calls g s0_0 t221 t222 t230 t231 t232 w0 _ ?side1 ?side2 A21.out).mono ?_); (case side1 => repeat (first | (with_reducible first | exact HI0.out | apply ak.alloc | apply ak.drewN | apply ak.drew | apply ak.bG | apply ak.bF) | exact HI0.out)); (case side2 => repeat (first | (with_reducible first | exact HB.out | apply aI | apply aA | apply aG | refine aD ?_ (ak.ge HI0.out)) | exact HB.out)); rintro e w9004 ⟨rfl, hi, hb, hk⟩; refine ⟨_, rfl, ?_⟩; have n0_ := aj.mk (Kd.dD (Kd.gJ (ak.apart (show ak w0 _ g s0_0 t221 t222 from by repeat (first | (with_reducible first | exact HI0.out | apply ak.alloc | apply ak.drewN | apply ak.drew | apply ak.bG | apply ak.bF) | exact HI0.out)) (RR HO214) (by decide)) hk (fun _ h => h.2)) (fun _ h => h.1)); have n1_ := aj.mk (ay.trans (by repeat (first | (with_reducible first | exact HK.out | apply ay.cO | apply aK | apply aR | apply aM) | exact HK.out)) hk (.inl rfl)); have n2_ := aj.mk (hb); have n3_ := aj.mk (hi); clear HO214 HK HB HI0; have HO214 := n0_; have HK := n1_; have HB := n2_; have HI0 := n3_; clear n0_ n1_ n2_ n3_; (try clear hb); (try clear hk); (try clear hi); have p24 : 0 ≤ (t217 : Int) := OD; have q24 : (t217 : Int) < ((t212.length : Int) : Int) := OD; obtain ⟨go24, co9005, eo9005, gb24, gl24, cl24, HG24⟩ := Kd.nT HO214.out (by omega); (first | cases eo9005 | (injection eo9005 with ea_ en_ ec_; (first | subst ea_ | (injection ea_ with ea_; subst ea_)); subst ec_; clear en_)); have GB24 := aj.mk gb24; have GG24 := aj.mk HG24; clear gb24 gl24 HG24; obtain ⟨ce24, hcl24, hM24, hcc24, hfr24⟩ := Kd.jN HO214.out pE (t217 : Int) p24 q24; obtain rfl := gD hM24; have hx24_0 : w9004.cell? ⟨go24, (t217 : Int).toNat * 4, none⟩ = some (.int .i64 ((ah t212 t217).f0)) := hcc24 0 _ rfl; have hx24_1 : w9004.cell? ⟨go24, (t217 : Int).toNat * 4 + 1, none⟩ = some (.string ((ah t212 t217).f1)) := hcc24 1 _ rfl; have hx24_2 : w9004.cell? ⟨go24, (t217 : Int).toNat * 4 + 2, none⟩ = some (.int .i64 ((ah t212 t217).f2)) := hcc24 2 _ rfl; have hx24_3 : w9004.cell? ⟨go24, (t217 : Int).toNat * 4 + 3, none⟩ = some (.int .i64 ((ah t212 t217).f3)) := hcc24 3 _ rfl; have hf24_0 : w9004.frozen? ⟨go24, (t217 : Int).toNat * 4, none⟩ = false := hfr24 0; have hf24_1 : w9004.frozen? ⟨go24, (t217 : Int).toNat * 4 + 1, none⟩ = false := hfr24 1; have hf24_2 : w9004.frozen? ⟨go24, (t217 : Int).toNat * 4 + 2, none⟩ = false := hfr24 2; have hf24_3 : w9004.frozen? ⟨go24, (t217 : Int).toNat * 4 + 3, none⟩ = false := hfr24 3; clear hcl24 hcc24 hfr24 hM24; replace p24 := eq_true p24; replace q24 := eq_true q24; have HX30 := aj.mk (show Kd.R eY 110 w9004 w.heap.size (fun _ => True) (.slice (some ⟨go24, 0, none⟩) t212.length co9001) t212 from (RR HO214)); obtain ⟨ce30, hcl30, hM30, hcc30, hfr30⟩ := Kd.jN HX30.out pE (t217 : Int) (OD) (by have h_ : (t217 : Int) < ((t212.length : Int) : Int) := OD; first | exact h_ | (have e_ := (Kd.aZ HO214.out).1; omega) | simpa using h_); obtain rfl := gD hM30; have HP30 := Kd.tC HX30.out (t217 : Int) (OD) (by have h_ : (t217 : Int) < ((t212.length : Int) : Int) := OD; first | exact h_ | (have e_ := (Kd.aZ HO214.out).1; omega) | simpa using h_) (seg := [.string t230]) (j := 1) hcl30 hcc30 (show 2 ≤ 4 from by decide) (x' := (⟨(ah t212 t217).f0, t230, (ah t212 t217).f2, (ah t212 t217).f3⟩ : bq)) (jA _ _ _ (⟨(ah t212 t217).f0, t230, (ah t212 t217).f2, (ah t212 t217).f3⟩ : bq) ) (fun _ hk => hk); have hx30_1 := hcc30 1 _ rfl; (try simp only [show (eY).sz = 4 from rfl, Nat.mul_one, Nat.add_zero] at hx30_1); have hf30_1 := hfr30 1; (try simp only [show (eY).sz = 4 from rfl, Nat.mul_one, Nat.add_zero] at hf30_1); clear hcl30 hcc30 hfr30 hM30) | ((with_reducible refine fZ (t := 9) (p := 29) rfl ?_); refine fJ (t := 9) (p := 29) (v := ?vo_w31) (w1 := (w9004.setCell ⟨go24, (t217 : Int).toNat * 4 + 1, none⟩ (.string t230))) ?hg ?ho ?hn ?hr ?_; (case ho => rfl); (case hg => rfl); (case hn => rfl); (case hr => first | (go_simp; done) | (go_simp; rfl)); intro w9006 hw; have hg : w9004.grownBy w9006 (some go24) := (by rw [hw]; exact HP30.2); have hp_ : Kd.R eY 110 w9006 w.heap.size (fun _ => True) (.slice (some ⟨go24, 0, none⟩) t212.length co9001) y233 := (by rw [hw, Ny233.out]; exact HP30.1); clear HP30; have n0_ := aj.mk (ak.grown (by repeat (first | (with_reducible first | exact HI0.out | apply ak.alloc | apply ak.drewN | apply ak.drew | apply ak.bG | apply ak.bF) | exact HI0.out)) hg (ak.own_ne HI0.out HO214.out (by decide))); have n1_ := aj.mk (hp_); have n2_ := aj.mk ((by rw [hw]; exact aD (HB.out) (Nat.le_trans HL.out GB24.out) : Below w0.heap.size w0 w9006)); have n3_ := aj.mk (ay.trans (by repeat (first | (with_reducible first | exact HK.out | apply ay.cO | apply aK | apply aR | apply aM) | exact HK.out)) (ay.jc hg g) (Kd.lQ HO214.out)); clear HI0 HO214 HB HK; have HI0 := n0_; have HO214 := n1_; have HB := n2_; have HK := n3_; clear n0_ n1_ n2_ n3_; clear hg hw hp_))
   go_ret
   exact ⟨_, EWW, (RR HO214), by repeat (first | (with_reducible first | exact HI0.out | apply ak.alloc | apply ak.drewN | apply ak.drew | apply ak.bG | apply ak.bF) | exact HI0.out), by repeat (first | (with_reducible first | exact HB.out | apply aI | apply aA | apply aG | refine aD ?_ (ak.ge HI0.out)) | exact HB.out), by repeat (first | (with_reducible first | exact HK.out | apply ay.cO | apply aK | apply aR | apply aM) | exact HK.out)⟩
  ·replace H := ifE H; rcases H with ⟨c32b0, c32b1, H⟩ | ⟨c32, c32b0, c32b1, H⟩
   ·replace H := be H; obtain ⟨⟨t234, t235, t236⟩, A33, H⟩ := H
    dsimp only at H
    replace H := ifN H; obtain ⟨c34b0, H⟩ := H
    replace H := ifN H; obtain ⟨c35b0, H⟩ := H
    obtain ⟨y237, hy237⟩ : ∃ y_ : List (bq), y_ = (t212.set (t217 : Int).toNat (⟨(ah t212 t217).f0, (ah t212 t217).f1, t234, (ah t212 t217).f3⟩ : bq)) := ⟨_, rfl⟩
    replace H : (some (y237, t235, t236)) = some (r1, r2, r3) := by first | (rw [hy237]; with_reducible exact H) | (have H2_ := (Option.bind_some _ _).symm.trans H; rw [hy237]; with_reducible exact H2_) | (have H2_ := (Option.bind_some _ _).symm.trans H; with_reducible exact H2_) | with_reducible exact H | (rw [hy237]; exact H) | exact H
    have Ny237 := aj.mk hy237
    clear hy237
    simp only [Option.some.injEq, Prod.mk.injEq] at H
    obtain ⟨rfl, rfl, rfl⟩ := H
    try go_wp2_with (first | ((with_reducible refine aJ (f := 119) rfl ?_); refine bI (some 35) Try.func119 #[.pointer (some ⟨g, 0, none⟩)] ?_; (with_reducible refine (fM.calls g s0_0 t221 t222 t234 t235 t236 w0 _ ?side1 ?side2 A33.out).mono ?_); (case side1 => repeat (first | (with_reducible first | exact HI0.out | apply ak.alloc | apply ak.drewN | apply ak.drew | apply ak.bG | apply ak.bF) | exact HI0.out)); (case side2 => repeat (first | (with_reducible first | exact HB.out | apply aI | apply aA | apply aG | refine aD ?_ (ak.ge HI0.out)) | exact HB.out)); rintro e w9004 ⟨rfl, hi, hb, hk⟩; refine ⟨_, rfl, ?_⟩; have n0_ := aj.mk (Kd.dD (Kd.gJ (ak.apart (show ak w0 _ g s0_0 t221 t222 from by repeat (first | (with_reducible first | exact HI0.out | apply ak.alloc | apply ak.drewN | apply ak.drew | apply ak.bG | apply ak.bF) | exact HI0.out)) (RR HO214) (by decide)) hk (fun _ h => h.2)) (fun _ h => h.1)); have n1_ := aj.mk (ay.trans (by repeat (first | (with_reducible first | exact HK.out | apply ay.cO | apply aK | apply aR | apply aM) | exact HK.out)) hk (.inl rfl)); have n2_ := aj.mk (hb); have n3_ := aj.mk (hi); clear HO214 HK HB HI0; have HO214 := n0_; have HK := n1_; have HB := n2_; have HI0 := n3_; clear n0_ n1_ n2_ n3_; (try clear hb); (try clear hk); (try clear hi); have p36 : 0 ≤ (t217 : Int) := OD; have q36 : (t217 : Int) < ((t212.length : Int) : Int) := OD; obtain ⟨go36, co9005, eo9005, gb36, gl36, cl36, HG36⟩ := Kd.nT HO214.out (by omega); (first | cases eo9005 | (injection eo9005 with ea_ en_ ec_; (first | subst ea_ | (injection ea_ with ea_; subst ea_)); subst ec_; clear en_)); have GB36 := aj.mk gb36; have GG36 := aj.mk HG36; clear gb36 gl36 HG36; obtain ⟨ce36, hcl36, hM36, hcc36, hfr36⟩ := Kd.jN HO214.out pE (t217 : Int) p36 q36; obtain rfl := gD hM36; have hx36_0 : w9004.cell? ⟨go36, (t217 : Int).toNat * 4, none⟩ = some (.int .i64 ((ah t212 t217).f0)) := hcc36 0 _ rfl; have hx36_1 : w9004.cell? ⟨go36, (t217 : Int).toNat * 4 + 1, none⟩ = some (.string ((ah t212 t217).f1)) := hcc36 1 _ rfl; have hx36_2 : w9004.cell? ⟨go36, (t217 : Int).toNat * 4 + 2, none⟩ = some (.int .i64 ((ah t212 t217).f2)) := hcc36 2 _ rfl; have hx36_3 : w9004.cell? ⟨go36, (t217 : Int).toNat * 4 + 3, none⟩ = some (.int .i64 ((ah t212 t217).f3)) := hcc36 3 _ rfl; have hf36_0 : w9004.frozen? ⟨go36, (t217 : Int).toNat * 4, none⟩ = false := hfr36 0; have hf36_1 : w9004.frozen? ⟨go36, (t217 : Int).toNat * 4 + 1, none⟩ = false := hfr36 1; have hf36_2 : w9004.frozen? ⟨go36, (t217 : Int).toNat * 4 + 2, none⟩ = false := hfr36 2; have hf36_3 : w9004.frozen? ⟨go36, (t217 : Int).toNat * 4 + 3, none⟩ = false := hfr36 3; clear hcl36 hcc36 hfr36 hM36; replace p36 := eq_true p36; replace q36 := eq_true q36; have HX42 := aj.mk (show Kd.R eY 110 w9004 w.heap.size (fun _ => True) (.slice (some ⟨go36, 0, none⟩) t212.length co9001) t212 from (RR HO214)); obtain ⟨ce42, hcl42, hM42, hcc42, hfr42⟩ := Kd.jN HX42.out pE (t217 : Int) (OD) (by have h_ : (t217 : Int) < ((t212.length : Int) : Int) := OD; first | exact h_ | (have e_ := (Kd.aZ HO214.out).1; omega) | simpa using h_); obtain rfl := gD hM42; have HP42 := Kd.tC HX42.out (t217 : Int) (OD) (by have h_ : (t217 : Int) < ((t212.length : Int) : Int) := OD; first | exact h_ | (have e_ := (Kd.aZ HO214.out).1; omega) | simpa using h_) (seg := [.int .i64 t234]) (j := 2) hcl42 hcc42 (show 3 ≤ 4 from by decide) (x' := (⟨(ah t212 t217).f0, (ah t212 t217).f1, t234, (ah t212 t217).f3⟩ : bq)) (jA _ _ _ (⟨(ah t212 t217).f0, (ah t212 t217).f1, t234, (ah t212 t217).f3⟩ : bq) ) (fun _ hk => hk); have hx42_2 := hcc42 2 _ rfl; (try simp only [show (eY).sz = 4 from rfl, Nat.mul_one, Nat.add_zero] at hx42_2); have hf42_2 := hfr42 2; (try simp only [show (eY).sz = 4 from rfl, Nat.mul_one, Nat.add_zero] at hf42_2); clear hcl42 hcc42 hfr42 hM42) | ((with_reducible refine fZ (t := 3) (p := 37) rfl ?_); refine fJ (t := 3) (p := 37) (v := ?vo_w43) (w1 := (w9004.setCell ⟨go36, (t217 : Int).toNat * 4 + 2, none⟩ (.int .i64 t234))) ?hg ?ho ?hn ?hr ?_; (case ho => rfl); (case hg => rfl); (case hn => rfl); (case hr => first | (go_simp; done) | (go_simp; rfl)); intro w9006 hw; have hg : w9004.grownBy w9006 (some go36) := (by rw [hw]; exact HP42.2); have hp_ : Kd.R eY 110 w9006 w.heap.size (fun _ => True) (.slice (some ⟨go36, 0, none⟩) t212.length co9001) y237 := (by rw [hw, Ny237.out]; exact HP42.1); clear HP42; have n0_ := aj.mk (ak.grown (by repeat (first | (with_reducible first | exact HI0.out | apply ak.alloc | apply ak.drewN | apply ak.drew | apply ak.bG | apply ak.bF) | exact HI0.out)) hg (ak.own_ne HI0.out HO214.out (by decide))); have n1_ := aj.mk (hp_); have n2_ := aj.mk ((by rw [hw]; exact aD (HB.out) (Nat.le_trans HL.out GB36.out) : Below w0.heap.size w0 w9006)); have n3_ := aj.mk (ay.trans (by repeat (first | (with_reducible first | exact HK.out | apply ay.cO | apply aK | apply aR | apply aM) | exact HK.out)) (ay.jc hg g) (Kd.lQ HO214.out)); clear HI0 HO214 HB HK; have HI0 := n0_; have HO214 := n1_; have HB := n2_; have HK := n3_; clear n0_ n1_ n2_ n3_; clear hg hw hp_))
    go_ret
    exact ⟨_, EWW, (RR HO214), by repeat (first | (with_reducible first | exact HI0.out | apply ak.alloc | apply ak.drewN | apply ak.drew | apply ak.bG | apply ak.bF) | exact HI0.out), by repeat (first | (with_reducible first | exact HB.out | apply aI | apply aA | apply aG | refine aD ?_ (ak.ge HI0.out)) | exact HB.out), by repeat (first | (with_reducible first | exact HK.out | apply ay.cO | apply aK | apply aR | apply aM) | exact HK.out)⟩
   ·replace H := ifE H; rcases H with ⟨c44b0, c44b1, H⟩ | ⟨c44, c44b0, c44b1, H⟩
    ·replace H := be H; obtain ⟨⟨t238, t239, t240⟩, A45, H⟩ := H
     dsimp only at H
     replace H := ifN H; obtain ⟨c46b0, H⟩ := H
     replace H := ifN H; obtain ⟨c47b0, H⟩ := H
     obtain ⟨y241, hy241⟩ : ∃ y_ : List (bq), y_ = (t212.set (t217 : Int).toNat (⟨(ah t212 t217).f0, (ah t212 t217).f1, (ah t212 t217).f2, t238⟩ : bq)) := ⟨_, rfl⟩
     replace H : (some (y241, t239, t240)) = some (r1, r2, r3) := by first | (rw [hy241]; with_reducible exact H) | (have H2_ := (Option.bind_some _ _).symm.trans H; rw [hy241]; with_reducible exact H2_) | (have H2_ := (Option.bind_some _ _).symm.trans H; with_reducible exact H2_) | with_reducible exact H | (rw [hy241]; exact H) | exact H
     have Ny241 := aj.mk hy241
     clear hy241
     simp only [Option.some.injEq, Prod.mk.injEq] at H
     obtain ⟨rfl, rfl, rfl⟩ := H
     try go_wp2_with (first | ((with_reducible refine aJ (f := 119) rfl ?_); refine bI (some 43) Try.func119 #[.pointer (some ⟨g, 0, none⟩)] ?_; (with_reducible refine (fM.calls g s0_0 t221 t222 t238 t239 t240 w0 _ ?side1 ?side2 A45.out).mono ?_); (case side1 => repeat (first | (with_reducible first | exact HI0.out | apply ak.alloc | apply ak.drewN | apply ak.drew | apply ak.bG | apply ak.bF) | exact HI0.out)); (case side2 => repeat (first | (with_reducible first | exact HB.out | apply aI | apply aA | apply aG | refine aD ?_ (ak.ge HI0.out)) | exact HB.out)); rintro e w9004 ⟨rfl, hi, hb, hk⟩; refine ⟨_, rfl, ?_⟩; have n0_ := aj.mk (Kd.dD (Kd.gJ (ak.apart (show ak w0 _ g s0_0 t221 t222 from by repeat (first | (with_reducible first | exact HI0.out | apply ak.alloc | apply ak.drewN | apply ak.drew | apply ak.bG | apply ak.bF) | exact HI0.out)) (RR HO214) (by decide)) hk (fun _ h => h.2)) (fun _ h => h.1)); have n1_ := aj.mk (ay.trans (by repeat (first | (with_reducible first | exact HK.out | apply ay.cO | apply aK | apply aR | apply aM) | exact HK.out)) hk (.inl rfl)); have n2_ := aj.mk (hb); have n3_ := aj.mk (hi); clear HO214 HK HB HI0; have HO214 := n0_; have HK := n1_; have HB := n2_; have HI0 := n3_; clear n0_ n1_ n2_ n3_; (try clear hb); (try clear hk); (try clear hi); have p48 : 0 ≤ (t217 : Int) := OD; have q48 : (t217 : Int) < ((t212.length : Int) : Int) := OD; obtain ⟨go48, co9005, eo9005, gb48, gl48, cl48, HG48⟩ := Kd.nT HO214.out (by omega); (first | cases eo9005 | (injection eo9005 with ea_ en_ ec_; (first | subst ea_ | (injection ea_ with ea_; subst ea_)); subst ec_; clear en_)); have GB48 := aj.mk gb48; have GG48 := aj.mk HG48; clear gb48 gl48 HG48; obtain ⟨ce48, hcl48, hM48, hcc48, hfr48⟩ := Kd.jN HO214.out pE (t217 : Int) p48 q48; obtain rfl := gD hM48; have hx48_0 : w9004.cell? ⟨go48, (t217 : Int).toNat * 4, none⟩ = some (.int .i64 ((ah t212 t217).f0)) := hcc48 0 _ rfl; have hx48_1 : w9004.cell? ⟨go48, (t217 : Int).toNat * 4 + 1, none⟩ = some (.string ((ah t212 t217).f1)) := hcc48 1 _ rfl; have hx48_2 : w9004.cell? ⟨go48, (t217 : Int).toNat * 4 + 2, none⟩ = some (.int .i64 ((ah t212 t217).f2)) := hcc48 2 _ rfl; have hx48_3 : w9004.cell? ⟨go48, (t217 : Int).toNat * 4 + 3, none⟩ = some (.int .i64 ((ah t212 t217).f3)) := hcc48 3 _ rfl; have hf48_0 : w9004.frozen? ⟨go48, (t217 : Int).toNat * 4, none⟩ = false := hfr48 0; have hf48_1 : w9004.frozen? ⟨go48, (t217 : Int).toNat * 4 + 1, none⟩ = false := hfr48 1; have hf48_2 : w9004.frozen? ⟨go48, (t217 : Int).toNat * 4 + 2, none⟩ = false := hfr48 2; have hf48_3 : w9004.frozen? ⟨go48, (t217 : Int).toNat * 4 + 3, none⟩ = false := hfr48 3; clear hcl48 hcc48 hfr48 hM48; replace p48 := eq_true p48; replace q48 := eq_true q48; have HX54 := aj.mk (show Kd.R eY 110 w9004 w.heap.size (fun _ => True) (.slice (some ⟨go48, 0, none⟩) t212.length co9001) t212 from (RR HO214)); obtain ⟨ce54, hcl54, hM54, hcc54, hfr54⟩ := Kd.jN HX54.out pE (t217 : Int) (OD) (by have h_ : (t217 : Int) < ((t212.length : Int) : Int) := OD; first | exact h_ | (have e_ := (Kd.aZ HO214.out).1; omega) | simpa using h_); obtain rfl := gD hM54; have HP54 := Kd.tC HX54.out (t217 : Int) (OD) (by have h_ : (t217 : Int) < ((t212.length : Int) : Int) := OD; first | exact h_ | (have e_ := (Kd.aZ HO214.out).1; omega) | simpa using h_) (seg := [.int .i64 t238]) (j := 3) hcl54 hcc54 (show 4 ≤ 4 from by decide) (x' := (⟨(ah t212 t217).f0, (ah t212 t217).f1, (ah t212 t217).f2, t238⟩ : bq)) (jA _ _ _ (⟨(ah t212 t217).f0, (ah t212 t217).f1, (ah t212 t217).f2, t238⟩ : bq) ) (fun _ hk => hk); have hx54_3 := hcc54 3 _ rfl; (try simp only [show (eY).sz = 4 from rfl, Nat.mul_one, Nat.add_zero] at hx54_3); have hf54_3 := hfr54 3; (try simp only [show (eY).sz = 4 from rfl, Nat.mul_one, Nat.add_zero] at hf54_3); clear hcl54 hcc54 hfr54 hM54) | ((with_reducible refine fZ (t := 3) (p := 45) rfl ?_); refine fJ (t := 3) (p := 45) (v := ?vo_w55) (w1 := (w9004.setCell ⟨go48, (t217 : Int).toNat * 4 + 3, none⟩ (.int .i64 t238))) ?hg ?ho ?hn ?hr ?_; (case ho => rfl); (case hg => rfl); (case hn => rfl); (case hr => first | (go_simp; done) | (go_simp; rfl)); intro w9006 hw; have hg : w9004.grownBy w9006 (some go48) := (by rw [hw]; exact HP54.2); have hp_ : Kd.R eY 110 w9006 w.heap.size (fun _ => True) (.slice (some ⟨go48, 0, none⟩) t212.length co9001) y241 := (by rw [hw, Ny241.out]; exact HP54.1); clear HP54; have n0_ := aj.mk (ak.grown (by repeat (first | (with_reducible first | exact HI0.out | apply ak.alloc | apply ak.drewN | apply ak.drew | apply ak.bG | apply ak.bF) | exact HI0.out)) hg (ak.own_ne HI0.out HO214.out (by decide))); have n1_ := aj.mk (hp_); have n2_ := aj.mk ((by rw [hw]; exact aD (HB.out) (Nat.le_trans HL.out GB48.out) : Below w0.heap.size w0 w9006)); have n3_ := aj.mk (ay.trans (by repeat (first | (with_reducible first | exact HK.out | apply ay.cO | apply aK | apply aR | apply aM) | exact HK.out)) (ay.jc hg g) (Kd.lQ HO214.out)); clear HI0 HO214 HB HK; have HI0 := n0_; have HO214 := n1_; have HB := n2_; have HK := n3_; clear n0_ n1_ n2_ n3_; clear hg hw hp_))
     go_ret
     exact ⟨_, EWW, (RR HO214), by repeat (first | (with_reducible first | exact HI0.out | apply ak.alloc | apply ak.drewN | apply ak.drew | apply ak.bG | apply ak.bF) | exact HI0.out), by repeat (first | (with_reducible first | exact HB.out | apply aI | apply aA | apply aG | refine aD ?_ (ak.ge HI0.out)) | exact HB.out), by repeat (first | (with_reducible first | exact HK.out | apply ay.cO | apply aK | apply aR | apply aM) | exact HK.out)⟩
    ·replace H := ifE H; rcases H with ⟨c56b0, c56b1, H⟩ | ⟨c56, c56b0, c56b1, H⟩
     ·simp only [Option.some.injEq, Prod.mk.injEq] at H
      obtain ⟨rfl, rfl, rfl⟩ := H
      try go_wp2
      go_ret
      exact ⟨_, EWW, by first | exact Kd.ko _ _ _ _ _ | exact Kd.uL _ _ _ _ _ | exact Kd.uO _ _ _ _ _ | exact Kd.vw _ _ _ _ _ | exact Kd.uX _ _ _ _ _, by repeat (first | (with_reducible first | exact HI0.out | apply ak.alloc | apply ak.drewN | apply ak.drew | apply ak.bG | apply ak.bF) | exact HI0.out), by repeat (first | (with_reducible first | exact HB.out | apply aI | apply aA | apply aG | refine aD ?_ (ak.ge HI0.out)) | exact HB.out), by repeat (first | (with_reducible first | exact HK.out | apply ay.cO | apply aK | apply aR | apply aM) | exact HK.out)⟩
     ·simp only [Option.some.injEq, Prod.mk.injEq] at H
      obtain ⟨rfl, rfl, rfl⟩ := H
      try go_wp2
      go_ret
      exact ⟨_, EWW, (RR HO214), by repeat (first | (with_reducible first | exact HI0.out | apply ak.alloc | apply ak.drewN | apply ak.drew | apply ak.bG | apply ak.bF) | exact HI0.out), by repeat (first | (with_reducible first | exact HB.out | apply aI | apply aA | apply aG | refine aD ?_ (ak.ge HI0.out)) | exact HB.out), by repeat (first | (with_reducible first | exact HK.out | apply ay.cO | apply aK | apply aR | apply aM) | exact HK.out)⟩
def eP.f (k : Nat) (l0 : List Int) : Option ((List (bq))) := (dx.f k l0).bind fun bt242 => ((gF.f k bt242.1 bt242.2.1 bt242.2.2).bind fun bt246 => (some bt246.1))
theorem eP.calls (k : Nat) (A0 : Option Addr) (c0 : Nat) (l0 : List Int) (r : List (bq)) (w : World) (hr0 : Kd.C (Kd.int .u8) w A0 l0.length l0) (hc0 : l0.length ≤ c0) (h : eP.f k l0 = some r) :
  Calls Try.prog 103 #[.slice A0 l0.length c0] w fun e w' => ∃ v0_ : Value, e = .returned (v0_) ∧ Kd.R eY 110 w' w.heap.size (fun _ => True) v0_ r ∧ Below w.heap.size w w' := by
 have HR0 := aj.mk hr0
 have HC0 := aj.mk hc0
 clear hr0 hc0
 have HB := aj.mk (Below.refl w.heap.size w)
 unfold eP.f at h
 have H := h
 clear h
 replace H := be H; obtain ⟨⟨t242, t243, t244⟩, A2, H⟩ := H
 dsimp only at H
 replace H := be H; obtain ⟨⟨t246, t249, t250⟩, A3, H⟩ := H
 dsimp only at H
 obtain rfl := Option.some.inj H
 go_enter Try.func103, Try.ntmps103
 go_wp2_with (first | ((with_reducible refine aJ (f := 60) rfl ?_); refine bI (some 5) Try.func60 #[.slice A0 l0.length c0] ?_; (with_reducible refine (dx.calls k _ _ l0 t242 t243 t244 w _ ?side1 ?side2 ?side3 A2.out).mono ?_); (case side1 => exact BL); (case side2 => exact HR0.out); (case side3 => exact HC0.out); rintro e w4 ⟨g245, rfl, hi, hb, hb2⟩; refine ⟨_, rfl, ?_⟩; have n0_ := aj.mk (hb); have n1_ := aj.mk (hi); clear HB; have HB := n0_; have HI245 := n1_; clear n0_ n1_; (try clear hb); (try clear hb2); (try clear hi)) | ((with_reducible refine aJ (f := 155) rfl ?_); refine bI (some 7) Try.func155 #[.pointer (some ⟨g245, 0, none⟩)] ?_; (with_reducible refine (gF.calls k g245 t242 t243 t244 t246 t249 t250 w _ ?side1 ?side2 A3.out).mono ?_); (case side1 => repeat (first | (with_reducible first | exact HI245.out | apply ak.alloc | apply ak.drewN | apply ak.drew | apply ak.bG | apply ak.bF) | exact HI245.out)); (case side2 => repeat (first | (with_reducible first | exact HB.out | apply aI | apply aA | apply aG | refine aD ?_ (ak.ge HI245.out)) | exact HB.out)); rintro e w5 ⟨v247, rfl, ho0, hi, hb, hk⟩; refine ⟨_, rfl, ?_⟩; have n0_ := aj.mk (Kd.dF ho0 (bS (by repeat (first | (with_reducible first | exact HB.out | apply aI | apply aA | apply aG | refine aD ?_ (ak.ge HI245.out)) | exact HB.out)))); have n1_ := aj.mk (hb); have n2_ := aj.mk (hi); clear HB HI245; have HO248 := n0_; have HB := n1_; have HI245 := n2_; clear n0_ n1_ n2_; (try clear hb); (try clear hk); (try clear hi); (try clear ho0)))
 go_ret
 exact ⟨_, EWW, (RR HO248), by repeat (first | (with_reducible first | exact HB.out | apply aI | apply aA | apply aG | refine aD ?_ (ak.ge HI245.out)) | exact HB.out)⟩
def dV.f (k : Nat) (l0 : List Int) : Option ((List (bq))) := (eP.f k l0).bind fun t251 => (some t251)
theorem dV.calls (k : Nat) (A0 : Option Addr) (c0 : Nat) (l0 : List Int) (r : List (bq)) (w : World) (hr0 : Kd.C (Kd.int .u8) w A0 l0.length l0) (hc0 : l0.length ≤ c0) (h : dV.f k l0 = some r) :
  Calls Try.prog 44 #[.slice A0 l0.length c0] w fun e w' => ∃ v0_ : Value, e = .returned (v0_) ∧ Kd.R eY 110 w' w.heap.size (fun _ => True) v0_ r ∧ Below w.heap.size w w' := by
 have HR0 := aj.mk hr0
 have HC0 := aj.mk hc0
 clear hr0 hc0
 have HB := aj.mk (Below.refl w.heap.size w)
 unfold dV.f at h
 have H := h
 clear h
 replace H := be H; obtain ⟨t251, A2, H⟩ := H
 obtain rfl := Option.some.inj H
 go_enter Try.func44, Try.ntmps44
 go_wp2_with (first | ((with_reducible refine aJ (f := 103) rfl ?_); refine bI (some 4) Try.func103 #[.slice A0 l0.length c0] ?_; (with_reducible refine (eP.calls k _ _ l0 t251 _ ?side1 ?side2 A2.out).mono ?_); (case side1 => repeat (first | exact HR0.out | (with_reducible refine Kd.fU ?_ _) | (with_reducible refine Kd.fT ?_ _) | (with_reducible refine Kd.iB ?_))); (case side2 => exact HC0.out); rintro e w3 ⟨v252, rfl, ho0, hb⟩; refine ⟨_, rfl, ?_⟩; have n0_ := aj.mk (Kd.dF ho0 (bS BL)); replace HB := BS (w := w) hb; have HO253 := n0_; clear n0_; (try clear hb); (try clear ho0)))
 go_ret
 exact ⟨_, EWW, (RR HO253), BL⟩
def dW.f (a0 : ByteArray) : Option (ByteArray) := if a0.size ≤ 100 then (some (strOfNums (bytesOf a0).reverse)) else (none)
theorem dW.calls (a0 r : ByteArray) (w : World) (h : dW.f a0 = some r) :
  Calls Try.prog 156 #[.string a0] w fun e w' => e = .returned (.string r) ∧ Below w.heap.size w w' := by
 by_cases h1 : a0.size ≤ 100
 ·have hr : r = strOfNums (bytesOf a0).reverse := by
   unfold dW.f at h
   rw [if_pos h1] at h
   exact (Option.some.inj h).symm
  subst hr
  exact Go.Proofs.Ythjcicmmbmagbaa.HandSort.pY a0 w h1
 ·simp [dW.f, h1] at h
def dR.f (k : Nat) (a0 : ByteArray) : Option (ByteArray) := (bE.f k a0).bind fun t => (if t = true then (if a0.size ≤ 12 then (some (strOfNums (Go.Proofs.Ythjcicmmbmagbaa.HandSort.sorted a0))) else (none)) else (none))
theorem dR.calls (k : Nat) (a0 r : ByteArray) (w : World) (h : dR.f k a0 = some r) :
  Calls Try.prog 185 #[.string a0] w fun e w' => e = .returned (.string r) ∧ Below w.heap.size w w' := by
 obtain ⟨t, h1, h2⟩ := Option.bind_eq_some_iff.mp h
 cases t with
 | false => simp at h2
 | true =>
  rw [if_pos rfl] at h2
  by_cases h3 : a0.size ≤ 12
  ·rw [if_pos h3] at h2
   obtain rfl := Option.some.inj h2
   exact Go.Proofs.Ythjcicmmbmagbaa.HandSort.oP a0 w h3 ((bE.calls k a0 true w h1).mono fun e w' hq => ⟨hq.1, hq.2.out⟩)
  ·rw [if_neg h3] at h2
   cases h2
def dI.f (k : Nat) (a0 a1 : ByteArray) : Option (Bool) := (bE.f k a0).bind fun t254 => (if t254 = true then ((bE.f k a1).bind fun t255 => (if t255 = true then (if a0.toList = a1.toList then (some false) else ((dR.f k a0).bind fun t256 => ((dR.f k a1).bind fun t257 => (some (t256.toList == t257.toList))))) else (some false))) else (some false))
theorem dI.calls (k : Nat) (a0 a1 : ByteArray) (r : Bool) (w : World) (h : dI.f k a0 a1 = some r) :
  Calls Try.prog 157 #[.string a0, .string a1] w fun e w' => e = .returned (.bool r) ∧ Below w.heap.size w w' := by
 have HB := aj.mk (Below.refl w.heap.size w)
 unfold dI.f at h
 have H := h
 clear h
 replace H := be H; obtain ⟨t254, A3, H⟩ := H
 replace H := aj.mk H
 go_enter Try.func157, Try.ntmps157
 go_wp2_with (first | ((with_reducible refine aJ (f := 64) rfl ?_); refine bI (some 6) Try.func64 #[.string a0] ?_; (with_reducible refine (bE.calls k a0 _ _ A3.out).mono ?_); rintro e w' ⟨rfl, ⟨nd, rfl⟩⟩; refine ⟨_, rfl, ?_⟩; refine eU ?_))
 refine Hide.mk ?_
 replace H := H.out
 replace H := ifB H; rcases H with ⟨rfl, H⟩ | ⟨rfl, H⟩
 ·replace H := be H; obtain ⟨t255, A5, H⟩ := H
  replace H := aj.mk H
  go_wp2_with (first | (go_at_call 64; (with_reducible refine (bE.calls k a1 _ _ A5.out).mono ?_); rintro e w' ⟨rfl, ⟨nd, rfl⟩⟩; refine eU ?_))
  refine Hide.mk ?_
  replace H := H.out
  replace H := ifB H; rcases H with ⟨rfl, H⟩ | ⟨rfl, H⟩
  ·replace H := ifE H; rcases H with ⟨c7b0, c7b1, H⟩ | ⟨c7, c7b0, c7b1, H⟩
   ·obtain rfl := Option.some.inj H
    try go_wp2
    go_ret
    exact ⟨EWW, BL⟩
   ·replace H := be H; obtain ⟨t256, A8, H⟩ := H
    replace H := be H; obtain ⟨t257, A9, H⟩ := H
    obtain rfl := Option.some.inj H
    try go_wp2_with (first | (go_at_call 185; (with_reducible refine (dR.calls k a0 t256 _ A8.out).mono ?_); rintro e w9000 ⟨rfl, hb⟩; replace HB := BS (w := w) hb; (try clear hb)) | (go_at_call 185; (with_reducible refine (dR.calls k a1 t257 _ A9.out).mono ?_); rintro e w9001 ⟨rfl, hb⟩; replace HB := BS (w := w) hb; (try clear hb)))
    go_ret
    exact ⟨EWW, BL⟩
  ·obtain rfl := Option.some.inj H
   try go_wp2
   go_ret
   exact ⟨EWW, BL⟩
 ·obtain rfl := Option.some.inj H
  try go_wp2
  go_ret
  exact ⟨EWW, BL⟩
def fI.f (k : Nat) (a0 : ByteArray) : Option (ByteArray) := (bE.f k a0).bind fun t258 => (if t258 = true then (if 0 ≤ 1 then (if 1 ≤ (a0.size : Int) then (some (a0.extract 0 1)) else (none)) else (none)) else (some (⟨#[]⟩ : ByteArray)))
theorem fI.calls (k : Nat) (a0 r : ByteArray) (w : World) (h : fI.f k a0 = some r) :
  Calls Try.prog 158 #[.string a0] w fun e w' => e = .returned (.string r) ∧ dB w w' := by
 unfold fI.f at h
 have H := h
 clear h
 replace H := be H; obtain ⟨t258, A2, H⟩ := H
 replace H := aj.mk H
 go_enter Try.func158, Try.ntmps158
 go_wp2_with (first | ((with_reducible refine aJ (f := 64) rfl ?_); refine bI (some 4) Try.func64 #[.string a0] ?_; (with_reducible refine (bE.calls k a0 _ _ A2.out).mono ?_); rintro e w' ⟨rfl, ⟨nd, rfl⟩⟩; refine ⟨_, rfl, ?_⟩; refine eU ?_))
 refine Hide.mk ?_
 replace H := H.out
 replace H := ifB H; rcases H with ⟨rfl, H⟩ | ⟨rfl, H⟩
 ·replace H := ifP H; obtain ⟨c4, H⟩ := H
  have c4b0 := eq_true c4
  have c4b1 : decide (0 ≤ 1) = true := decide_eq_true c4
  clear c4
  replace H := ifP H; obtain ⟨c5, H⟩ := H
  have c5b0 := eq_true c5
  have c5b1 : decide (1 ≤ (a0.size : Int)) = true := decide_eq_true c5
  clear c5
  obtain rfl := Option.some.inj H
  try go_wp2
  go_ret
  exact ⟨EQ, DR⟩
 ·obtain rfl := Option.some.inj H
  try go_wp2
  go_ret
  exact ⟨EQ, DR⟩
def dQ.f (k : Nat) (a0 : ByteArray) : Option (ByteArray) := (bE.f k a0).bind fun t259 => (if t259 = true then (if 1 ≤ (a0.size : Int) then (some (a0.extract 1 a0.size)) else (none)) else (some (⟨#[]⟩ : ByteArray)))
theorem dQ.calls (k : Nat) (a0 r : ByteArray) (w : World) (h : dQ.f k a0 = some r) :
  Calls Try.prog 159 #[.string a0] w fun e w' => e = .returned (.string r) ∧ dB w w' := by
 unfold dQ.f at h
 have H := h
 clear h
 replace H := be H; obtain ⟨t259, A2, H⟩ := H
 replace H := aj.mk H
 go_enter Try.func159, Try.ntmps159
 go_wp2_with (first | ((with_reducible refine aJ (f := 64) rfl ?_); refine bI (some 4) Try.func64 #[.string a0] ?_; (with_reducible refine (bE.calls k a0 _ _ A2.out).mono ?_); rintro e w' ⟨rfl, ⟨nd, rfl⟩⟩; refine ⟨_, rfl, ?_⟩; refine eU ?_))
 refine Hide.mk ?_
 replace H := H.out
 replace H := ifB H; rcases H with ⟨rfl, H⟩ | ⟨rfl, H⟩
 ·replace H := ifP H; obtain ⟨c4, H⟩ := H
  have c4b0 := eq_true c4
  have c4b1 : decide (1 ≤ (a0.size : Int)) = true := decide_eq_true c4
  clear c4
  obtain rfl := Option.some.inj H
  try go_wp2
  go_ret
  exact ⟨EQ, DR⟩
 ·obtain rfl := Option.some.inj H
  try go_wp2
  go_ret
  exact ⟨EQ, DR⟩
def dP.f (k : Nat) (a0 : ByteArray) : Option (ByteArray) := (bE.f k a0).bind fun t260 => (if t260 = true then (if 0 ≤ (wrap64 ((a0.size : Int) - 1)) then (if (wrap64 ((a0.size : Int) - 1)) ≤ (a0.size : Int) then (some (a0.extract 0 ((wrap64 ((a0.size : Int) - 1)) : Int).toNat)) else (none)) else (none)) else (some (⟨#[]⟩ : ByteArray)))
theorem dP.calls (k : Nat) (a0 r : ByteArray) (w : World) (h : dP.f k a0 = some r) :
  Calls Try.prog 160 #[.string a0] w fun e w' => e = .returned (.string r) ∧ dB w w' := by
 unfold dP.f at h
 have H := h
 clear h
 replace H := be H; obtain ⟨t260, A2, H⟩ := H
 replace H := aj.mk H
 go_enter Try.func160, Try.ntmps160
 go_wp2_with (first | ((with_reducible refine aJ (f := 64) rfl ?_); refine bI (some 4) Try.func64 #[.string a0] ?_; (with_reducible refine (bE.calls k a0 _ _ A2.out).mono ?_); rintro e w' ⟨rfl, ⟨nd, rfl⟩⟩; refine ⟨_, rfl, ?_⟩; refine eU ?_))
 refine Hide.mk ?_
 replace H := H.out
 replace H := ifB H; rcases H with ⟨rfl, H⟩ | ⟨rfl, H⟩
 ·obtain ⟨ji4, hji4⟩ : ∃ j_ : Int, (wrap64 ((a0.size : Int) - 1)) = j_ := ⟨_, rfl⟩
  replace H : (if 0 ≤ (ji4) then (if (ji4) ≤ (a0.size : Int) then (some (a0.extract 0 ((ji4) : Int).toNat)) else (none)) else (none)) = some r := by first | (rw [hji4] at H; exact H) | (simp only [hji4] at H ⊢; exact H)
  (try rw [hji4] at A2)
  have hji4w : (IntKind.i64.wrap ((a0.size : Int) - 1)) = ji4 := (bY _).trans hji4
  replace H := ifP H; obtain ⟨c5, H⟩ := H
  have c5b0 := eq_true c5
  have c5b1 : decide (0 ≤ (ji4)) = true := decide_eq_true c5
  clear c5
  replace H := ifP H; obtain ⟨c6, H⟩ := H
  have c6b0 := eq_true c6
  have c6b1 : decide ((ji4) ≤ (a0.size : Int)) = true := decide_eq_true c6
  clear c6
  obtain rfl := Option.some.inj H
  try go_wp2
  go_ret
  exact ⟨by first | rfl | (simp; done) | (simp only [← hji4] <;> (first | rfl | simp)) | (simp [*]; done), DR⟩
 ·obtain rfl := Option.some.inj H
  try go_wp2
  go_ret
  exact ⟨EQ, DR⟩
mutual
def bH.j0 : Nat → ByteArray → ByteArray → Bool → Option (Bool)
 | 0, _, _, _ => none
 | k + 1, a, b, c => if c = true then (some false) else (bH.l0 k a b 1)
def bH.l0 : Nat → ByteArray → ByteArray → Int → Option (Bool)
 | 0, _, _, _ => none
 | k + 1, a, b, c => if (wrap64 (c + (a.size : Int))) < (b.size : Int) then (if 0 ≤ c then (if c ≤ (wrap64 (c + (a.size : Int))) then (if (wrap64 (c + (a.size : Int))) ≤ (b.size : Int) then (if (b.extract (c : Int).toNat ((wrap64 (c + (a.size : Int))) : Int).toNat).toList = a.toList then (some true) else (bH.l0 k a b (wrap64 (c + 1)))) else (none)) else (none)) else (none)) else (some false)
end
def bH.f (k : Nat) (a0 a1 : ByteArray) : Option (Bool) := (bE.f k a0).bind fun t261 => (if t261 = true then ((bE.f k a1).bind fun t262 => (bH.j0 k a0 a1 (!t262))) else (bH.j0 k a0 a1 true))
theorem bH.calls (k : Nat) (a0 a1 : ByteArray) (r : Bool) (w : World) (h : bH.f k a0 a1 = some r) :
  Calls Try.prog 161 #[.string a0, .string a1] w fun e w' => e = .returned (.bool r) ∧ dB w w' := by
 unfold bH.f at h
 have H := h
 clear h
 have HC3 := aj.mk H
 clear H
 go_enter Try.func161, Try.ntmps161
 go_upto_region 1 with (fail)
 go_cut [13] (fun v13 wc => ∃ (kq : Nat) (x13_2 : Bool), v13 = .bool x13_2 ∧ aj (bH.j0 kq a0 a1 x13_2 = some r) ∧ aj (kq ≤ k) ∧ dB w wc)
 case first =>
  have H := HC3.out
  clear HC3
  replace H := be H; obtain ⟨t261, A4, H⟩ := H
  replace H := aj.mk H
  go_wp2_with (first | ((with_reducible refine aJ (f := 64) rfl ?_); refine bI (some 7) Try.func64 #[.string a0] ?_; (with_reducible refine (bE.calls k a0 _ _ A4.out).mono ?_); rintro e w' ⟨rfl, ⟨nd, rfl⟩⟩; refine ⟨_, rfl, ?_⟩; refine eU ?_))
  refine Hide.mk ?_
  replace H := H.out
  replace H := ifB H; rcases H with ⟨rfl, H⟩ | ⟨rfl, H⟩
  ·replace H := be H; obtain ⟨t262, A6, H⟩ := H
   have H' := aj.mk H
   clear H
   try go_wp2_with (first | (go_at_call 64; (with_reducible refine (bE.calls k a1 t262 _ A6.out).mono ?_); rintro e w' ⟨rfl, ⟨nd, rfl⟩⟩))
   go_meet
   case rel => exact ⟨_, (!t262), EQ, H', ⟨by first | omega | exact Nat.le_refl _⟩, DR⟩
  ·have H' := aj.mk H
   clear H
   try go_wp2
   go_meet
   case rel => exact ⟨_, (true), EQ, H', ⟨by first | omega | exact Nat.le_refl _⟩, DR⟩
 case rest =>
  clear HC3
  obtain ⟨kq, x13_2, rfl, HA, HJ2, ⟨mc2, rfl⟩⟩ := hcut
  cases kq with
  | zero => exact absurd HA.out (by simp [bH.j0])
  | succ kj2 =>
   have H := HA.out
   clear HA
   simp only [bH.j0] at H
   replace H := ifB H; rcases H with ⟨rfl, H⟩ | ⟨rfl, H⟩
   ·obtain rfl := Option.some.inj H
    go_wp2
    go_ret
    exact ⟨EQ, DR⟩
   ·have H' := aj.mk H
    clear H
    go_wp2
    go_loopg [5] kj2 (fun kq v5 w' => ∃ (x5_2 : Int), v5 = .int .i64 x5_2 ∧ aj (bH.l0 kq a0 a1 x5_2 = some r) ∧ aj (kq ≤ kj2) ∧ dB w w')
    case atStart => exact ⟨(1), EQ, H', ⟨Nat.le_refl _⟩, DR⟩
    case round =>
     clear H'
     try clear c7
     obtain ⟨x5_2, rfl, HA, HK2, ⟨m2, rfl⟩⟩ := hrel
     cases gk with
     | zero => exact absurd HA.out (by simp [bH.l0])
     | succ k2 =>
      have H := HA.out
      clear HA
      simp only [bH.l0] at H
      replace H := ifD H; rcases H with ⟨c8b0, H⟩ | ⟨c8b0, H⟩
      ·replace H := ifP H; obtain ⟨c9, H⟩ := H
       have c9b0 := eq_true c9
       have c9b1 : decide (0 ≤ x5_2) = true := decide_eq_true c9
       clear c9
       replace H := ifP H; obtain ⟨c10, H⟩ := H
       have c10b0 := eq_true c10
       have c10b1 : decide (x5_2 ≤ (wrap64 (x5_2 + (a0.size : Int)))) = true := decide_eq_true c10
       replace H := ifP H; obtain ⟨c11, H⟩ := H
       have c11b0 := eq_true c11
       have c11b1 : decide ((wrap64 (x5_2 + (a0.size : Int))) ≤ (a1.size : Int)) = true := decide_eq_true c11
       replace H := ifE H; rcases H with ⟨c12b0, c12b1, H⟩ | ⟨c12, c12b0, c12b1, H⟩
       ·obtain rfl := Option.some.inj H
        go_wp2
        go_ret
        exact ⟨EQ, DR⟩
       ·have H' := aj.mk H
        clear H
        go_wp2
        go_roundg k2
        case measure => have := HJ2.out; have := HK2.out; omega
        case rel => exact ⟨(wrap64 (x5_2 + 1)), EQ, H', ⟨by have := HJ2.out; have := HK2.out; omega⟩, DR⟩
      ·obtain rfl := Option.some.inj H
       go_wp2
       go_ret
       exact ⟨EQ, DR⟩
mutual
def aW.l0 : Nat → List (bq) → ByteArray → Int → Int → ByteArray → Int → Int → Option (Bool)
 | 0, _, _, _, _, _, _, _ => none
 | k + 1, a, b, c, d, e, f, g => if c < (b.size : Int) then (if 0 ≤ c then (if c ≤ (b.size : Int) then ((aW.f k a f (b.extract 0 (c : Int).toNat)).bind fun h => (if h = true then ((aW.f k a g (b.extract (c : Int).toNat b.size)).bind fun i => (if i = true then (some true) else (aW.l0 k a b (wrap64 (c + 1)) d e f g))) else (aW.l0 k a b (wrap64 (c + 1)) d e f g))) else (none)) else (none)) else (some false)
def aW.l1 : Nat → List (bq) → ByteArray → Int → Int → ByteArray → Int → Int → Option (Bool)
 | 0, _, _, _, _, _, _, _ => none
 | k + 1, a, b, c, d, e, f, g => if c < (b.size : Int) then (aW.l2 k a b c (wrap64 (c + 1)) d e f g) else (some false)
def aW.l2 : Nat → List (bq) → ByteArray → Int → Int → Int → ByteArray → Int → Int → Option (Bool)
 | 0, _, _, _, _, _, _, _, _ => none
 | k + 1, a, b, c, d, e, f, g, h => if d < (b.size : Int) then (if 0 ≤ c then (if c ≤ d then (if d ≤ (b.size : Int) then ((aW.f k a h (b.extract (c : Int).toNat (d : Int).toNat)).bind fun i => (if i = true then (if c ≤ (b.size : Int) then (if 0 ≤ d then (if (b.extract 0 (c : Int).toNat).size + (b.extract (d : Int).toNat b.size).size ≤ 9223372036854775807 then ((aW.f k a g ((b.extract 0 (c : Int).toNat) ++ (b.extract (d : Int).toNat b.size))).bind fun j => (if j = true then (some true) else (aW.l2 k a b c (wrap64 (d + 1)) e f g h))) else (none)) else (none)) else (none)) else (aW.l2 k a b c (wrap64 (d + 1)) e f g h))) else (none)) else (none)) else (none)) else (aW.l1 k a b (wrap64 (c + 1)) e f g h)
def aW.f : Nat → List (bq) → Int → ByteArray → Option (Bool)
 | 0, _, _, _ => none
 | k + 1, a, b, c => if 0 ≤ b then (if b < (a.length : Int) then (if c.toList = ([] : List UInt8) then (some false) else (if 0 ≤ ((ah a b).f2) then (if ((ah a b).f2) < (a.length : Int) then (if ((ah a b).f0) = 1 then (some (c.toList == ((ah a b).f1).toList)) else (if ((ah a b).f0) = 2 then ((dW.f c).bind fun d => ((aW.f k a ((ah a b).f2) d).bind fun e => (some e))) else (if ((ah a b).f0) = 3 then ((dI.f k ((ah a ((ah a b).f2)).f1) c).bind fun f => (some f)) else (if ((ah a b).f0) = 4 then (aW.l0 k a c 1 ((ah a b).f0) ((ah a b).f1) ((ah a b).f2) ((ah a b).f3)) else (if ((ah a b).f0) = 5 then (aW.l1 k a c 1 ((ah a b).f0) ((ah a b).f1) ((ah a b).f2) ((ah a b).f3)) else (if ((ah a b).f0) = 6 then ((fI.f k ((ah a ((ah a b).f2)).f1)).bind fun g => (some (c.toList == g.toList))) else (if ((ah a b).f0) = 7 then ((dQ.f k ((ah a ((ah a b).f2)).f1)).bind fun h => (some (c.toList == h.toList))) else (if ((ah a b).f0) = 8 then ((dP.f k ((ah a ((ah a b).f2)).f1)).bind fun i => (some (c.toList == i.toList))) else (if ((ah a b).f0) = 9 then ((bH.f k c ((ah a ((ah a b).f2)).f1)).bind fun j => (some j)) else (some false)))))))))) else (none)) else (none))) else (none)) else (none)
end
def aW.T16 : Bool × List (List Nat × List Nat) := (true, [([], []), ([], []), ([1], [1]), ([], []), ([], []), ([3, 4], [3, 4]), ([0, 2, 5], [0, 2, 5]), ([6, 6], [6]), ([7], [7]), ([7], [7]), ([9, 7], [7, 9]), ([7], [7]), ([7], [7]), ([11, 12, 7], [7, 11, 12]), ([8, 10, 13, 7, 7], [7, 8, 10, 13]), ([7, 14], [7, 14])])
def aW.B16 : List Nat := [0, 0, 2, 0, 0, 24, 63, 127, 255, 255, 767, 255, 255, 6399, 16383, 32767]
theorem aW.wV : iE .any (opsOf Try.f105 16) = aW.T16 := by kernel_rfl
theorem aW.wG : iy aW.T16.2 aW.B16 = true := by kernel_rfl
def aW.T25 : Bool × List (List Nat × List Nat) := (true, [([], []), ([], []), ([1], [1]), ([], []), ([], []), ([], []), ([3, 4, 5], [3, 4, 5]), ([0, 2, 6], [0, 2, 6]), ([7, 7], [7]), ([8], [8]), ([8], [8]), ([10, 8], [8, 10]), ([8], [8]), ([8], [8]), ([12, 13, 8], [8, 12, 13]), ([8], [8]), ([8], [8]), ([15, 16, 8], [8, 15, 16]), ([14, 17, 8], [8, 14, 17]), ([9, 11, 18, 8, 8], [8, 9, 11, 18]), ([8, 19], [8, 19])])
def aW.B25 : List Nat := [0, 0, 2, 0, 0, 0, 56, 127, 255, 511, 511, 1535, 511, 511, 12799, 511, 511, 98815, 258559, 524287, 1048575]
theorem aW.wX : iE .any (opsOf Try.f105 25) = aW.T25 := by kernel_rfl
theorem aW.wH : iy aW.T25.2 aW.B25 = true := by kernel_rfl
theorem aW.calls (k : Nat) : ∀ (A0 : Option Addr) (c0 : Nat) (l0 : List (bq)) (a1 : Int) (a2 : ByteArray) (r : Bool) (w : World) (hr0 : Kd.C eY w A0 l0.length l0) (hc0 : l0.length ≤ c0) (h : aW.f k l0 a1 a2 = some r),
  Calls Try.prog 105 #[.slice A0 l0.length c0, .int .i64 a1, .string a2] w fun e w' => e = .returned (.bool r) ∧ Below w.heap.size w w' := by
 induction k using Nat.strongRecOn with
 | _ k ih =>
 intro A0 c0 l0 a1 a2 r w hr0 hc0 h
 cases k with
 | zero => exact absurd h (by simp [aW.f])
 | succ k =>
 simp only [aW.f] at h
 have hu110 := Try.underlying110
 have HR0 := aj.mk hr0
 have HC0 := aj.mk hc0
 clear hr0 hc0
 have HB := aj.mk (Below.refl w.heap.size w)
 have H : (if 0 ≤ a1 then (if a1 < (l0.length : Int) then (if a2.toList = ([] : List UInt8) then (some false) else (if 0 ≤ ((ah l0 a1).f2) then (if ((ah l0 a1).f2) < (l0.length : Int) then (if ((ah l0 a1).f0) = 1 then (some (a2.toList == ((ah l0 a1).f1).toList)) else (if ((ah l0 a1).f0) = 2 then ((dW.f a2).bind fun t266 => ((aW.f k l0 ((ah l0 a1).f2) t266).bind fun t267 => (some t267))) else (if ((ah l0 a1).f0) = 3 then ((dI.f k ((ah l0 ((ah l0 a1).f2)).f1) a2).bind fun t268 => (some t268)) else (if ((ah l0 a1).f0) = 4 then (aW.l0 k l0 a2 1 ((ah l0 a1).f0) ((ah l0 a1).f1) ((ah l0 a1).f2) ((ah l0 a1).f3)) else (if ((ah l0 a1).f0) = 5 then (aW.l1 k l0 a2 1 ((ah l0 a1).f0) ((ah l0 a1).f1) ((ah l0 a1).f2) ((ah l0 a1).f3)) else (if ((ah l0 a1).f0) = 6 then ((fI.f k ((ah l0 ((ah l0 a1).f2)).f1)).bind fun t273 => (some (a2.toList == t273.toList))) else (if ((ah l0 a1).f0) = 7 then ((dQ.f k ((ah l0 ((ah l0 a1).f2)).f1)).bind fun t274 => (some (a2.toList == t274.toList))) else (if ((ah l0 a1).f0) = 8 then ((dP.f k ((ah l0 ((ah l0 a1).f2)).f1)).bind fun t275 => (some (a2.toList == t275.toList))) else (if ((ah l0 a1).f0) = 9 then ((bH.f k a2 ((ah l0 ((ah l0 a1).f2)).f1)).bind fun t276 => (some t276)) else (some false)))))))))) else (none)) else (none))) else (none)) else (none)) = some r := h
 clear h
 replace H := ifN H; obtain ⟨c4b0, H⟩ := H
 replace H := ifN H; obtain ⟨c5b0, H⟩ := H
 have p263 : 0 ≤ (a1 : Int) := OD
 have q263 : a1 < (l0.length : Int) := OD
 obtain ⟨ad263, e263, hx263_0, hx263_1, hx263_2, hx263_3⟩ := fK HR0.out a1 p263 q263
 cases e263
 replace p263 := eq_true p263
 replace q263 := eq_true q263
 replace H := aj.mk H
 go_enter Try.func105, Try.ntmps105
 go_wp2_with (first | ((with_reducible refine dz (N := 7) rfl ?_); refine gV (N := 7) (cs := #[.int .i64 0, .string (⟨#[]⟩ : ByteArray), .int .i64 0, .int .i64 0]) (t := 110) ?_; intro gb264 hg w9000 hbox hb; have BK264 := aj.mk hbox; have GW264 := SZ (w := w) hg; have GE264 := GW264; replace HB := BS (w := w) hb; clear hb hbox hg; obtain ⟨hcz9001_0, hcz9001_1, hcz9001_2, hcz9001_3, hfz9001_0, hfz9001_1, hfz9001_2, hfz9001_3⟩ := cz4 BK264.out; refine eU ?_))
 refine Hide.mk ?_
 replace H := H.out
 replace H := ifE H; rcases H with ⟨c6b0, c6b1, H⟩ | ⟨c6, c6b0, c6b1, H⟩
 ·obtain rfl := Option.some.inj H
  try go_wp2
  go_ret
  exact ⟨EWW, BL⟩
 ·replace H := ifN H; obtain ⟨c9b0, H⟩ := H
  replace H := ifN H; obtain ⟨c10b0, H⟩ := H
  replace H := aj.mk H
  have p265 : 0 ≤ (((ah l0 a1).f2) : Int) := OD
  have q265 : ((ah l0 a1).f2) < (l0.length : Int) := OD
  obtain ⟨ad265, e265, hx265_0, hx265_1, hx265_2, hx265_3⟩ := fK HR0.out ((ah l0 a1).f2) p265 q265
  obtain rfl : ad263 = ad265 := (by injection e265)
  have hn265_0 : ad263.block ≠ gb264 := Nat.ne_of_lt (Nat.lt_of_lt_of_le (by have := World.block_lt_of_cell? _ _ hx265_0; first | rwa [add_block] at this | exact this) GW264.out)
  have hn265_1 : ad263.block ≠ gb264 := Nat.ne_of_lt (Nat.lt_of_lt_of_le (by have := World.block_lt_of_cell? _ _ hx265_0; first | rwa [add_block] at this | exact this) GW264.out)
  have hn265_2 : ad263.block ≠ gb264 := Nat.ne_of_lt (Nat.lt_of_lt_of_le (by have := World.block_lt_of_cell? _ _ hx265_0; first | rwa [add_block] at this | exact this) GW264.out)
  have hn265_3 : ad263.block ≠ gb264 := Nat.ne_of_lt (Nat.lt_of_lt_of_le (by have := World.block_lt_of_cell? _ _ hx265_0; first | rwa [add_block] at this | exact this) GW264.out)
  replace hx265_0 := (HB.out.cell (World.block_lt_of_cell? w _ hx265_0)).trans hx265_0
  replace hx265_1 := (HB.out.cell (World.block_lt_of_cell? w _ hx265_1)).trans hx265_1
  replace hx265_2 := (HB.out.cell (World.block_lt_of_cell? w _ hx265_2)).trans hx265_2
  replace hx265_3 := (HB.out.cell (World.block_lt_of_cell? w _ hx265_3)).trans hx265_3
  replace hx265_0 := (cell_far (p := ⟨gb264, 0, none⟩) AB (.int .i64 ((ah l0 a1).f0))).trans hx265_0
  replace hx265_1 := (cell_far (p := ⟨gb264, 0, none⟩) AB (.int .i64 ((ah l0 a1).f0))).trans hx265_1
  replace hx265_2 := (cell_far (p := ⟨gb264, 0, none⟩) AB (.int .i64 ((ah l0 a1).f0))).trans hx265_2
  replace hx265_3 := (cell_far (p := ⟨gb264, 0, none⟩) AB (.int .i64 ((ah l0 a1).f0))).trans hx265_3
  replace hx265_0 := (cell_far (p := ⟨gb264, 1, none⟩) AB (.string ((ah l0 a1).f1))).trans hx265_0
  replace hx265_1 := (cell_far (p := ⟨gb264, 1, none⟩) AB (.string ((ah l0 a1).f1))).trans hx265_1
  replace hx265_2 := (cell_far (p := ⟨gb264, 1, none⟩) AB (.string ((ah l0 a1).f1))).trans hx265_2
  replace hx265_3 := (cell_far (p := ⟨gb264, 1, none⟩) AB (.string ((ah l0 a1).f1))).trans hx265_3
  replace hx265_0 := (cell_far (p := ⟨gb264, 2, none⟩) AB (.int .i64 ((ah l0 a1).f2))).trans hx265_0
  replace hx265_1 := (cell_far (p := ⟨gb264, 2, none⟩) AB (.int .i64 ((ah l0 a1).f2))).trans hx265_1
  replace hx265_2 := (cell_far (p := ⟨gb264, 2, none⟩) AB (.int .i64 ((ah l0 a1).f2))).trans hx265_2
  replace hx265_3 := (cell_far (p := ⟨gb264, 2, none⟩) AB (.int .i64 ((ah l0 a1).f2))).trans hx265_3
  replace hx265_0 := (cell_far (p := ⟨gb264, 3, none⟩) AB (.int .i64 ((ah l0 a1).f3))).trans hx265_0
  replace hx265_1 := (cell_far (p := ⟨gb264, 3, none⟩) AB (.int .i64 ((ah l0 a1).f3))).trans hx265_1
  replace hx265_2 := (cell_far (p := ⟨gb264, 3, none⟩) AB (.int .i64 ((ah l0 a1).f3))).trans hx265_2
  replace hx265_3 := (cell_far (p := ⟨gb264, 3, none⟩) AB (.int .i64 ((ah l0 a1).f3))).trans hx265_3
  clear hn265_0 hn265_1 hn265_2 hn265_3
  replace p265 := eq_true p265
  replace q265 := eq_true q265
  replace H := H.out
  replace H := ifE H; rcases H with ⟨c11b0, c11b1, H⟩ | ⟨c11, c11b0, c11b1, H⟩
  ·obtain rfl := Option.some.inj H
   try go_wp2
   go_ret
   exact ⟨EWW, BL⟩
  ·replace H := ifE H; rcases H with ⟨c14b0, c14b1, H⟩ | ⟨c14, c14b0, c14b1, H⟩
   ·replace H := be H; obtain ⟨t266, A15, H⟩ := H
    replace H := be H; obtain ⟨t267, A16, H⟩ := H
    obtain rfl := Option.some.inj H
    try go_wp2
    have n0_ : aj (((((w9000.setCell ⟨gb264, 0, none⟩ (.int .i64 ((ah l0 a1).f0))).setCell ⟨gb264, 1, none⟩ (.string ((ah l0 a1).f1))).setCell ⟨gb264, 2, none⟩ (.int .i64 ((ah l0 a1).f2))).setCell ⟨gb264, 3, none⟩ (.int .i64 ((ah l0 a1).f3))).heap[gb264]? = some (.cells #[.int .i64 ((ah l0 a1).f0), .string ((ah l0 a1).f1), .int .i64 ((ah l0 a1).f2), .int .i64 ((ah l0 a1).f3)] 110 (0, 0))) := ⟨by (with_reducible repeat (first | refine av ?_ _ | refine aC ?_ | refine au ?_ _)); refine aU (cs := #[.int .i64 ((ah l0 a1).f0), .string ((ah l0 a1).f1), .int .i64 ((ah l0 a1).f2), .int .i64 0]) ?_ 3 _ rfl; (with_reducible repeat (first | refine av ?_ _ | refine aC ?_ | refine au ?_ _)); refine aU (cs := #[.int .i64 ((ah l0 a1).f0), .string ((ah l0 a1).f1), .int .i64 0, .int .i64 0]) ?_ 2 _ rfl; (with_reducible repeat (first | refine av ?_ _ | refine aC ?_ | refine au ?_ _)); refine aU (cs := #[.int .i64 ((ah l0 a1).f0), .string (⟨#[]⟩ : ByteArray), .int .i64 0, .int .i64 0]) ?_ 1 _ rfl; (with_reducible repeat (first | refine av ?_ _ | refine aC ?_ | refine au ?_ _)); refine aU (cs := #[.int .i64 0, .string (⟨#[]⟩ : ByteArray), .int .i64 0, .int .i64 0]) ?_ 0 _ rfl; (with_reducible repeat (first | refine av ?_ _ | refine aC ?_ | refine au ?_ _)); exact BK264.out⟩
    have n1_ : aj (Below w.heap.size w ((((w9000.setCell ⟨gb264, 0, none⟩ (.int .i64 ((ah l0 a1).f0))).setCell ⟨gb264, 1, none⟩ (.string ((ah l0 a1).f1))).setCell ⟨gb264, 2, none⟩ (.int .i64 ((ah l0 a1).f2))).setCell ⟨gb264, 3, none⟩ (.int .i64 ((ah l0 a1).f3)))) := ⟨BL⟩
    (try clear BK264)
    (try clear HB)
    generalize ((((w9000.setCell ⟨gb264, 0, none⟩ (.int .i64 ((ah l0 a1).f0))).setCell ⟨gb264, 1, none⟩ (.string ((ah l0 a1).f1))).setCell ⟨gb264, 2, none⟩ (.int .i64 ((ah l0 a1).f2))).setCell ⟨gb264, 3, none⟩ (.int .i64 ((ah l0 a1).f3))) = w9002 at n0_ n1_ ⊢
    have BK264 := n0_
    have HB := n1_
    clear n0_ n1_
    replace BK264 := aj.mk (aC BK264.out)
    replace HB := aj.mk (aG HB.out)
    refine iJ (n := 7) (S := fun w' => w'.cell? ⟨gb264, 0, none⟩ = some (.int .i64 ((ah l0 a1).f0)) ∧ w'.cell? ⟨gb264, 1, none⟩ = some (.string ((ah l0 a1).f1)) ∧ w'.cell? ⟨gb264, 2, none⟩ = some (.int .i64 ((ah l0 a1).f2)) ∧ w'.cell? ⟨gb264, 3, none⟩ = some (.int .i64 ((ah l0 a1).f3))) (ds := []) #[F,F,F,F,F,F,F] (by kernel_rfl) rfl rfl ⟨(aT BK264.out 0).trans rfl, (aT BK264.out 1).trans rfl, (aT BK264.out 2).trans rfl, (aT BK264.out 3).trans rfl⟩ (fun hHeld => ?_)
    generalize w9002.drew = w9003 at BK264 HB hHeld ⊢
    refine puS (i := 0) (N := some 34) #[T,F,F,F,F,F,F] (by kernel_rfl) ?_
    refine puS (i := 1) (N := some 35) #[T,T,F,F,F,F,F] (by kernel_rfl) ?_
    refine puS (i := 3) (N := some 37) #[T,T,F,T,F,F,F] (by kernel_rfl) ?_
    refine taS (i := 2) (N := some 36) #[T,T,T,T,F,F,F] (by kernel_rfl) hHeld ?_
    refine jm (i := 4) (N := some 38) #[T,T,T,T,T,F,F] rfl rfl (by kernel_rfl) (by decide) (fun K hK => ?_)
    refine jM Try.func156 #[.string a2] ?_
    with_reducible refine (dW.calls a2 t266 _ A15.out).mono ?_
    rintro e w9004 ⟨rfl, hb⟩
    refine ⟨_, rfl, ?_⟩
    replace BK264 := KB BK264 hb
    replace HB := BS (w := w) hb
    (try clear hb)
    refine hK.out _ _ ⟨(aT BK264.out 0).trans rfl, (aT BK264.out 1).trans rfl, (aT BK264.out 2).trans rfl, (aT BK264.out 3).trans rfl⟩ (fun hHeld => ?_)
    clear hK K
    refine nrm (some 38) ?_
    refine jm (i := 5) (N := some 39) #[T,T,T,T,T,T,F] rfl rfl (by kernel_rfl) (by decide) (fun K hK => ?_)
    refine jM Try.func105 #[.slice (some ad263) l0.length c0, .int .i64 ((ah l0 a1).f2), .string t266] ?_
    with_reducible refine (ih k (by omega) _ _ l0 ((ah l0 a1).f2) t266 t267 _ ?side1 ?side2 A16.out).mono ?_
    (case side1 => exact CB HR0)
    (case side2 => exact HC0.out)
    rintro e w9005 ⟨rfl, hb⟩
    refine ⟨_, rfl, ?_⟩
    replace BK264 := KB BK264 hb
    replace HB := BS (w := w) hb
    (try clear hb)
    refine hK.out _ _ ⟨(aT BK264.out 0).trans rfl, (aT BK264.out 1).trans rfl, (aT BK264.out 2).trans rfl, (aT BK264.out 3).trans rfl⟩ (fun hHeld => ?_)
    clear hK K
    refine nrm (some 39) ?_
    refine puS (i := 6) (N := some 6) #[T,T,T,T,T,T,T] (by kernel_rfl) ?_
    refine iN (by kernel_rfl) ?_
    try go_wp2
    go_ret
    exact ⟨EWW, BL⟩
   ·replace H := ifE H; rcases H with ⟨c23b0, c23b1, H⟩ | ⟨c23, c23b0, c23b1, H⟩
    ·replace H := be H; obtain ⟨t268, A24, H⟩ := H
     obtain rfl := Option.some.inj H
     try go_wp2_with (first | ((with_reducible refine aJ (f := 157) rfl ?_); refine bI (some 44) Try.func157 #[.string ((ah l0 ((ah l0 a1).f2)).f1), .string a2] ?_; (with_reducible refine (dI.calls k ((ah l0 ((ah l0 a1).f2)).f1) a2 t268 _ A24.out).mono ?_); rintro e w9002 ⟨rfl, hb⟩; refine ⟨_, rfl, ?_⟩; have n0_ := aj.mk (jv (g := gb264) (o := .cells #[.int .i64 ((ah l0 a1).f0), .string ((ah l0 a1).f1), .int .i64 ((ah l0 a1).f2), .int .i64 ((ah l0 a1).f3)] 110 (0, 0)) (by (with_reducible repeat (first | refine av ?_ _ | refine aC ?_ | refine au ?_ _)); refine aU (cs := #[.int .i64 ((ah l0 a1).f0), .string ((ah l0 a1).f1), .int .i64 ((ah l0 a1).f2), .int .i64 0]) ?_ 3 _ rfl; (with_reducible repeat (first | refine av ?_ _ | refine aC ?_ | refine au ?_ _)); refine aU (cs := #[.int .i64 ((ah l0 a1).f0), .string ((ah l0 a1).f1), .int .i64 0, .int .i64 0]) ?_ 2 _ rfl; (with_reducible repeat (first | refine av ?_ _ | refine aC ?_ | refine au ?_ _)); refine aU (cs := #[.int .i64 ((ah l0 a1).f0), .string (⟨#[]⟩ : ByteArray), .int .i64 0, .int .i64 0]) ?_ 1 _ rfl; (with_reducible repeat (first | refine av ?_ _ | refine aC ?_ | refine au ?_ _)); refine aU (cs := #[.int .i64 0, .string (⟨#[]⟩ : ByteArray), .int .i64 0, .int .i64 0]) ?_ 0 _ rfl; (with_reducible repeat (first | refine av ?_ _ | refine aC ?_ | refine au ?_ _)); exact BK264.out) hb); replace HB := BS (w := w) hb; clear BK264; have BK264 := n0_; clear n0_; (try clear hb)))
     go_ret
     exact ⟨EWW, BL⟩
    ·replace H := ifE H; rcases H with ⟨c28b0, c28b1, H⟩ | ⟨c28, c28b0, c28b1, H⟩
     ·have H' := aj.mk H
      clear H
      try go_wp2
      go_loopg [9] k (fun kq v9 w' => ∃ (x9_1 : Int), v9 = .int .i64 x9_1 ∧ aj (aW.l0 kq l0 a2 x9_1 ((ah l0 a1).f0) ((ah l0 a1).f1) ((ah l0 a1).f2) ((ah l0 a1).f3) = some r) ∧ aj (kq ≤ k) ∧ aj (w'.heap[gb264]? = some (.cells #[.int .i64 ((ah l0 a1).f0), .string ((ah l0 a1).f1), .int .i64 ((ah l0 a1).f2), .int .i64 ((ah l0 a1).f3)] 110 (0, 0))) ∧ aj (Below w.heap.size w w'))
      case atStart => exact ⟨(1), EQ, H', ⟨Nat.le_refl _⟩, ⟨by (with_reducible repeat (first | refine av ?_ _ | refine aC ?_ | refine au ?_ _)); refine aU (cs := #[.int .i64 ((ah l0 a1).f0), .string ((ah l0 a1).f1), .int .i64 ((ah l0 a1).f2), .int .i64 0]) ?_ 3 _ rfl; (with_reducible repeat (first | refine av ?_ _ | refine aC ?_ | refine au ?_ _)); refine aU (cs := #[.int .i64 ((ah l0 a1).f0), .string ((ah l0 a1).f1), .int .i64 0, .int .i64 0]) ?_ 2 _ rfl; (with_reducible repeat (first | refine av ?_ _ | refine aC ?_ | refine au ?_ _)); refine aU (cs := #[.int .i64 ((ah l0 a1).f0), .string (⟨#[]⟩ : ByteArray), .int .i64 0, .int .i64 0]) ?_ 1 _ rfl; (with_reducible repeat (first | refine av ?_ _ | refine aC ?_ | refine au ?_ _)); refine aU (cs := #[.int .i64 0, .string (⟨#[]⟩ : ByteArray), .int .i64 0, .int .i64 0]) ?_ 0 _ rfl; (with_reducible repeat (first | refine av ?_ _ | refine aC ?_ | refine au ?_ _)); exact BK264.out⟩, ⟨BL⟩⟩
      case round =>
       clear H'
       try clear c4
       try clear c4b0
       try clear c5
       try clear c5b0
       try clear c6
       try clear c6b0
       try clear c6b1
       try clear c9
       try clear c9b0
       try clear c10
       try clear c10b0
       try clear c11
       try clear c11b0
       try clear c11b1
       try clear c14
       try clear c14b0
       try clear c14b1
       try clear c23
       try clear c23b0
       try clear c23b1
       try clear c28
       try clear c28b0
       try clear c28b1
       try clear hcz9001_0
       try clear hcz9001_1
       try clear hcz9001_2
       try clear hcz9001_3
       try clear hfz9001_0
       try clear hfz9001_1
       try clear hfz9001_2
       try clear hfz9001_3
       try clear hx263_0
       try clear hx263_1
       try clear hx263_2
       try clear hx263_3
       try clear hx265_0
       try clear hx265_1
       try clear hx265_2
       try clear hx265_3
       try clear p263
       try clear p265
       try clear q263
       try clear q265
       obtain ⟨x9_1, rfl, HA, HK1, BK264, HB⟩ := hrel
       cases gk with
       | zero => exact absurd HA.out (by simp [aW.l0])
       | succ k1 =>
        have H := HA.out
        clear HA
        simp only [aW.l0] at H
        replace H := ifD H; rcases H with ⟨c31b0, H⟩ | ⟨c31b0, H⟩
        ·replace H := ifP H; obtain ⟨c32, H⟩ := H
         have c32b0 := eq_true c32
         have c32b1 : decide (0 ≤ x9_1) = true := decide_eq_true c32
         clear c32
         replace H := ifP H; obtain ⟨c33, H⟩ := H
         have c33b0 := eq_true c33
         have c33b1 : decide (x9_1 ≤ (a2.size : Int)) = true := decide_eq_true c33
         clear c33
         replace H := be H; obtain ⟨t269, A34, H⟩ := H
         replace H := aj.mk H
         try go_wp2
         replace BK264 := aj.mk (aC BK264.out)
         replace HB := aj.mk (aG HB.out)
         refine iJ (n := 16) (S := fun w' => w'.cell? ⟨gb264, 0, none⟩ = some (.int .i64 ((ah l0 a1).f0)) ∧ w'.cell? ⟨gb264, 1, none⟩ = some (.string ((ah l0 a1).f1)) ∧ w'.cell? ⟨gb264, 2, none⟩ = some (.int .i64 ((ah l0 a1).f2)) ∧ w'.cell? ⟨gb264, 3, none⟩ = some (.int .i64 ((ah l0 a1).f3))) (ds := []) #[F,F,F,F,F,F,F,F,F,F,F,F,F,F,F,F] (by kernel_rfl) rfl rfl ⟨(aT BK264.out 0).trans rfl, (aT BK264.out 1).trans rfl, (aT BK264.out 2).trans rfl, (aT BK264.out 3).trans rfl⟩ (fun hHeld => ?_); refine gZ aW.wV aW.wG (fun HT_ HW_ => ?_)
         generalize wr.drew = w9002 at BK264 HB hHeld ⊢
         refine puS (i := 0) (N := some 53) #[T,F,F,F,F,F,F,F,F,F,F,F,F,F,F,F] (bg HT_.out (by kernel_rfl)) ?_
         refine puS (i := 1) (N := some 54) #[T,T,F,F,F,F,F,F,F,F,F,F,F,F,F,F] (bg HT_.out (by kernel_rfl)) ?_
         refine puS (i := 3) (N := some 56) #[T,T,F,T,F,F,F,F,F,F,F,F,F,F,F,F] (bg HT_.out (by kernel_rfl)) ?_
         refine puS (i := 4) (N := some 57) #[T,T,F,T,T,F,F,F,F,F,F,F,F,F,F,F] (bg HT_.out (by kernel_rfl)) ?_
         refine puS (i := 5) (N := some 58) #[T,T,F,T,T,T,F,F,F,F,F,F,F,F,F,F] (bg HT_.out (by kernel_rfl)) ?_
         refine taS (i := 2) (N := some 55) #[T,T,T,T,T,T,F,F,F,F,F,F,F,F,F,F] (dU HT_.out HW_.out (by kernel_rfl)) hHeld ?_
         refine jm (i := 6) (N := some 59) #[T,T,T,T,T,T,T,F,F,F,F,F,F,F,F,F] rfl rfl (gW HT_.out (by kernel_rfl)) (by decide) (fun K hK => ?_)
         refine jM Try.func105 #[.slice (some ad263) l0.length c0, .int .i64 ((ah l0 a1).f2), .string (a2.extract 0 (x9_1 : Int).toNat)] ?_
         replace H := H.out
         replace H := ifB H; rcases H with ⟨rfl, H⟩ | ⟨rfl, H⟩
         ·have c36b0 := eq_true (OD : 0 ≤ x9_1)
          have c37b0 := eq_true (OD : x9_1 ≤ (a2.size : Int))
          replace H := be H; obtain ⟨t270, A38, H⟩ := H
          replace H := aj.mk H
          with_reducible refine (ih k1 (by have := HK1.out; omega) _ _ l0 ((ah l0 a1).f2) (a2.extract 0 (x9_1 : Int).toNat) true _ ?side1 ?side2 A34.out).mono ?_
          (case side1 => exact CB HR0)
          (case side2 => exact HC0.out)
          rintro e w9003 ⟨rfl, hb⟩
          refine ⟨_, rfl, ?_⟩
          replace BK264 := KB BK264 hb
          replace HB := BS (w := w) hb
          (try clear hb)
          refine hK.out _ _ ⟨(aT BK264.out 0).trans rfl, (aT BK264.out 1).trans rfl, (aT BK264.out 2).trans rfl, (aT BK264.out 3).trans rfl⟩ (fun hHeld => ?_)
          clear hK K
          refine nrm (some 59) ?_
          refine puS (i := 7) (N := some 60) #[T,T,T,T,T,T,T,T,F,F,F,F,F,F,F,F] (bg HT_.out (by kernel_rfl)) ?_
          refine puS (i := 8) (N := some 61) #[T,T,T,T,T,T,T,T,T,F,F,F,F,F,F,F] (bg HT_.out (by kernel_rfl)) ?_
          refine puS (i := 9) (N := some 62) #[T,T,T,T,T,T,T,T,T,T,F,F,F,F,F,F] (bg HT_.out (by kernel_rfl)) ?_
          refine puS (i := 11) (N := some 64) #[T,T,T,T,T,T,T,T,T,T,F,T,F,F,F,F] (bg HT_.out (by kernel_rfl)) ?_
          refine puS (i := 12) (N := some 65) #[T,T,T,T,T,T,T,T,T,T,F,T,T,F,F,F] (bg HT_.out (by kernel_rfl)) ?_
          refine puS (i := 13) (N := some 66) #[T,T,T,T,T,T,T,T,T,T,F,T,T,T,F,F] (bg HT_.out (by kernel_rfl)) ?_
          refine taS (i := 10) (N := some 63) #[T,T,T,T,T,T,T,T,T,T,T,T,T,T,F,F] (dU HT_.out HW_.out (by kernel_rfl)) hHeld ?_
          refine jm (i := 14) (N := some 67) #[T,T,T,T,T,T,T,T,T,T,T,T,T,T,T,F] rfl rfl (gW HT_.out (by kernel_rfl)) (by decide) (fun K hK => ?_)
          refine jM Try.func105 #[.slice (some ad263) l0.length c0, .int .i64 ((ah l0 a1).f3), .string (a2.extract (x9_1 : Int).toNat a2.size)] ?_
          replace H := H.out
          replace H := ifB H; rcases H with ⟨rfl, H⟩ | ⟨rfl, H⟩
          ·obtain rfl := Option.some.inj H
           with_reducible refine (ih k1 (by have := HK1.out; omega) _ _ l0 ((ah l0 a1).f3) (a2.extract (x9_1 : Int).toNat a2.size) true _ ?side1 ?side2 A38.out).mono ?_
           (case side1 => exact CB HR0)
           (case side2 => exact HC0.out)
           rintro e w9004 ⟨rfl, hb⟩
           refine ⟨_, rfl, ?_⟩
           replace BK264 := KB BK264 hb
           replace HB := BS (w := w) hb
           (try clear hb)
           refine hK.out _ _ ⟨(aT BK264.out 0).trans rfl, (aT BK264.out 1).trans rfl, (aT BK264.out 2).trans rfl, (aT BK264.out 3).trans rfl⟩ (fun hHeld => ?_)
           clear hK K
           refine nrm (some 67) ?_
           refine puS (i := 15) (N := some 68) #[T,T,T,T,T,T,T,T,T,T,T,T,T,T,T,T] (bg HT_.out (by kernel_rfl)) ?_
           refine iN (gN HT_.out (by kernel_rfl)) ?_
           try go_wp2
           go_ret
           exact ⟨EWW, BL⟩
          ·have H' := aj.mk H
           clear H
           with_reducible refine (ih k1 (by have := HK1.out; omega) _ _ l0 ((ah l0 a1).f3) (a2.extract (x9_1 : Int).toNat a2.size) false _ ?side1 ?side2 A38.out).mono ?_
           (case side1 => exact CB HR0)
           (case side2 => exact HC0.out)
           rintro e w9004 ⟨rfl, hb⟩
           refine ⟨_, rfl, ?_⟩
           replace BK264 := KB BK264 hb
           replace HB := BS (w := w) hb
           (try clear hb)
           refine hK.out _ _ ⟨(aT BK264.out 0).trans rfl, (aT BK264.out 1).trans rfl, (aT BK264.out 2).trans rfl, (aT BK264.out 3).trans rfl⟩ (fun hHeld => ?_)
           clear hK K
           refine nrm (some 67) ?_
           refine puS (i := 15) (N := some 68) #[T,T,T,T,T,T,T,T,T,T,T,T,T,T,T,T] (bg HT_.out (by kernel_rfl)) ?_
           refine iN (gN HT_.out (by kernel_rfl)) ?_
           try go_wp2
           go_roundg k1
           case measure => have := HK1.out; omega
           case rel => exact ⟨(wrap64 (x9_1 + 1)), EQ, H', ⟨by have := HK1.out; omega⟩, ⟨BK⟩, ⟨BL⟩⟩
         ·have H' := aj.mk H
          clear H
          with_reducible refine (ih k1 (by have := HK1.out; omega) _ _ l0 ((ah l0 a1).f2) (a2.extract 0 (x9_1 : Int).toNat) false _ ?side1 ?side2 A34.out).mono ?_
          (case side1 => exact CB HR0)
          (case side2 => exact HC0.out)
          rintro e w9003 ⟨rfl, hb⟩
          refine ⟨_, rfl, ?_⟩
          replace BK264 := KB BK264 hb
          replace HB := BS (w := w) hb
          (try clear hb)
          refine hK.out _ _ ⟨(aT BK264.out 0).trans rfl, (aT BK264.out 1).trans rfl, (aT BK264.out 2).trans rfl, (aT BK264.out 3).trans rfl⟩ (fun hHeld => ?_)
          clear hK K
          refine nrm (some 59) ?_
          refine puS (i := 7) (N := some 60) #[T,T,T,T,T,T,T,T,F,F,F,F,F,F,F,F] (bg HT_.out (by kernel_rfl)) ?_
          refine puU (i := 8) (N := some 61) #[T,T,T,T,T,T,T,T,T,F,F,F,F,F,F,F] (bg HT_.out (by kernel_rfl)) ?_
          refine puU (i := 9) (N := some 62) #[T,T,T,T,T,T,T,T,T,T,F,F,F,F,F,F] (bg HT_.out (by kernel_rfl)) ?_
          refine puU (i := 10) (N := some 63) #[T,T,T,T,T,T,T,T,T,T,T,F,F,F,F,F] (bg HT_.out (by kernel_rfl)) ?_
          refine puU (i := 11) (N := some 64) #[T,T,T,T,T,T,T,T,T,T,T,T,F,F,F,F] (bg HT_.out (by kernel_rfl)) ?_
          refine puU (i := 12) (N := some 65) #[T,T,T,T,T,T,T,T,T,T,T,T,T,F,F,F] (bg HT_.out (by kernel_rfl)) ?_
          refine puU (i := 13) (N := some 66) #[T,T,T,T,T,T,T,T,T,T,T,T,T,T,F,F] (bg HT_.out (by kernel_rfl)) ?_
          refine puU (i := 14) (N := some 67) #[T,T,T,T,T,T,T,T,T,T,T,T,T,T,T,F] (bg HT_.out (by kernel_rfl)) ?_
          refine puS (i := 15) (N := some 68) #[T,T,T,T,T,T,T,T,T,T,T,T,T,T,T,T] (bg HT_.out (by kernel_rfl)) ?_
          refine iN (gN HT_.out (by kernel_rfl)) ?_
          try go_wp2
          go_roundg k1
          case measure => have := HK1.out; omega
          case rel => exact ⟨(wrap64 (x9_1 + 1)), EQ, H', ⟨by have := HK1.out; omega⟩, ⟨BK⟩, ⟨BL⟩⟩
        ·obtain rfl := Option.some.inj H
         go_wp2
         go_ret
         exact ⟨EWW, BL⟩
     ·replace H := ifE H; rcases H with ⟨c48b0, c48b1, H⟩ | ⟨c48, c48b0, c48b1, H⟩
      ·have H' := aj.mk H
       clear H
       try go_wp2
       go_loopg [10] k (fun kq v10 w' => ∃ (x10_1 : Int), v10 = .int .i64 x10_1 ∧ aj (aW.l1 kq l0 a2 x10_1 ((ah l0 a1).f0) ((ah l0 a1).f1) ((ah l0 a1).f2) ((ah l0 a1).f3) = some r) ∧ aj (kq ≤ k) ∧ aj (w'.heap[gb264]? = some (.cells #[.int .i64 ((ah l0 a1).f0), .string ((ah l0 a1).f1), .int .i64 ((ah l0 a1).f2), .int .i64 ((ah l0 a1).f3)] 110 (0, 0))) ∧ aj (Below w.heap.size w w'))
       case atStart => exact ⟨(1), EQ, H', ⟨Nat.le_refl _⟩, ⟨by (with_reducible repeat (first | refine av ?_ _ | refine aC ?_ | refine au ?_ _)); refine aU (cs := #[.int .i64 ((ah l0 a1).f0), .string ((ah l0 a1).f1), .int .i64 ((ah l0 a1).f2), .int .i64 0]) ?_ 3 _ rfl; (with_reducible repeat (first | refine av ?_ _ | refine aC ?_ | refine au ?_ _)); refine aU (cs := #[.int .i64 ((ah l0 a1).f0), .string ((ah l0 a1).f1), .int .i64 0, .int .i64 0]) ?_ 2 _ rfl; (with_reducible repeat (first | refine av ?_ _ | refine aC ?_ | refine au ?_ _)); refine aU (cs := #[.int .i64 ((ah l0 a1).f0), .string (⟨#[]⟩ : ByteArray), .int .i64 0, .int .i64 0]) ?_ 1 _ rfl; (with_reducible repeat (first | refine av ?_ _ | refine aC ?_ | refine au ?_ _)); refine aU (cs := #[.int .i64 0, .string (⟨#[]⟩ : ByteArray), .int .i64 0, .int .i64 0]) ?_ 0 _ rfl; (with_reducible repeat (first | refine av ?_ _ | refine aC ?_ | refine au ?_ _)); exact BK264.out⟩, ⟨BL⟩⟩
       case round =>
        clear H'
        try clear c4
        try clear c10
        try clear c28
        try clear c28b0
        try clear c28b1
        try clear c48
        try clear c48b0
        try clear c48b1
        try clear hcz9001_0
        try clear hcz9001_1
        try clear hcz9001_2
        try clear hcz9001_3
        try clear hfz9001_0
        try clear hfz9001_1
        try clear hfz9001_2
        try clear hfz9001_3
        try clear hx263_0
        try clear hx263_1
        try clear hx263_2
        try clear hx263_3
        try clear hx265_0
        try clear hx265_1
        try clear hx265_2
        try clear hx265_3
        try clear p263
        try clear p265
        try clear q263
        try clear q265
        obtain ⟨x10_1, rfl, HA, HK1, BK264, HB⟩ := hrel
        cases gk with
        | zero => exact absurd HA.out (by simp [aW.l1])
        | succ k1 =>
         have H := HA.out
         clear HA
         simp only [aW.l1] at H
         replace H := ifD H; rcases H with ⟨c51b0, H⟩ | ⟨c51b0, H⟩
         ·have H' := aj.mk H
          clear H
          go_wp2
          go_loopg [11] k1 (fun kq v11 w' => ∃ (x11_2 : Int), v11 = .int .i64 x11_2 ∧ aj (aW.l2 kq l0 a2 x10_1 x11_2 ((ah l0 a1).f0) ((ah l0 a1).f1) ((ah l0 a1).f2) ((ah l0 a1).f3) = some r) ∧ aj (kq ≤ k1) ∧ aj (w'.heap[gb264]? = some (.cells #[.int .i64 ((ah l0 a1).f0), .string ((ah l0 a1).f1), .int .i64 ((ah l0 a1).f2), .int .i64 ((ah l0 a1).f3)] 110 (0, 0))) ∧ aj (Below w.heap.size w w'))
          case atStart => exact ⟨(wrap64 (x10_1 + 1)), EQ, H', ⟨Nat.le_refl _⟩, ⟨BK⟩, ⟨BL⟩⟩
          case round =>
           clear H'
           try clear c4
           try clear c5
           try clear c10
           try clear c28
           try clear c28b0
           try clear c28b1
           try clear c48
           try clear c48b0
           try clear c48b1
           try clear c51
           try clear c51b0
           try clear hcz9001_0
           try clear hcz9001_1
           try clear hcz9001_2
           try clear hcz9001_3
           try clear hfz9001_0
           try clear hfz9001_1
           try clear hfz9001_2
           try clear hfz9001_3
           try clear hx263_0
           try clear hx263_1
           try clear hx263_2
           try clear hx263_3
           try clear hx265_0
           try clear hx265_1
           try clear hx265_2
           try clear hx265_3
           try clear p263
           try clear p265
           try clear q263
           try clear q265
           obtain ⟨x11_2, rfl, HA, HK2, BK264, HB⟩ := hrel
           cases gk with
           | zero => exact absurd HA.out (by simp [aW.l2])
           | succ k2 =>
            have H := HA.out
            clear HA
            simp only [aW.l2] at H
            replace H := ifD H; rcases H with ⟨c52b0, H⟩ | ⟨c52b0, H⟩
            ·replace H := ifP H; obtain ⟨c53, H⟩ := H
             have c53b0 := eq_true c53
             have c53b1 : decide (0 ≤ x10_1) = true := decide_eq_true c53
             clear c53
             replace H := ifP H; obtain ⟨c54, H⟩ := H
             have c54b0 := eq_true c54
             have c54b1 : decide (x10_1 ≤ x11_2) = true := decide_eq_true c54
             clear c54
             replace H := ifP H; obtain ⟨c55, H⟩ := H
             have c55b0 := eq_true c55
             have c55b1 : decide (x11_2 ≤ (a2.size : Int)) = true := decide_eq_true c55
             clear c55
             replace H := be H; obtain ⟨t271, A56, H⟩ := H
             replace H := aj.mk H
             try go_wp2
             replace BK264 := aj.mk (aC BK264.out)
             replace HB := aj.mk (aG HB.out)
             refine iJ (n := 21) (S := fun w' => w'.cell? ⟨gb264, 0, none⟩ = some (.int .i64 ((ah l0 a1).f0)) ∧ w'.cell? ⟨gb264, 1, none⟩ = some (.string ((ah l0 a1).f1)) ∧ w'.cell? ⟨gb264, 2, none⟩ = some (.int .i64 ((ah l0 a1).f2)) ∧ w'.cell? ⟨gb264, 3, none⟩ = some (.int .i64 ((ah l0 a1).f3))) (ds := []) #[F,F,F,F,F,F,F,F,F,F,F,F,F,F,F,F,F,F,F,F,F] (by kernel_rfl) rfl rfl ⟨(aT BK264.out 0).trans rfl, (aT BK264.out 1).trans rfl, (aT BK264.out 2).trans rfl, (aT BK264.out 3).trans rfl⟩ (fun hHeld => ?_); refine gZ aW.wX aW.wH (fun HT_ HW_ => ?_)
             generalize wr.drew = w9002 at BK264 HB hHeld ⊢
             refine puS (i := 0) (N := some 85) #[T,F,F,F,F,F,F,F,F,F,F,F,F,F,F,F,F,F,F,F,F] (bg HT_.out (by kernel_rfl)) ?_
             refine puS (i := 1) (N := some 86) #[T,T,F,F,F,F,F,F,F,F,F,F,F,F,F,F,F,F,F,F,F] (bg HT_.out (by kernel_rfl)) ?_
             refine puS (i := 3) (N := some 88) #[T,T,F,T,F,F,F,F,F,F,F,F,F,F,F,F,F,F,F,F,F] (bg HT_.out (by kernel_rfl)) ?_
             refine puS (i := 4) (N := some 89) #[T,T,F,T,T,F,F,F,F,F,F,F,F,F,F,F,F,F,F,F,F] (bg HT_.out (by kernel_rfl)) ?_
             refine puS (i := 5) (N := some 90) #[T,T,F,T,T,T,F,F,F,F,F,F,F,F,F,F,F,F,F,F,F] (bg HT_.out (by kernel_rfl)) ?_
             refine puS (i := 6) (N := some 91) #[T,T,F,T,T,T,T,F,F,F,F,F,F,F,F,F,F,F,F,F,F] (bg HT_.out (by kernel_rfl)) ?_
             refine taS (i := 2) (N := some 87) #[T,T,T,T,T,T,T,F,F,F,F,F,F,F,F,F,F,F,F,F,F] (dU HT_.out HW_.out (by kernel_rfl)) hHeld ?_
             refine jm (i := 7) (N := some 92) #[T,T,T,T,T,T,T,T,F,F,F,F,F,F,F,F,F,F,F,F,F] rfl rfl (gW HT_.out (by kernel_rfl)) (by decide) (fun K hK => ?_)
             refine jM Try.func105 #[.slice (some ad263) l0.length c0, .int .i64 ((ah l0 a1).f3), .string (a2.extract (x10_1 : Int).toNat (x11_2 : Int).toNat)] ?_
             replace H := H.out
             replace H := ifB H; rcases H with ⟨rfl, H⟩ | ⟨rfl, H⟩
             ·have c58b0 := eq_true (OD : 0 ≤ x10_1)
              replace H := ifP H; obtain ⟨c59, H⟩ := H
              have c59b0 := eq_true c59
              have c59b1 : decide (x10_1 ≤ (a2.size : Int)) = true := decide_eq_true c59
              clear c59
              replace H := ifP H; obtain ⟨c60, H⟩ := H
              have c60b0 := eq_true c60
              have c60b1 : decide (0 ≤ x11_2) = true := decide_eq_true c60
              clear c60
              have c61b0 := eq_true (OD : x11_2 ≤ (a2.size : Int))
              by_cases c62 : (a2.extract 0 (x10_1 : Int).toNat).size + (a2.extract (x11_2 : Int).toNat a2.size).size ≤ 9223372036854775807
              ·rw [if_pos c62] at H
               have c62b0 := eq_true c62
               have c62b1 : decide ((a2.extract 0 (x10_1 : Int).toNat).size + (a2.extract (x11_2 : Int).toNat a2.size).size ≤ 9223372036854775807) = true := decide_eq_true c62
               try have c62b2 : (9223372036854775807 < (a2.extract 0 (x10_1 : Int).toNat).size + (a2.extract (x11_2 : Int).toNat a2.size).size) = False := eq_false (Nat.not_lt.2 c62)
               have c62b3d : (9223372036854775807 < x10_1.toNat + (a2.size - x11_2.toNat)) = False := by
                have hx_ : x10_1 ≤ (a2.size : Int) := OD
                have h_ := of_decide_eq_true c62b1
                simp only [ByteArray.size_extract] at h_
                exact eq_false (by omega)
               replace H := be H; obtain ⟨t272, A63, H⟩ := H
               replace H := aj.mk H
               with_reducible refine (ih k2 (by have := HK1.out; have := HK2.out; omega) _ _ l0 ((ah l0 a1).f3) (a2.extract (x10_1 : Int).toNat (x11_2 : Int).toNat) true _ ?side1 ?side2 A56.out).mono ?_
               (case side1 => exact CB HR0)
               (case side2 => exact HC0.out)
               rintro e w9003 ⟨rfl, hb⟩
               refine ⟨_, rfl, ?_⟩
               replace BK264 := KB BK264 hb
               replace HB := BS (w := w) hb
               (try clear hb)
               refine hK.out _ _ ⟨(aT BK264.out 0).trans rfl, (aT BK264.out 1).trans rfl, (aT BK264.out 2).trans rfl, (aT BK264.out 3).trans rfl⟩ (fun hHeld => ?_)
               clear hK K
               refine nrm (some 92) ?_
               refine puS (i := 8) (N := some 93) #[T,T,T,T,T,T,T,T,T,F,F,F,F,F,F,F,F,F,F,F,F] (bg HT_.out (by kernel_rfl)) ?_
               refine puS (i := 9) (N := some 94) #[T,T,T,T,T,T,T,T,T,T,F,F,F,F,F,F,F,F,F,F,F] (bg HT_.out (by kernel_rfl)) ?_
               refine puS (i := 10) (N := some 95) #[T,T,T,T,T,T,T,T,T,T,T,F,F,F,F,F,F,F,F,F,F] (bg HT_.out (by kernel_rfl)) ?_
               refine puS (i := 12) (N := some 97) #[T,T,T,T,T,T,T,T,T,T,T,F,T,F,F,F,F,F,F,F,F] (bg HT_.out (by kernel_rfl)) ?_
               refine puS (i := 13) (N := some 98) #[T,T,T,T,T,T,T,T,T,T,T,F,T,T,F,F,F,F,F,F,F] (bg HT_.out (by kernel_rfl)) ?_
               refine puS (i := 14) (N := some 99) #[T,T,T,T,T,T,T,T,T,T,T,F,T,T,T,F,F,F,F,F,F] (bg HT_.out (by kernel_rfl)) ?_
               refine puS (i := 15) (N := some 100) #[T,T,T,T,T,T,T,T,T,T,T,F,T,T,T,T,F,F,F,F,F] (bg HT_.out (by kernel_rfl)) ?_
               refine puS (i := 16) (N := some 101) #[T,T,T,T,T,T,T,T,T,T,T,F,T,T,T,T,T,F,F,F,F] (bg HT_.out (by kernel_rfl)) ?_
               refine puS (i := 17) (N := some 102) #[T,T,T,T,T,T,T,T,T,T,T,F,T,T,T,T,T,T,F,F,F] (bg HT_.out (by kernel_rfl)) ?_
               refine puS (i := 18) (N := some 103) #[T,T,T,T,T,T,T,T,T,T,T,F,T,T,T,T,T,T,T,F,F] (bg HT_.out (by kernel_rfl)) ?_
               refine taS (i := 11) (N := some 96) #[T,T,T,T,T,T,T,T,T,T,T,T,T,T,T,T,T,T,T,F,F] (dU HT_.out HW_.out (by kernel_rfl)) hHeld ?_
               refine jm (i := 19) (N := some 104) #[T,T,T,T,T,T,T,T,T,T,T,T,T,T,T,T,T,T,T,T,F] rfl rfl (gW HT_.out (by kernel_rfl)) (by decide) (fun K hK => ?_)
               refine jM Try.func105 #[.slice (some ad263) l0.length c0, .int .i64 ((ah l0 a1).f2), .string ((a2.extract 0 (x10_1 : Int).toNat) ++ (a2.extract (x11_2 : Int).toNat a2.size))] ?_
               replace H := H.out
               replace H := ifB H; rcases H with ⟨rfl, H⟩ | ⟨rfl, H⟩
               ·obtain rfl := Option.some.inj H
                with_reducible refine (ih k2 (by have := HK1.out; have := HK2.out; omega) _ _ l0 ((ah l0 a1).f2) ((a2.extract 0 (x10_1 : Int).toNat) ++ (a2.extract (x11_2 : Int).toNat a2.size)) true _ ?side1 ?side2 A63.out).mono ?_
                (case side1 => exact CB HR0)
                (case side2 => exact HC0.out)
                rintro e w9004 ⟨rfl, hb⟩
                refine ⟨_, rfl, ?_⟩
                replace BK264 := KB BK264 hb
                replace HB := BS (w := w) hb
                (try clear hb)
                refine hK.out _ _ ⟨(aT BK264.out 0).trans rfl, (aT BK264.out 1).trans rfl, (aT BK264.out 2).trans rfl, (aT BK264.out 3).trans rfl⟩ (fun hHeld => ?_)
                clear hK K
                refine nrm (some 104) ?_
                refine puS (i := 20) (N := some 105) #[T,T,T,T,T,T,T,T,T,T,T,T,T,T,T,T,T,T,T,T,T] (bg HT_.out (by kernel_rfl)) ?_
                refine iN (gN HT_.out (by kernel_rfl)) ?_
                try go_wp2
                go_ret
                exact ⟨EWW, BL⟩
               ·have H' := aj.mk H
                clear H
                with_reducible refine (ih k2 (by have := HK1.out; have := HK2.out; omega) _ _ l0 ((ah l0 a1).f2) ((a2.extract 0 (x10_1 : Int).toNat) ++ (a2.extract (x11_2 : Int).toNat a2.size)) false _ ?side1 ?side2 A63.out).mono ?_
                (case side1 => exact CB HR0)
                (case side2 => exact HC0.out)
                rintro e w9004 ⟨rfl, hb⟩
                refine ⟨_, rfl, ?_⟩
                replace BK264 := KB BK264 hb
                replace HB := BS (w := w) hb
                (try clear hb)
                refine hK.out _ _ ⟨(aT BK264.out 0).trans rfl, (aT BK264.out 1).trans rfl, (aT BK264.out 2).trans rfl, (aT BK264.out 3).trans rfl⟩ (fun hHeld => ?_)
                clear hK K
                refine nrm (some 104) ?_
                refine puS (i := 20) (N := some 105) #[T,T,T,T,T,T,T,T,T,T,T,T,T,T,T,T,T,T,T,T,T] (bg HT_.out (by kernel_rfl)) ?_
                refine iN (gN HT_.out (by kernel_rfl)) ?_
                try go_wp2
                go_roundg k2
                case measure => have := HK1.out; have := HK2.out; omega
                case rel => exact ⟨(wrap64 (x11_2 + 1)), EQ, H', ⟨by have := HK1.out; have := HK2.out; omega⟩, ⟨BK⟩, ⟨BL⟩⟩
              ·rw [if_neg c62] at H
               exact absurd H (by simp)
             ·have H' := aj.mk H
              clear H
              with_reducible refine (ih k2 (by have := HK1.out; have := HK2.out; omega) _ _ l0 ((ah l0 a1).f3) (a2.extract (x10_1 : Int).toNat (x11_2 : Int).toNat) false _ ?side1 ?side2 A56.out).mono ?_
              (case side1 => exact CB HR0)
              (case side2 => exact HC0.out)
              rintro e w9003 ⟨rfl, hb⟩
              refine ⟨_, rfl, ?_⟩
              replace BK264 := KB BK264 hb
              replace HB := BS (w := w) hb
              (try clear hb)
              refine hK.out _ _ ⟨(aT BK264.out 0).trans rfl, (aT BK264.out 1).trans rfl, (aT BK264.out 2).trans rfl, (aT BK264.out 3).trans rfl⟩ (fun hHeld => ?_)
              clear hK K
              refine nrm (some 92) ?_
              refine puS (i := 8) (N := some 93) #[T,T,T,T,T,T,T,T,T,F,F,F,F,F,F,F,F,F,F,F,F] (bg HT_.out (by kernel_rfl)) ?_
              refine puU (i := 9) (N := some 94) #[T,T,T,T,T,T,T,T,T,T,F,F,F,F,F,F,F,F,F,F,F] (bg HT_.out (by kernel_rfl)) ?_
              refine puU (i := 10) (N := some 95) #[T,T,T,T,T,T,T,T,T,T,T,F,F,F,F,F,F,F,F,F,F] (bg HT_.out (by kernel_rfl)) ?_
              refine puU (i := 11) (N := some 96) #[T,T,T,T,T,T,T,T,T,T,T,T,F,F,F,F,F,F,F,F,F] (bg HT_.out (by kernel_rfl)) ?_
              refine puU (i := 12) (N := some 97) #[T,T,T,T,T,T,T,T,T,T,T,T,T,F,F,F,F,F,F,F,F] (bg HT_.out (by kernel_rfl)) ?_
              refine puU (i := 13) (N := some 98) #[T,T,T,T,T,T,T,T,T,T,T,T,T,T,F,F,F,F,F,F,F] (bg HT_.out (by kernel_rfl)) ?_
              refine puU (i := 14) (N := some 99) #[T,T,T,T,T,T,T,T,T,T,T,T,T,T,T,F,F,F,F,F,F] (bg HT_.out (by kernel_rfl)) ?_
              refine puU (i := 15) (N := some 100) #[T,T,T,T,T,T,T,T,T,T,T,T,T,T,T,T,F,F,F,F,F] (bg HT_.out (by kernel_rfl)) ?_
              refine puU (i := 16) (N := some 101) #[T,T,T,T,T,T,T,T,T,T,T,T,T,T,T,T,T,F,F,F,F] (bg HT_.out (by kernel_rfl)) ?_
              refine puU (i := 17) (N := some 102) #[T,T,T,T,T,T,T,T,T,T,T,T,T,T,T,T,T,T,F,F,F] (bg HT_.out (by kernel_rfl)) ?_
              refine puU (i := 18) (N := some 103) #[T,T,T,T,T,T,T,T,T,T,T,T,T,T,T,T,T,T,T,F,F] (bg HT_.out (by kernel_rfl)) ?_
              refine puU (i := 19) (N := some 104) #[T,T,T,T,T,T,T,T,T,T,T,T,T,T,T,T,T,T,T,T,F] (bg HT_.out (by kernel_rfl)) ?_
              refine puS (i := 20) (N := some 105) #[T,T,T,T,T,T,T,T,T,T,T,T,T,T,T,T,T,T,T,T,T] (bg HT_.out (by kernel_rfl)) ?_
              refine iN (gN HT_.out (by kernel_rfl)) ?_
              try go_wp2
              go_roundg k2
              case measure => have := HK1.out; have := HK2.out; omega
              case rel => exact ⟨(wrap64 (x11_2 + 1)), EQ, H', ⟨by have := HK1.out; have := HK2.out; omega⟩, ⟨BK⟩, ⟨BL⟩⟩
            ·have H' := aj.mk H
             clear H
             go_wp2
             go_roundg k2
             case measure => have := HK1.out; have := HK2.out; omega
             case rel => exact ⟨(wrap64 (x10_1 + 1)), EQ, H', ⟨by have := HK1.out; have := HK2.out; omega⟩, ⟨BK⟩, ⟨BL⟩⟩
         ·obtain rfl := Option.some.inj H
          go_wp2
          go_ret
          exact ⟨EWW, BL⟩
      ·replace H := ifE H; rcases H with ⟨c73b0, c73b1, H⟩ | ⟨c73, c73b0, c73b1, H⟩
       ·replace H := be H; obtain ⟨t273, A74, H⟩ := H
        obtain rfl := Option.some.inj H
        try go_wp2_with (first | ((with_reducible refine aJ (f := 158) rfl ?_); refine bI (some 110) Try.func158 #[.string ((ah l0 ((ah l0 a1).f2)).f1)] ?_; (with_reducible refine (fI.calls k ((ah l0 ((ah l0 a1).f2)).f1) t273 _ A74.out).mono ?_); rintro e w' ⟨rfl, ⟨nd, rfl⟩⟩; refine ⟨_, rfl, ?_⟩))
        go_ret
        exact ⟨EWW, BL⟩
       ·replace H := ifE H; rcases H with ⟨c77b0, c77b1, H⟩ | ⟨c77, c77b0, c77b1, H⟩
        ·replace H := be H; obtain ⟨t274, A78, H⟩ := H
         obtain rfl := Option.some.inj H
         try go_wp2_with (first | ((with_reducible refine aJ (f := 159) rfl ?_); refine bI (some 116) Try.func159 #[.string ((ah l0 ((ah l0 a1).f2)).f1)] ?_; (with_reducible refine (dQ.calls k ((ah l0 ((ah l0 a1).f2)).f1) t274 _ A78.out).mono ?_); rintro e w' ⟨rfl, ⟨nd, rfl⟩⟩; refine ⟨_, rfl, ?_⟩))
         go_ret
         exact ⟨EWW, BL⟩
        ·replace H := ifE H; rcases H with ⟨c81b0, c81b1, H⟩ | ⟨c81, c81b0, c81b1, H⟩
         ·replace H := be H; obtain ⟨t275, A82, H⟩ := H
          obtain rfl := Option.some.inj H
          try go_wp2_with (first | ((with_reducible refine aJ (f := 160) rfl ?_); refine bI (some 122) Try.func160 #[.string ((ah l0 ((ah l0 a1).f2)).f1)] ?_; (with_reducible refine (dP.calls k ((ah l0 ((ah l0 a1).f2)).f1) t275 _ A82.out).mono ?_); rintro e w' ⟨rfl, ⟨nd, rfl⟩⟩; refine ⟨_, rfl, ?_⟩))
          go_ret
          exact ⟨EWW, BL⟩
         ·replace H := ifE H; rcases H with ⟨c85b0, c85b1, H⟩ | ⟨c85, c85b0, c85b1, H⟩
          ·replace H := be H; obtain ⟨t276, A86, H⟩ := H
           obtain rfl := Option.some.inj H
           try go_wp2_with (first | ((with_reducible refine aJ (f := 161) rfl ?_); refine bI (some 128) Try.func161 #[.string a2, .string ((ah l0 ((ah l0 a1).f2)).f1)] ?_; (with_reducible refine (bH.calls k a2 ((ah l0 ((ah l0 a1).f2)).f1) t276 _ A86.out).mono ?_); rintro e w' ⟨rfl, ⟨nd, rfl⟩⟩; refine ⟨_, rfl, ?_⟩))
           go_ret
           exact ⟨EWW, BL⟩
          ·obtain rfl := Option.some.inj H
           try go_wp2
           go_ret
           exact ⟨EWW, BL⟩
def fB.f (k : Nat) (l0 : List (bq)) (a1 : ByteArray) : Option (Bool) := (aX.f k l0).bind fun t277 => (if t277 = true then ((bE.f k a1).bind fun t278 => (if t278 = true then ((aW.f k l0 (wrap64 ((l0.length : Int) - 1)) a1).bind fun t279 => (some t279)) else (some false))) else (some false))
theorem fB.calls (k : Nat) (A0 : Option Addr) (c0 : Nat) (l0 : List (bq)) (a1 : ByteArray) (r : Bool) (w : World) (hr0 : Kd.C eY w A0 l0.length l0) (hc0 : l0.length ≤ c0) (h : fB.f k l0 a1 = some r) :
  Calls Try.prog 46 #[.slice A0 l0.length c0, .string a1] w fun e w' => e = .returned (.bool r) ∧ Below w.heap.size w w' := by
 have HR0 := aj.mk hr0
 have HC0 := aj.mk hc0
 clear hr0 hc0
 have HB := aj.mk (Below.refl w.heap.size w)
 unfold fB.f at h
 have H := h
 clear h
 replace H := be H; obtain ⟨t277, A3, H⟩ := H
 replace H := aj.mk H
 go_enter Try.func46, Try.ntmps46
 go_wp2_with (first | ((with_reducible refine aJ (f := 50) rfl ?_); refine bI (some 6) Try.func50 #[.slice A0 l0.length c0] ?_; (with_reducible refine (aX.calls k _ _ l0 _ _ ?side1 ?side2 A3.out).mono ?_); (case side1 => repeat (first | exact HR0.out | (with_reducible refine Kd.fU ?_ _) | (with_reducible refine Kd.fT ?_ _) | (with_reducible refine Kd.iB ?_))); (case side2 => exact HC0.out); rintro e w9000 ⟨rfl, hb⟩; refine ⟨_, rfl, ?_⟩; replace HB := BS (w := w) hb; (try clear hb); refine eU ?_))
 refine Hide.mk ?_
 replace H := H.out
 replace H := ifB H; rcases H with ⟨rfl, H⟩ | ⟨rfl, H⟩
 ·replace H := be H; obtain ⟨t278, A5, H⟩ := H
  replace H := aj.mk H
  go_wp2_with (first | (go_at_call 64; (with_reducible refine (bE.calls k a1 _ _ A5.out).mono ?_); rintro e w' ⟨rfl, ⟨nd, rfl⟩⟩; refine eU ?_))
  refine Hide.mk ?_
  replace H := H.out
  replace H := ifB H; rcases H with ⟨rfl, H⟩ | ⟨rfl, H⟩
  ·replace H := be H; obtain ⟨t279, A7, H⟩ := H
   obtain rfl := Option.some.inj H
   try go_wp2_with (first | (go_at_call 105; (with_reducible refine (aW.calls k _ _ l0 (wrap64 ((l0.length : Int) - 1)) a1 t279 _ ?side1 ?side2 A7.out).mono ?_); (case side1 => repeat (first | exact (Kd.jh HR0.out BL) | (with_reducible refine Kd.fU ?_ _) | (with_reducible refine Kd.fT ?_ _) | (with_reducible refine Kd.iB ?_))); (case side2 => exact HC0.out); rintro e w9001 ⟨rfl, hb⟩; replace HB := BS (w := w) hb; (try clear hb)))
   go_ret
   exact ⟨EWW, BL⟩
  ·obtain rfl := Option.some.inj H
   try go_wp2
   go_ret
   exact ⟨EWW, BL⟩
 ·obtain rfl := Option.some.inj H
  try go_wp2
  go_ret
  exact ⟨EWW, BL⟩
def bZ.f : Nat → List (bq) → Int → Option (Int)
 | 0, _, _ => none
 | k + 1, a, b => if 0 ≤ b then (if b < (a.length : Int) then (if ((ah a b).f0) = 1 then (some 0) else ((bU.f ((ah a b).f0)).bind fun c => (if c = true then ((bZ.f k a ((ah a b).f2)).bind fun d => ((bZ.f k a ((ah a b).f3)).bind fun e => (some (wrap64 (1 + (mx d e)))))) else ((bZ.f k a ((ah a b).f2)).bind fun f => (some (wrap64 (1 + f))))))) else (none)) else (none)
def bZ.T5 : Bool × List (List Nat × List Nat) := (true, [([], []), ([], []), ([1], [1]), ([0, 2], [0, 2]), ([], []), ([], []), ([5], [5]), ([4, 6, 3], [4, 6]), ([3, 7], [3, 7]), ([8], [8]), ([9, 7, 0, 1, 2, 3, 4, 5, 6, 7, 8, 9], [9])])
def bZ.B5 : List Nat := [0, 0, 2, 7, 0, 0, 32, 127, 255, 511, 1023]
theorem bZ.xw : iE .any (opsOf Try.f106 5) = bZ.T5 := by kernel_rfl
theorem bZ.xk : iy bZ.T5.2 bZ.B5 = true := by kernel_rfl
theorem bZ.calls (k : Nat) : ∀ (A0 : Option Addr) (c0 : Nat) (l0 : List (bq)) (a1 r : Int) (w : World) (hr0 : Kd.C eY w A0 l0.length l0) (hc0 : l0.length ≤ c0) (h : bZ.f k l0 a1 = some r),
  Calls Try.prog 106 #[.slice A0 l0.length c0, .int .i64 a1] w fun e w' => e = .returned (.int .i64 r) ∧ Below w.heap.size w w' := by
 induction k using Nat.strongRecOn with
 | _ k ih =>
 intro A0 c0 l0 a1 r w hr0 hc0 h
 cases k with
 | zero => exact absurd h (by simp [bZ.f])
 | succ k =>
 simp only [bZ.f] at h
 have hu110 := Try.underlying110
 have HR0 := aj.mk hr0
 have HC0 := aj.mk hc0
 clear hr0 hc0
 have HB := aj.mk (Below.refl w.heap.size w)
 have H : (if 0 ≤ a1 then (if a1 < (l0.length : Int) then (if ((ah l0 a1).f0) = 1 then (some 0) else ((bU.f ((ah l0 a1).f0)).bind fun t282 => (if t282 = true then ((bZ.f k l0 ((ah l0 a1).f2)).bind fun t283 => ((bZ.f k l0 ((ah l0 a1).f3)).bind fun t284 => (some (wrap64 (1 + (mx t283 t284)))))) else ((bZ.f k l0 ((ah l0 a1).f2)).bind fun t285 => (some (wrap64 (1 + t285))))))) else (none)) else (none)) = some r := h
 clear h
 replace H := ifN H; obtain ⟨c3b0, H⟩ := H
 replace H := ifN H; obtain ⟨c4b0, H⟩ := H
 have p280 : 0 ≤ (a1 : Int) := OD
 have q280 : a1 < (l0.length : Int) := OD
 obtain ⟨ad280, e280, hx280_0, hx280_1, hx280_2, hx280_3⟩ := fK HR0.out a1 p280 q280
 cases e280
 replace p280 := eq_true p280
 replace q280 := eq_true q280
 replace H := aj.mk H
 go_enter Try.func106, Try.ntmps106
 go_wp2_with (first | ((with_reducible refine dz (N := 5) rfl ?_); refine gV (N := 5) (cs := #[.int .i64 0, .string (⟨#[]⟩ : ByteArray), .int .i64 0, .int .i64 0]) (t := 110) ?_; intro gb281 hg w9000 hbox hb; have BK281 := aj.mk hbox; have GW281 := SZ (w := w) hg; have GE281 := GW281; replace HB := BS (w := w) hb; clear hb hbox hg; obtain ⟨hcz9001_0, hcz9001_1, hcz9001_2, hcz9001_3, hfz9001_0, hfz9001_1, hfz9001_2, hfz9001_3⟩ := cz4 BK281.out; refine eU ?_))
 refine Hide.mk ?_
 replace H := H.out
 replace H := ifE H; rcases H with ⟨c5b0, c5b1, H⟩ | ⟨c5, c5b0, c5b1, H⟩
 ·obtain rfl := Option.some.inj H
  try go_wp2
  go_ret
  exact ⟨EWW, BL⟩
 ·replace H := be H; obtain ⟨t282, A8, H⟩ := H
  replace H := aj.mk H
  go_wp2_with (first | ((with_reducible refine aJ (f := 107) rfl ?_); refine bI (some 17) Try.func107 #[.int .i64 ((ah l0 a1).f0)] ?_; (with_reducible refine (bU.calls ((ah l0 a1).f0) _ _ A8.out).mono ?_); rintro e w' ⟨rfl, ⟨nd, rfl⟩⟩; refine ⟨_, rfl, ?_⟩; refine eU ?_))
  refine Hide.mk ?_
  replace H := H.out
  replace H := ifB H; rcases H with ⟨rfl, H⟩ | ⟨rfl, H⟩
  ·replace H := be H; obtain ⟨t283, A10, H⟩ := H
   replace H := be H; obtain ⟨t284, A11, H⟩ := H
   obtain ⟨ji12, hji12⟩ : ∃ j_ : Int, (mx t283 t284) = j_ := ⟨_, rfl⟩
   replace H : (some (wrap64 (1 + (ji12)))) = some r := by first | (rw [hji12] at H; exact H) | (simp only [hji12] at H ⊢; exact H)
   (try rw [hji12] at A8)
   (try rw [hji12] at A10)
   (try rw [hji12] at A11)
   have hji12_ : (if t283 < t284 then t284 else t283) = ji12 := hji12
   obtain rfl := Option.some.inj H
   try go_wp2
   have n0_ : aj (((((w9000.setCell ⟨gb281, 0, none⟩ (.int .i64 ((ah l0 a1).f0))).setCell ⟨gb281, 1, none⟩ (.string ((ah l0 a1).f1))).setCell ⟨gb281, 2, none⟩ (.int .i64 ((ah l0 a1).f2))).setCell ⟨gb281, 3, none⟩ (.int .i64 ((ah l0 a1).f3))).heap[gb281]? = some (.cells #[.int .i64 ((ah l0 a1).f0), .string ((ah l0 a1).f1), .int .i64 ((ah l0 a1).f2), .int .i64 ((ah l0 a1).f3)] 110 (0, 0))) := ⟨by (with_reducible repeat (first | refine av ?_ _ | refine aC ?_ | refine au ?_ _)); refine aU (cs := #[.int .i64 ((ah l0 a1).f0), .string ((ah l0 a1).f1), .int .i64 ((ah l0 a1).f2), .int .i64 0]) ?_ 3 _ rfl; (with_reducible repeat (first | refine av ?_ _ | refine aC ?_ | refine au ?_ _)); refine aU (cs := #[.int .i64 ((ah l0 a1).f0), .string ((ah l0 a1).f1), .int .i64 0, .int .i64 0]) ?_ 2 _ rfl; (with_reducible repeat (first | refine av ?_ _ | refine aC ?_ | refine au ?_ _)); refine aU (cs := #[.int .i64 ((ah l0 a1).f0), .string (⟨#[]⟩ : ByteArray), .int .i64 0, .int .i64 0]) ?_ 1 _ rfl; (with_reducible repeat (first | refine av ?_ _ | refine aC ?_ | refine au ?_ _)); refine aU (cs := #[.int .i64 0, .string (⟨#[]⟩ : ByteArray), .int .i64 0, .int .i64 0]) ?_ 0 _ rfl; (with_reducible repeat (first | refine av ?_ _ | refine aC ?_ | refine au ?_ _)); exact BK281.out⟩
   have n1_ : aj (Below w.heap.size w ((((w9000.setCell ⟨gb281, 0, none⟩ (.int .i64 ((ah l0 a1).f0))).setCell ⟨gb281, 1, none⟩ (.string ((ah l0 a1).f1))).setCell ⟨gb281, 2, none⟩ (.int .i64 ((ah l0 a1).f2))).setCell ⟨gb281, 3, none⟩ (.int .i64 ((ah l0 a1).f3)))) := ⟨BL⟩
   (try clear BK281)
   (try clear HB)
   generalize ((((w9000.setCell ⟨gb281, 0, none⟩ (.int .i64 ((ah l0 a1).f0))).setCell ⟨gb281, 1, none⟩ (.string ((ah l0 a1).f1))).setCell ⟨gb281, 2, none⟩ (.int .i64 ((ah l0 a1).f2))).setCell ⟨gb281, 3, none⟩ (.int .i64 ((ah l0 a1).f3))) = w9002 at n0_ n1_ ⊢
   have BK281 := n0_
   have HB := n1_
   clear n0_ n1_
   (try (rw [oF w9002]; generalize hq_ : World.drewN w9002 _ = w9002; have n0_ : aj (w9002.heap[gb281]? = some (.cells #[.int .i64 ((ah l0 a1).f0), .string ((ah l0 a1).f1), .int .i64 ((ah l0 a1).f2), .int .i64 ((ah l0 a1).f3)] 110 (0, 0))) := ⟨by rw [← hq_]; exact BK⟩; have n1_ : aj (Below w.heap.size w w9002) := ⟨by rw [← hq_]; exact BL⟩; clear BK281 HB hq_; have BK281 := n0_; have HB := n1_; clear n0_ n1_))
   replace BK281 := aj.mk (aC BK281.out)
   replace HB := aj.mk (aG HB.out)
   refine iJ (n := 11) (S := fun w' => w'.cell? ⟨gb281, 0, none⟩ = some (.int .i64 ((ah l0 a1).f0)) ∧ w'.cell? ⟨gb281, 1, none⟩ = some (.string ((ah l0 a1).f1)) ∧ w'.cell? ⟨gb281, 2, none⟩ = some (.int .i64 ((ah l0 a1).f2)) ∧ w'.cell? ⟨gb281, 3, none⟩ = some (.int .i64 ((ah l0 a1).f3))) (ds := []) #[F,F,F,F,F,F,F,F,F,F,F] (by kernel_rfl) rfl rfl ⟨(aT BK281.out 0).trans rfl, (aT BK281.out 1).trans rfl, (aT BK281.out 2).trans rfl, (aT BK281.out 3).trans rfl⟩ (fun hHeld => ?_); refine gZ bZ.xw bZ.xk (fun HT_ HW_ => ?_)
   generalize w9002.drew = w9003 at BK281 HB hHeld ⊢
   refine puS (i := 0) (N := some 18) #[T,F,F,F,F,F,F,F,F,F,F] (bg HT_.out (by kernel_rfl)) ?_
   refine puS (i := 1) (N := some 19) #[T,T,F,F,F,F,F,F,F,F,F] (bg HT_.out (by kernel_rfl)) ?_
   refine puS (i := 4) (N := some 22) #[T,T,F,F,T,F,F,F,F,F,F] (bg HT_.out (by kernel_rfl)) ?_
   refine puS (i := 5) (N := some 23) #[T,T,F,F,T,T,F,F,F,F,F] (bg HT_.out (by kernel_rfl)) ?_
   refine taS (i := 2) (N := some 20) #[T,T,T,F,T,T,F,F,F,F,F] (dU HT_.out HW_.out (by kernel_rfl)) hHeld ?_
   refine taS (i := 6) (N := some 24) #[T,T,T,F,T,T,T,F,F,F,F] (dU HT_.out HW_.out (by kernel_rfl)) hHeld ?_
   refine jm (i := 3) (N := some 21) #[T,T,T,T,T,T,T,F,F,F,F] rfl rfl (gW HT_.out (by kernel_rfl)) (by decide) (fun K hK => ?_)
   refine jM Try.func106 #[.slice (some ad280) l0.length c0, .int .i64 ((ah l0 a1).f2)] ?_
   with_reducible refine (ih k (by omega) _ _ l0 ((ah l0 a1).f2) t283 _ ?side1 ?side2 A10.out).mono ?_
   (case side1 => exact CB HR0)
   (case side2 => exact HC0.out)
   rintro e w9004 ⟨rfl, hb⟩
   refine ⟨_, rfl, ?_⟩
   replace BK281 := KB BK281 hb
   replace HB := BS (w := w) hb
   (try clear hb)
   refine hK.out _ _ ⟨(aT BK281.out 0).trans rfl, (aT BK281.out 1).trans rfl, (aT BK281.out 2).trans rfl, (aT BK281.out 3).trans rfl⟩ (fun hHeld => ?_)
   clear hK K
   refine nrm (some 21) ?_
   refine jm (i := 7) (N := some 25) #[T,T,T,T,T,T,T,T,F,F,F] rfl rfl (gW HT_.out (by kernel_rfl)) (by decide) (fun K hK => ?_)
   refine jM Try.func106 #[.slice (some ad280) l0.length c0, .int .i64 ((ah l0 a1).f3)] ?_
   with_reducible refine (ih k (by omega) _ _ l0 ((ah l0 a1).f3) t284 _ ?side1 ?side2 A11.out).mono ?_
   (case side1 => exact CB HR0)
   (case side2 => exact HC0.out)
   rintro e w9005 ⟨rfl, hb⟩
   refine ⟨_, rfl, ?_⟩
   replace BK281 := KB BK281 hb
   replace HB := BS (w := w) hb
   (try clear hb)
   refine hK.out _ _ ⟨(aT BK281.out 0).trans rfl, (aT BK281.out 1).trans rfl, (aT BK281.out 2).trans rfl, (aT BK281.out 3).trans rfl⟩ (fun hHeld => ?_)
   clear hK K
   refine nrm (some 25) ?_
   refine puS (i := 8) (N := some 26) #[T,T,T,T,T,T,T,T,T,F,F] (bg HT_.out (by kernel_rfl)) ?_
   refine puS (i := 9) (N := some 27) #[T,T,T,T,T,T,T,T,T,T,F] (bg HT_.out (by kernel_rfl)) ?_
   refine puS (i := 10) (N := some 4) #[T,T,T,T,T,T,T,T,T,T,T] (bg HT_.out (by kernel_rfl)) ?_
   refine iN (gN HT_.out (by kernel_rfl)) ?_
   try go_wp2
   go_ret
   exact ⟨by first | rfl | (simp [eH, eO] <;> rfl) | (simp only [← hji12]; first | rfl | (simp [eH, eO] <;> rfl)) | (simp [*, eH, eO] <;> rfl), BL⟩
  ·replace H := be H; obtain ⟨t285, A19, H⟩ := H
   obtain rfl := Option.some.inj H
   try go_wp2_with (first | ((with_reducible refine aJ (f := 106) rfl ?_); refine bI (some 31) Try.func106 #[.slice (some ad280) l0.length c0, .int .i64 ((ah l0 a1).f2)] ?_; (with_reducible refine (ih k (by omega) _ _ l0 ((ah l0 a1).f2) t285 _ ?side1 ?side2 A19.out).mono ?_); (case side1 => exact Kd.jh HR0.out BL); (case side2 => exact HC0.out); rintro e w9002 ⟨rfl, hb⟩; refine ⟨_, rfl, ?_⟩; have n0_ := aj.mk (jv (g := gb281) (o := .cells #[.int .i64 ((ah l0 a1).f0), .string ((ah l0 a1).f1), .int .i64 ((ah l0 a1).f2), .int .i64 ((ah l0 a1).f3)] 110 (0, 0)) (by (with_reducible repeat (first | refine av ?_ _ | refine aC ?_ | refine au ?_ _)); refine aU (cs := #[.int .i64 ((ah l0 a1).f0), .string ((ah l0 a1).f1), .int .i64 ((ah l0 a1).f2), .int .i64 0]) ?_ 3 _ rfl; (with_reducible repeat (first | refine av ?_ _ | refine aC ?_ | refine au ?_ _)); refine aU (cs := #[.int .i64 ((ah l0 a1).f0), .string ((ah l0 a1).f1), .int .i64 0, .int .i64 0]) ?_ 2 _ rfl; (with_reducible repeat (first | refine av ?_ _ | refine aC ?_ | refine au ?_ _)); refine aU (cs := #[.int .i64 ((ah l0 a1).f0), .string (⟨#[]⟩ : ByteArray), .int .i64 0, .int .i64 0]) ?_ 1 _ rfl; (with_reducible repeat (first | refine av ?_ _ | refine aC ?_ | refine au ?_ _)); refine aU (cs := #[.int .i64 0, .string (⟨#[]⟩ : ByteArray), .int .i64 0, .int .i64 0]) ?_ 0 _ rfl; (with_reducible repeat (first | refine av ?_ _ | refine aC ?_ | refine au ?_ _)); exact BK281.out) hb); replace HB := BS (w := w) hb; clear BK281; have BK281 := n0_; clear n0_; (try clear hb)))
   go_ret
   exact ⟨EWW, BL⟩
def dw.f (k : Nat) (l0 : List (bq)) : Option (Int) := (aX.f k l0).bind fun t286 => (if t286 = true then ((bZ.f k l0 (wrap64 ((l0.length : Int) - 1))).bind fun t287 => (some t287)) else (some (-1)))
theorem dw.calls (k : Nat) (A0 : Option Addr) (c0 : Nat) (l0 : List (bq)) (r : Int) (w : World) (hr0 : Kd.C eY w A0 l0.length l0) (hc0 : l0.length ≤ c0) (h : dw.f k l0 = some r) :
  Calls Try.prog 47 #[.slice A0 l0.length c0] w fun e w' => e = .returned (.int .i64 r) ∧ Below w.heap.size w w' := by
 have HR0 := aj.mk hr0
 have HC0 := aj.mk hc0
 clear hr0 hc0
 have HB := aj.mk (Below.refl w.heap.size w)
 unfold dw.f at h
 have H := h
 clear h
 replace H := be H; obtain ⟨t286, A2, H⟩ := H
 replace H := aj.mk H
 go_enter Try.func47, Try.ntmps47
 go_wp2_with (first | ((with_reducible refine aJ (f := 50) rfl ?_); refine bI (some 4) Try.func50 #[.slice A0 l0.length c0] ?_; (with_reducible refine (aX.calls k _ _ l0 _ _ ?side1 ?side2 A2.out).mono ?_); (case side1 => repeat (first | exact HR0.out | (with_reducible refine Kd.fU ?_ _) | (with_reducible refine Kd.fT ?_ _) | (with_reducible refine Kd.iB ?_))); (case side2 => exact HC0.out); rintro e w9000 ⟨rfl, hb⟩; refine ⟨_, rfl, ?_⟩; replace HB := BS (w := w) hb; (try clear hb); refine eU ?_))
 refine Hide.mk ?_
 replace H := H.out
 replace H := ifB H; rcases H with ⟨rfl, H⟩ | ⟨rfl, H⟩
 ·replace H := be H; obtain ⟨t287, A4, H⟩ := H
  obtain rfl := Option.some.inj H
  try go_wp2_with (first | ((with_reducible refine aJ (f := 106) rfl ?_); refine bI (some 10) Try.func106 #[.slice A0 l0.length c0, .int .i64 (wrap64 ((l0.length : Int) - 1))] ?_; (with_reducible refine (bZ.calls k _ _ l0 (wrap64 ((l0.length : Int) - 1)) t287 _ ?side1 ?side2 A4.out).mono ?_); (case side1 => exact CB HR0); (case side2 => exact HC0.out); rintro e w9001 ⟨rfl, hb⟩; refine ⟨_, rfl, ?_⟩; replace HB := BS (w := w) hb; (try clear hb)))
  go_ret
  exact ⟨EWW, BL⟩
 ·obtain rfl := Option.some.inj H
  try go_wp2
  go_ret
  exact ⟨EWW, BL⟩
end Go.Proofs.Ythjcicmmbmagbaa.PFnNotations
