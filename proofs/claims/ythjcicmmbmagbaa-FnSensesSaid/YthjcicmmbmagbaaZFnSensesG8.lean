/- Walks of functions: what each computes. -/
import Derived.Test.YthjcicmmbmagbaaZFnSensesG0
import Derived.Test.YthjcicmmbmagbaaZFnSensesG1
import Derived.Test.YthjcicmmbmagbaaZFnSensesG2
import Derived.Test.YthjcicmmbmagbaaZFnSensesG3
import Derived.Test.YthjcicmmbmagbaaZFnSensesG6
import Derived.Test.YthjcicmmbmagbaaZFnSensesG7
import Derived.Test.YthjcicmmbmagbaaZFnSensesW
import Derived.Test.YthjcicmmbmagbaaZFnSensesHandForm
import Derived.Test.YthjcicmmbmagbaaZFnSensesHandAlone
import Derived.Test.YthjcicmmbmagbaaZFnSensesHandIns
import Derived.Test.YthjcicmmbmagbaaZFnSensesHandRead
namespace Go.Proofs.Ythjcicmmbmagbaa.PFnSenses
open Go.RowKit Go.Proofs.YthjcicmmbmagbaaW.PrintWords Go.Proofs.YthjcicmmbmagbaaW.PrintLast Go.Proofs.YthjcicmmbmagbaaW.PrintMore
attribute [local go_sem] iF iG iR iQ ig gW iE iD
set_option linter.unusedVariables false
set_option linter.unusedSimpArgs false
mutual
def aU.j0 : Nat → List Int → Bool → Option (Bool)
 | 0, _, _ => none
 | k + 1, x0, x70 => if x70 = true then (some false) else ((eU.f k x0).bind fun bt411 => ((bL.f k bt411.1 bt411.2.1 bt411.2.2).bind fun t416 => ((bL.f k bt411.1 bt411.2.2 bt411.2.1).bind fun t417 => (if (t416 != t417) = true then (aU.j1 k x0 true) else ((bL.f k bt411.1 bt411.2.1 bt411.2.1).bind fun t418 => ((cu.f k bt411.1 bt411.2.1).bind fun t419 => (aU.j1 k x0 (t418 != (decide ((t419.length : Int) > 0))))))))))
def aU.j1 : Nat → List Int → Bool → Option (Bool)
 | 0, _, _ => none
 | k + 1, x0, x97 => if x97 = true then (some false) else ((fC.f k x0).bind fun bt422 => ((fJ.f k bt422.1 bt422.2.1 bt422.2.2).bind fun t429 => (aU.l0 k bt422.1 bt422.2.1 bt422.2.2 t429 0)))
def aU.l0 : Nat → List (S31) → List ByteArray → Int → List ByteArray → Int → Option (Bool)
 | 0, _, _, _, _, _ => none
 | k + 1, x10, x11, x12, x13, x14 => if x14 < (x13.length : Int) then (if 0 ≤ x14 then ((cO.f k x10 (fO ByteArray.empty x13 x14) x12).bind fun t434 => (if t434 = true then ((cu.f k x10 (fO ByteArray.empty x13 x14)).bind fun t436 => ((dJ.f k t436 x12).bind fun t439 => (if t439 = true then (aU.l0 k x10 x11 x12 x13 (wrap64 (x14 + 1))) else (some false)))) else (some false))) else (none)) else ((dZ.f k x13 x11).bind fun t432 => (some t432))
end
def aU.f (k : Nat) (l0 : List Int) : Option (Bool) := (iV.f l0).bind fun t397 => (if t397 = true then (some true) else ((d9.f k l0).bind fun bt398 => ((aZ.f k bt398.1 bt398.2.1 bt398.2.2).bind fun bt404 => (if bt404.2 = true then ((bg.f k bt404.1).bind fun t408 => (if t408 = true then ((cO.f k bt404.1 bt398.2.1 bt398.2.2).bind fun t409 => (if t409 = true then (if (bt404.1.length : Int) = (wrap64 ((bt398.1.length : Int) + 1)) then ((bL.f k bt404.1 bt398.2.1 bt398.2.1).bind fun t410 => (if t410 = true then (aU.j0 k l0 false) else (aU.j0 k l0 true))) else (aU.j0 k l0 true)) else (aU.j0 k l0 true))) else (aU.j0 k l0 true))) else (aU.j0 k l0 ((bt404.1.length : Int) != (bt398.1.length : Int)))))))
set_option maxHeartbeats 8000000 in
set_option maxRecDepth 100000 in
theorem aU.calls (k : Nat) (A0 : Option Addr) (c0 : Nat) (l0 : List Int) (r : Bool) (w : World) (hr0 : Kd.C (Kd.int .u8) w A0 l0.length l0) (hc0 : l0.length ≤ c0) (h : aU.f k l0 = some r) :
  Calls Try.prog 4 #[.slice A0 l0.length c0] w fun e w' => e = .returned (.bool r) ∧ Below w.heap.size w w' := by
 have hu31 := Try.underlying31
 have HR0 := aj.mk hr0
 have HC0 := aj.mk hc0
 clear hr0 hc0
 have HB := aj.mk (Below.refl w.heap.size w)
 have H : ((iV.f l0).bind fun t397 => (if t397 = true then (some true) else ((d9.f k l0).bind fun bt398 => ((aZ.f k bt398.1 bt398.2.1 bt398.2.2).bind fun bt404 => (if bt404.2 = true then ((bg.f k bt404.1).bind fun t408 => (if t408 = true then ((cO.f k bt404.1 bt398.2.1 bt398.2.2).bind fun t409 => (if t409 = true then (if (bt404.1.length : Int) = (wrap64 ((bt398.1.length : Int) + 1)) then ((bL.f k bt404.1 bt398.2.1 bt398.2.1).bind fun t410 => (if t410 = true then (aU.j0 k l0 false) else (aU.j0 k l0 true))) else (aU.j0 k l0 true)) else (aU.j0 k l0 true))) else (aU.j0 k l0 true))) else (aU.j0 k l0 ((bt404.1.length : Int) != (bt398.1.length : Int)))))))) = some r := h
 clear h
 replace H := Option.bind_eq_some_iff.mp H
 obtain ⟨t397, A20, H⟩ := H
 replace H : (if t397 = true then (some true) else ((d9.f k l0).bind fun bt398 => ((aZ.f k bt398.1 bt398.2.1 bt398.2.2).bind fun bt404 => (if bt404.2 = true then ((bg.f k bt404.1).bind fun t408 => (if t408 = true then ((cO.f k bt404.1 bt398.2.1 bt398.2.2).bind fun t409 => (if t409 = true then (if (bt404.1.length : Int) = (wrap64 ((bt398.1.length : Int) + 1)) then ((bL.f k bt404.1 bt398.2.1 bt398.2.1).bind fun t410 => (if t410 = true then (aU.j0 k l0 false) else (aU.j0 k l0 true))) else (aU.j0 k l0 true)) else (aU.j0 k l0 true))) else (aU.j0 k l0 true))) else (aU.j0 k l0 ((bt404.1.length : Int) != (bt398.1.length : Int))))))) = some r := H
 have A2 := aj.mk A20
 clear A20
 by_cases c3 : t397 = true
 ·subst c3
  have H1 : (some true) = some r := by rw [if_pos rfl] at H; exact H
  clear H
  have H := H1
  clear H1
  obtain rfl := Option.some.inj H
  go_enter Try.func4, Try.ntmps4
  go_wp2_with (first | ((with_reducible refine bq (f := 19) rfl ?_); refine bT (some 16) rfl rfl Try.func19 (by kernel_rfl) rfl #[.slice A0 l0.length c0] rfl (by (try simp only [List.map_toArray, List.map_cons, List.map_nil]); first | done | rfl | (simp only [List.length_drop, List.length_take]; rfl)) ?_; (with_reducible refine (iV.calls _ _ l0 true _ ?side1 ?side2 A2.out).mono ?_); (case side1 => repeat (first | exact HR0.out | (with_reducible refine Kd.bU ?_ _) | (with_reducible refine Kd.bV ?_ _) | (with_reducible refine Kd.cB ?_))); (case side2 => exact HC0.out); rintro e w' ⟨rfl, ⟨nd, rfl⟩⟩; refine ⟨_, rfl, ?_⟩))
  go_ret
  exact ⟨by first | rfl | (simp [bA, bB] <;> rfl) | (simp [*, bA, bB] <;> rfl), by repeat (first | (with_reducible first | exact HB.out | apply au | apply ah | apply ak) | exact HB.out)⟩
 ·replace c3 := Bool.eq_false_iff.mpr c3
  subst c3
  have H1 : ((d9.f k l0).bind fun bt398 => ((aZ.f k bt398.1 bt398.2.1 bt398.2.2).bind fun bt404 => (if bt404.2 = true then ((bg.f k bt404.1).bind fun t408 => (if t408 = true then ((cO.f k bt404.1 bt398.2.1 bt398.2.2).bind fun t409 => (if t409 = true then (if (bt404.1.length : Int) = (wrap64 ((bt398.1.length : Int) + 1)) then ((bL.f k bt404.1 bt398.2.1 bt398.2.1).bind fun t410 => (if t410 = true then (aU.j0 k l0 false) else (aU.j0 k l0 true))) else (aU.j0 k l0 true)) else (aU.j0 k l0 true))) else (aU.j0 k l0 true))) else (aU.j0 k l0 ((bt404.1.length : Int) != (bt398.1.length : Int)))))) = some r := by rw [if_neg (show ¬ (false = true) by decide)] at H; exact H
  clear H
  have H := H1
  clear H1
  replace H := Option.bind_eq_some_iff.mp H
  obtain ⟨⟨t398, t401, t402⟩, A40, H⟩ := H
  replace H : ((aZ.f k t398 t401 t402).bind fun bt404 => (if bt404.2 = true then ((bg.f k bt404.1).bind fun t408 => (if t408 = true then ((cO.f k bt404.1 t401 t402).bind fun t409 => (if t409 = true then (if (bt404.1.length : Int) = (wrap64 ((t398.length : Int) + 1)) then ((bL.f k bt404.1 t401 t401).bind fun t410 => (if t410 = true then (aU.j0 k l0 false) else (aU.j0 k l0 true))) else (aU.j0 k l0 true)) else (aU.j0 k l0 true))) else (aU.j0 k l0 true))) else (aU.j0 k l0 ((bt404.1.length : Int) != (t398.length : Int))))) = some r := H
  have A4 := aj.mk A40
  clear A40
  replace H := Option.bind_eq_some_iff.mp H
  obtain ⟨⟨t404, t407⟩, A50, H⟩ := H
  replace H : (if t407 = true then ((bg.f k t404).bind fun t408 => (if t408 = true then ((cO.f k t404 t401 t402).bind fun t409 => (if t409 = true then (if (t404.length : Int) = (wrap64 ((t398.length : Int) + 1)) then ((bL.f k t404 t401 t401).bind fun t410 => (if t410 = true then (aU.j0 k l0 false) else (aU.j0 k l0 true))) else (aU.j0 k l0 true)) else (aU.j0 k l0 true))) else (aU.j0 k l0 true))) else (aU.j0 k l0 ((t404.length : Int) != (t398.length : Int)))) = some r := H
  have A5 := aj.mk A50
  clear A50
  have HC6 := aj.mk H
  clear H
  go_enter Try.func4, Try.ntmps4
  go_upto_region 5 with (first | ((with_reducible refine bq (f := 19) rfl ?_); refine bT (some 16) rfl rfl Try.func19 (by kernel_rfl) rfl #[.slice A0 l0.length c0] rfl (by (try simp only [List.map_toArray, List.map_cons, List.map_nil]); first | done | rfl | (simp only [List.length_drop, List.length_take]; rfl)) ?_; (with_reducible refine (iV.calls _ _ l0 false _ ?side1 ?side2 A2.out).mono ?_); (case side1 => repeat (first | exact HR0.out | (with_reducible refine Kd.bU ?_ _) | (with_reducible refine Kd.bV ?_ _) | (with_reducible refine Kd.cB ?_))); (case side2 => exact HC0.out); rintro e w' ⟨rfl, ⟨nd, rfl⟩⟩; refine ⟨_, rfl, ?_⟩) | ((with_reducible refine bq (f := 20) rfl ?_); refine bT (some 19) rfl rfl Try.func20 (by kernel_rfl) rfl #[.slice A0 l0.length c0] rfl (by (try simp only [List.map_toArray, List.map_cons, List.map_nil]); first | done | rfl | (simp only [List.length_drop, List.length_take]; rfl)) ?_; (with_reducible refine (d9.calls k _ _ l0 t398 t401 t402 _ ?side1 ?side2 A4.out).mono ?_); (case side1 => repeat (first | exact HR0.out | (with_reducible refine Kd.bU ?_ _) | (with_reducible refine Kd.bV ?_ _) | (with_reducible refine Kd.cB ?_))); (case side2 => exact HC0.out); rintro e w7 ⟨v399, rfl, ho0, hb⟩; refine ⟨_, rfl, ?_⟩; have n0_ := aj.mk (Kd.cK ho0 (bf (by repeat (first | (with_reducible first | exact HB.out | apply au | apply ah | apply ak) | exact HB.out)))); have n1_ := aj.mk (aY (by repeat (first | (with_reducible first | exact HB.out | apply au | apply ah | apply ak) | exact HB.out)) hb); clear HB; have HO400 := n0_; have HB := n1_; clear n0_ n1_; (try clear hb); (try clear hb2); (try clear hk); (try clear hi); (try clear ho0)) | ((with_reducible refine dz (N := 4) rfl ?_); (try (refine oH (by rfl) ?_; dsimp only)); refine dD ?hg (N := 4) ?hd (cs := #[.string (⟨#[]⟩ : ByteArray), .int .i64 0]) (t := 31) ?hr ?_; (case hd => rfl); (case hg => rfl); (case hr => first | (go_simp; done) | (go_simp; rfl)); intro gb403 hg w8 hbox hb; have n0_ := aj.mk (Kd.bY (Kd.nJ (by (with_reducible repeat (first | apply Kd.aN | apply Kd.aM | apply Kd.aW)); exact HO400.out) gb403 (Nat.le_of_eq hg.symm)) hb); have n1_ := aj.mk (aY (by repeat (first | (with_reducible first | exact HB.out | apply au | apply ah | apply ak) | exact HB.out)) hb); have n2_ := aj.mk (hbox); have n3_ := aj.mk ((by rw [hg]; exact (bf (by repeat (first | (with_reducible first | exact HB.out | apply au | apply ah | apply ak) | exact HB.out))) : w.heap.size ≤ gb403)); have n4_ := aj.mk ((by rw [hg]; exact (bf (by repeat (first | (with_reducible first | exact HB.out | apply au | apply ah | apply ak) | exact HB.out))) : w.heap.size ≤ gb403)); clear HO400; clear HB; have HO400 := n0_; have HB := n1_; have BK403 := n2_; have GW403 := n3_; have GE403 := n4_; clear n0_ n1_ n2_ n3_ n4_; clear hb hbox hg; have hcz9_0 : w8.cell? ⟨gb403, 0, none⟩ = some (.string (⟨#[]⟩ : ByteArray)) := (aT BK403.out 0).trans rfl; have hcz9_1 : w8.cell? ⟨gb403, 1, none⟩ = some (.int .i64 0) := (aT BK403.out 1).trans rfl; have hfz9_0 := bG BK403.out 0; have hfz9_1 := bG BK403.out 1; obtain ⟨Ao10, co10, eo10⟩ := Kd.dO HO400.out; subst eo10) | ((with_reducible refine bq (f := 15) rfl ?_); refine bT (some 25) rfl rfl Try.func15 (by kernel_rfl) rfl #[.slice Ao10 t398.length co10, .agg #[.string t401, .int .i64 t402]] rfl (by (try simp only [List.map_toArray, List.map_cons, List.map_nil]); first | done | rfl | (simp only [List.length_drop, List.length_take]; rfl)) ?_; (with_reducible refine (aZ.calls k _ _ t398 t401 t402 t404 t407 _ ?side1 ?side2 A5.out).mono ?_); (case side1 => refine (Kd.bJ (e := 31) (base := w.heap.size) (ok := fun k_ => (True ∧ k_ ≠ gb403)) (n := t398.length) (c := co10) ?_).2.2; exact (by (with_reducible repeat (first | apply Kd.aN | apply Kd.aM | apply Kd.aW)); exact (Kd.bO (Kd.iP (p := ⟨gb403, 1, none⟩) (Kd.iP (p := ⟨gb403, 0, none⟩) (Kd.bO HO400.out (fun k_ hk => (⟨hk, hk.2⟩ : _ ∧ k_ ≠ gb403))) (fun _ hk => hk.2) (.string t401)) (fun _ hk => hk.2) (.int .i64 t402)) (fun _ h_ => h_.1)))); (case side2 => exact (Kd.bJ HO400.out).2.1); rintro e w11 ⟨v405, rfl, ho0, hb⟩; refine ⟨_, rfl, ?_⟩; have n0_ := aj.mk (Kd.eT (by (with_reducible repeat (first | apply Kd.aN | apply Kd.aM | apply Kd.aW)); exact (Kd.bO (Kd.iP (p := ⟨gb403, 1, none⟩) (Kd.iP (p := ⟨gb403, 0, none⟩) (Kd.bO HO400.out (fun k_ hk => (⟨hk, hk.2⟩ : _ ∧ k_ ≠ gb403))) (fun _ hk => hk.2) (.string t401)) (fun _ hk => hk.2) (.int .i64 t402)) (fun _ h_ => h_.1))) (Kd.fZ ho0) hb); have n1_ := aj.mk (Kd.cK (Kd.fq (Kd.gq ho0 (Kd.gM (by (with_reducible repeat (first | apply Kd.aN | apply Kd.aM | apply Kd.aW)); exact (Kd.bO (Kd.iP (p := ⟨gb403, 1, none⟩) (Kd.iP (p := ⟨gb403, 0, none⟩) (Kd.bO HO400.out (fun k_ hk => (⟨hk, hk.2⟩ : _ ∧ k_ ≠ gb403))) (fun _ hk => hk.2) (.string t401)) (fun _ hk => hk.2) (.int .i64 t402)) (fun _ h_ => h_.1))))) (g := gb403) (o := .cells #[.string t401, .int .i64 t402] 31 (0, 0)) (by (with_reducible repeat (first | refine aA ?_ _ | refine aD ?_ | refine aC ?_ _)); refine fB (cs := #[.string t401, .int .i64 0]) ?_ 1 _ rfl; (with_reducible repeat (first | refine aA ?_ _ | refine aD ?_ | refine aC ?_ _)); refine fB (cs := #[.string (⟨#[]⟩ : ByteArray), .int .i64 0]) ?_ 0 _ rfl; (with_reducible repeat (first | refine aA ?_ _ | refine aD ?_ | refine aC ?_ _)); exact BK403.out)) (bf (by repeat (first | (with_reducible first | exact HB.out | apply au | apply ah | apply ak | refine ay ?_ GE403.out) | exact HB.out)))); have n2_ := aj.mk (bI (g := gb403) (o := .cells #[.string t401, .int .i64 t402] 31 (0, 0)) (by (with_reducible repeat (first | refine aA ?_ _ | refine aD ?_ | refine aC ?_ _)); refine fB (cs := #[.string t401, .int .i64 0]) ?_ 1 _ rfl; (with_reducible repeat (first | refine aA ?_ _ | refine aD ?_ | refine aC ?_ _)); refine fB (cs := #[.string (⟨#[]⟩ : ByteArray), .int .i64 0]) ?_ 0 _ rfl; (with_reducible repeat (first | refine aA ?_ _ | refine aD ?_ | refine aC ?_ _)); exact BK403.out) hb); have n3_ := aj.mk (aY (by repeat (first | (with_reducible first | exact HB.out | apply au | apply ah | apply ak | refine ay ?_ GE403.out) | exact HB.out)) hb); clear HO400; clear BK403; clear HB; have HO400 := n0_; have HO406 := n1_; have BK403 := n2_; have HB := n3_; clear n0_ n1_ n2_ n3_; (try clear hb); (try clear hb2); (try clear hk); (try clear hi); (try clear ho0)))
  (try simp only [Act.put, List.setIfInBounds_toArray, List.set_cons_zero, List.set_cons_succ])
  go_cut [70] (fun v70 wc => ∃ (kq : Nat) (x70_5 : Bool), v70 = .bool x70_5 ∧ aj (aU.j0 kq l0 x70_5 = some r) ∧ aj (kq ≤ k) ∧ aj (wc.heap[gb403]? = some (.cells #[.string t401, .int .i64 t402] 31 (0, 0))) ∧ aj (Below w.heap.size w wc))
  case first =>
   have H := HC6.out
   clear HC6
   by_cases c12 : t407 = true
   ·subst c12
    have H1 : ((bg.f k t404).bind fun t408 => (if t408 = true then ((cO.f k t404 t401 t402).bind fun t409 => (if t409 = true then (if (t404.length : Int) = (wrap64 ((t398.length : Int) + 1)) then ((bL.f k t404 t401 t401).bind fun t410 => (if t410 = true then (aU.j0 k l0 false) else (aU.j0 k l0 true))) else (aU.j0 k l0 true)) else (aU.j0 k l0 true))) else (aU.j0 k l0 true))) = some r := by rw [if_pos rfl] at H; exact H
    clear H
    have H := H1
    clear H1
    replace H := Option.bind_eq_some_iff.mp H
    obtain ⟨t408, A130, H⟩ := H
    replace H : (if t408 = true then ((cO.f k t404 t401 t402).bind fun t409 => (if t409 = true then (if (t404.length : Int) = (wrap64 ((t398.length : Int) + 1)) then ((bL.f k t404 t401 t401).bind fun t410 => (if t410 = true then (aU.j0 k l0 false) else (aU.j0 k l0 true))) else (aU.j0 k l0 true)) else (aU.j0 k l0 true))) else (aU.j0 k l0 true)) = some r := H
    have A13 := aj.mk A130
    clear A130
    by_cases c14 : t408 = true
    ·subst c14
     have H1 : ((cO.f k t404 t401 t402).bind fun t409 => (if t409 = true then (if (t404.length : Int) = (wrap64 ((t398.length : Int) + 1)) then ((bL.f k t404 t401 t401).bind fun t410 => (if t410 = true then (aU.j0 k l0 false) else (aU.j0 k l0 true))) else (aU.j0 k l0 true)) else (aU.j0 k l0 true))) = some r := by rw [if_pos rfl] at H; exact H
     clear H
     have H := H1
     clear H1
     replace H := Option.bind_eq_some_iff.mp H
     obtain ⟨t409, A150, H⟩ := H
     replace H : (if t409 = true then (if (t404.length : Int) = (wrap64 ((t398.length : Int) + 1)) then ((bL.f k t404 t401 t401).bind fun t410 => (if t410 = true then (aU.j0 k l0 false) else (aU.j0 k l0 true))) else (aU.j0 k l0 true)) else (aU.j0 k l0 true)) = some r := H
     have A15 := aj.mk A150
     clear A150
     by_cases c16 : t409 = true
     ·subst c16
      have H1 : (if (t404.length : Int) = (wrap64 ((t398.length : Int) + 1)) then ((bL.f k t404 t401 t401).bind fun t410 => (if t410 = true then (aU.j0 k l0 false) else (aU.j0 k l0 true))) else (aU.j0 k l0 true)) = some r := by rw [if_pos rfl] at H; exact H
      clear H
      have H := H1
      clear H1
      by_cases c17 : (t404.length : Int) = (wrap64 ((t398.length : Int) + 1))
      ·rw [if_pos c17] at H
       have c17b0 : ((t404.length : Int) == (wrap64 ((t398.length : Int) + 1))) = true := beq_iff_eq.mpr c17
       have c17b1 : ((t404.length : Int) != (wrap64 ((t398.length : Int) + 1))) = false := bne_eq_false_iff_eq.mpr c17
       clear c17
       (first | rw [c17b0] | (simp only [aG, aH]; rw [c17b0]) | skip)
       replace H := Option.bind_eq_some_iff.mp H
       obtain ⟨t410, A180, H⟩ := H
       replace H : (if t410 = true then (aU.j0 k l0 false) else (aU.j0 k l0 true)) = some r := H
       have A18 := aj.mk A180
       clear A180
       by_cases c19 : t410 = true
       ·subst c19
        have H1 : (aU.j0 k l0 false) = some r := by rw [if_pos rfl] at H; exact H
        clear H
        have H := H1
        clear H1
        have H' := aj.mk H
        clear H
        obtain ⟨Ao20, co20, eo20⟩ := Kd.dO HO406.out
        subst eo20
        go_wp2_with (first | (go_at_call 21; (with_reducible refine (bg.calls k _ _ t404 true _ ?side1 ?side2 A13.out).mono ?_); (case side1 => repeat (first | exact (Kd.bJ HO406.out).2.2 | (with_reducible refine Kd.bU ?_ _) | (with_reducible refine Kd.bV ?_ _) | (with_reducible refine Kd.cB ?_))); (case side2 => exact (Kd.bJ HO406.out).2.1); rintro e w21 ⟨rfl, hb⟩; have n0_ := aj.mk (Kd.bY (by (with_reducible repeat (first | apply Kd.aN | apply Kd.aM | apply Kd.aW)); exact HO400.out) hb); have n1_ := aj.mk (Kd.bY (by (with_reducible repeat (first | apply Kd.aN | apply Kd.aM | apply Kd.aW)); exact HO406.out) hb); have n2_ := aj.mk (bI (g := gb403) (o := .cells #[.string t401, .int .i64 t402] 31 (0, 0)) (by (with_reducible repeat (first | refine aA ?_ _ | refine aD ?_ | refine aC ?_ _)); exact BK403.out) hb); have n3_ := aj.mk (aY (by repeat (first | (with_reducible first | exact HB.out | apply au | apply ah | apply ak | refine ay ?_ GE403.out) | exact HB.out)) hb); clear HO400; clear HO406; clear BK403; clear HB; have HO400 := n0_; have HO406 := n1_; have BK403 := n2_; have HB := n3_; clear n0_ n1_ n2_ n3_; (try clear hb); (try clear hb2); (try clear hk); (try clear hi); have hcz22_0 : w21.cell? ⟨gb403, 0, none⟩ = some (.string t401) := (aT BK403.out 0).trans rfl; have hcz22_1 : w21.cell? ⟨gb403, 1, none⟩ = some (.int .i64 t402) := (aT BK403.out 1).trans rfl; have hfz22_0 := bG BK403.out 0; have hfz22_1 := bG BK403.out 1) | (go_at_call 22; (with_reducible refine (cO.calls k _ _ t404 t401 t402 true _ ?side1 ?side2 A15.out).mono ?_); (case side1 => repeat (first | exact (Kd.bJ HO406.out).2.2 | (with_reducible refine Kd.bU ?_ _) | (with_reducible refine Kd.bV ?_ _) | (with_reducible refine Kd.cB ?_))); (case side2 => exact (Kd.bJ HO406.out).2.1); rintro e w23 ⟨rfl, hb⟩; have n0_ := aj.mk (Kd.bY (by (with_reducible repeat (first | apply Kd.aN | apply Kd.aM | apply Kd.aW)); exact HO400.out) hb); have n1_ := aj.mk (Kd.bY (by (with_reducible repeat (first | apply Kd.aN | apply Kd.aM | apply Kd.aW)); exact HO406.out) hb); have n2_ := aj.mk (bI (g := gb403) (o := .cells #[.string t401, .int .i64 t402] 31 (0, 0)) (by (with_reducible repeat (first | refine aA ?_ _ | refine aD ?_ | refine aC ?_ _)); exact BK403.out) hb); have n3_ := aj.mk (aY (by repeat (first | (with_reducible first | exact HB.out | apply au | apply ah | apply ak | refine ay ?_ GE403.out) | exact HB.out)) hb); clear HO400; clear HO406; clear BK403; clear HB; have HO400 := n0_; have HO406 := n1_; have BK403 := n2_; have HB := n3_; clear n0_ n1_ n2_ n3_; (try clear hb); (try clear hb2); (try clear hk); (try clear hi); have hcz24_0 : w23.cell? ⟨gb403, 0, none⟩ = some (.string t401) := (aT BK403.out 0).trans rfl; have hcz24_1 : w23.cell? ⟨gb403, 1, none⟩ = some (.int .i64 t402) := (aT BK403.out 1).trans rfl; have hfz24_0 := bG BK403.out 0; have hfz24_1 := bG BK403.out 1) | (go_at_call 23; (with_reducible refine (bL.calls k _ _ t404 t401 t401 true _ ?side1 ?side2 A18.out).mono ?_); (case side1 => repeat (first | exact (Kd.bJ HO406.out).2.2 | (with_reducible refine Kd.bU ?_ _) | (with_reducible refine Kd.bV ?_ _) | (with_reducible refine Kd.cB ?_))); (case side2 => exact (Kd.bJ HO406.out).2.1); rintro e w25 ⟨rfl, hb⟩; have n0_ := aj.mk (Kd.bY (by (with_reducible repeat (first | apply Kd.aN | apply Kd.aM | apply Kd.aW)); exact HO400.out) hb); have n1_ := aj.mk (Kd.bY (by (with_reducible repeat (first | apply Kd.aN | apply Kd.aM | apply Kd.aW)); exact HO406.out) hb); have n2_ := aj.mk (bI (g := gb403) (o := .cells #[.string t401, .int .i64 t402] 31 (0, 0)) (by (with_reducible repeat (first | refine aA ?_ _ | refine aD ?_ | refine aC ?_ _)); exact BK403.out) hb); have n3_ := aj.mk (aY (by repeat (first | (with_reducible first | exact HB.out | apply au | apply ah | apply ak | refine ay ?_ GE403.out) | exact HB.out)) hb); clear HO400; clear HO406; clear BK403; clear HB; have HO400 := n0_; have HO406 := n1_; have BK403 := n2_; have HB := n3_; clear n0_ n1_ n2_ n3_; (try clear hb); (try clear hb2); (try clear hk); (try clear hi)))
        go_meet
        case rel => exact ⟨_, (false), (by first | rfl | (simp; done) | (simp [*]; done) | (simp [*]; simp [bne]; done)), H', ⟨by first | omega | exact Nat.le_refl _⟩, ⟨by (with_reducible repeat (first | refine aA ?_ _ | refine aD ?_ | refine aC ?_ _)); exact BK403.out⟩, ⟨by repeat (first | (with_reducible first | exact HB.out | apply au | apply ah | apply ak | refine ay ?_ GE403.out) | exact HB.out)⟩⟩
       ·replace c19 := Bool.eq_false_iff.mpr c19
        subst c19
        have H1 : (aU.j0 k l0 true) = some r := by rw [if_neg (show ¬ (false = true) by decide)] at H; exact H
        clear H
        have H := H1
        clear H1
        have H' := aj.mk H
        clear H
        obtain ⟨Ao26, co26, eo26⟩ := Kd.dO HO406.out
        subst eo26
        go_wp2_with (first | (go_at_call 21; (with_reducible refine (bg.calls k _ _ t404 true _ ?side1 ?side2 A13.out).mono ?_); (case side1 => repeat (first | exact (Kd.bJ HO406.out).2.2 | (with_reducible refine Kd.bU ?_ _) | (with_reducible refine Kd.bV ?_ _) | (with_reducible refine Kd.cB ?_))); (case side2 => exact (Kd.bJ HO406.out).2.1); rintro e w27 ⟨rfl, hb⟩; have n0_ := aj.mk (Kd.bY (by (with_reducible repeat (first | apply Kd.aN | apply Kd.aM | apply Kd.aW)); exact HO400.out) hb); have n1_ := aj.mk (Kd.bY (by (with_reducible repeat (first | apply Kd.aN | apply Kd.aM | apply Kd.aW)); exact HO406.out) hb); have n2_ := aj.mk (bI (g := gb403) (o := .cells #[.string t401, .int .i64 t402] 31 (0, 0)) (by (with_reducible repeat (first | refine aA ?_ _ | refine aD ?_ | refine aC ?_ _)); exact BK403.out) hb); have n3_ := aj.mk (aY (by repeat (first | (with_reducible first | exact HB.out | apply au | apply ah | apply ak | refine ay ?_ GE403.out) | exact HB.out)) hb); clear HO400; clear HO406; clear BK403; clear HB; have HO400 := n0_; have HO406 := n1_; have BK403 := n2_; have HB := n3_; clear n0_ n1_ n2_ n3_; (try clear hb); (try clear hb2); (try clear hk); (try clear hi); have hcz28_0 : w27.cell? ⟨gb403, 0, none⟩ = some (.string t401) := (aT BK403.out 0).trans rfl; have hcz28_1 : w27.cell? ⟨gb403, 1, none⟩ = some (.int .i64 t402) := (aT BK403.out 1).trans rfl; have hfz28_0 := bG BK403.out 0; have hfz28_1 := bG BK403.out 1) | (go_at_call 22; (with_reducible refine (cO.calls k _ _ t404 t401 t402 true _ ?side1 ?side2 A15.out).mono ?_); (case side1 => repeat (first | exact (Kd.bJ HO406.out).2.2 | (with_reducible refine Kd.bU ?_ _) | (with_reducible refine Kd.bV ?_ _) | (with_reducible refine Kd.cB ?_))); (case side2 => exact (Kd.bJ HO406.out).2.1); rintro e w29 ⟨rfl, hb⟩; have n0_ := aj.mk (Kd.bY (by (with_reducible repeat (first | apply Kd.aN | apply Kd.aM | apply Kd.aW)); exact HO400.out) hb); have n1_ := aj.mk (Kd.bY (by (with_reducible repeat (first | apply Kd.aN | apply Kd.aM | apply Kd.aW)); exact HO406.out) hb); have n2_ := aj.mk (bI (g := gb403) (o := .cells #[.string t401, .int .i64 t402] 31 (0, 0)) (by (with_reducible repeat (first | refine aA ?_ _ | refine aD ?_ | refine aC ?_ _)); exact BK403.out) hb); have n3_ := aj.mk (aY (by repeat (first | (with_reducible first | exact HB.out | apply au | apply ah | apply ak | refine ay ?_ GE403.out) | exact HB.out)) hb); clear HO400; clear HO406; clear BK403; clear HB; have HO400 := n0_; have HO406 := n1_; have BK403 := n2_; have HB := n3_; clear n0_ n1_ n2_ n3_; (try clear hb); (try clear hb2); (try clear hk); (try clear hi); have hcz30_0 : w29.cell? ⟨gb403, 0, none⟩ = some (.string t401) := (aT BK403.out 0).trans rfl; have hcz30_1 : w29.cell? ⟨gb403, 1, none⟩ = some (.int .i64 t402) := (aT BK403.out 1).trans rfl; have hfz30_0 := bG BK403.out 0; have hfz30_1 := bG BK403.out 1) | (go_at_call 23; (with_reducible refine (bL.calls k _ _ t404 t401 t401 false _ ?side1 ?side2 A18.out).mono ?_); (case side1 => repeat (first | exact (Kd.bJ HO406.out).2.2 | (with_reducible refine Kd.bU ?_ _) | (with_reducible refine Kd.bV ?_ _) | (with_reducible refine Kd.cB ?_))); (case side2 => exact (Kd.bJ HO406.out).2.1); rintro e w31 ⟨rfl, hb⟩; have n0_ := aj.mk (Kd.bY (by (with_reducible repeat (first | apply Kd.aN | apply Kd.aM | apply Kd.aW)); exact HO400.out) hb); have n1_ := aj.mk (Kd.bY (by (with_reducible repeat (first | apply Kd.aN | apply Kd.aM | apply Kd.aW)); exact HO406.out) hb); have n2_ := aj.mk (bI (g := gb403) (o := .cells #[.string t401, .int .i64 t402] 31 (0, 0)) (by (with_reducible repeat (first | refine aA ?_ _ | refine aD ?_ | refine aC ?_ _)); exact BK403.out) hb); have n3_ := aj.mk (aY (by repeat (first | (with_reducible first | exact HB.out | apply au | apply ah | apply ak | refine ay ?_ GE403.out) | exact HB.out)) hb); clear HO400; clear HO406; clear BK403; clear HB; have HO400 := n0_; have HO406 := n1_; have BK403 := n2_; have HB := n3_; clear n0_ n1_ n2_ n3_; (try clear hb); (try clear hb2); (try clear hk); (try clear hi)))
        go_meet
        case rel => exact ⟨_, (true), (by first | rfl | (simp; done) | (simp [*]; done) | (simp [*]; simp [bne]; done)), H', ⟨by first | omega | exact Nat.le_refl _⟩, ⟨by (with_reducible repeat (first | refine aA ?_ _ | refine aD ?_ | refine aC ?_ _)); exact BK403.out⟩, ⟨by repeat (first | (with_reducible first | exact HB.out | apply au | apply ah | apply ak | refine ay ?_ GE403.out) | exact HB.out)⟩⟩
      ·rw [if_neg c17] at H
       have c17b0 : ((t404.length : Int) == (wrap64 ((t398.length : Int) + 1))) = false := beq_eq_false_iff_ne.mpr c17
       have c17b1 : ((t404.length : Int) != (wrap64 ((t398.length : Int) + 1))) = true := bne_iff_ne.mpr c17
       (first | rw [c17b0] | (simp only [aG, aH]; rw [c17b0]) | skip)
       have H' := aj.mk H
       clear H
       obtain ⟨Ao32, co32, eo32⟩ := Kd.dO HO406.out
       subst eo32
       go_wp2_with (first | (go_at_call 21; (with_reducible refine (bg.calls k _ _ t404 true _ ?side1 ?side2 A13.out).mono ?_); (case side1 => repeat (first | exact (Kd.bJ HO406.out).2.2 | (with_reducible refine Kd.bU ?_ _) | (with_reducible refine Kd.bV ?_ _) | (with_reducible refine Kd.cB ?_))); (case side2 => exact (Kd.bJ HO406.out).2.1); rintro e w33 ⟨rfl, hb⟩; have n0_ := aj.mk (Kd.bY (by (with_reducible repeat (first | apply Kd.aN | apply Kd.aM | apply Kd.aW)); exact HO400.out) hb); have n1_ := aj.mk (Kd.bY (by (with_reducible repeat (first | apply Kd.aN | apply Kd.aM | apply Kd.aW)); exact HO406.out) hb); have n2_ := aj.mk (bI (g := gb403) (o := .cells #[.string t401, .int .i64 t402] 31 (0, 0)) (by (with_reducible repeat (first | refine aA ?_ _ | refine aD ?_ | refine aC ?_ _)); exact BK403.out) hb); have n3_ := aj.mk (aY (by repeat (first | (with_reducible first | exact HB.out | apply au | apply ah | apply ak | refine ay ?_ GE403.out) | exact HB.out)) hb); clear HO400; clear HO406; clear BK403; clear HB; have HO400 := n0_; have HO406 := n1_; have BK403 := n2_; have HB := n3_; clear n0_ n1_ n2_ n3_; (try clear hb); (try clear hb2); (try clear hk); (try clear hi); have hcz34_0 : w33.cell? ⟨gb403, 0, none⟩ = some (.string t401) := (aT BK403.out 0).trans rfl; have hcz34_1 : w33.cell? ⟨gb403, 1, none⟩ = some (.int .i64 t402) := (aT BK403.out 1).trans rfl; have hfz34_0 := bG BK403.out 0; have hfz34_1 := bG BK403.out 1) | (go_at_call 22; (with_reducible refine (cO.calls k _ _ t404 t401 t402 true _ ?side1 ?side2 A15.out).mono ?_); (case side1 => repeat (first | exact (Kd.bJ HO406.out).2.2 | (with_reducible refine Kd.bU ?_ _) | (with_reducible refine Kd.bV ?_ _) | (with_reducible refine Kd.cB ?_))); (case side2 => exact (Kd.bJ HO406.out).2.1); rintro e w35 ⟨rfl, hb⟩; have n0_ := aj.mk (Kd.bY (by (with_reducible repeat (first | apply Kd.aN | apply Kd.aM | apply Kd.aW)); exact HO400.out) hb); have n1_ := aj.mk (Kd.bY (by (with_reducible repeat (first | apply Kd.aN | apply Kd.aM | apply Kd.aW)); exact HO406.out) hb); have n2_ := aj.mk (bI (g := gb403) (o := .cells #[.string t401, .int .i64 t402] 31 (0, 0)) (by (with_reducible repeat (first | refine aA ?_ _ | refine aD ?_ | refine aC ?_ _)); exact BK403.out) hb); have n3_ := aj.mk (aY (by repeat (first | (with_reducible first | exact HB.out | apply au | apply ah | apply ak | refine ay ?_ GE403.out) | exact HB.out)) hb); clear HO400; clear HO406; clear BK403; clear HB; have HO400 := n0_; have HO406 := n1_; have BK403 := n2_; have HB := n3_; clear n0_ n1_ n2_ n3_; (try clear hb); (try clear hb2); (try clear hk); (try clear hi)))
       go_meet
       case rel => exact ⟨_, (true), (by first | rfl | (simp; done) | (simp [*]; done) | (simp [*]; simp [bne]; done)), H', ⟨by first | omega | exact Nat.le_refl _⟩, ⟨by (with_reducible repeat (first | refine aA ?_ _ | refine aD ?_ | refine aC ?_ _)); exact BK403.out⟩, ⟨by repeat (first | (with_reducible first | exact HB.out | apply au | apply ah | apply ak | refine ay ?_ GE403.out) | exact HB.out)⟩⟩
     ·replace c16 := Bool.eq_false_iff.mpr c16
      subst c16
      have H1 : (aU.j0 k l0 true) = some r := by rw [if_neg (show ¬ (false = true) by decide)] at H; exact H
      clear H
      have H := H1
      clear H1
      have H' := aj.mk H
      clear H
      obtain ⟨Ao36, co36, eo36⟩ := Kd.dO HO406.out
      subst eo36
      go_wp2_with (first | (go_at_call 21; (with_reducible refine (bg.calls k _ _ t404 true _ ?side1 ?side2 A13.out).mono ?_); (case side1 => repeat (first | exact (Kd.bJ HO406.out).2.2 | (with_reducible refine Kd.bU ?_ _) | (with_reducible refine Kd.bV ?_ _) | (with_reducible refine Kd.cB ?_))); (case side2 => exact (Kd.bJ HO406.out).2.1); rintro e w37 ⟨rfl, hb⟩; have n0_ := aj.mk (Kd.bY (by (with_reducible repeat (first | apply Kd.aN | apply Kd.aM | apply Kd.aW)); exact HO400.out) hb); have n1_ := aj.mk (Kd.bY (by (with_reducible repeat (first | apply Kd.aN | apply Kd.aM | apply Kd.aW)); exact HO406.out) hb); have n2_ := aj.mk (bI (g := gb403) (o := .cells #[.string t401, .int .i64 t402] 31 (0, 0)) (by (with_reducible repeat (first | refine aA ?_ _ | refine aD ?_ | refine aC ?_ _)); exact BK403.out) hb); have n3_ := aj.mk (aY (by repeat (first | (with_reducible first | exact HB.out | apply au | apply ah | apply ak | refine ay ?_ GE403.out) | exact HB.out)) hb); clear HO400; clear HO406; clear BK403; clear HB; have HO400 := n0_; have HO406 := n1_; have BK403 := n2_; have HB := n3_; clear n0_ n1_ n2_ n3_; (try clear hb); (try clear hb2); (try clear hk); (try clear hi); have hcz38_0 : w37.cell? ⟨gb403, 0, none⟩ = some (.string t401) := (aT BK403.out 0).trans rfl; have hcz38_1 : w37.cell? ⟨gb403, 1, none⟩ = some (.int .i64 t402) := (aT BK403.out 1).trans rfl; have hfz38_0 := bG BK403.out 0; have hfz38_1 := bG BK403.out 1) | (go_at_call 22; (with_reducible refine (cO.calls k _ _ t404 t401 t402 false _ ?side1 ?side2 A15.out).mono ?_); (case side1 => repeat (first | exact (Kd.bJ HO406.out).2.2 | (with_reducible refine Kd.bU ?_ _) | (with_reducible refine Kd.bV ?_ _) | (with_reducible refine Kd.cB ?_))); (case side2 => exact (Kd.bJ HO406.out).2.1); rintro e w39 ⟨rfl, hb⟩; have n0_ := aj.mk (Kd.bY (by (with_reducible repeat (first | apply Kd.aN | apply Kd.aM | apply Kd.aW)); exact HO400.out) hb); have n1_ := aj.mk (Kd.bY (by (with_reducible repeat (first | apply Kd.aN | apply Kd.aM | apply Kd.aW)); exact HO406.out) hb); have n2_ := aj.mk (bI (g := gb403) (o := .cells #[.string t401, .int .i64 t402] 31 (0, 0)) (by (with_reducible repeat (first | refine aA ?_ _ | refine aD ?_ | refine aC ?_ _)); exact BK403.out) hb); have n3_ := aj.mk (aY (by repeat (first | (with_reducible first | exact HB.out | apply au | apply ah | apply ak | refine ay ?_ GE403.out) | exact HB.out)) hb); clear HO400; clear HO406; clear BK403; clear HB; have HO400 := n0_; have HO406 := n1_; have BK403 := n2_; have HB := n3_; clear n0_ n1_ n2_ n3_; (try clear hb); (try clear hb2); (try clear hk); (try clear hi)))
      go_meet
      case rel => exact ⟨_, (true), (by first | rfl | (simp; done) | (simp [*]; done) | (simp [*]; simp [bne]; done)), H', ⟨by first | omega | exact Nat.le_refl _⟩, ⟨by (with_reducible repeat (first | refine aA ?_ _ | refine aD ?_ | refine aC ?_ _)); exact BK403.out⟩, ⟨by repeat (first | (with_reducible first | exact HB.out | apply au | apply ah | apply ak | refine ay ?_ GE403.out) | exact HB.out)⟩⟩
    ·replace c14 := Bool.eq_false_iff.mpr c14
     subst c14
     have H1 : (aU.j0 k l0 true) = some r := by rw [if_neg (show ¬ (false = true) by decide)] at H; exact H
     clear H
     have H := H1
     clear H1
     have H' := aj.mk H
     clear H
     obtain ⟨Ao40, co40, eo40⟩ := Kd.dO HO406.out
     subst eo40
     go_wp2_with (first | (go_at_call 21; (with_reducible refine (bg.calls k _ _ t404 false _ ?side1 ?side2 A13.out).mono ?_); (case side1 => repeat (first | exact (Kd.bJ HO406.out).2.2 | (with_reducible refine Kd.bU ?_ _) | (with_reducible refine Kd.bV ?_ _) | (with_reducible refine Kd.cB ?_))); (case side2 => exact (Kd.bJ HO406.out).2.1); rintro e w41 ⟨rfl, hb⟩; have n0_ := aj.mk (Kd.bY (by (with_reducible repeat (first | apply Kd.aN | apply Kd.aM | apply Kd.aW)); exact HO400.out) hb); have n1_ := aj.mk (Kd.bY (by (with_reducible repeat (first | apply Kd.aN | apply Kd.aM | apply Kd.aW)); exact HO406.out) hb); have n2_ := aj.mk (bI (g := gb403) (o := .cells #[.string t401, .int .i64 t402] 31 (0, 0)) (by (with_reducible repeat (first | refine aA ?_ _ | refine aD ?_ | refine aC ?_ _)); exact BK403.out) hb); have n3_ := aj.mk (aY (by repeat (first | (with_reducible first | exact HB.out | apply au | apply ah | apply ak | refine ay ?_ GE403.out) | exact HB.out)) hb); clear HO400; clear HO406; clear BK403; clear HB; have HO400 := n0_; have HO406 := n1_; have BK403 := n2_; have HB := n3_; clear n0_ n1_ n2_ n3_; (try clear hb); (try clear hb2); (try clear hk); (try clear hi)))
     go_meet
     case rel => exact ⟨_, (true), (by first | rfl | (simp; done) | (simp [*]; done) | (simp [*]; simp [bne]; done)), H', ⟨by first | omega | exact Nat.le_refl _⟩, ⟨by (with_reducible repeat (first | refine aA ?_ _ | refine aD ?_ | refine aC ?_ _)); exact BK403.out⟩, ⟨by repeat (first | (with_reducible first | exact HB.out | apply au | apply ah | apply ak | refine ay ?_ GE403.out) | exact HB.out)⟩⟩
   ·replace c12 := Bool.eq_false_iff.mpr c12
    subst c12
    have H1 : (aU.j0 k l0 ((t404.length : Int) != (t398.length : Int))) = some r := by rw [if_neg (show ¬ (false = true) by decide)] at H; exact H
    clear H
    have H := H1
    clear H1
    have H' := aj.mk H
    clear H
    obtain ⟨Ao42, co42, eo42⟩ := Kd.dO HO406.out
    subst eo42
    go_wp2
    go_meet
    case rel => exact ⟨_, (((t404.length : Int) != (t398.length : Int))), (by first | rfl | (simp; done) | (simp [*]; done) | (simp [*]; simp [bne]; done)), H', ⟨by first | omega | exact Nat.le_refl _⟩, ⟨by (with_reducible repeat (first | refine aA ?_ _ | refine aD ?_ | refine aC ?_ _)); exact BK403.out⟩, ⟨by repeat (first | (with_reducible first | exact HB.out | apply au | apply ah | apply ak | refine ay ?_ GE403.out) | exact HB.out)⟩⟩
  case rest =>
   clear HC6
   try clear c3
   try clear hcz9_0
   try clear hcz9_1
   try clear hfz9_0
   try clear hfz9_1
   obtain ⟨kq, x70_5, rfl, HA, HJ5, BK403, HB⟩ := hcut
   cases kq with
   | zero => exact absurd HA.out (by simp [aU.j0])
   | succ kj5 =>
    have H := HA.out
    clear HA
    simp only [aU.j0] at H
    by_cases c43 : x70_5 = true
    ·subst c43
     have H1 : (some false) = some r := by rw [if_pos rfl] at H; exact H
     clear H
     have H := H1
     clear H1
     obtain rfl := Option.some.inj H
     go_wp2
     go_ret
     exact ⟨by first | rfl | (simp [bA, bB] <;> rfl) | (simp [*, bA, bB] <;> rfl), by repeat (first | (with_reducible first | exact HB.out | apply au | apply ah | apply ak | refine ay ?_ GE403.out) | exact HB.out)⟩
    ·replace c43 := Bool.eq_false_iff.mpr c43
     subst c43
     have H1 : ((eU.f kj5 l0).bind fun bt411 => ((bL.f kj5 bt411.1 bt411.2.1 bt411.2.2).bind fun t416 => ((bL.f kj5 bt411.1 bt411.2.2 bt411.2.1).bind fun t417 => (if (t416 != t417) = true then (aU.j1 kj5 l0 true) else ((bL.f kj5 bt411.1 bt411.2.1 bt411.2.1).bind fun t418 => ((cu.f kj5 bt411.1 bt411.2.1).bind fun t419 => (aU.j1 kj5 l0 (t418 != (decide ((t419.length : Int) > 0)))))))))) = some r := by rw [if_neg (show ¬ (false = true) by decide)] at H; exact H
     clear H
     have H := H1
     clear H1
     replace H := Option.bind_eq_some_iff.mp H
     obtain ⟨⟨t411, t412, t413⟩, A440, H⟩ := H
     replace H : ((bL.f kj5 t411 t412 t413).bind fun t416 => ((bL.f kj5 t411 t413 t412).bind fun t417 => (if (t416 != t417) = true then (aU.j1 kj5 l0 true) else ((bL.f kj5 t411 t412 t412).bind fun t418 => ((cu.f kj5 t411 t412).bind fun t419 => (aU.j1 kj5 l0 (t418 != (decide ((t419.length : Int) > 0))))))))) = some r := H
     have A44 := aj.mk A440
     clear A440
     have HC45 := aj.mk H
     clear H
     go_upto_region 8 with (first | ((with_reducible refine bq (f := 24) rfl ?_); refine bT (some 73) rfl rfl Try.func24 (by kernel_rfl) rfl #[.slice A0 l0.length c0] rfl (by (try simp only [List.map_toArray, List.map_cons, List.map_nil]); first | done | rfl | (simp only [List.length_drop, List.length_take]; rfl)) ?_; (with_reducible refine (eU.calls kj5 _ _ l0 t411 t412 t413 _ ?side1 ?side2 A44.out).mono ?_); (case side1 => repeat (first | exact (Kd.dS HR0.out HB.out) | (with_reducible refine Kd.bU ?_ _) | (with_reducible refine Kd.bV ?_ _) | (with_reducible refine Kd.cB ?_))); (case side2 => exact HC0.out); rintro e w46 ⟨v414, rfl, ho0, hb⟩; refine ⟨_, rfl, ?_⟩; have n0_ := aj.mk (Kd.cK (Kd.fq ho0 (g := gb403) (o := .cells #[.string t401, .int .i64 t402] 31 (0, 0)) (by (with_reducible repeat (first | refine aA ?_ _ | refine aD ?_ | refine aC ?_ _)); exact BK403.out)) (bf (by repeat (first | (with_reducible first | exact HB.out | apply au | apply ah | apply ak | refine ay ?_ GE403.out) | exact HB.out)))); have n1_ := aj.mk (bI (g := gb403) (o := .cells #[.string t401, .int .i64 t402] 31 (0, 0)) (by (with_reducible repeat (first | refine aA ?_ _ | refine aD ?_ | refine aC ?_ _)); exact BK403.out) hb); have n2_ := aj.mk (aY (by repeat (first | (with_reducible first | exact HB.out | apply au | apply ah | apply ak | refine ay ?_ GE403.out) | exact HB.out)) hb); clear BK403; clear HB; have HO415 := n0_; have BK403 := n1_; have HB := n2_; clear n0_ n1_ n2_; (try clear hb); (try clear hb2); (try clear hk); (try clear hi); (try clear ho0)))
     (try simp only [Act.put, List.setIfInBounds_toArray, List.set_cons_zero, List.set_cons_succ])
     go_cut [97] (fun v97 wc => ∃ (kq : Nat) (x97_44 : Bool), v97 = .bool x97_44 ∧ aj (aU.j1 kq l0 x97_44 = some r) ∧ aj (kq ≤ kj5) ∧ aj (wc.heap[gb403]? = some (.cells #[.string t401, .int .i64 t402] 31 (0, 0))) ∧ aj (Below w.heap.size w wc))
     case first =>
      have H := HC45.out
      clear HC45
      replace H := Option.bind_eq_some_iff.mp H
      obtain ⟨t416, A470, H⟩ := H
      replace H : ((bL.f kj5 t411 t413 t412).bind fun t417 => (if (t416 != t417) = true then (aU.j1 kj5 l0 true) else ((bL.f kj5 t411 t412 t412).bind fun t418 => ((cu.f kj5 t411 t412).bind fun t419 => (aU.j1 kj5 l0 (t418 != (decide ((t419.length : Int) > 0)))))))) = some r := H
      have A47 := aj.mk A470
      clear A470
      replace H := Option.bind_eq_some_iff.mp H
      obtain ⟨t417, A480, H⟩ := H
      replace H : (if (t416 != t417) = true then (aU.j1 kj5 l0 true) else ((bL.f kj5 t411 t412 t412).bind fun t418 => ((cu.f kj5 t411 t412).bind fun t419 => (aU.j1 kj5 l0 (t418 != (decide ((t419.length : Int) > 0))))))) = some r := H
      have A48 := aj.mk A480
      clear A480
      by_cases c49 : (t416 != t417) = true
      ·rw [if_pos c49] at H
       have c49b0 : (t416 != t417) = true := c49
       (try (have c49b1 : decide (t416 = t417) = false := by simpa using c49))
       (try (have c49b2 : (t416 == t417) = false := by simpa using c49))
       (try (have c49b3 : ¬ (t416 = t417) := by simpa using c49))
       clear c49
       (first | rw [c49b0] | (simp only [aG, aH]; rw [c49b0]) | skip)
       have H' := aj.mk H
       clear H
       obtain ⟨Ao50, co50, eo50⟩ := Kd.dO HO415.out
       subst eo50
       go_wp2_with (first | ((with_reducible refine bq (f := 23) rfl ?_); refine bT (some 80) rfl rfl Try.func23 (by kernel_rfl) rfl #[.slice Ao50 t411.length co50, .string t412, .string t413] rfl (by (try simp only [List.map_toArray, List.map_cons, List.map_nil]); first | done | rfl | (simp only [List.length_drop, List.length_take]; rfl)) ?_; (with_reducible refine (bL.calls kj5 _ _ t411 t412 t413 t416 _ ?side1 ?side2 A47.out).mono ?_); (case side1 => repeat (first | exact (Kd.bJ HO415.out).2.2 | (with_reducible refine Kd.bU ?_ _) | (with_reducible refine Kd.bV ?_ _) | (with_reducible refine Kd.cB ?_))); (case side2 => exact (Kd.bJ HO415.out).2.1); rintro e w51 ⟨rfl, hb⟩; refine ⟨_, rfl, ?_⟩; have n0_ := aj.mk (Kd.bY (by (with_reducible repeat (first | apply Kd.aN | apply Kd.aM | apply Kd.aW)); exact HO415.out) hb); have n1_ := aj.mk (bI (g := gb403) (o := .cells #[.string t401, .int .i64 t402] 31 (0, 0)) (by (with_reducible repeat (first | refine aA ?_ _ | refine aD ?_ | refine aC ?_ _)); exact BK403.out) hb); have n2_ := aj.mk (aY (by repeat (first | (with_reducible first | exact HB.out | apply au | apply ah | apply ak | refine ay ?_ GE403.out) | exact HB.out)) hb); clear HO415; clear BK403; clear HB; have HO415 := n0_; have BK403 := n1_; have HB := n2_; clear n0_ n1_ n2_; (try clear hb); (try clear hb2); (try clear hk); (try clear hi)) | ((with_reducible refine bq (f := 23) rfl ?_); refine bT (some 84) rfl rfl Try.func23 (by kernel_rfl) rfl #[.slice Ao50 t411.length co50, .string t413, .string t412] rfl (by (try simp only [List.map_toArray, List.map_cons, List.map_nil]); first | done | rfl | (simp only [List.length_drop, List.length_take]; rfl)) ?_; (with_reducible refine (bL.calls kj5 _ _ t411 t413 t412 t417 _ ?side1 ?side2 A48.out).mono ?_); (case side1 => repeat (first | exact (Kd.bJ HO415.out).2.2 | (with_reducible refine Kd.bU ?_ _) | (with_reducible refine Kd.bV ?_ _) | (with_reducible refine Kd.cB ?_))); (case side2 => exact (Kd.bJ HO415.out).2.1); rintro e w52 ⟨rfl, hb⟩; refine ⟨_, rfl, ?_⟩; have n0_ := aj.mk (Kd.bY (by (with_reducible repeat (first | apply Kd.aN | apply Kd.aM | apply Kd.aW)); exact HO415.out) hb); have n1_ := aj.mk (bI (g := gb403) (o := .cells #[.string t401, .int .i64 t402] 31 (0, 0)) (by (with_reducible repeat (first | refine aA ?_ _ | refine aD ?_ | refine aC ?_ _)); exact BK403.out) hb); have n2_ := aj.mk (aY (by repeat (first | (with_reducible first | exact HB.out | apply au | apply ah | apply ak | refine ay ?_ GE403.out) | exact HB.out)) hb); clear HO415; clear BK403; clear HB; have HO415 := n0_; have BK403 := n1_; have HB := n2_; clear n0_ n1_ n2_; (try clear hb); (try clear hb2); (try clear hk); (try clear hi)))
       go_meet
       case rel => exact ⟨_, (true), (by first | rfl | (simp; done) | (simp [*]; done) | (simp [*]; simp [bne]; done)), H', ⟨by have := HJ5.out; first | omega | exact Nat.le_refl _⟩, ⟨by (with_reducible repeat (first | refine aA ?_ _ | refine aD ?_ | refine aC ?_ _)); exact BK403.out⟩, ⟨by repeat (first | (with_reducible first | exact HB.out | apply au | apply ah | apply ak | refine ay ?_ GE403.out) | exact HB.out)⟩⟩
      ·rw [if_neg c49] at H
       have c49b0 : (t416 != t417) = false := by simpa using c49
       (try (have c49b1 : decide (t416 = t417) = true := by simpa using c49))
       (try (have c49b2 : (t416 == t417) = true := by simpa using c49))
       clear c49
       (first | rw [c49b0] | (simp only [aG, aH]; rw [c49b0]) | skip)
       replace H := Option.bind_eq_some_iff.mp H
       obtain ⟨t418, A530, H⟩ := H
       replace H : ((cu.f kj5 t411 t412).bind fun t419 => (aU.j1 kj5 l0 (t418 != (decide ((t419.length : Int) > 0))))) = some r := H
       have A53 := aj.mk A530
       clear A530
       replace H := Option.bind_eq_some_iff.mp H
       obtain ⟨t419, A540, H⟩ := H
       replace H : (aU.j1 kj5 l0 (t418 != (decide ((t419.length : Int) > 0)))) = some r := H
       have A54 := aj.mk A540
       clear A540
       have H' := aj.mk H
       clear H
       obtain ⟨Ao55, co55, eo55⟩ := Kd.dO HO415.out
       subst eo55
       go_wp2_with (first | ((with_reducible refine bq (f := 23) rfl ?_); refine bT (some 80) rfl rfl Try.func23 (by kernel_rfl) rfl #[.slice Ao55 t411.length co55, .string t412, .string t413] rfl (by (try simp only [List.map_toArray, List.map_cons, List.map_nil]); first | done | rfl | (simp only [List.length_drop, List.length_take]; rfl)) ?_; (with_reducible refine (bL.calls kj5 _ _ t411 t412 t413 t416 _ ?side1 ?side2 A47.out).mono ?_); (case side1 => repeat (first | exact (Kd.bJ HO415.out).2.2 | (with_reducible refine Kd.bU ?_ _) | (with_reducible refine Kd.bV ?_ _) | (with_reducible refine Kd.cB ?_))); (case side2 => exact (Kd.bJ HO415.out).2.1); rintro e w56 ⟨rfl, hb⟩; refine ⟨_, rfl, ?_⟩; have n0_ := aj.mk (Kd.bY (by (with_reducible repeat (first | apply Kd.aN | apply Kd.aM | apply Kd.aW)); exact HO415.out) hb); have n1_ := aj.mk (bI (g := gb403) (o := .cells #[.string t401, .int .i64 t402] 31 (0, 0)) (by (with_reducible repeat (first | refine aA ?_ _ | refine aD ?_ | refine aC ?_ _)); exact BK403.out) hb); have n2_ := aj.mk (aY (by repeat (first | (with_reducible first | exact HB.out | apply au | apply ah | apply ak | refine ay ?_ GE403.out) | exact HB.out)) hb); clear HO415; clear BK403; clear HB; have HO415 := n0_; have BK403 := n1_; have HB := n2_; clear n0_ n1_ n2_; (try clear hb); (try clear hb2); (try clear hk); (try clear hi)) | ((with_reducible refine bq (f := 23) rfl ?_); refine bT (some 84) rfl rfl Try.func23 (by kernel_rfl) rfl #[.slice Ao55 t411.length co55, .string t413, .string t412] rfl (by (try simp only [List.map_toArray, List.map_cons, List.map_nil]); first | done | rfl | (simp only [List.length_drop, List.length_take]; rfl)) ?_; (with_reducible refine (bL.calls kj5 _ _ t411 t413 t412 t417 _ ?side1 ?side2 A48.out).mono ?_); (case side1 => repeat (first | exact (Kd.bJ HO415.out).2.2 | (with_reducible refine Kd.bU ?_ _) | (with_reducible refine Kd.bV ?_ _) | (with_reducible refine Kd.cB ?_))); (case side2 => exact (Kd.bJ HO415.out).2.1); rintro e w57 ⟨rfl, hb⟩; refine ⟨_, rfl, ?_⟩; have n0_ := aj.mk (Kd.bY (by (with_reducible repeat (first | apply Kd.aN | apply Kd.aM | apply Kd.aW)); exact HO415.out) hb); have n1_ := aj.mk (bI (g := gb403) (o := .cells #[.string t401, .int .i64 t402] 31 (0, 0)) (by (with_reducible repeat (first | refine aA ?_ _ | refine aD ?_ | refine aC ?_ _)); exact BK403.out) hb); have n2_ := aj.mk (aY (by repeat (first | (with_reducible first | exact HB.out | apply au | apply ah | apply ak | refine ay ?_ GE403.out) | exact HB.out)) hb); clear HO415; clear BK403; clear HB; have HO415 := n0_; have BK403 := n1_; have HB := n2_; clear n0_ n1_ n2_; (try clear hb); (try clear hb2); (try clear hk); (try clear hi)) | (go_at_call 23; (with_reducible refine (bL.calls kj5 _ _ t411 t412 t412 t418 _ ?side1 ?side2 A53.out).mono ?_); (case side1 => repeat (first | exact (Kd.bJ HO415.out).2.2 | (with_reducible refine Kd.bU ?_ _) | (with_reducible refine Kd.bV ?_ _) | (with_reducible refine Kd.cB ?_))); (case side2 => exact (Kd.bJ HO415.out).2.1); rintro e w58 ⟨rfl, hb⟩; have n0_ := aj.mk (Kd.bY (by (with_reducible repeat (first | apply Kd.aN | apply Kd.aM | apply Kd.aW)); exact HO415.out) hb); have n1_ := aj.mk (bI (g := gb403) (o := .cells #[.string t401, .int .i64 t402] 31 (0, 0)) (by (with_reducible repeat (first | refine aA ?_ _ | refine aD ?_ | refine aC ?_ _)); exact BK403.out) hb); have n2_ := aj.mk (aY (by repeat (first | (with_reducible first | exact HB.out | apply au | apply ah | apply ak | refine ay ?_ GE403.out) | exact HB.out)) hb); clear HO415; clear BK403; clear HB; have HO415 := n0_; have BK403 := n1_; have HB := n2_; clear n0_ n1_ n2_; (try clear hb); (try clear hb2); (try clear hk); (try clear hi)) | (go_at_call 25; (with_reducible refine (cu.calls kj5 _ _ t411 t412 t419 _ ?side1 ?side2 A54.out).mono ?_); (case side1 => repeat (first | exact (Kd.bJ HO415.out).2.2 | (with_reducible refine Kd.bU ?_ _) | (with_reducible refine Kd.bV ?_ _) | (with_reducible refine Kd.cB ?_))); (case side2 => exact (Kd.bJ HO415.out).2.1); rintro e w59 ⟨v420, rfl, ho0, hb⟩; have n0_ := aj.mk (Kd.bY (by (with_reducible repeat (first | apply Kd.aN | apply Kd.aM | apply Kd.aW)); exact HO415.out) hb); have n1_ := aj.mk (Kd.cK ho0 (bf (by repeat (first | (with_reducible first | exact HB.out | apply au | apply ah | apply ak | refine ay ?_ GE403.out) | exact HB.out)))); have n2_ := aj.mk (bI (g := gb403) (o := .cells #[.string t401, .int .i64 t402] 31 (0, 0)) (by (with_reducible repeat (first | refine aA ?_ _ | refine aD ?_ | refine aC ?_ _)); exact BK403.out) hb); have n3_ := aj.mk (aY (by repeat (first | (with_reducible first | exact HB.out | apply au | apply ah | apply ak | refine ay ?_ GE403.out) | exact HB.out)) hb); clear HO415; clear BK403; clear HB; have HO415 := n0_; have HO421 := n1_; have BK403 := n2_; have HB := n3_; clear n0_ n1_ n2_ n3_; (try clear hb); (try clear hb2); (try clear hk); (try clear hi); (try clear ho0); obtain ⟨Ao60, co60, eo60⟩ := Kd.dO HO421.out; subst eo60))
       go_meet
       case rel => exact ⟨_, ((t418 != (decide ((t419.length : Int) > 0)))), (by first | rfl | (simp; done) | (simp [*]; done) | (simp [*]; simp [bne]; done)), H', ⟨by have := HJ5.out; first | omega | exact Nat.le_refl _⟩, ⟨by (with_reducible repeat (first | refine aA ?_ _ | refine aD ?_ | refine aC ?_ _)); exact BK403.out⟩, ⟨by repeat (first | (with_reducible first | exact HB.out | apply au | apply ah | apply ak | refine ay ?_ GE403.out) | exact HB.out)⟩⟩
     case rest =>
      clear HC45
      try clear c3
      try clear c43
      try clear hcz9_0
      try clear hcz9_1
      try clear hfz9_0
      try clear hfz9_1
      obtain ⟨kq, x97_44, rfl, HA, HJ44, BK403, HB⟩ := hcut
      cases kq with
      | zero => exact absurd HA.out (by simp [aU.j1])
      | succ kj44 =>
       have H := HA.out
       clear HA
       simp only [aU.j1] at H
       by_cases c61 : x97_44 = true
       ·subst c61
        have H1 : (some false) = some r := by rw [if_pos rfl] at H; exact H
        clear H
        have H := H1
        clear H1
        obtain rfl := Option.some.inj H
        go_wp2
        go_ret
        exact ⟨by first | rfl | (simp [bA, bB] <;> rfl) | (simp [*, bA, bB] <;> rfl), by repeat (first | (with_reducible first | exact HB.out | apply au | apply ah | apply ak | refine ay ?_ GE403.out) | exact HB.out)⟩
       ·replace c61 := Bool.eq_false_iff.mpr c61
        subst c61
        have H1 : ((fC.f kj44 l0).bind fun bt422 => ((fJ.f kj44 bt422.1 bt422.2.1 bt422.2.2).bind fun t429 => (aU.l0 kj44 bt422.1 bt422.2.1 bt422.2.2 t429 0))) = some r := by rw [if_neg (show ¬ (false = true) by decide)] at H; exact H
        clear H
        have H := H1
        clear H1
        replace H := Option.bind_eq_some_iff.mp H
        obtain ⟨⟨t422, t423, t424⟩, A620, H⟩ := H
        replace H : ((fJ.f kj44 t422 t423 t424).bind fun t429 => (aU.l0 kj44 t422 t423 t424 t429 0)) = some r := H
        have A62 := aj.mk A620
        clear A620
        replace H := Option.bind_eq_some_iff.mp H
        obtain ⟨t429, A630, H⟩ := H
        replace H : (aU.l0 kj44 t422 t423 t424 t429 0) = some r := H
        have A63 := aj.mk A630
        clear A630
        have H' := aj.mk H
        clear H
        go_wp2_with (first | ((with_reducible refine bq (f := 26) rfl ?_); refine bT (some 100) rfl rfl Try.func26 (by kernel_rfl) rfl #[.slice A0 l0.length c0] rfl (by (try simp only [List.map_toArray, List.map_cons, List.map_nil]); first | done | rfl | (simp only [List.length_drop, List.length_take]; rfl)) ?_; (with_reducible refine (fC.calls kj44 _ _ l0 t422 t423 t424 _ ?side1 ?side2 A62.out).mono ?_); (case side1 => repeat (first | exact (Kd.dS HR0.out HB.out) | (with_reducible refine Kd.bU ?_ _) | (with_reducible refine Kd.bV ?_ _) | (with_reducible refine Kd.cB ?_))); (case side2 => exact HC0.out); rintro e w64 ⟨v425, v427, rfl, ho0, ho1, hb⟩; refine ⟨_, rfl, ?_⟩; have n0_ := aj.mk (Kd.cK (Kd.fq ho0 (g := gb403) (o := .cells #[.string t401, .int .i64 t402] 31 (0, 0)) (by (with_reducible repeat (first | refine aA ?_ _ | refine aD ?_ | refine aC ?_ _)); exact BK403.out)) (bf (by repeat (first | (with_reducible first | exact HB.out | apply au | apply ah | apply ak | refine ay ?_ GE403.out) | exact HB.out)))); have n1_ := aj.mk (Kd.cK ho1 (bf (by repeat (first | (with_reducible first | exact HB.out | apply au | apply ah | apply ak | refine ay ?_ GE403.out) | exact HB.out)))); have n2_ := aj.mk (bI (g := gb403) (o := .cells #[.string t401, .int .i64 t402] 31 (0, 0)) (by (with_reducible repeat (first | refine aA ?_ _ | refine aD ?_ | refine aC ?_ _)); exact BK403.out) hb); have n3_ := aj.mk (aY (by repeat (first | (with_reducible first | exact HB.out | apply au | apply ah | apply ak | refine ay ?_ GE403.out) | exact HB.out)) hb); clear BK403; clear HB; have HO426 := n0_; have HO428 := n1_; have BK403 := n2_; have HB := n3_; clear n0_ n1_ n2_ n3_; (try clear hb); (try clear hb2); (try clear hk); (try clear hi); (try clear ho0); (try clear ho1); obtain ⟨Ao65, co65, eo65⟩ := Kd.dO HO426.out; subst eo65; obtain ⟨Ao66, co66, eo66⟩ := Kd.dO HO428.out; subst eo66) | ((with_reducible refine bq (f := 27) rfl ?_); refine bT (some 107) rfl rfl Try.func27 (by kernel_rfl) rfl #[.slice Ao65 t422.length co65, .slice Ao66 t423.length co66, .int .i64 t424] rfl (by (try simp only [List.map_toArray, List.map_cons, List.map_nil]); first | done | rfl | (simp only [List.length_drop, List.length_take]; rfl)) ?_; (with_reducible refine (fJ.calls kj44 _ _ t422 _ _ t423 t424 t429 _ ?side1 ?side2 ?side3 ?side4 A63.out).mono ?_); (case side1 => repeat (first | exact (Kd.bJ HO426.out).2.2 | (with_reducible refine Kd.bU ?_ _) | (with_reducible refine Kd.bV ?_ _) | (with_reducible refine Kd.cB ?_))); (case side2 => exact (Kd.bJ HO426.out).2.1); (case side3 => repeat (first | exact (Kd.bJ HO428.out).2.2 | (with_reducible refine Kd.bU ?_ _) | (with_reducible refine Kd.bV ?_ _) | (with_reducible refine Kd.cB ?_))); (case side4 => exact (Kd.bJ HO428.out).2.1); rintro e w67 ⟨v430, rfl, ho0, hb⟩; refine ⟨_, rfl, ?_⟩; have n0_ := aj.mk (Kd.bY (by (with_reducible repeat (first | apply Kd.aN | apply Kd.aM | apply Kd.aW)); exact HO426.out) hb); have n1_ := aj.mk (Kd.eT (by (with_reducible repeat (first | apply Kd.aN | apply Kd.aM | apply Kd.aW)); exact HO428.out) (Kd.fZ ho0) hb); have n2_ := aj.mk (Kd.cK (Kd.gq ho0 (Kd.gM (by (with_reducible repeat (first | apply Kd.aN | apply Kd.aM | apply Kd.aW)); exact HO428.out))) (bf (by repeat (first | (with_reducible first | exact HB.out | apply au | apply ah | apply ak | refine ay ?_ GE403.out) | exact HB.out)))); have n3_ := aj.mk (bI (g := gb403) (o := .cells #[.string t401, .int .i64 t402] 31 (0, 0)) (by (with_reducible repeat (first | refine aA ?_ _ | refine aD ?_ | refine aC ?_ _)); exact BK403.out) hb); have n4_ := aj.mk (aY (by repeat (first | (with_reducible first | exact HB.out | apply au | apply ah | apply ak | refine ay ?_ GE403.out) | exact HB.out)) hb); clear HO426; clear HO428; clear BK403; clear HB; have HO426 := n0_; have HO428 := n1_; have HO431 := n2_; have BK403 := n3_; have HB := n4_; clear n0_ n1_ n2_ n3_ n4_; (try clear hb); (try clear hb2); (try clear hk); (try clear hi); (try clear ho0)))
        go_loopg [14] kj44 (fun kq v14 w' => ∃ (x14_3 : Int), v14 = .int .i64 x14_3 ∧ aj (aU.l0 kq t422 t423 t424 t429 x14_3 = some r) ∧ aj (kq ≤ kj44) ∧ aj (Kd.R k31 31 w' w.heap.size (fun k_ => k_ ≠ gb403) (.slice Ao65 t422.length co65) t422) ∧ aj (Kd.R Kd.string 9 w' w.heap.size (fun k_ => some k_ ≠ (v430 : Value).ownBlock) (.slice Ao66 t423.length co66) t423) ∧ aj (Kd.R Kd.string 9 w' w.heap.size (fun k_ => some k_ ≠ ((.slice Ao66 t423.length co66) : Value).ownBlock) v430 t429) ∧ aj (w'.heap[gb403]? = some (.cells #[.string t401, .int .i64 t402] 31 (0, 0))) ∧ aj (Below w.heap.size w w'))
        case atStart => exact ⟨(0), (by first | rfl | (simp; done) | (simp [*]; done) | (simp [*]; simp [bne]; done)), H', ⟨Nat.le_refl _⟩, ⟨by (with_reducible repeat (first | apply Kd.aN | apply Kd.aM | apply Kd.aW)); exact Kd.bO HO426.out (fun _ hk => hk.2)⟩, ⟨by (with_reducible repeat (first | apply Kd.aN | apply Kd.aM | apply Kd.aW)); exact Kd.bO HO428.out (fun _ hk => hk.2)⟩, ⟨by (with_reducible repeat (first | apply Kd.aN | apply Kd.aM | apply Kd.aW)); exact Kd.bO HO431.out (fun _ hk => hk.2)⟩, ⟨by (with_reducible repeat (first | refine aA ?_ _ | refine aD ?_ | refine aC ?_ _)); exact BK403.out⟩, ⟨by repeat (first | (with_reducible first | exact HB.out | apply au | apply ah | apply ak | refine ay ?_ GE403.out) | exact HB.out)⟩⟩
        case round =>
         clear H'
         try clear c3
         try clear c43
         try clear c61
         try clear hcz9_0
         try clear hcz9_1
         try clear hfz9_0
         try clear hfz9_1
         obtain ⟨x14_3, rfl, HA, HK3, HO_10, HO_11, HO_13, BK403, HB⟩ := hrel
         cases gk with
         | zero => exact absurd HA.out (by simp [aU.l0])
         | succ k3 =>
          have H := HA.out
          clear HA
          simp only [aU.l0] at H
          by_cases c68 : x14_3 < (t429.length : Int)
          ·rw [if_pos c68] at H
           have c68b0 : decide (x14_3 < (t429.length : Int)) = true := decide_eq_true c68
           clear c68
           by_cases c69 : 0 ≤ x14_3
           ·rw [if_pos c69] at H
            have c69b0 : decide (0 ≤ x14_3) = true := decide_eq_true c69
            clear c69
            replace H := Option.bind_eq_some_iff.mp H
            obtain ⟨t434, A700, H⟩ := H
            replace H : (if t434 = true then ((cu.f k3 t422 (fO ByteArray.empty t429 x14_3)).bind fun t436 => ((dJ.f k3 t436 t424).bind fun t439 => (if t439 = true then (aU.l0 k3 t422 t423 t424 t429 (wrap64 (x14_3 + 1))) else (some false)))) else (some false)) = some r := H
            have A70 := aj.mk A700
            clear A700
            by_cases c71 : t434 = true
            ·subst c71
             have H1 : ((cu.f k3 t422 (fO ByteArray.empty t429 x14_3)).bind fun t436 => ((dJ.f k3 t436 t424).bind fun t439 => (if t439 = true then (aU.l0 k3 t422 t423 t424 t429 (wrap64 (x14_3 + 1))) else (some false)))) = some r := by rw [if_pos rfl] at H; exact H
             clear H
             have H := H1
             clear H1
             replace H := Option.bind_eq_some_iff.mp H
             obtain ⟨t436, A720, H⟩ := H
             replace H : ((dJ.f k3 t436 t424).bind fun t439 => (if t439 = true then (aU.l0 k3 t422 t423 t424 t429 (wrap64 (x14_3 + 1))) else (some false))) = some r := H
             have A72 := aj.mk A720
             clear A720
             replace H := Option.bind_eq_some_iff.mp H
             obtain ⟨t439, A730, H⟩ := H
             replace H : (if t439 = true then (aU.l0 k3 t422 t423 t424 t429 (wrap64 (x14_3 + 1))) else (some false)) = some r := H
             have A73 := aj.mk A730
             clear A730
             by_cases c74 : t439 = true
             ·subst c74
              have H1 : (aU.l0 k3 t422 t423 t424 t429 (wrap64 (x14_3 + 1))) = some r := by rw [if_pos rfl] at H; exact H
              clear H
              have H := H1
              clear H1
              have H' := aj.mk H
              clear H
              obtain ⟨Ao75, co75, eo75⟩ := Kd.dO HO_13.out
              subst eo75
              have p433 : 0 ≤ (x14_3 : Int) := of_decide_eq_true (by first | (with_reducible assumption) | assumption)
              have q433 : x14_3 < (t429.length : Int) := of_decide_eq_true (by first | (with_reducible assumption) | assumption)
              obtain ⟨ad433, e433, hx433_0⟩ := Kd.fU (Kd.bJ HO_13.out).2.2 x14_3 p433 q433
              cases e433
              replace p433 := eq_true p433
              replace q433 := eq_true q433
              go_wp2_with (first | ((with_reducible refine bq (f := 22) rfl ?_); refine bT (some 120) rfl rfl Try.func22 (by kernel_rfl) rfl #[.slice Ao65 t422.length co65, .string (fO ByteArray.empty t429 x14_3), .int .i64 t424] rfl (by (try simp only [List.map_toArray, List.map_cons, List.map_nil]); first | done | rfl | (simp only [List.length_drop, List.length_take]; rfl)) ?_; (with_reducible refine (cO.calls k3 _ _ t422 (fO ByteArray.empty t429 x14_3) t424 true _ ?side1 ?side2 A70.out).mono ?_); (case side1 => repeat (first | exact (Kd.bJ HO_10.out).2.2 | (with_reducible refine Kd.bU ?_ _) | (with_reducible refine Kd.bV ?_ _) | (with_reducible refine Kd.cB ?_))); (case side2 => exact (Kd.bJ HO_10.out).2.1); rintro e w76 ⟨rfl, hb⟩; refine ⟨_, rfl, ?_⟩; have n0_ := aj.mk (Kd.bY (by (with_reducible repeat (first | apply Kd.aN | apply Kd.aM | apply Kd.aW)); exact HO_10.out) hb); have n1_ := aj.mk (Kd.bY (by (with_reducible repeat (first | apply Kd.aN | apply Kd.aM | apply Kd.aW)); exact HO_11.out) hb); have n2_ := aj.mk (Kd.bY (by (with_reducible repeat (first | apply Kd.aN | apply Kd.aM | apply Kd.aW)); exact HO_13.out) hb); have n3_ := aj.mk (bI (g := gb403) (o := .cells #[.string t401, .int .i64 t402] 31 (0, 0)) (by (with_reducible repeat (first | refine aA ?_ _ | refine aD ?_ | refine aC ?_ _)); exact BK403.out) hb); have n4_ := aj.mk (aY (by repeat (first | (with_reducible first | exact HB.out | apply au | apply ah | apply ak | refine ay ?_ GE403.out) | exact HB.out)) hb); clear HO_10; clear HO_11; clear HO_13; clear BK403; clear HB; have HO_10 := n0_; have HO_11 := n1_; have HO_13 := n2_; have BK403 := n3_; have HB := n4_; clear n0_ n1_ n2_ n3_ n4_; (try clear hb); (try clear hb2); (try clear hk); (try clear hi); have p435 : 0 ≤ (x14_3 : Int) := of_decide_eq_true (by first | (with_reducible assumption) | assumption); have q435 : x14_3 < (t429.length : Int) := of_decide_eq_true (by first | (with_reducible assumption) | assumption); obtain ⟨ad435, e435, hx435_0⟩ := Kd.fU (Kd.bJ HO_13.out).2.2 x14_3 p435 q435; obtain rfl : ad433 = ad435 := (by injection e435); replace p435 := eq_true p435; replace q435 := eq_true q435) | (go_at_call 25; (with_reducible refine (cu.calls k3 _ _ t422 (fO ByteArray.empty t429 x14_3) t436 _ ?side1 ?side2 A72.out).mono ?_); (case side1 => repeat (first | exact (Kd.bJ HO_10.out).2.2 | (with_reducible refine Kd.bU ?_ _) | (with_reducible refine Kd.bV ?_ _) | (with_reducible refine Kd.cB ?_))); (case side2 => exact (Kd.bJ HO_10.out).2.1); rintro e w77 ⟨v437, rfl, ho0, hb⟩; have n0_ := aj.mk (Kd.bY (by (with_reducible repeat (first | apply Kd.aN | apply Kd.aM | apply Kd.aW)); exact HO_10.out) hb); have n1_ := aj.mk (Kd.bY (by (with_reducible repeat (first | apply Kd.aN | apply Kd.aM | apply Kd.aW)); exact HO_11.out) hb); have n2_ := aj.mk (Kd.bY (by (with_reducible repeat (first | apply Kd.aN | apply Kd.aM | apply Kd.aW)); exact HO_13.out) hb); have n3_ := aj.mk (Kd.cK ho0 (bf (by repeat (first | (with_reducible first | exact HB.out | apply au | apply ah | apply ak | refine ay ?_ GE403.out) | exact HB.out)))); have n4_ := aj.mk (bI (g := gb403) (o := .cells #[.string t401, .int .i64 t402] 31 (0, 0)) (by (with_reducible repeat (first | refine aA ?_ _ | refine aD ?_ | refine aC ?_ _)); exact BK403.out) hb); have n5_ := aj.mk (aY (by repeat (first | (with_reducible first | exact HB.out | apply au | apply ah | apply ak | refine ay ?_ GE403.out) | exact HB.out)) hb); clear HO_10; clear HO_11; clear HO_13; clear BK403; clear HB; have HO_10 := n0_; have HO_11 := n1_; have HO_13 := n2_; have HO438 := n3_; have BK403 := n4_; have HB := n5_; clear n0_ n1_ n2_ n3_ n4_ n5_; (try clear hb); (try clear hb2); (try clear hk); (try clear hi); (try clear ho0); obtain ⟨Ao78, co78, eo78⟩ := Kd.dO HO438.out; subst eo78) | (go_at_call 28; (with_reducible refine (dJ.calls k3 _ _ t436 t424 true _ ?side1 ?side2 A73.out).mono ?_); (case side1 => repeat (first | exact (Kd.bJ HO438.out).2.2 | (with_reducible refine Kd.bU ?_ _) | (with_reducible refine Kd.bV ?_ _) | (with_reducible refine Kd.cB ?_))); (case side2 => exact (Kd.bJ HO438.out).2.1); rintro e w' ⟨rfl, ⟨nd, rfl⟩⟩))
              go_roundg k3
              case measure => have := HJ5.out; have := HJ44.out; have := HK3.out; omega
              case rel => exact ⟨(wrap64 (x14_3 + 1)), (by first | rfl | (simp; done) | (simp [*]; done) | (simp [*]; simp [bne]; done)), H', ⟨by have := HJ5.out; have := HJ44.out; have := HK3.out; omega⟩, ⟨by (with_reducible repeat (first | apply Kd.aN | apply Kd.aM | apply Kd.aW)); exact HO_10.out⟩, ⟨by (with_reducible repeat (first | apply Kd.aN | apply Kd.aM | apply Kd.aW)); exact HO_11.out⟩, ⟨by (with_reducible repeat (first | apply Kd.aN | apply Kd.aM | apply Kd.aW)); exact HO_13.out⟩, ⟨by (with_reducible repeat (first | refine aA ?_ _ | refine aD ?_ | refine aC ?_ _)); exact BK403.out⟩, ⟨by repeat (first | (with_reducible first | exact HB.out | apply au | apply ah | apply ak | refine ay ?_ GE403.out) | exact HB.out)⟩⟩
             ·replace c74 := Bool.eq_false_iff.mpr c74
              subst c74
              have H1 : (some false) = some r := by rw [if_neg (show ¬ (false = true) by decide)] at H; exact H
              clear H
              have H := H1
              clear H1
              obtain rfl := Option.some.inj H
              obtain ⟨Ao79, co79, eo79⟩ := Kd.dO HO_13.out
              subst eo79
              have p433 : 0 ≤ (x14_3 : Int) := of_decide_eq_true (by first | (with_reducible assumption) | assumption)
              have q433 : x14_3 < (t429.length : Int) := of_decide_eq_true (by first | (with_reducible assumption) | assumption)
              obtain ⟨ad433, e433, hx433_0⟩ := Kd.fU (Kd.bJ HO_13.out).2.2 x14_3 p433 q433
              cases e433
              replace p433 := eq_true p433
              replace q433 := eq_true q433
              go_wp2_with (first | ((with_reducible refine bq (f := 22) rfl ?_); refine bT (some 120) rfl rfl Try.func22 (by kernel_rfl) rfl #[.slice Ao65 t422.length co65, .string (fO ByteArray.empty t429 x14_3), .int .i64 t424] rfl (by (try simp only [List.map_toArray, List.map_cons, List.map_nil]); first | done | rfl | (simp only [List.length_drop, List.length_take]; rfl)) ?_; (with_reducible refine (cO.calls k3 _ _ t422 (fO ByteArray.empty t429 x14_3) t424 true _ ?side1 ?side2 A70.out).mono ?_); (case side1 => repeat (first | exact (Kd.bJ HO_10.out).2.2 | (with_reducible refine Kd.bU ?_ _) | (with_reducible refine Kd.bV ?_ _) | (with_reducible refine Kd.cB ?_))); (case side2 => exact (Kd.bJ HO_10.out).2.1); rintro e w80 ⟨rfl, hb⟩; refine ⟨_, rfl, ?_⟩; have n0_ := aj.mk (Kd.bY (by (with_reducible repeat (first | apply Kd.aN | apply Kd.aM | apply Kd.aW)); exact HO_10.out) hb); have n1_ := aj.mk (Kd.bY (by (with_reducible repeat (first | apply Kd.aN | apply Kd.aM | apply Kd.aW)); exact HO_11.out) hb); have n2_ := aj.mk (Kd.bY (by (with_reducible repeat (first | apply Kd.aN | apply Kd.aM | apply Kd.aW)); exact HO_13.out) hb); have n3_ := aj.mk (bI (g := gb403) (o := .cells #[.string t401, .int .i64 t402] 31 (0, 0)) (by (with_reducible repeat (first | refine aA ?_ _ | refine aD ?_ | refine aC ?_ _)); exact BK403.out) hb); have n4_ := aj.mk (aY (by repeat (first | (with_reducible first | exact HB.out | apply au | apply ah | apply ak | refine ay ?_ GE403.out) | exact HB.out)) hb); clear HO_10; clear HO_11; clear HO_13; clear BK403; clear HB; have HO_10 := n0_; have HO_11 := n1_; have HO_13 := n2_; have BK403 := n3_; have HB := n4_; clear n0_ n1_ n2_ n3_ n4_; (try clear hb); (try clear hb2); (try clear hk); (try clear hi); have p435 : 0 ≤ (x14_3 : Int) := of_decide_eq_true (by first | (with_reducible assumption) | assumption); have q435 : x14_3 < (t429.length : Int) := of_decide_eq_true (by first | (with_reducible assumption) | assumption); obtain ⟨ad435, e435, hx435_0⟩ := Kd.fU (Kd.bJ HO_13.out).2.2 x14_3 p435 q435; obtain rfl : ad433 = ad435 := (by injection e435); replace p435 := eq_true p435; replace q435 := eq_true q435) | (go_at_call 25; (with_reducible refine (cu.calls k3 _ _ t422 (fO ByteArray.empty t429 x14_3) t436 _ ?side1 ?side2 A72.out).mono ?_); (case side1 => repeat (first | exact (Kd.bJ HO_10.out).2.2 | (with_reducible refine Kd.bU ?_ _) | (with_reducible refine Kd.bV ?_ _) | (with_reducible refine Kd.cB ?_))); (case side2 => exact (Kd.bJ HO_10.out).2.1); rintro e w81 ⟨v437, rfl, ho0, hb⟩; have n0_ := aj.mk (Kd.bY (by (with_reducible repeat (first | apply Kd.aN | apply Kd.aM | apply Kd.aW)); exact HO_10.out) hb); have n1_ := aj.mk (Kd.bY (by (with_reducible repeat (first | apply Kd.aN | apply Kd.aM | apply Kd.aW)); exact HO_11.out) hb); have n2_ := aj.mk (Kd.bY (by (with_reducible repeat (first | apply Kd.aN | apply Kd.aM | apply Kd.aW)); exact HO_13.out) hb); have n3_ := aj.mk (Kd.cK ho0 (bf (by repeat (first | (with_reducible first | exact HB.out | apply au | apply ah | apply ak | refine ay ?_ GE403.out) | exact HB.out)))); have n4_ := aj.mk (bI (g := gb403) (o := .cells #[.string t401, .int .i64 t402] 31 (0, 0)) (by (with_reducible repeat (first | refine aA ?_ _ | refine aD ?_ | refine aC ?_ _)); exact BK403.out) hb); have n5_ := aj.mk (aY (by repeat (first | (with_reducible first | exact HB.out | apply au | apply ah | apply ak | refine ay ?_ GE403.out) | exact HB.out)) hb); clear HO_10; clear HO_11; clear HO_13; clear BK403; clear HB; have HO_10 := n0_; have HO_11 := n1_; have HO_13 := n2_; have HO438 := n3_; have BK403 := n4_; have HB := n5_; clear n0_ n1_ n2_ n3_ n4_ n5_; (try clear hb); (try clear hb2); (try clear hk); (try clear hi); (try clear ho0); obtain ⟨Ao82, co82, eo82⟩ := Kd.dO HO438.out; subst eo82) | (go_at_call 28; (with_reducible refine (dJ.calls k3 _ _ t436 t424 false _ ?side1 ?side2 A73.out).mono ?_); (case side1 => repeat (first | exact (Kd.bJ HO438.out).2.2 | (with_reducible refine Kd.bU ?_ _) | (with_reducible refine Kd.bV ?_ _) | (with_reducible refine Kd.cB ?_))); (case side2 => exact (Kd.bJ HO438.out).2.1); rintro e w' ⟨rfl, ⟨nd, rfl⟩⟩))
              go_ret
              exact ⟨by first | rfl | (simp [bA, bB] <;> rfl) | (simp [*, bA, bB] <;> rfl), by repeat (first | (with_reducible first | exact HB.out | apply au | apply ah | apply ak | refine ay ?_ GE403.out) | exact HB.out)⟩
            ·replace c71 := Bool.eq_false_iff.mpr c71
             subst c71
             have H1 : (some false) = some r := by rw [if_neg (show ¬ (false = true) by decide)] at H; exact H
             clear H
             have H := H1
             clear H1
             obtain rfl := Option.some.inj H
             obtain ⟨Ao83, co83, eo83⟩ := Kd.dO HO_13.out
             subst eo83
             have p433 : 0 ≤ (x14_3 : Int) := of_decide_eq_true (by first | (with_reducible assumption) | assumption)
             have q433 : x14_3 < (t429.length : Int) := of_decide_eq_true (by first | (with_reducible assumption) | assumption)
             obtain ⟨ad433, e433, hx433_0⟩ := Kd.fU (Kd.bJ HO_13.out).2.2 x14_3 p433 q433
             cases e433
             replace p433 := eq_true p433
             replace q433 := eq_true q433
             go_wp2_with (first | ((with_reducible refine bq (f := 22) rfl ?_); refine bT (some 120) rfl rfl Try.func22 (by kernel_rfl) rfl #[.slice Ao65 t422.length co65, .string (fO ByteArray.empty t429 x14_3), .int .i64 t424] rfl (by (try simp only [List.map_toArray, List.map_cons, List.map_nil]); first | done | rfl | (simp only [List.length_drop, List.length_take]; rfl)) ?_; (with_reducible refine (cO.calls k3 _ _ t422 (fO ByteArray.empty t429 x14_3) t424 false _ ?side1 ?side2 A70.out).mono ?_); (case side1 => repeat (first | exact (Kd.bJ HO_10.out).2.2 | (with_reducible refine Kd.bU ?_ _) | (with_reducible refine Kd.bV ?_ _) | (with_reducible refine Kd.cB ?_))); (case side2 => exact (Kd.bJ HO_10.out).2.1); rintro e w84 ⟨rfl, hb⟩; refine ⟨_, rfl, ?_⟩; have n0_ := aj.mk (Kd.bY (by (with_reducible repeat (first | apply Kd.aN | apply Kd.aM | apply Kd.aW)); exact HO_10.out) hb); have n1_ := aj.mk (Kd.bY (by (with_reducible repeat (first | apply Kd.aN | apply Kd.aM | apply Kd.aW)); exact HO_11.out) hb); have n2_ := aj.mk (Kd.bY (by (with_reducible repeat (first | apply Kd.aN | apply Kd.aM | apply Kd.aW)); exact HO_13.out) hb); have n3_ := aj.mk (bI (g := gb403) (o := .cells #[.string t401, .int .i64 t402] 31 (0, 0)) (by (with_reducible repeat (first | refine aA ?_ _ | refine aD ?_ | refine aC ?_ _)); exact BK403.out) hb); have n4_ := aj.mk (aY (by repeat (first | (with_reducible first | exact HB.out | apply au | apply ah | apply ak | refine ay ?_ GE403.out) | exact HB.out)) hb); clear HO_10; clear HO_11; clear HO_13; clear BK403; clear HB; have HO_10 := n0_; have HO_11 := n1_; have HO_13 := n2_; have BK403 := n3_; have HB := n4_; clear n0_ n1_ n2_ n3_ n4_; (try clear hb); (try clear hb2); (try clear hk); (try clear hi)))
             go_ret
             exact ⟨by first | rfl | (simp [bA, bB] <;> rfl) | (simp [*, bA, bB] <;> rfl), by repeat (first | (with_reducible first | exact HB.out | apply au | apply ah | apply ak | refine ay ?_ GE403.out) | exact HB.out)⟩
           ·rw [if_neg c69] at H
            exact absurd H (by simp)
          ·rw [if_neg c68] at H
           have c68b0 : decide (x14_3 < (t429.length : Int)) = false := decide_eq_false c68
           clear c68
           replace H := Option.bind_eq_some_iff.mp H
           obtain ⟨t432, A850, H⟩ := H
           replace H : (some t432) = some r := H
           have A85 := aj.mk A850
           clear A850
           obtain rfl := Option.some.inj H
           obtain ⟨Ao86, co86, eo86⟩ := Kd.dO HO_13.out
           subst eo86
           go_wp2_with (first | ((with_reducible refine bq (f := 29) rfl ?_); refine bT (some 135) rfl rfl Try.func29 (by kernel_rfl) rfl #[.slice Ao86 t429.length co86, .slice Ao66 t423.length co66] rfl (by (try simp only [List.map_toArray, List.map_cons, List.map_nil]); first | done | rfl | (simp only [List.length_drop, List.length_take]; rfl)) ?_; (with_reducible refine (dZ.calls k3 _ _ t429 _ _ t423 t432 _ ?side1 ?side2 ?side3 ?side4 A85.out).mono ?_); (case side1 => repeat (first | exact (Kd.bJ HO_13.out).2.2 | (with_reducible refine Kd.bU ?_ _) | (with_reducible refine Kd.bV ?_ _) | (with_reducible refine Kd.cB ?_))); (case side2 => exact (Kd.bJ HO_13.out).2.1); (case side3 => repeat (first | exact (Kd.bJ HO_11.out).2.2 | (with_reducible refine Kd.bU ?_ _) | (with_reducible refine Kd.bV ?_ _) | (with_reducible refine Kd.cB ?_))); (case side4 => exact (Kd.bJ HO_11.out).2.1); rintro e w' ⟨rfl, ⟨nd, rfl⟩⟩; refine ⟨_, rfl, ?_⟩))
           go_ret
           exact ⟨by first | rfl | (simp [bA, bB] <;> rfl) | (simp [*, bA, bB] <;> rfl), by repeat (first | (with_reducible first | exact HB.out | apply au | apply ah | apply ak | refine ay ?_ GE403.out) | exact HB.out)⟩
def aU.Pure : Prop := ∀ (l0 : List Int), l0.length ≤ maxLen → l0.length * 1 ≤ 140737488351232 → (∀ x ∈ l0, (Lit.int .u8 x).wf = true) → ∃ k, aU.f k l0 = some true
theorem aU.walk (P : aU.Pure) (a0 : Option Addr) (len0 cap0 : Nat) (z0 : List Int) (w : World) (w0 : (a0 = none ∧ len0 = 0 ∧ cap0 = 0 ∧ z0 = []) ∨ ∃ x, a0 = some x ∧ len0 ≤ cap0 ∧ cap0 ≤ maxLen ∧ z0.length = cap0 ∧ (∀ i, i < z0.length → w.cell? (x.add i) = some (.int .u8 (z0.getD i 0))) ∧ ∀ n ∈ z0, (Lit.int .u8 n).wf = true) (y0 : len0 * 1 ≤ 140737488351232) :
  Calls Try.prog 4 #[.slice a0 len0 cap0] w fun e w' => e = .returned (.bool true) ∧ Below w.heap.size w w' := by
 obtain ⟨l0, rfl, hr0, hm0, hw0, hc0⟩ := fu.rO w0
 obtain ⟨k, h⟩ := P l0 hm0 y0 hw0
 refine (aU.calls k _ _ l0 true w (Kd.oO (d := (0 : Int)) (h1 := fun _ => rfl) hr0) hc0 h).mono ?_
 rintro e w' ⟨rfl, hd⟩
 exact ⟨rfl, hd⟩
end Go.Proofs.Ythjcicmmbmagbaa.PFnSenses
