/- The program's law FnExactHasOneSolution: for every input it returns true, and each argument reads behind the call as it read before. No further condition. -/
import Derived.Test.YtdbefmkcondbgaaGreatDoorRows
import Derived.Test.YtdbefmkcondbgaaGreatDoorZHaOnSoQ
import Derived.Test.YtdbefmkcondbgaaGreatDoorZHaOnSoPure
import Derived.Test.YtdbefmkcondbgaaGreatDoorZHaOnSoOpen
import Derived.Test.YtdbefmkcondbgaaGreatDoorTie
import Derived.Test.YtdbefmkcondbgaaGreatDoorCards
import Derived.Lay
import Derived.LaidMore
import Derived.Stop.Joined
import Derived.SevenTiedAt
import Derived.WalkKit
import Derived.ProofKit
import Derived.OpenShut
import Derived.ShutString
import Derived.ChangeOld
import Derived.Below
import Derived.SizedLaws
import Derived.Carry
namespace Go.Proofs.YtdbefmkcondbgaaGreatDoor.fnExactHasOneSolution
open Go.ChangeShapes Go.WideShapes Go.ChangeAt Go.RowKit Go.Proofs.Yw.PrintWords Go.Proofs.YtdbefmkcondbgaaGreatDoor.PFnExactHasOneSolution
set_option linter.unusedVariables false
set_option linter.unusedSimpArgs false
theorem own : ownKnob Tryz.prog.godebug = none := by kernel_rfl
theorem laidOut : laidOutB Tryz.prog = true := by kernel_rfl
theorem JU {H : Type} {enc : TypeId × Value → H} {W : World} : Op.Opens enc Tryz.prog W k23 23 Lg :=
 Op.qB (fun p => (⟨p.1, p.2.1, p.2.2⟩ : S23)) (fun _ => rfl) (Op.nN Tryz.underlying23 rfl (by kernel_rfl) (Op.jM rfl (by kernel_rfl) (Op.mH Tryz.underlying3) (Op.jM rfl (by kernel_rfl) (Op.mH Tryz.underlying3) (Op.pF rfl (by kernel_rfl) (Op.oW Tryz.underlying9)))))
theorem Jc {H : Type} {enc : TypeId × Value → H} {W : World} : Op.Opens enc Tryz.prog W Ci 111 Km :=
 Op.qB (fun p => (⟨p.1, p.2.1, p.2.2.1, p.2.2.2⟩ : nU)) (fun _ => rfl) (Op.nN Tryz.underlying111 rfl (by kernel_rfl) (Op.jM rfl (by kernel_rfl) (Op.mH Tryz.underlying3) (Op.jM rfl (by kernel_rfl) (Op.oW Tryz.underlying9) (Op.jM rfl (by kernel_rfl) (Op.mH Tryz.underlying3) (Op.pF rfl (by kernel_rfl) (Op.mH Tryz.underlying3))))))
theorem JX {H : Type} {enc : TypeId × Value → H} {W : World} : Op.Opens enc Tryz.prog W k66 66 Lj :=
 Op.qB (fun p => (⟨p.1, p.2⟩ : S66)) (fun _ => rfl) (Op.nN Tryz.underlying66 rfl (by kernel_rfl) (Op.jM rfl (by kernel_rfl) (Op.mH Tryz.underlying3) (Op.pF rfl (by kernel_rfl) (Op.oC (B := 40) Tryz.underlying64 (by kernel_rfl) (by kernel_rfl) Jc))))
theorem JV {H : Type} {enc : TypeId × Value → H} {W : World} : Op.Opens enc Tryz.prog W k27 27 Lh :=
 Op.qB (fun p => (⟨p.1, p.2.1, p.2.2.1, p.2.2.2⟩ : S27)) (fun _ => rfl) (Op.nN Tryz.underlying27 rfl (by kernel_rfl) (Op.jM rfl (by kernel_rfl) JU (Op.jM rfl (by kernel_rfl) (Op.oC (B := 32) Tryz.underlying24 (by kernel_rfl) (by kernel_rfl) JX) (Op.jM rfl (by kernel_rfl) (Op.oC (B := 8) Tryz.underlying25 (by kernel_rfl) (by kernel_rfl) (Op.mH Tryz.underlying3)) (Op.pF rfl (by kernel_rfl) (Op.mH Tryz.underlying3))))))
theorem JW {H : Type} {enc : TypeId × Value → H} {W : World} : Op.Opens enc Tryz.prog W k51 51 Li :=
 Op.qB (fun p => (⟨p.1, p.2⟩ : S51)) (fun _ => rfl) (Op.nN Tryz.underlying51 rfl (by kernel_rfl) (Op.jM rfl (by kernel_rfl) (Op.oW Tryz.underlying9) (Op.pF rfl (by kernel_rfl) (Op.mH Tryz.underlying3))))
set_option maxRecDepth 100000 in
theorem lifted (os : Os) (started : os.Started) (H : Type) (enc : TypeId × Value → H) :
  ReturnsInHanded {} Tryz.checked os 3 .any (fun w args => (Rows.fnExactHasOneSolutionSpec.pre enc Tryz.prog Tryz.f3 Rows.fnExactHasOneSolutionRow.domain false w args ∧ laidMetH Tryz.prog Rows.fnExactHasOneSolutionRow.laid w) ∧ sizedMet enc Tryz.prog Tryz.f3 (OpenSpec.ofChange Rows.fnExactHasOneSolutionSpec) false w args) (Rows.fnExactHasOneSolutionSpec.post enc Tryz.prog Tryz.f3 false true false false) := by
 refine returnsInHanded_of_change_and (C := Tryz.checked) (X := fun w _ => laidMetH Tryz.prog Rows.fnExactHasOneSolutionRow.laid w) (fun _ _ _ hh h => h.of_heap hh) own started (by kernel_rfl) Tryz.func3
  (ChangeSpec.witness_shaped (enc := enc) (C := Tryz.checked) (os := os) (X := fun w _ => laidMetH Tryz.prog Rows.fnExactHasOneSolutionRow.laid w) false (World.laidAll Tryz.prog os Rows.fnExactHasOneSolutionRow.laid) #[.agg #[.int .i64 0, .int .i64 0, .string ByteArray.empty, .slice none 0 0, .slice none 0 0, .int .i64 0], .slice none 0 0, .slice none 0 0] 8 (World.laidAll_os _ _ _) (World.shaped_of_ZipB (by kernel_rfl) (by kernel_rfl)) (by kernel_rfl) (by kernel_rfl) (by kernel_rfl) (by rw [MakeChecks.laidMetH_plain _ _ _ (by kernel_rfl)]; exact laidMet_laidAll _ (by kernel_rfl) (by kernel_rfl))) ?_
 intro W base args ds gs before hval0 hW hcnd hsz0 _ _
 have hsz : (DataW.weightsEach Tryz.prog (Tryz.f3.params.toList ++ Rows.fnExactHasOneSolutionSpec.plain.varTypes Tryz.prog) (ds ++ gs)).all (· ≤ reachBytes) = true := hsz0
 have hval : ∀ (j : Nat) t v, Tryz.f3.params[j]? = some t → args[j]? = some v → Value.okWide Tryz.prog W .any base t v := hval0
 have hW' := hW
 obtain ⟨p, q, hA0, hV, rfl, hfz, hnd⟩ := hW
 have hA : DataW.TrodAll enc Tryz.prog W 0 (fun _ => true) true Tryz.f3.params.toList args.toList ds p := hA0
 rw [Tryz.params3] at hA hval hsz
 obtain ⟨v0, vs0, d0, ds0, p0, q0, hargs, rfl, rfl, h0, r0⟩ := trodAll_cons hA
 obtain ⟨v1, vs1, d1, ds1, p1, q1, rfl, rfl, rfl, h1, r1⟩ := trodAll_cons r0
 obtain ⟨v2, vs2, d2, ds2, p2, q2, rfl, rfl, rfl, h2, r2⟩ := trodAll_cons r1
 obtain ⟨rfl, rfl, rfl⟩ := trodAll_nil r2
 obtain rfl : args = #[v0, v1, v2] := by cases args; simp_all
 obtain ⟨rfl, rfl⟩ := trodVars_none hV
 have t0 := h0
 have lt0 : ∀ x ∈ p0, x.block < W.heap.size := by obtain ⟨m, hm⟩ := t0; exact DataW.trod_lt m _ _ _ hm
 obtain ⟨cs0, rfl, _⟩ := okWide_struct Tryz.underlying27 (hval 0 27 v0 rfl rfl)
 obtain ⟨y0, K0, O0⟩ := Op.Bp hsz (j := 0) rfl rfl JV h0
 obtain ⟨A0_3, c0_3, A0_4, c0_4, e0, hl0_3, hr0_3, hl0_4, hr0_4⟩ := IL K0
 obtain rfl : cs0 = #[.int .i64 y0.f0.f0, .int .i64 y0.f0.f1, .string y0.f0.f2, .slice A0_3 y0.f1.length c0_3, .slice A0_4 y0.f2.length c0_4, .int .i64 y0.f3] := Array.toList_inj.mp e0
 have t1 := h1
 have lt1 : ∀ x ∈ p1, x.block < W.heap.size := by obtain ⟨m, hm⟩ := t1; exact DataW.trod_lt m _ _ _ hm
 obtain ⟨x1, len1, cap1, rfl⟩ := okWide_slice Tryz.underlying28 (hval 1 28 v1 rfl rfl)
 obtain ⟨l1, ⟨A1, c1, e1, hl1, hr1⟩, O1⟩ := Op.Bp hsz (j := 1) rfl rfl (Op.oC (B := 24) Tryz.underlying28 (by kernel_rfl) (by kernel_rfl) JW) h1
 obtain ⟨rfl, rfl, rfl⟩ : x1 = A1 ∧ len1 = l1.length ∧ cap1 = c1 := by injection e1 with e _; injection e with e1 e2 e3; exact ⟨e1, e2, e3⟩
 have t2 := h2
 have lt2 : ∀ x ∈ p2, x.block < W.heap.size := by obtain ⟨m, hm⟩ := t2; exact DataW.trod_lt m _ _ _ hm
 obtain ⟨x2, len2, cap2, rfl⟩ := okWide_slice Tryz.underlying29 (hval 2 29 v2 rfl rfl)
 obtain ⟨l2, ⟨A2, c2, e2, hl2, hr2⟩, O2⟩ := Op.Bp hsz (j := 2) rfl rfl (Op.oC (B := 16) Tryz.underlying29 (by kernel_rfl) (by kernel_rfl) (Op.oW Tryz.underlying9)) h2
 obtain ⟨rfl, rfl, rfl⟩ : x2 = A2 ∧ len2 = l2.length ∧ cap2 = c2 := by injection e2 with e _; injection e with e1 e2 e3; exact ⟨e1, e2, e3⟩
 clear hA0 hval0 hsz0 hsz
 obtain ⟨k, hk⟩ := Pure.FnExactHasOneSolution y0 l1 l2 O0 O1 O2
 refine (fF.calls (Mc := y0.f0.f0) (Md := y0.f0.f1) (Me := y0.f0.f2) (A0_3 := A0_3) (c0_3 := c0_3) (Mf := y0.f1) (A0_4 := A0_4) (c0_4 := c0_4) (Mg := y0.f2) (Mh := y0.f3) (A1 := x1) (c1 := cap1) (l1 := l1) (A2 := x2) (c2 := cap2) (l2 := l2) (k := k) (r := true) (w := W) (hr0_3 := hr0_3) (hc0_3 := hl0_3) (hr0_4 := hr0_4) (hc0_4 := hl0_4) (hr1 := hr1) (hc1 := hl1) (hr2 := hr2) (hc2 := hl2) (h := hk)).mono fun e W' ⟨he, bel_⟩ => ?_
 have bel : Below W.heap.size W W' := bel_
 subst he
 exact ⟨_, rfl, _, _, _, [], _, [], hW', trodAll_mk1 (shut_bool Tryz.underlying4 _), (trodAll_cons_mk (Below.trod laidOut (by kernel_rfl) (of_decide_eq_true (by kernel_rfl)) t0 bel lt0) (trodAll_cons_mk (Below.trod laidOut (by kernel_rfl) (of_decide_eq_true (by kernel_rfl)) t1 bel lt1) (trodAll_cons_mk (Below.trod laidOut (by kernel_rfl) (of_decide_eq_true (by kernel_rfl)) t2 bel lt2) trodAll_mk0))), rfl, bel.frame _, fun h => by cases h⟩
theorem over : Rows.fnExactHasOneSolutionRow.holds Tryz.pinned (OpenSpec.ofChange Rows.fnExactHasOneSolutionSpec) :=
 OpenClaim.holds_of_wide 3 Tryz.f3 rfl rfl rfl rfl rfl rfl rfl ⟨rfl, rfl, rfl, rfl, rfl⟩ rfl rfl rfl rfl rfl (by kernel_rfl) Tryz.func3 (by kernel_rfl)
  (of_decide_eq_true (by kernel_rfl)) (by unfold Func.isWrapper; first | (rw [if_pos (by decide +kernel)]; kernel_rfl) | (rw [if_neg (by decide +kernel)]; exact ⟨rfl, rfl⟩))
  (fun os started H enc _ => lifted os started H enc)
theorem proved : Rows.FnExactHasOneSolutionCardSaid :=
 Claim7.holds_tied_plain_at .later [] [.data, .pinned] true (true, "5b18802742fbab83e0b68c14476b744b9a8c27f15ea0412aa0d17e0404884a67") false
  over (fun _ h => by cases h) (by kernel_rfl) (fun _ h => by cases h) fnExactHasOneSolution_row_tie rfl ⟨rfl, rfl⟩ (by kernel_rfl) rfl
  (fun f fn hf hfn => by
   obtain rfl : f = 3 := Option.some.inj ((show Tryz.prog.funcNamed "loop.example/g03003/laws.FnExactHasOneSolution" = some 3 by kernel_rfl).symm.trans hf) |>.symm
   obtain rfl : fn = Tryz.f3 := (Option.some.inj (Tryz.func3.symm.trans hfn)).symm
   exact ⟨by kernel_rfl, fun j t ht => by
    rw [Tryz.params3] at ht
    have hall : ∀ u ∈ (#[27, 28, 29] : Array TypeId).toList, Tryz.prog.wantsStandIn u = false := by
     intro u hu
     simp only [List.mem_cons, List.not_mem_nil, or_false] at hu
     rcases hu with rfl | rfl | rfl <;> kernel_rfl
    exact hall t (by rw [Array.getElem?_eq_some_iff] at ht; obtain ⟨hj, rfl⟩ := ht; exact Array.getElem_mem_toList hj)⟩)
  (by kernel_rfl)
#print axioms proved
end Go.Proofs.YtdbefmkcondbgaaGreatDoor.fnExactHasOneSolution
namespace Go.Proofs.YtdbefmkcondbgaaGreatDoor
theorem fnExactHasOneSolution_holds : Rows.FnExactHasOneSolutionCardSaid := fnExactHasOneSolution.proved
end Go.Proofs.YtdbefmkcondbgaaGreatDoor
