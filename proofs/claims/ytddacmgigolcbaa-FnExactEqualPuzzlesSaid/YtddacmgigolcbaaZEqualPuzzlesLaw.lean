/- The program's law FnExactEqualPuzzles: for every input it returns true, and each argument reads behind the call as it read before. No further condition. -/
import Derived.Test.YtddacmgigolcbaaRows
import Derived.Test.YtddacmgigolcbaaZEqualPuzzlesQ
import Derived.Test.YtddacmgigolcbaaZEqualPuzzlesPure
import Derived.Test.YtddacmgigolcbaaZEqualPuzzlesOpen
import Derived.WalkKit
import Derived.ProofKit
import Derived.OpenShut
import Derived.ShutString
import Derived.ChangeOld
import Derived.Below
import Derived.SizedLaws
import Derived.Carry
namespace Go.Proofs.Ytddacmgigolcbaa.fnExactEqualPuzzles
open Go.ChangeShapes Go.WideShapes Go.ChangeAt Go.RowKit Go.Proofs.YtddacmgigolcbaaW.PrintWords Go.Proofs.Ytddacmgigolcbaa.PFnExactEqualPuzzles
set_option linter.unusedVariables false
set_option linter.unusedSimpArgs false
theorem own : ownKnob Try.prog.godebug = none := by kernel_rfl
theorem laidOut : laidOutB Try.prog = true := by kernel_rfl
theorem opens23 {H : Type} {enc : TypeId × Value → H} {W : World} : Op.Opens enc Try.prog W k23 23 OK23 :=
  Op.opens_iso (fun p => (⟨p.1, p.2.1, p.2.2⟩ : S23)) (fun _ => rfl) (Op.opens_struct Try.underlying23 rfl (by kernel_rfl) (Op.opensF_cons rfl (by kernel_rfl) (Op.opens_int Try.underlying3) (Op.opensF_cons rfl (by kernel_rfl) (Op.opens_int Try.underlying3) (Op.opensF_one rfl (by kernel_rfl) (Op.opens_string Try.underlying9)))))
theorem opens144 {H : Type} {enc : TypeId × Value → H} {W : World} : Op.Opens enc Try.prog W k144 144 OK144 :=
  Op.opens_iso (fun p => (⟨p.1, p.2.1, p.2.2.1, p.2.2.2⟩ : S144)) (fun _ => rfl) (Op.opens_struct Try.underlying144 rfl (by kernel_rfl) (Op.opensF_cons rfl (by kernel_rfl) (Op.opens_int Try.underlying3) (Op.opensF_cons rfl (by kernel_rfl) (Op.opens_string Try.underlying9) (Op.opensF_cons rfl (by kernel_rfl) (Op.opens_int Try.underlying3) (Op.opensF_one rfl (by kernel_rfl) (Op.opens_int Try.underlying3))))))
theorem opens70 {H : Type} {enc : TypeId × Value → H} {W : World} : Op.Opens enc Try.prog W k70 70 OK70 :=
  Op.opens_iso (fun p => (⟨p.1, p.2⟩ : S70)) (fun _ => rfl) (Op.opens_struct Try.underlying70 rfl (by kernel_rfl) (Op.opensF_cons rfl (by kernel_rfl) (Op.opens_int Try.underlying3) (Op.opensF_one rfl (by kernel_rfl) (Op.opens_slice (B := 40) Try.underlying68 (by kernel_rfl) (by kernel_rfl) opens144))))
theorem opens27 {H : Type} {enc : TypeId × Value → H} {W : World} : Op.Opens enc Try.prog W k27 27 OK27 :=
  Op.opens_iso (fun p => (⟨p.1, p.2.1, p.2.2.1, p.2.2.2⟩ : S27)) (fun _ => rfl) (Op.opens_struct Try.underlying27 rfl (by kernel_rfl) (Op.opensF_cons rfl (by kernel_rfl) opens23 (Op.opensF_cons rfl (by kernel_rfl) (Op.opens_slice (B := 32) Try.underlying24 (by kernel_rfl) (by kernel_rfl) opens70) (Op.opensF_cons rfl (by kernel_rfl) (Op.opens_slice (B := 8) Try.underlying25 (by kernel_rfl) (by kernel_rfl) (Op.opens_int Try.underlying3)) (Op.opensF_one rfl (by kernel_rfl) (Op.opens_int Try.underlying3))))))
set_option maxRecDepth 100000 in
theorem lifted (os : Os) (started : os.Started) (H : Type) (enc : TypeId × Value → H) :
    ReturnsInHanded {} Try.checked os 3 .any (Rows.fnExactEqualPuzzlesSpec.pre6 enc Try.prog Try.f3 Rows.fnExactEqualPuzzlesRow.domain false) (Rows.fnExactEqualPuzzlesSpec.post enc Try.prog Try.f3 false true false false) := by
  refine returnsInHanded_of_change_sized (C := Try.checked) own started (by kernel_rfl) Try.func3
    (ChangeSpec.witness6 (enc := enc) (C := Try.checked) false ⟨#[], #[.agg #[.int .i64 0, .int .i64 0, .string ByteArray.empty, .slice none 0 0, .slice none 0 0, .int .i64 0], .agg #[.int .i64 0, .int .i64 0, .string ByteArray.empty, .slice none 0 0, .slice none 0 0, .int .i64 0]], []⟩ 8 (by kernel_rfl) (by kernel_rfl) (by kernel_rfl) (by kernel_rfl)) ?_
  intro W base args ds gs before hval0 hW hcnd hsz0 _
  have hsz : (DataW.weightsEach Try.prog (Try.f3.params.toList ++ Rows.fnExactEqualPuzzlesSpec.plain.varTypes Try.prog) (ds ++ gs)).all (· ≤ reachBytes) = true := hsz0
  have hval : ∀ (j : Nat) t v, Try.f3.params[j]? = some t → args[j]? = some v → Value.okWide Try.prog W .any base t v := hval0
  have hW' := hW
  obtain ⟨p, q, hA0, hV, rfl, hfz, hnd⟩ := hW
  have hA : DataW.TrodAll enc Try.prog W 0 (fun _ => true) true Try.f3.params.toList args.toList ds p := hA0
  rw [Try.params3] at hA hval hsz
  obtain ⟨v0, vs0, d0, ds0, p0, q0, hargs, rfl, rfl, h0, r0⟩ := trodAll_cons hA
  obtain ⟨v1, vs1, d1, ds1, p1, q1, rfl, rfl, rfl, h1, r1⟩ := trodAll_cons r0
  obtain ⟨rfl, rfl, rfl⟩ := trodAll_nil r1
  obtain rfl : args = #[v0, v1] := by cases args; simp_all
  obtain ⟨rfl, rfl⟩ := trodVars_none hV
  have t0 := h0
  have lt0 : ∀ x ∈ p0, x.block < W.heap.size := by obtain ⟨m, hm⟩ := t0; exact DataW.trod_lt m _ _ _ hm
  obtain ⟨cs0, rfl, _⟩ := okWide_struct Try.underlying27 (hval 0 27 v0 rfl rfl)
  obtain ⟨y0, K0, O0⟩ := Op.open_arg hsz (j := 0) rfl rfl opens27 h0
  obtain ⟨A0_3, c0_3, A0_4, c0_4, e0, hl0_3, hr0_3, hl0_4, hr0_4⟩ := k27_open K0
  obtain rfl : cs0 = #[.int .i64 y0.f0.f0, .int .i64 y0.f0.f1, .string y0.f0.f2, .slice A0_3 y0.f1.length c0_3, .slice A0_4 y0.f2.length c0_4, .int .i64 y0.f3] := Array.toList_inj.mp e0
  have t1 := h1
  have lt1 : ∀ x ∈ p1, x.block < W.heap.size := by obtain ⟨m, hm⟩ := t1; exact DataW.trod_lt m _ _ _ hm
  obtain ⟨cs1, rfl, _⟩ := okWide_struct Try.underlying27 (hval 1 27 v1 rfl rfl)
  obtain ⟨y1, K1, O1⟩ := Op.open_arg hsz (j := 1) rfl rfl opens27 h1
  obtain ⟨A1_3, c1_3, A1_4, c1_4, e1, hl1_3, hr1_3, hl1_4, hr1_4⟩ := k27_open K1
  obtain rfl : cs1 = #[.int .i64 y1.f0.f0, .int .i64 y1.f0.f1, .string y1.f0.f2, .slice A1_3 y1.f1.length c1_3, .slice A1_4 y1.f2.length c1_4, .int .i64 y1.f3] := Array.toList_inj.mp e1
  clear hA0 hval0 hsz0 hsz
  obtain ⟨k, hk⟩ := Pure.FnExactEqualPuzzles y0 y1 O0 O1
  refine (laws_FnExactEqualPuzzles.calls (a0_0 := y0.f0.f0) (a0_1 := y0.f0.f1) (a0_2 := y0.f0.f2) (A0_3 := A0_3) (c0_3 := c0_3) (l0_3 := y0.f1) (A0_4 := A0_4) (c0_4 := c0_4) (l0_4 := y0.f2) (a0_5 := y0.f3) (a1_0 := y1.f0.f0) (a1_1 := y1.f0.f1) (a1_2 := y1.f0.f2) (A1_3 := A1_3) (c1_3 := c1_3) (l1_3 := y1.f1) (A1_4 := A1_4) (c1_4 := c1_4) (l1_4 := y1.f2) (a1_5 := y1.f3) (k := k) (r := true) (w := W) (hr0_3 := hr0_3) (hc0_3 := hl0_3) (hr0_4 := hr0_4) (hc0_4 := hl0_4) (hr1_3 := hr1_3) (hc1_3 := hl1_3) (hr1_4 := hr1_4) (hc1_4 := hl1_4) (h := hk)).mono fun e W' ⟨he, bel_⟩ => ?_
  have bel : Below W.heap.size W W' := bel_
  subst he
  exact ⟨_, rfl, _, _, _, [], _, [], hW', trodAll_mk1 (shut_bool Try.underlying4 _), (trodAll_cons_mk (Below.trod laidOut (by kernel_rfl) (of_decide_eq_true (by kernel_rfl)) t0 bel lt0) (trodAll_cons_mk (Below.trod laidOut (by kernel_rfl) (of_decide_eq_true (by kernel_rfl)) t1 bel lt1) trodAll_mk0)), rfl, bel.frame _, fun h => by cases h⟩
theorem over : Rows.fnExactEqualPuzzlesRow.holds Try.pinned (OpenSpec.ofChange Rows.fnExactEqualPuzzlesSpec) :=
  OpenClaim.holds_of_wide 3 Try.f3 rfl rfl rfl rfl rfl rfl rfl ⟨rfl, rfl, rfl, rfl, rfl⟩ rfl rfl rfl rfl rfl (by kernel_rfl) Try.func3 (by kernel_rfl)
    (of_decide_eq_true (by kernel_rfl)) (by unfold Func.isWrapper; first | (rw [if_pos (by decide +kernel)]; kernel_rfl) | (rw [if_neg (by decide +kernel)]; exact ⟨rfl, rfl⟩))
    (fun os started H enc _ => lifted os started H enc)
theorem proved : Rows.FnExactEqualPuzzlesSaid := over
#print axioms proved
end Go.Proofs.Ytddacmgigolcbaa.fnExactEqualPuzzles
namespace Go.Proofs.Ytddacmgigolcbaa
/-- The row, under a short name, for the claim. -/
theorem fnExactEqualPuzzles_holds : Rows.FnExactEqualPuzzlesSaid := fnExactEqualPuzzles.proved
end Go.Proofs.Ytddacmgigolcbaa
