/- The program's law FnExactIsClue: for every input it returns true, and each argument reads behind the call as it read before. No further condition. -/
import Derived.Test.YtfnpmkmdpbgjkaaRows
import Derived.Test.YtfnpmkmdpbgjkaaQFnExactIsClue
import Derived.Test.YtfnpmkmdpbgjkaaPureFnExactIsClue
import Derived.Test.YtfnpmkmdpbgjkaaOpen
import Derived.WalkKit
import Derived.ProofKit
import Derived.OpenShut
import Derived.ShutString
import Derived.ChangeOld
import Derived.Below
import Derived.SizedLaws
import Derived.Carry
namespace Go.Proofs.Ytfnpmkmdpbgjkaa.fnExactIsClue
open Go.ChangeShapes Go.WideShapes Go.ChangeAt Go.RowKit Go.Proofs.YtfnpmkmdpbgjkaaW.PrintWords Go.Proofs.Ytfnpmkmdpbgjkaa.PFnExactIsClue
set_option linter.unusedVariables false
set_option linter.unusedSimpArgs false
theorem own : ownKnob Try.prog.godebug = none := by kernel_rfl
theorem laidOut : laidOutB Try.prog = true := by kernel_rfl
theorem opens87 {H : Type} {enc : TypeId × Value → H} {W : World} : Op.Opens enc Try.prog W k87 87 OK87 :=
  Op.opens_iso (fun p => (⟨p.1, p.2.1, p.2.2.1, p.2.2.2⟩ : S87)) (fun _ => rfl) (Op.opens_struct Try.underlying87 rfl (by kernel_rfl) (Op.opensF_cons rfl (by kernel_rfl) (Op.opens_int Try.underlying3) (Op.opensF_cons rfl (by kernel_rfl) (Op.opens_string Try.underlying9) (Op.opensF_cons rfl (by kernel_rfl) (Op.opens_int Try.underlying3) (Op.opensF_one rfl (by kernel_rfl) (Op.opens_int Try.underlying3))))))
theorem opens47 {H : Type} {enc : TypeId × Value → H} {W : World} : Op.Opens enc Try.prog W k47 47 OK47 :=
  Op.opens_iso (fun p => (⟨p.1, p.2⟩ : S47)) (fun _ => rfl) (Op.opens_struct Try.underlying47 rfl (by kernel_rfl) (Op.opensF_cons rfl (by kernel_rfl) (Op.opens_int Try.underlying3) (Op.opensF_one rfl (by kernel_rfl) (Op.opens_slice (B := 40) Try.underlying45 (by kernel_rfl) (by kernel_rfl) opens87))))
set_option maxRecDepth 100000 in
theorem lifted (os : Os) (started : os.Started) (H : Type) (enc : TypeId × Value → H) :
    ReturnsInHanded {} Try.checked os 10 .any (Rows.fnExactIsClueSpec.pre6 enc Try.prog Try.f10 Rows.fnExactIsClueRow.domain false) (Rows.fnExactIsClueSpec.post enc Try.prog Try.f10 false true false false) := by
  refine returnsInHanded_of_change_sized (C := Try.checked) own started (by kernel_rfl) Try.func10
    (ChangeSpec.witness6 (enc := enc) (C := Try.checked) false ⟨#[], #[.agg #[.int .i64 0, .slice none 0 0]], []⟩ 8 (by kernel_rfl) (by kernel_rfl) (by kernel_rfl) (by kernel_rfl)) ?_
  intro W base args ds gs before hval0 hW hcnd hsz0 _
  have hsz : (DataW.weightsEach Try.prog (Try.f10.params.toList ++ Rows.fnExactIsClueSpec.plain.varTypes Try.prog) (ds ++ gs)).all (· ≤ reachBytes) = true := hsz0
  have hval : ∀ (j : Nat) t v, Try.f10.params[j]? = some t → args[j]? = some v → Value.okWide Try.prog W .any base t v := hval0
  have hW' := hW
  obtain ⟨p, q, hA0, hV, rfl, hfz, hnd⟩ := hW
  have hA : DataW.TrodAll enc Try.prog W 0 (fun _ => true) true Try.f10.params.toList args.toList ds p := hA0
  rw [Try.params10] at hA hval hsz
  obtain ⟨v0, vs0, d0, ds0, p0, q0, hargs, rfl, rfl, h0, r0⟩ := trodAll_cons hA
  obtain ⟨rfl, rfl, rfl⟩ := trodAll_nil r0
  obtain rfl : args = #[v0] := by cases args; simp_all
  obtain ⟨rfl, rfl⟩ := trodVars_none hV
  have t0 := h0
  have lt0 : ∀ x ∈ p0, x.block < W.heap.size := by obtain ⟨m, hm⟩ := t0; exact DataW.trod_lt m _ _ _ hm
  obtain ⟨cs0, rfl, _⟩ := okWide_struct Try.underlying47 (hval 0 47 v0 rfl rfl)
  obtain ⟨y0, K0, O0⟩ := Op.open_arg hsz (j := 0) rfl rfl opens47 h0
  obtain ⟨A0_1, c0_1, e0, hl0_1, hr0_1⟩ := k47_open K0
  obtain rfl : cs0 = #[.int .i64 y0.f0, .slice A0_1 y0.f1.length c0_1] := Array.toList_inj.mp e0
  clear hA0 hval0 hsz0 hsz
  obtain ⟨k, hk⟩ := Pure.FnExactIsClue y0 O0
  refine (laws_FnExactIsClue.calls (a0_0 := y0.f0) (A0_1 := A0_1) (c0_1 := c0_1) (l0_1 := y0.f1) (k := k) (r := true) (w := W) (hr0_1 := hr0_1) (hc0_1 := hl0_1) (h := hk)).mono fun e W' ⟨he, bel_⟩ => ?_
  have bel : Below W.heap.size W W' := bel_
  subst he
  exact ⟨_, rfl, _, _, _, [], _, [], hW', trodAll_mk1 (shut_bool Try.underlying4 _), (trodAll_cons_mk (Below.trod laidOut (by kernel_rfl) (of_decide_eq_true (by kernel_rfl)) t0 bel lt0) trodAll_mk0), rfl, bel.frame _, fun h => by cases h⟩
theorem over : Rows.fnExactIsClueRow.holds Try.pinned (OpenSpec.ofChange Rows.fnExactIsClueSpec) :=
  OpenClaim.holds_of_wide 10 Try.f10 rfl rfl rfl rfl rfl rfl rfl ⟨rfl, rfl, rfl, rfl, rfl⟩ rfl rfl rfl rfl rfl (by kernel_rfl) Try.func10 (by kernel_rfl)
    (of_decide_eq_true (by kernel_rfl)) (by unfold Func.isWrapper; first | (rw [if_pos (by decide +kernel)]; kernel_rfl) | (rw [if_neg (by decide +kernel)]; exact ⟨rfl, rfl⟩))
    (fun os started H enc _ => lifted os started H enc)
theorem proved : Rows.FnExactIsClueSaid := over
#print axioms proved
end Go.Proofs.Ytfnpmkmdpbgjkaa.fnExactIsClue
namespace Go.Proofs.Ytfnpmkmdpbgjkaa
/-- The row, under a short name, for the claim. -/
theorem fnExactIsClue_holds : Rows.FnExactIsClueSaid := fnExactIsClue.proved
end Go.Proofs.Ytfnpmkmdpbgjkaa
