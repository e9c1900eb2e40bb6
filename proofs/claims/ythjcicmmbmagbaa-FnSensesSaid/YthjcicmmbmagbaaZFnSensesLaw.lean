/- The program's law FnSenses: for every input it returns true, and each argument reads behind the call as it read before. No further condition. -/
import Derived.Test.YthjcicmmbmagbaaRows
import Derived.Test.YthjcicmmbmagbaaZFnSensesQ
import Derived.Test.YthjcicmmbmagbaaZFnSensesPure
import Derived.Test.YthjcicmmbmagbaaZFnSensesOpen
import Derived.WalkKit
import Derived.ProofKit
import Derived.OpenShut
import Derived.ShutString
import Derived.ChangeOld
import Derived.Below
import Derived.SizedLaws
import Derived.Carry
namespace Go.Proofs.Ythjcicmmbmagbaa.fnSenses
open Go.ChangeShapes Go.WideShapes Go.ChangeAt Go.RowKit Go.Proofs.YthjcicmmbmagbaaW.PrintWords Go.Proofs.Ythjcicmmbmagbaa.PFnSenses
set_option linter.unusedVariables false
set_option linter.unusedSimpArgs false
theorem own : ownKnob Try.prog.godebug = none := by kernel_rfl
theorem laidOut : laidOutB Try.prog = true := by kernel_rfl
set_option maxRecDepth 100000 in
theorem lifted (os : Os) (started : os.Started) (H : Type) (enc : TypeId × Value → H) :
  ReturnsInHanded {} Try.checked os 4 .any (Rows.fnSensesSpec.pre6 enc Try.prog Try.f4 Rows.fnSensesRow.domain false) (Rows.fnSensesSpec.post enc Try.prog Try.f4 false true false false) := by
 refine returnsInHanded_of_change_sized (C := Try.checked) own started (by kernel_rfl) Try.func4
  (ChangeSpec.witness6 (enc := enc) (C := Try.checked) false ⟨#[], #[.slice none 0 0], []⟩ 8 (by kernel_rfl) (by kernel_rfl) (by kernel_rfl) (by kernel_rfl)) ?_
 intro W base args ds gs before hval0 hW hcnd hsz0 _
 have hsz : (DataW.weightsEach Try.prog (Try.f4.params.toList ++ Rows.fnSensesSpec.plain.varTypes Try.prog) (ds ++ gs)).all (· ≤ reachBytes) = true := hsz0
 have hval : ∀ (j : Nat) t v, Try.f4.params[j]? = some t → args[j]? = some v → Value.okWide Try.prog W .any base t v := hval0
 have hW' := hW
 obtain ⟨p, q, hA0, hV, rfl, hfz, hnd⟩ := hW
 have hA : DataW.TrodAll enc Try.prog W 0 (fun _ => true) true Try.f4.params.toList args.toList ds p := hA0
 rw [Try.params4] at hA hval hsz
 obtain ⟨v0, vs0, d0, ds0, p0, q0, hargs, rfl, rfl, h0, r0⟩ := trodAll_cons hA
 obtain ⟨rfl, rfl, rfl⟩ := trodAll_nil r0
 obtain rfl : args = #[v0] := by cases args; simp_all
 obtain ⟨rfl, rfl⟩ := trodVars_none hV
 have t0 := h0
 have lt0 : ∀ x ∈ p0, x.block < W.heap.size := by obtain ⟨m, hm⟩ := t0; exact DataW.trod_lt m _ _ _ hm
 obtain ⟨x0, len0, cap0, rfl⟩ := okWide_slice Try.underlying36 (hval 0 36 v0 rfl rfl)
 obtain ⟨l0, ⟨A0, c0, e0, hl0, hr0⟩, O0⟩ := Op.qz hsz (j := 0) rfl rfl (Op.nL (B := 1) Try.underlying36 (by kernel_rfl) (by kernel_rfl) (Op.pX Try.underlying5)) h0
 obtain ⟨rfl, rfl, rfl⟩ : x0 = A0 ∧ len0 = l0.length ∧ cap0 = c0 := by injection e0 with e _; injection e with e1 e2 e3; exact ⟨e1, e2, e3⟩
 clear hA0 hval0 hsz0 hsz
 obtain ⟨k, hk⟩ := Pure.nW l0 (by unfold maxLen; exact O0.2.1) O0.1 O0.2.2
 refine (aU.calls (A0 := x0) (c0 := cap0) (l0 := l0) (k := k) (r := true) (w := W) (hr0 := hr0) (hc0 := hl0) (h := hk)).mono fun e W' ⟨he, bel_⟩ => ?_
 have bel : Below W.heap.size W W' := bel_
 subst he
 exact ⟨_, rfl, _, _, _, [], _, [], hW', trodAll_mk1 (shut_bool Try.underlying4 _), (trodAll_cons_mk (Below.trod laidOut (by kernel_rfl) (of_decide_eq_true (by kernel_rfl)) t0 bel lt0) trodAll_mk0), rfl, bel.frame _, fun h => by cases h⟩
theorem over : Rows.fnSensesRow.holds Try.pinned (OpenSpec.ofChange Rows.fnSensesSpec) :=
 OpenClaim.holds_of_wide 4 Try.f4 rfl rfl rfl rfl rfl rfl rfl ⟨rfl, rfl, rfl, rfl, rfl⟩ rfl rfl rfl rfl rfl (by kernel_rfl) Try.func4 (by kernel_rfl)
  (of_decide_eq_true (by kernel_rfl)) (by unfold Func.isWrapper; first | (rw [if_pos (by decide +kernel)]; kernel_rfl) | (rw [if_neg (by decide +kernel)]; exact ⟨rfl, rfl⟩))
  (fun os started H enc _ => lifted os started H enc)
theorem proved : Rows.FnSensesSaid := over
#print axioms proved
end Go.Proofs.Ythjcicmmbmagbaa.fnSenses
namespace Go.Proofs.Ythjcicmmbmagbaa
theorem fnSenses_holds : Rows.FnSensesSaid := fnSenses.proved
end Go.Proofs.Ythjcicmmbmagbaa
