/- The program's law FnExactParsePlay: for every input it returns true, and each argument reads behind the call as it read before. No further condition. -/
import Derived.Test.YthjcicmmbmagbaaRows
import Derived.Test.YthjcicmmbmagbaaZParsePlayQ
import Derived.Test.YthjcicmmbmagbaaZParsePlayPure
import Derived.Test.YthjcicmmbmagbaaZParsePlayOpen
import Derived.WalkKit
import Derived.ProofKit
import Derived.OpenShut
import Derived.ShutString
import Derived.ChangeOld
import Derived.Below
import Derived.SizedLaws
import Derived.Carry
namespace Go.Proofs.Ythjcicmmbmagbaa.fnExactParsePlay
open Go.ChangeShapes Go.WideShapes Go.ChangeAt Go.RowKit Go.Proofs.YthjcicmmbmagbaaW.PrintWords Go.Proofs.Ythjcicmmbmagbaa.PFnExactParsePlay
set_option linter.unusedVariables false
set_option linter.unusedSimpArgs false
theorem own : ownKnob Try.prog.godebug = none := by kernel_rfl
theorem laidOut : laidOutB Try.prog = true := by kernel_rfl
set_option maxRecDepth 100000 in
theorem lifted (os : Os) (started : os.Started) (H : Type) (enc : TypeId × Value → H) :
  ReturnsInHanded {} Try.checked os 5 .any (Rows.fnExactParsePlaySpec.pre6 enc Try.prog Try.f5 Rows.fnExactParsePlayRow.domain false) (Rows.fnExactParsePlaySpec.post enc Try.prog Try.f5 false true false false) := by
 refine returnsInHanded_of_change_sized (C := Try.checked) own started (by kernel_rfl) Try.func5
  (ChangeSpec.witness6 (enc := enc) (C := Try.checked) false ⟨#[], #[.string ByteArray.empty], []⟩ 8 (by kernel_rfl) (by kernel_rfl) (by kernel_rfl) (by kernel_rfl)) ?_
 intro W base args ds gs before hval0 hW hcnd hsz0 _
 have hsz : (DataW.weightsEach Try.prog (Try.f5.params.toList ++ Rows.fnExactParsePlaySpec.plain.varTypes Try.prog) (ds ++ gs)).all (· ≤ reachBytes) = true := hsz0
 have hval : ∀ (j : Nat) t v, Try.f5.params[j]? = some t → args[j]? = some v → Value.okWide Try.prog W .any base t v := hval0
 have hW' := hW
 obtain ⟨p, q, hA0, hV, rfl, hfz, hnd⟩ := hW
 have hA : DataW.TrodAll enc Try.prog W 0 (fun _ => true) true Try.f5.params.toList args.toList ds p := hA0
 rw [Try.params5] at hA hval hsz
 obtain ⟨v0, vs0, d0, ds0, p0, q0, hargs, rfl, rfl, h0, r0⟩ := trodAll_cons hA
 obtain ⟨rfl, rfl, rfl⟩ := trodAll_nil r0
 obtain rfl : args = #[v0] := by cases args; simp_all
 obtain ⟨rfl, rfl⟩ := trodVars_none hV
 have t0 := h0
 have lt0 : ∀ x ∈ p0, x.block < W.heap.size := by obtain ⟨m, hm⟩ := t0; exact DataW.trod_lt m _ _ _ hm
 obtain ⟨a0, rfl⟩ := okWide_string Try.underlying9 (hval 0 9 v0 rfl rfl)
 obtain ⟨b0, K0, O0⟩ := Op.o8 hsz (j := 0) rfl rfl (Op.mh Try.underlying9) h0
 obtain rfl : a0 = b0 := by injection K0 with K _; injection K
 clear hA0 hval0 hsz0 hsz
 obtain ⟨k, hk⟩ := Pure.gB a0 O0
 refine (aC.calls (a0 := a0) (k := k) (r := true) (w := W)  (h := hk)).mono fun e W' ⟨he, bel_⟩ => ?_
 have bel : Below W.heap.size W W' := bel_
 subst he
 exact ⟨_, rfl, _, _, _, [], _, [], hW', trodAll_mk1 (shut_bool Try.underlying4 _), (trodAll_cons_mk (Below.trod laidOut (by kernel_rfl) (of_decide_eq_true (by kernel_rfl)) t0 bel lt0) trodAll_mk0), rfl, bel.frame _, fun h => by cases h⟩
theorem over : Rows.fnExactParsePlayRow.holds Try.pinned (OpenSpec.ofChange Rows.fnExactParsePlaySpec) :=
 OpenClaim.holds_of_wide 5 Try.f5 rfl rfl rfl rfl rfl rfl rfl ⟨rfl, rfl, rfl, rfl, rfl⟩ rfl rfl rfl rfl rfl (by kernel_rfl) Try.func5 (by kernel_rfl)
  (of_decide_eq_true (by kernel_rfl)) (by unfold Func.isWrapper; first | (rw [if_pos (by decide +kernel)]; kernel_rfl) | (rw [if_neg (by decide +kernel)]; exact ⟨rfl, rfl⟩))
  (fun os started H enc _ => lifted os started H enc)
theorem proved : Rows.FnExactParsePlaySaid := over
#print axioms proved
end Go.Proofs.Ythjcicmmbmagbaa.fnExactParsePlay
namespace Go.Proofs.Ythjcicmmbmagbaa
theorem fnExactParsePlay_holds : Rows.FnExactParsePlaySaid := fnExactParsePlay.proved
end Go.Proofs.Ythjcicmmbmagbaa
