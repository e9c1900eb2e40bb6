/- The program's law FnExactAddMeaning: for every input it returns true, and each argument reads behind the call as it read before. No further condition. -/
import Derived.Test.YthjcicmmbmagbaaRows
import Derived.Test.YthjcicmmbmagbaaZAddMeaningQ
import Derived.Test.YthjcicmmbmagbaaZAddMeaningPure
import Derived.Test.YthjcicmmbmagbaaZAddMeaningOpen
import Derived.WalkKit
import Derived.ProofKit
import Derived.OpenShut
import Derived.ShutString
import Derived.ChangeOld
import Derived.Below
import Derived.SizedLaws
import Derived.Carry
namespace Go.Proofs.Ythjcicmmbmagbaa.fnExactAddMeaning
open Go.ChangeShapes Go.WideShapes Go.ChangeAt Go.RowKit Go.Proofs.YthjcicmmbmagbaaW.PrintWords Go.Proofs.Ythjcicmmbmagbaa.PFnExactAddMeaning
set_option linter.unusedVariables false
set_option linter.unusedSimpArgs false
theorem own : ownKnob Try.prog.godebug = none := by kernel_rfl
theorem laidOut : laidOutB Try.prog = true := by kernel_rfl
theorem mK {H : Type} {enc : TypeId × Value → H} {W : World} : Op.Opens enc Try.prog W k24 24 oJ :=
 Op.nu (fun p => (⟨p.1, p.2⟩ : S24)) (fun _ => rfl) (Op.kU Try.underlying24 rfl (by kernel_rfl) (Op.lH rfl (by kernel_rfl) (Op.lg Try.underlying9) (Op.l6 rfl (by kernel_rfl) (Op.mW Try.underlying3))))
set_option maxRecDepth 100000 in
theorem lifted (os : Os) (started : os.Started) (H : Type) (enc : TypeId × Value → H) :
  ReturnsInHanded {} Try.checked os 3 .any (Rows.fnExactAddMeaningSpec.pre6 enc Try.prog Try.f3 Rows.fnExactAddMeaningRow.domain false) (Rows.fnExactAddMeaningSpec.post enc Try.prog Try.f3 false true false false) := by
 refine returnsInHanded_of_change_sized (C := Try.checked) own started (by kernel_rfl) Try.func3
  (ChangeSpec.witness6 (enc := enc) (C := Try.checked) false ⟨#[], #[.slice none 0 0, .agg #[.string ByteArray.empty, .int .i64 0]], []⟩ 8 (by kernel_rfl) (by kernel_rfl) (by kernel_rfl) (by kernel_rfl)) ?_
 intro W base args ds gs before hval0 hW hcnd hsz0 _
 have hsz : (DataW.weightsEach Try.prog (Try.f3.params.toList ++ Rows.fnExactAddMeaningSpec.plain.varTypes Try.prog) (ds ++ gs)).all (· ≤ reachBytes) = true := hsz0
 have hval : ∀ (j : Nat) t v, Try.f3.params[j]? = some t → args[j]? = some v → Value.okWide Try.prog W .any base t v := hval0
 have hW' := hW
 obtain ⟨p, q, hA0, hV, rfl, hfz, hnd⟩ := hW
 have hA : DataW.TrodAll enc Try.prog W 0 (fun _ => true) true Try.f3.params.toList args.toList ds p := hA0
 rw [Try.params3] at hA hval hsz
 obtain ⟨v0, vs0, d0, ds0, p0, q0, hargs, rfl, rfl, h0, r0⟩ := trodAll_cons hA
 obtain ⟨v1, vs1, d1, ds1, p1, q1, rfl, rfl, rfl, h1, r1⟩ := trodAll_cons r0
 obtain ⟨rfl, rfl, rfl⟩ := trodAll_nil r1
 obtain rfl : args = #[v0, v1] := by cases args; simp_all
 obtain ⟨rfl, rfl⟩ := trodVars_none hV
 have t0 := h0
 have lt0 : ∀ x ∈ p0, x.block < W.heap.size := by obtain ⟨m, hm⟩ := t0; exact DataW.trod_lt m _ _ _ hm
 obtain ⟨x0, len0, cap0, rfl⟩ := okWide_slice Try.underlying22 (hval 0 22 v0 rfl rfl)
 obtain ⟨l0, ⟨A0, c0, e0, hl0, hr0⟩, O0⟩ := Op.lF hsz (j := 0) rfl rfl (Op.lI (B := 24) Try.underlying22 (by kernel_rfl) (by kernel_rfl) mK) h0
 obtain ⟨rfl, rfl, rfl⟩ : x0 = A0 ∧ len0 = l0.length ∧ cap0 = c0 := by injection e0 with e _; injection e with e1 e2 e3; exact ⟨e1, e2, e3⟩
 have t1 := h1
 have lt1 : ∀ x ∈ p1, x.block < W.heap.size := by obtain ⟨m, hm⟩ := t1; exact DataW.trod_lt m _ _ _ hm
 obtain ⟨cs1, rfl, _⟩ := okWide_struct Try.underlying24 (hval 1 24 v1 rfl rfl)
 obtain ⟨y1, K1, O1⟩ := Op.lF hsz (j := 1) rfl rfl mK h1
 have e1 := lK K1
 obtain rfl : cs1 = #[.string y1.f0, .int .i64 y1.f1] := Array.toList_inj.mp e1
 clear hA0 hval0 hsz0 hsz
 obtain ⟨k, hk⟩ := Pure.gL l0 y1 O0 O1
 refine (av.calls (A0 := x0) (c0 := cap0) (l0 := l0) (pG := y1.f0) (pI := y1.f1) (k := k) (r := true) (w := W) (hr0 := hr0) (hc0 := hl0) (h := hk)).mono fun e W' ⟨he, bel_⟩ => ?_
 have bel : Below W.heap.size W W' := bel_
 subst he
 exact ⟨_, rfl, _, _, _, [], _, [], hW', trodAll_mk1 (shut_bool Try.underlying4 _), (trodAll_cons_mk (Below.trod laidOut (by kernel_rfl) (of_decide_eq_true (by kernel_rfl)) t0 bel lt0) (trodAll_cons_mk (Below.trod laidOut (by kernel_rfl) (of_decide_eq_true (by kernel_rfl)) t1 bel lt1) trodAll_mk0)), rfl, bel.frame _, fun h => by cases h⟩
theorem over : Rows.fnExactAddMeaningRow.holds Try.pinned (OpenSpec.ofChange Rows.fnExactAddMeaningSpec) :=
 OpenClaim.holds_of_wide 3 Try.f3 rfl rfl rfl rfl rfl rfl rfl ⟨rfl, rfl, rfl, rfl, rfl⟩ rfl rfl rfl rfl rfl (by kernel_rfl) Try.func3 (by kernel_rfl)
  (of_decide_eq_true (by kernel_rfl)) (by unfold Func.isWrapper; first | (rw [if_pos (by decide +kernel)]; kernel_rfl) | (rw [if_neg (by decide +kernel)]; exact ⟨rfl, rfl⟩))
  (fun os started H enc _ => lifted os started H enc)
theorem proved : Rows.FnExactAddMeaningSaid := over
#print axioms proved
end Go.Proofs.Ythjcicmmbmagbaa.fnExactAddMeaning
namespace Go.Proofs.Ythjcicmmbmagbaa
theorem fnExactAddMeaning_holds : Rows.FnExactAddMeaningSaid := fnExactAddMeaning.proved
end Go.Proofs.Ythjcicmmbmagbaa
