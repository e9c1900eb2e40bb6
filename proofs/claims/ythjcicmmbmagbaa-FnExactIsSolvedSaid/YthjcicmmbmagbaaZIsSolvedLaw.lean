/- The program's law FnExactIsSolved: for every input it returns true, and each argument reads behind the call as it read before. No further condition. -/
import Derived.Test.YthjcicmmbmagbaaRows
import Derived.Test.YthjcicmmbmagbaaZIsSolvedQ
import Derived.Test.YthjcicmmbmagbaaZIsSolvedPure
import Derived.Test.YthjcicmmbmagbaaZIsSolvedOpen
import Derived.WalkKit
import Derived.ProofKit
import Derived.OpenShut
import Derived.ShutString
import Derived.ChangeOld
import Derived.Below
import Derived.SizedLaws
import Derived.Carry
namespace Go.Proofs.Ythjcicmmbmagbaa.fnExactIsSolved
open Go.ChangeShapes Go.WideShapes Go.ChangeAt Go.RowKit Go.Proofs.YthjcicmmbmagbaaW.PrintWords Go.Proofs.Ythjcicmmbmagbaa.PFnExactIsSolved
set_option linter.unusedVariables false
set_option linter.unusedSimpArgs false
theorem own : ownKnob Try.prog.godebug = none := by kernel_rfl
theorem laidOut : laidOutB Try.prog = true := by kernel_rfl
theorem opens60 {H : Type} {enc : TypeId × Value → H} {W : World} : Op.Opens enc Try.prog W k60 60 OK60 :=
  Op.opens_iso (fun p => (⟨p.1, p.2.1, p.2.2⟩ : S60)) (fun _ => rfl) (Op.opens_struct Try.underlying60 rfl (by kernel_rfl) (Op.opensF_cons rfl (by kernel_rfl) (Op.opens_int Try.underlying3) (Op.opensF_cons rfl (by kernel_rfl) (Op.opens_int Try.underlying3) (Op.opensF_one rfl (by kernel_rfl) (Op.opens_string Try.underlying9)))))
theorem opens186 {H : Type} {enc : TypeId × Value → H} {W : World} : Op.Opens enc Try.prog W k186 186 OK186 :=
  Op.opens_iso (fun p => (⟨p.1, p.2.1, p.2.2.1, p.2.2.2⟩ : S186)) (fun _ => rfl) (Op.opens_struct Try.underlying186 rfl (by kernel_rfl) (Op.opensF_cons rfl (by kernel_rfl) (Op.opens_int Try.underlying3) (Op.opensF_cons rfl (by kernel_rfl) (Op.opens_string Try.underlying9) (Op.opensF_cons rfl (by kernel_rfl) (Op.opens_int Try.underlying3) (Op.opensF_one rfl (by kernel_rfl) (Op.opens_int Try.underlying3))))))
theorem opens149 {H : Type} {enc : TypeId × Value → H} {W : World} : Op.Opens enc Try.prog W k149 149 OK149 :=
  Op.opens_iso (fun p => (⟨p.1, p.2⟩ : S149)) (fun _ => rfl) (Op.opens_struct Try.underlying149 rfl (by kernel_rfl) (Op.opensF_cons rfl (by kernel_rfl) (Op.opens_int Try.underlying3) (Op.opensF_one rfl (by kernel_rfl) (Op.opens_slice (B := 40) Try.underlying147 (by kernel_rfl) (by kernel_rfl) opens186))))
theorem opens63 {H : Type} {enc : TypeId × Value → H} {W : World} : Op.Opens enc Try.prog W k63 63 OK63 :=
  Op.opens_iso (fun p => (⟨p.1, p.2.1, p.2.2.1, p.2.2.2⟩ : S63)) (fun _ => rfl) (Op.opens_struct Try.underlying63 rfl (by kernel_rfl) (Op.opensF_cons rfl (by kernel_rfl) opens60 (Op.opensF_cons rfl (by kernel_rfl) (Op.opens_slice (B := 32) Try.underlying61 (by kernel_rfl) (by kernel_rfl) opens149) (Op.opensF_cons rfl (by kernel_rfl) (Op.opens_slice (B := 8) Try.underlying45 (by kernel_rfl) (by kernel_rfl) (Op.opens_int Try.underlying3)) (Op.opensF_one rfl (by kernel_rfl) (Op.opens_int Try.underlying3))))))
set_option maxRecDepth 100000 in
theorem lifted (os : Os) (started : os.Started) (H : Type) (enc : TypeId × Value → H) :
    ReturnsInHanded {} Try.checked os 8 .any (Rows.fnExactIsSolvedSpec.pre6 enc Try.prog Try.f8 Rows.fnExactIsSolvedRow.domain false) (Rows.fnExactIsSolvedSpec.post enc Try.prog Try.f8 false true false false) := by
  refine returnsInHanded_of_change_sized (C := Try.checked) own started (by kernel_rfl) Try.func8
    (ChangeSpec.witness6 (enc := enc) (C := Try.checked) false ⟨#[], #[.agg #[.int .i64 0, .int .i64 0, .string ByteArray.empty, .slice none 0 0, .slice none 0 0, .int .i64 0], .string ByteArray.empty], []⟩ 8 (by kernel_rfl) (by kernel_rfl) (by kernel_rfl) (by kernel_rfl)) ?_
  intro W base args ds gs before hval0 hW hcnd hsz0 _
  have hsz : (DataW.weightsEach Try.prog (Try.f8.params.toList ++ Rows.fnExactIsSolvedSpec.plain.varTypes Try.prog) (ds ++ gs)).all (· ≤ reachBytes) = true := hsz0
  have hval : ∀ (j : Nat) t v, Try.f8.params[j]? = some t → args[j]? = some v → Value.okWide Try.prog W .any base t v := hval0
  have hW' := hW
  obtain ⟨p, q, hA0, hV, rfl, hfz, hnd⟩ := hW
  have hA : DataW.TrodAll enc Try.prog W 0 (fun _ => true) true Try.f8.params.toList args.toList ds p := hA0
  rw [Try.params8] at hA hval hsz
  obtain ⟨v0, vs0, d0, ds0, p0, q0, hargs, rfl, rfl, h0, r0⟩ := trodAll_cons hA
  obtain ⟨v1, vs1, d1, ds1, p1, q1, rfl, rfl, rfl, h1, r1⟩ := trodAll_cons r0
  obtain ⟨rfl, rfl, rfl⟩ := trodAll_nil r1
  obtain rfl : args = #[v0, v1] := by cases args; simp_all
  obtain ⟨rfl, rfl⟩ := trodVars_none hV
  have t0 := h0
  have lt0 : ∀ x ∈ p0, x.block < W.heap.size := by obtain ⟨m, hm⟩ := t0; exact DataW.trod_lt m _ _ _ hm
  obtain ⟨cs0, rfl, _⟩ := okWide_struct Try.underlying63 (hval 0 63 v0 rfl rfl)
  obtain ⟨y0, K0, O0⟩ := Op.open_arg hsz (j := 0) rfl rfl opens63 h0
  obtain ⟨A0_3, c0_3, A0_4, c0_4, e0, hl0_3, hr0_3, hl0_4, hr0_4⟩ := k63_open K0
  obtain rfl : cs0 = #[.int .i64 y0.f0.f0, .int .i64 y0.f0.f1, .string y0.f0.f2, .slice A0_3 y0.f1.length c0_3, .slice A0_4 y0.f2.length c0_4, .int .i64 y0.f3] := Array.toList_inj.mp e0
  have t1 := h1
  have lt1 : ∀ x ∈ p1, x.block < W.heap.size := by obtain ⟨m, hm⟩ := t1; exact DataW.trod_lt m _ _ _ hm
  obtain ⟨a1, rfl⟩ := okWide_string Try.underlying9 (hval 1 9 v1 rfl rfl)
  obtain ⟨b1, K1, O1⟩ := Op.open_arg hsz (j := 1) rfl rfl (Op.opens_string Try.underlying9) h1
  obtain rfl : a1 = b1 := by injection K1 with K _; injection K
  clear hA0 hval0 hsz0 hsz
  obtain ⟨k, hk⟩ := Pure.FnExactIsSolved y0 a1 O0 O1
  refine (laws_FnExactIsSolved.calls (a0_0 := y0.f0.f0) (a0_1 := y0.f0.f1) (a0_2 := y0.f0.f2) (A0_3 := A0_3) (c0_3 := c0_3) (l0_3 := y0.f1) (A0_4 := A0_4) (c0_4 := c0_4) (l0_4 := y0.f2) (a0_5 := y0.f3) (a1 := a1) (k := k) (r := true) (w := W) (hr0_3 := hr0_3) (hc0_3 := hl0_3) (hr0_4 := hr0_4) (hc0_4 := hl0_4) (h := hk)).mono fun e W' ⟨he, bel_⟩ => ?_
  have bel : Below W.heap.size W W' := bel_
  subst he
  exact ⟨_, rfl, _, _, _, [], _, [], hW', trodAll_mk1 (shut_bool Try.underlying4 _), (trodAll_cons_mk (Below.trod laidOut (by kernel_rfl) (of_decide_eq_true (by kernel_rfl)) t0 bel lt0) (trodAll_cons_mk (Below.trod laidOut (by kernel_rfl) (of_decide_eq_true (by kernel_rfl)) t1 bel lt1) trodAll_mk0)), rfl, bel.frame _, fun h => by cases h⟩
theorem over : Rows.fnExactIsSolvedRow.holds Try.pinned (OpenSpec.ofChange Rows.fnExactIsSolvedSpec) :=
  OpenClaim.holds_of_wide 8 Try.f8 rfl rfl rfl rfl rfl rfl rfl ⟨rfl, rfl, rfl, rfl, rfl⟩ rfl rfl rfl rfl rfl (by kernel_rfl) Try.func8 (by kernel_rfl)
    (of_decide_eq_true (by kernel_rfl)) (by unfold Func.isWrapper; first | (rw [if_pos (by decide +kernel)]; kernel_rfl) | (rw [if_neg (by decide +kernel)]; exact ⟨rfl, rfl⟩))
    (fun os started H enc _ => lifted os started H enc)
theorem proved : Rows.FnExactIsSolvedSaid := over
#print axioms proved
end Go.Proofs.Ythjcicmmbmagbaa.fnExactIsSolved
namespace Go.Proofs.Ythjcicmmbmagbaa
/-- The row, under a short name, for the claim. -/
theorem fnExactIsSolved_holds : Rows.FnExactIsSolvedSaid := fnExactIsSolved.proved
end Go.Proofs.Ythjcicmmbmagbaa
