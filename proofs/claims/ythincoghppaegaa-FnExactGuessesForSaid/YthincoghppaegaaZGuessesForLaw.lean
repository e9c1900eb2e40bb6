/- The program's law FnExactGuessesFor: for every input it returns true, and each argument reads behind the call as it read before. No further condition. -/
import Derived.Test.YthincoghppaegaaRows
import Derived.Test.YthincoghppaegaaZGuessesForQ
import Derived.Test.YthincoghppaegaaZGuessesForPure
import Derived.Test.YthincoghppaegaaZGuessesForOpen
import Derived.WalkKit
import Derived.ProofKit
import Derived.OpenShut
import Derived.ShutString
import Derived.ChangeOld
import Derived.Below
import Derived.SizedLaws
import Derived.Carry
namespace Go.Proofs.Ythincoghppaegaa.fnExactGuessesFor
open Go.ChangeShapes Go.WideShapes Go.ChangeAt Go.RowKit Go.Proofs.YthincoghppaegaaW.PrintWords Go.Proofs.Ythincoghppaegaa.PFnExactGuessesFor
set_option linter.unusedVariables false
set_option linter.unusedSimpArgs false
theorem own : ownKnob Try.prog.godebug = none := by kernel_rfl
theorem laidOut : laidOutB Try.prog = true := by kernel_rfl
theorem opens72 {H : Type} {enc : TypeId × Value → H} {W : World} : Op.Opens enc Try.prog W k72 72 OK72 :=
  Op.opens_iso (fun p => (⟨p.1, p.2.1, p.2.2.1, p.2.2.2⟩ : S72)) (fun _ => rfl) (Op.opens_struct Try.underlying72 rfl (by kernel_rfl) (Op.opensF_cons rfl (by kernel_rfl) (Op.opens_int Try.underlying3) (Op.opensF_cons rfl (by kernel_rfl) (Op.opens_string Try.underlying9) (Op.opensF_cons rfl (by kernel_rfl) (Op.opens_int Try.underlying3) (Op.opensF_one rfl (by kernel_rfl) (Op.opens_int Try.underlying3))))))
theorem opens24 {H : Type} {enc : TypeId × Value → H} {W : World} : Op.Opens enc Try.prog W k24 24 OK24 :=
  Op.opens_iso (fun p => (⟨p.1, p.2⟩ : S24)) (fun _ => rfl) (Op.opens_struct Try.underlying24 rfl (by kernel_rfl) (Op.opensF_cons rfl (by kernel_rfl) (Op.opens_int Try.underlying3) (Op.opensF_one rfl (by kernel_rfl) (Op.opens_slice (B := 40) Try.underlying22 (by kernel_rfl) (by kernel_rfl) opens72))))
theorem opens52 {H : Type} {enc : TypeId × Value → H} {W : World} : Op.Opens enc Try.prog W k52 52 OK52 :=
  Op.opens_iso (fun p => (⟨p.1, p.2⟩ : S52)) (fun _ => rfl) (Op.opens_struct Try.underlying52 rfl (by kernel_rfl) (Op.opensF_cons rfl (by kernel_rfl) (Op.opens_string Try.underlying9) (Op.opensF_one rfl (by kernel_rfl) (Op.opens_int Try.underlying3))))
set_option maxRecDepth 100000 in
theorem lifted (os : Os) (started : os.Started) (H : Type) (enc : TypeId × Value → H) :
    ReturnsInHanded {} Try.checked os 7 .any (Rows.fnExactGuessesForSpec.pre6 enc Try.prog Try.f7 Rows.fnExactGuessesForRow.domain false) (Rows.fnExactGuessesForSpec.post enc Try.prog Try.f7 false true false false) := by
  refine returnsInHanded_of_change_sized (C := Try.checked) own started (by kernel_rfl) Try.func7
    (ChangeSpec.witness6 (enc := enc) (C := Try.checked) false ⟨#[], #[.agg #[.int .i64 0, .slice none 0 0], .slice none 0 0, .slice none 0 0, .string ByteArray.empty, .int .i64 0], []⟩ 8 (by kernel_rfl) (by kernel_rfl) (by kernel_rfl) (by kernel_rfl)) ?_
  intro W base args ds gs before hval0 hW hcnd hsz0 _
  have hsz : (DataW.weightsEach Try.prog (Try.f7.params.toList ++ Rows.fnExactGuessesForSpec.plain.varTypes Try.prog) (ds ++ gs)).all (· ≤ reachBytes) = true := hsz0
  have hval : ∀ (j : Nat) t v, Try.f7.params[j]? = some t → args[j]? = some v → Value.okWide Try.prog W .any base t v := hval0
  have hW' := hW
  obtain ⟨p, q, hA0, hV, rfl, hfz, hnd⟩ := hW
  have hA : DataW.TrodAll enc Try.prog W 0 (fun _ => true) true Try.f7.params.toList args.toList ds p := hA0
  rw [Try.params7] at hA hval hsz
  obtain ⟨v0, vs0, d0, ds0, p0, q0, hargs, rfl, rfl, h0, r0⟩ := trodAll_cons hA
  obtain ⟨v1, vs1, d1, ds1, p1, q1, rfl, rfl, rfl, h1, r1⟩ := trodAll_cons r0
  obtain ⟨v2, vs2, d2, ds2, p2, q2, rfl, rfl, rfl, h2, r2⟩ := trodAll_cons r1
  obtain ⟨v3, vs3, d3, ds3, p3, q3, rfl, rfl, rfl, h3, r3⟩ := trodAll_cons r2
  obtain ⟨v4, vs4, d4, ds4, p4, q4, rfl, rfl, rfl, h4, r4⟩ := trodAll_cons r3
  obtain ⟨rfl, rfl, rfl⟩ := trodAll_nil r4
  obtain rfl : args = #[v0, v1, v2, v3, v4] := by cases args; simp_all
  obtain ⟨rfl, rfl⟩ := trodVars_none hV
  have t0 := h0
  have lt0 : ∀ x ∈ p0, x.block < W.heap.size := by obtain ⟨m, hm⟩ := t0; exact DataW.trod_lt m _ _ _ hm
  obtain ⟨cs0, rfl, _⟩ := okWide_struct Try.underlying24 (hval 0 24 v0 rfl rfl)
  obtain ⟨y0, K0, O0⟩ := Op.open_arg hsz (j := 0) rfl rfl opens24 h0
  obtain ⟨A0_1, c0_1, e0, hl0_1, hr0_1⟩ := k24_open K0
  obtain rfl : cs0 = #[.int .i64 y0.f0, .slice A0_1 y0.f1.length c0_1] := Array.toList_inj.mp e0
  have t1 := h1
  have lt1 : ∀ x ∈ p1, x.block < W.heap.size := by obtain ⟨m, hm⟩ := t1; exact DataW.trod_lt m _ _ _ hm
  obtain ⟨x1, len1, cap1, rfl⟩ := okWide_slice Try.underlying25 (hval 1 25 v1 rfl rfl)
  obtain ⟨l1, ⟨A1, c1, e1, hl1, hr1⟩, O1⟩ := Op.open_arg hsz (j := 1) rfl rfl (Op.opens_slice (B := 24) Try.underlying25 (by kernel_rfl) (by kernel_rfl) opens52) h1
  obtain ⟨rfl, rfl, rfl⟩ : x1 = A1 ∧ len1 = l1.length ∧ cap1 = c1 := by injection e1 with e _; injection e with e1 e2 e3; exact ⟨e1, e2, e3⟩
  have t2 := h2
  have lt2 : ∀ x ∈ p2, x.block < W.heap.size := by obtain ⟨m, hm⟩ := t2; exact DataW.trod_lt m _ _ _ hm
  obtain ⟨x2, len2, cap2, rfl⟩ := okWide_slice Try.underlying26 (hval 2 26 v2 rfl rfl)
  obtain ⟨l2, ⟨A2, c2, e2, hl2, hr2⟩, O2⟩ := Op.open_arg hsz (j := 2) rfl rfl (Op.opens_slice (B := 16) Try.underlying26 (by kernel_rfl) (by kernel_rfl) (Op.opens_string Try.underlying9)) h2
  obtain ⟨rfl, rfl, rfl⟩ : x2 = A2 ∧ len2 = l2.length ∧ cap2 = c2 := by injection e2 with e _; injection e with e1 e2 e3; exact ⟨e1, e2, e3⟩
  have t3 := h3
  have lt3 : ∀ x ∈ p3, x.block < W.heap.size := by obtain ⟨m, hm⟩ := t3; exact DataW.trod_lt m _ _ _ hm
  obtain ⟨a3, rfl⟩ := okWide_string Try.underlying9 (hval 3 9 v3 rfl rfl)
  obtain ⟨b3, K3, O3⟩ := Op.open_arg hsz (j := 3) rfl rfl (Op.opens_string Try.underlying9) h3
  obtain rfl : a3 = b3 := by injection K3 with K _; injection K
  have t4 := h4
  have lt4 : ∀ x ∈ p4, x.block < W.heap.size := by obtain ⟨m, hm⟩ := t4; exact DataW.trod_lt m _ _ _ hm
  obtain ⟨a4, rfl, _, _, _⟩ := open_int Try.underlying3 (hval 4 3 v4 rfl rfl) h4
  obtain ⟨b4, K4, O4⟩ := Op.open_arg hsz (j := 4) rfl rfl (Op.opens_int Try.underlying3) h4
  obtain rfl : a4 = b4 := by injection K4 with K _; injection K
  clear hA0 hval0 hsz0 hsz
  obtain ⟨k, hk⟩ := Pure.FnExactGuessesFor y0 l1 l2 a3 a4 O0 O1 O2 O3 O4
  refine (laws_FnExactGuessesFor.calls (a0_0 := y0.f0) (A0_1 := A0_1) (c0_1 := c0_1) (l0_1 := y0.f1) (A1 := x1) (c1 := cap1) (l1 := l1) (A2 := x2) (c2 := cap2) (l2 := l2) (a3 := a3) (a4 := a4) (k := k) (r := true) (w := W) (hr0_1 := hr0_1) (hc0_1 := hl0_1) (hr1 := hr1) (hc1 := hl1) (hr2 := hr2) (hc2 := hl2) (h := hk)).mono fun e W' ⟨he, bel_⟩ => ?_
  have bel : Below W.heap.size W W' := bel_
  subst he
  exact ⟨_, rfl, _, _, _, [], _, [], hW', trodAll_mk1 (shut_bool Try.underlying4 _), (trodAll_cons_mk (Below.trod laidOut (by kernel_rfl) (of_decide_eq_true (by kernel_rfl)) t0 bel lt0) (trodAll_cons_mk (Below.trod laidOut (by kernel_rfl) (of_decide_eq_true (by kernel_rfl)) t1 bel lt1) (trodAll_cons_mk (Below.trod laidOut (by kernel_rfl) (of_decide_eq_true (by kernel_rfl)) t2 bel lt2) (trodAll_cons_mk (Below.trod laidOut (by kernel_rfl) (of_decide_eq_true (by kernel_rfl)) t3 bel lt3) (trodAll_cons_mk (Below.trod laidOut (by kernel_rfl) (of_decide_eq_true (by kernel_rfl)) t4 bel lt4) trodAll_mk0))))), rfl, bel.frame _, fun h => by cases h⟩
theorem over : Rows.fnExactGuessesForRow.holds Try.pinned (OpenSpec.ofChange Rows.fnExactGuessesForSpec) :=
  OpenClaim.holds_of_wide 7 Try.f7 rfl rfl rfl rfl rfl rfl rfl ⟨rfl, rfl, rfl, rfl, rfl⟩ rfl rfl rfl rfl rfl (by kernel_rfl) Try.func7 (by kernel_rfl)
    (of_decide_eq_true (by kernel_rfl)) (by unfold Func.isWrapper; first | (rw [if_pos (by decide +kernel)]; kernel_rfl) | (rw [if_neg (by decide +kernel)]; exact ⟨rfl, rfl⟩))
    (fun os started H enc _ => lifted os started H enc)
theorem proved : Rows.FnExactGuessesForSaid := over
#print axioms proved
end Go.Proofs.Ythincoghppaegaa.fnExactGuessesFor
namespace Go.Proofs.Ythincoghppaegaa
/-- The row, under a short name, for the claim. -/
theorem fnExactGuessesFor_holds : Rows.FnExactGuessesForSaid := fnExactGuessesFor.proved
end Go.Proofs.Ythincoghppaegaa
