/- The program's law FnExactSolvePuzzle: for every input it returns true, and each argument reads behind the call as it read before. No further condition. -/
import Derived.Test.YtikmdgmnhbodjaaGreatRows
import Derived.Test.YtikmdgmnhbodjaaGreatZSoPuQ
import Derived.Test.YtikmdgmnhbodjaaGreatZSoPuPure
import Derived.Test.YtikmdgmnhbodjaaGreatZSoPuOpen
import Derived.WalkKit
import Derived.ProofKit
import Derived.OpenShut
import Derived.ShutString
import Derived.ChangeOld
import Derived.Below
import Derived.SizedLaws
import Derived.Carry
namespace Go.Proofs.YtikmdgmnhbodjaaGreat.fnExactSolvePuzzle
open Go.ChangeShapes Go.WideShapes Go.ChangeAt Go.RowKit Go.Proofs.Yw.PrintWords Go.Proofs.YtikmdgmnhbodjaaGreat.PFnExactSolvePuzzle
set_option linter.unusedVariables false
set_option linter.unusedSimpArgs false
theorem own : ownKnob Tryz.prog.godebug = none := by kernel_rfl
theorem laidOut : laidOutB Tryz.prog = true := by kernel_rfl
theorem Bf {H : Type} {enc : TypeId × Value → H} {W : World} : Op.Opens enc Tryz.prog W k23 23 Cx :=
 Op.nk (fun p => (⟨p.1, p.2.1, p.2.2⟩ : S23)) (fun _ => rfl) (Op.lD Tryz.underlying23 rfl (by kernel_rfl) (Op.iY rfl (by kernel_rfl) (Op.kH Tryz.underlying3) (Op.iY rfl (by kernel_rfl) (Op.kH Tryz.underlying3) (Op.mM rfl (by kernel_rfl) (Op.lC Tryz.underlying9)))))
theorem Ab {H : Type} {enc : TypeId × Value → H} {W : World} : Op.Opens enc Tryz.prog W qJ 146 Bw :=
 Op.nk (fun p => (⟨p.1, p.2.1, p.2.2.1, p.2.2.2⟩ : mX)) (fun _ => rfl) (Op.lD Tryz.underlying146 rfl (by kernel_rfl) (Op.iY rfl (by kernel_rfl) (Op.kH Tryz.underlying3) (Op.iY rfl (by kernel_rfl) (Op.lC Tryz.underlying9) (Op.iY rfl (by kernel_rfl) (Op.kH Tryz.underlying3) (Op.mM rfl (by kernel_rfl) (Op.kH Tryz.underlying3))))))
theorem Bj {H : Type} {enc : TypeId × Value → H} {W : World} : Op.Opens enc Tryz.prog W k84 84 CF :=
 Op.nk (fun p => (⟨p.1, p.2⟩ : S84)) (fun _ => rfl) (Op.lD Tryz.underlying84 rfl (by kernel_rfl) (Op.iY rfl (by kernel_rfl) (Op.kH Tryz.underlying3) (Op.mM rfl (by kernel_rfl) (Op.mh (B := 40) Tryz.underlying82 (by kernel_rfl) (by kernel_rfl) Ab))))
theorem Bg {H : Type} {enc : TypeId × Value → H} {W : World} : Op.Opens enc Tryz.prog W k27 27 Cy :=
 Op.nk (fun p => (⟨p.1, p.2.1, p.2.2.1, p.2.2.2⟩ : S27)) (fun _ => rfl) (Op.lD Tryz.underlying27 rfl (by kernel_rfl) (Op.iY rfl (by kernel_rfl) Bf (Op.iY rfl (by kernel_rfl) (Op.mh (B := 32) Tryz.underlying24 (by kernel_rfl) (by kernel_rfl) Bj) (Op.iY rfl (by kernel_rfl) (Op.mh (B := 8) Tryz.underlying25 (by kernel_rfl) (by kernel_rfl) (Op.kH Tryz.underlying3)) (Op.mM rfl (by kernel_rfl) (Op.kH Tryz.underlying3))))))
theorem Bh {H : Type} {enc : TypeId × Value → H} {W : World} : Op.Opens enc Tryz.prog W k64 64 Cz :=
 Op.nk (fun p => (⟨p.1, p.2⟩ : S64)) (fun _ => rfl) (Op.lD Tryz.underlying64 rfl (by kernel_rfl) (Op.iY rfl (by kernel_rfl) (Op.lC Tryz.underlying9) (Op.mM rfl (by kernel_rfl) (Op.kH Tryz.underlying3))))
set_option maxRecDepth 100000 in
theorem lifted (os : Os) (started : os.Started) (H : Type) (enc : TypeId × Value → H) :
  ReturnsInHanded {} Tryz.checked os 6 .any (Rows.fnExactSolvePuzzleSpec.pre6 enc Tryz.prog Tryz.f6 Rows.fnExactSolvePuzzleRow.domain false) (Rows.fnExactSolvePuzzleSpec.post enc Tryz.prog Tryz.f6 false true false false) := by
 refine returnsInHanded_of_change_sized (C := Tryz.checked) own started (by kernel_rfl) Tryz.func6
  (ChangeSpec.witness6 (enc := enc) (C := Tryz.checked) false ⟨#[], #[.agg #[.int .i64 0, .int .i64 0, .string ByteArray.empty, .slice none 0 0, .slice none 0 0, .int .i64 0], .string ByteArray.empty, .slice none 0 0, .slice none 0 0], []⟩ 8 (by kernel_rfl) (by kernel_rfl) (by kernel_rfl) (by kernel_rfl)) ?_
 intro W base args ds gs before hval0 hW hcnd hsz0 _
 have hsz : (DataW.weightsEach Tryz.prog (Tryz.f6.params.toList ++ Rows.fnExactSolvePuzzleSpec.plain.varTypes Tryz.prog) (ds ++ gs)).all (· ≤ reachBytes) = true := hsz0
 have hval : ∀ (j : Nat) t v, Tryz.f6.params[j]? = some t → args[j]? = some v → Value.okWide Tryz.prog W .any base t v := hval0
 have hW' := hW
 obtain ⟨p, q, hA0, hV, rfl, hfz, hnd⟩ := hW
 have hA : DataW.TrodAll enc Tryz.prog W 0 (fun _ => true) true Tryz.f6.params.toList args.toList ds p := hA0
 rw [Tryz.params6] at hA hval hsz
 obtain ⟨v0, vs0, d0, ds0, p0, q0, hargs, rfl, rfl, h0, r0⟩ := trodAll_cons hA
 obtain ⟨v1, vs1, d1, ds1, p1, q1, rfl, rfl, rfl, h1, r1⟩ := trodAll_cons r0
 obtain ⟨v2, vs2, d2, ds2, p2, q2, rfl, rfl, rfl, h2, r2⟩ := trodAll_cons r1
 obtain ⟨v3, vs3, d3, ds3, p3, q3, rfl, rfl, rfl, h3, r3⟩ := trodAll_cons r2
 obtain ⟨rfl, rfl, rfl⟩ := trodAll_nil r3
 obtain rfl : args = #[v0, v1, v2, v3] := by cases args; simp_all
 obtain ⟨rfl, rfl⟩ := trodVars_none hV
 have t0 := h0
 have lt0 : ∀ x ∈ p0, x.block < W.heap.size := by obtain ⟨m, hm⟩ := t0; exact DataW.trod_lt m _ _ _ hm
 obtain ⟨cs0, rfl, _⟩ := okWide_struct Tryz.underlying27 (hval 0 27 v0 rfl rfl)
 obtain ⟨y0, K0, O0⟩ := Op.oO hsz (j := 0) rfl rfl Bg h0
 obtain ⟨A0_3, c0_3, A0_4, c0_4, e0, hl0_3, hr0_3, hl0_4, hr0_4⟩ := wT K0
 obtain rfl : cs0 = #[.int .i64 y0.f0.f0, .int .i64 y0.f0.f1, .string y0.f0.f2, .slice A0_3 y0.f1.length c0_3, .slice A0_4 y0.f2.length c0_4, .int .i64 y0.f3] := Array.toList_inj.mp e0
 have t1 := h1
 have lt1 : ∀ x ∈ p1, x.block < W.heap.size := by obtain ⟨m, hm⟩ := t1; exact DataW.trod_lt m _ _ _ hm
 obtain ⟨a1, rfl⟩ := okWide_string Tryz.underlying9 (hval 1 9 v1 rfl rfl)
 obtain ⟨b1, K1, O1⟩ := Op.oO hsz (j := 1) rfl rfl (Op.lC Tryz.underlying9) h1
 obtain rfl : a1 = b1 := by injection K1 with K _; injection K
 have t2 := h2
 have lt2 : ∀ x ∈ p2, x.block < W.heap.size := by obtain ⟨m, hm⟩ := t2; exact DataW.trod_lt m _ _ _ hm
 obtain ⟨x2, len2, cap2, rfl⟩ := okWide_slice Tryz.underlying28 (hval 2 28 v2 rfl rfl)
 obtain ⟨l2, ⟨A2, c2, e2, hl2, hr2⟩, O2⟩ := Op.oO hsz (j := 2) rfl rfl (Op.mh (B := 24) Tryz.underlying28 (by kernel_rfl) (by kernel_rfl) Bh) h2
 obtain ⟨rfl, rfl, rfl⟩ : x2 = A2 ∧ len2 = l2.length ∧ cap2 = c2 := by injection e2 with e _; injection e with e1 e2 e3; exact ⟨e1, e2, e3⟩
 have t3 := h3
 have lt3 : ∀ x ∈ p3, x.block < W.heap.size := by obtain ⟨m, hm⟩ := t3; exact DataW.trod_lt m _ _ _ hm
 obtain ⟨x3, len3, cap3, rfl⟩ := okWide_slice Tryz.underlying29 (hval 3 29 v3 rfl rfl)
 obtain ⟨l3, ⟨A3, c3, e3, hl3, hr3⟩, O3⟩ := Op.oO hsz (j := 3) rfl rfl (Op.mh (B := 16) Tryz.underlying29 (by kernel_rfl) (by kernel_rfl) (Op.lC Tryz.underlying9)) h3
 obtain ⟨rfl, rfl, rfl⟩ : x3 = A3 ∧ len3 = l3.length ∧ cap3 = c3 := by injection e3 with e _; injection e with e1 e2 e3; exact ⟨e1, e2, e3⟩
 clear hA0 hval0 hsz0 hsz
 obtain ⟨k, hk⟩ := Pure.FnExactSolvePuzzle y0 a1 l2 l3 O0 O1 O2 O3
 refine (bZ.calls (Dp := y0.f0.f0) (Dq := y0.f0.f1) (Dr := y0.f0.f2) (A0_3 := A0_3) (c0_3 := c0_3) (Dt := y0.f1) (A0_4 := A0_4) (c0_4 := c0_4) (Du := y0.f2) (Dv := y0.f3) (a1 := a1) (A2 := x2) (c2 := cap2) (l2 := l2) (A3 := x3) (c3 := cap3) (l3 := l3) (k := k) (r := true) (w := W) (hr0_3 := hr0_3) (hc0_3 := hl0_3) (hr0_4 := hr0_4) (hc0_4 := hl0_4) (hr2 := hr2) (hc2 := hl2) (hr3 := hr3) (hc3 := hl3) (h := hk)).mono fun e W' ⟨he, bel_⟩ => ?_
 have bel : Below W.heap.size W W' := bel_
 subst he
 exact ⟨_, rfl, _, _, _, [], _, [], hW', trodAll_mk1 (shut_bool Tryz.underlying4 _), (trodAll_cons_mk (Below.trod laidOut (by kernel_rfl) (of_decide_eq_true (by kernel_rfl)) t0 bel lt0) (trodAll_cons_mk (Below.trod laidOut (by kernel_rfl) (of_decide_eq_true (by kernel_rfl)) t1 bel lt1) (trodAll_cons_mk (Below.trod laidOut (by kernel_rfl) (of_decide_eq_true (by kernel_rfl)) t2 bel lt2) (trodAll_cons_mk (Below.trod laidOut (by kernel_rfl) (of_decide_eq_true (by kernel_rfl)) t3 bel lt3) trodAll_mk0)))), rfl, bel.frame _, fun h => by cases h⟩
theorem over : Rows.fnExactSolvePuzzleRow.holds Tryz.pinned (OpenSpec.ofChange Rows.fnExactSolvePuzzleSpec) :=
 OpenClaim.holds_of_wide 6 Tryz.f6 rfl rfl rfl rfl rfl rfl rfl ⟨rfl, rfl, rfl, rfl, rfl⟩ rfl rfl rfl rfl rfl (by kernel_rfl) Tryz.func6 (by kernel_rfl)
  (of_decide_eq_true (by kernel_rfl)) (by unfold Func.isWrapper; first | (rw [if_pos (by decide +kernel)]; kernel_rfl) | (rw [if_neg (by decide +kernel)]; exact ⟨rfl, rfl⟩))
  (fun os started H enc _ => lifted os started H enc)
theorem proved : Rows.FnExactSolvePuzzleSaid := over
#print axioms proved
end Go.Proofs.YtikmdgmnhbodjaaGreat.fnExactSolvePuzzle
namespace Go.Proofs.YtikmdgmnhbodjaaGreat
theorem fnExactSolvePuzzle_holds : Rows.FnExactSolvePuzzleSaid := fnExactSolvePuzzle.proved
end Go.Proofs.YtikmdgmnhbodjaaGreat
