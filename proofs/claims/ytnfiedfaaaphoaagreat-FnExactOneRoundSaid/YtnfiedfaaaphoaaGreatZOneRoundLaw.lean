/- The program's law FnExactOneRound: for every input it returns true, and each argument reads behind the call as it read before. No further condition. -/
import Derived.Test.YtnfiedfaaaphoaaGreatRows
import Derived.Test.YtnfiedfaaaphoaaGreatZOneRoundQ
import Derived.Test.YtnfiedfaaaphoaaGreatZOneRoundPure
import Derived.Test.YtnfiedfaaaphoaaGreatZOneRoundOpen
import Derived.WalkKit
import Derived.ProofKit
import Derived.OpenShut
import Derived.ShutString
import Derived.ChangeOld
import Derived.Below
import Derived.SizedLaws
import Derived.Carry
namespace Go.Proofs.YtnfiedfaaaphoaaGreat.fnExactOneRound
open Go.ChangeShapes Go.WideShapes Go.ChangeAt Go.RowKit Go.Proofs.YtnfiedfaaaphoaaGreatW.PrintWords Go.Proofs.YtnfiedfaaaphoaaGreat.PFnExactOneRound
set_option linter.unusedVariables false
set_option linter.unusedSimpArgs false
theorem own : ownKnob Tryz.prog.godebug = none := by kernel_rfl
theorem laidOut : laidOutB Tryz.prog = true := by kernel_rfl
theorem Dv {H : Type} {enc : TypeId × Value → H} {W : World} : Op.Opens enc Tryz.prog W k23 23 Fj :=
 Op.pq (fun p => (⟨p.1, p.2.1, p.2.2⟩ : S23)) (fun _ => rfl) (Op.mh Tryz.underlying23 rfl (by kernel_rfl) (Op.jk rfl (by kernel_rfl) (Op.ku Tryz.underlying3) (Op.jk rfl (by kernel_rfl) (Op.ku Tryz.underlying3) (Op.om rfl (by kernel_rfl) (Op.mq Tryz.underlying9)))))
theorem Ci {H : Type} {enc : TypeId × Value → H} {W : World} : Op.Opens enc Tryz.prog W xD 143 Eh :=
 Op.pq (fun p => (⟨p.1, p.2.1, p.2.2.1, p.2.2.2⟩ : mP)) (fun _ => rfl) (Op.mh Tryz.underlying143 rfl (by kernel_rfl) (Op.jk rfl (by kernel_rfl) (Op.ku Tryz.underlying3) (Op.jk rfl (by kernel_rfl) (Op.mq Tryz.underlying9) (Op.jk rfl (by kernel_rfl) (Op.ku Tryz.underlying3) (Op.om rfl (by kernel_rfl) (Op.ku Tryz.underlying3))))))
theorem DZ {H : Type} {enc : TypeId × Value → H} {W : World} : Op.Opens enc Tryz.prog W k68 68 FL :=
 Op.pq (fun p => (⟨p.1, p.2⟩ : S68)) (fun _ => rfl) (Op.mh Tryz.underlying68 rfl (by kernel_rfl) (Op.jk rfl (by kernel_rfl) (Op.ku Tryz.underlying3) (Op.om rfl (by kernel_rfl) (Op.nC (B := 40) Tryz.underlying66 (by kernel_rfl) (by kernel_rfl) Ci))))
theorem DU {H : Type} {enc : TypeId × Value → H} {W : World} : Op.Opens enc Tryz.prog W k45 45 Fh :=
 Op.pq (fun p => (⟨p.1, p.2.1, p.2.2.1, p.2.2.2⟩ : S45)) (fun _ => rfl) (Op.mh Tryz.underlying45 rfl (by kernel_rfl) (Op.jk rfl (by kernel_rfl) Dv (Op.jk rfl (by kernel_rfl) (Op.nC (B := 32) Tryz.underlying24 (by kernel_rfl) (by kernel_rfl) DZ) (Op.jk rfl (by kernel_rfl) (Op.nC (B := 8) Tryz.underlying43 (by kernel_rfl) (by kernel_rfl) (Op.ku Tryz.underlying3)) (Op.om rfl (by kernel_rfl) (Op.ku Tryz.underlying3))))))
theorem D9 {H : Type} {enc : TypeId × Value → H} {W : World} : Op.Opens enc Tryz.prog W k71 71 Fx :=
 Op.pq (fun p => (⟨p.1, p.2⟩ : S71)) (fun _ => rfl) (Op.mh Tryz.underlying71 rfl (by kernel_rfl) (Op.jk rfl (by kernel_rfl) (Op.mq Tryz.underlying9) (Op.om rfl (by kernel_rfl) (Op.ku Tryz.underlying3))))
set_option maxRecDepth 100000 in
theorem lifted (os : Os) (started : os.Started) (H : Type) (enc : TypeId × Value → H) :
  ReturnsInHanded {} Tryz.checked os 4 .any (Rows.fnExactOneRoundSpec.pre6 enc Tryz.prog Tryz.f4 Rows.fnExactOneRoundRow.domain false) (Rows.fnExactOneRoundSpec.post enc Tryz.prog Tryz.f4 false true false false) := by
 refine returnsInHanded_of_change_sized (C := Tryz.checked) own started (by kernel_rfl) Tryz.func4
  (ChangeSpec.witness6 (enc := enc) (C := Tryz.checked) false ⟨#[], #[.agg #[.int .i64 0, .int .i64 0, .string ByteArray.empty, .slice none 0 0, .slice none 0 0, .int .i64 0], .string ByteArray.empty, .slice none 0 0, .slice none 0 0, .int .i64 0], []⟩ 8 (by kernel_rfl) (by kernel_rfl) (by kernel_rfl) (by kernel_rfl)) ?_
 intro W base args ds gs before hval0 hW hcnd hsz0 _
 have hsz : (DataW.weightsEach Tryz.prog (Tryz.f4.params.toList ++ Rows.fnExactOneRoundSpec.plain.varTypes Tryz.prog) (ds ++ gs)).all (· ≤ reachBytes) = true := hsz0
 have hval : ∀ (j : Nat) t v, Tryz.f4.params[j]? = some t → args[j]? = some v → Value.okWide Tryz.prog W .any base t v := hval0
 have hW' := hW
 obtain ⟨p, q, hA0, hV, rfl, hfz, hnd⟩ := hW
 have hA : DataW.TrodAll enc Tryz.prog W 0 (fun _ => true) true Tryz.f4.params.toList args.toList ds p := hA0
 rw [Tryz.params4] at hA hval hsz
 obtain ⟨v0, vs0, d0, ds0, p0, q0, hargs, rfl, rfl, h0, r0⟩ := trodAll_cons hA
 obtain ⟨v1, vs1, d1, ds1, p1, q1, rfl, rfl, rfl, h1, r1⟩ := trodAll_cons r0
 obtain ⟨v2, vs2, d2, ds2, p2, q2, rfl, rfl, rfl, h2, r2⟩ := trodAll_cons r1
 obtain ⟨v3, vs3, d3, ds3, p3, q3, rfl, rfl, rfl, h3, r3⟩ := trodAll_cons r2
 obtain ⟨v4, vs4, d4, ds4, p4, q4, rfl, rfl, rfl, h4, r4⟩ := trodAll_cons r3
 obtain ⟨rfl, rfl, rfl⟩ := trodAll_nil r4
 obtain rfl : args = #[v0, v1, v2, v3, v4] := by cases args; simp_all
 obtain ⟨rfl, rfl⟩ := trodVars_none hV
 have t0 := h0
 have lt0 : ∀ x ∈ p0, x.block < W.heap.size := by obtain ⟨m, hm⟩ := t0; exact DataW.trod_lt m _ _ _ hm
 obtain ⟨cs0, rfl, _⟩ := okWide_struct Tryz.underlying45 (hval 0 45 v0 rfl rfl)
 obtain ⟨y0, K0, O0⟩ := Op.qx hsz (j := 0) rfl rfl DU h0
 obtain ⟨A0_3, c0_3, A0_4, c0_4, e0, hl0_3, hr0_3, hl0_4, hr0_4⟩ := Dj K0
 obtain rfl : cs0 = #[.int .i64 y0.f0.f0, .int .i64 y0.f0.f1, .string y0.f0.f2, .slice A0_3 y0.f1.length c0_3, .slice A0_4 y0.f2.length c0_4, .int .i64 y0.f3] := Array.toList_inj.mp e0
 have t1 := h1
 have lt1 : ∀ x ∈ p1, x.block < W.heap.size := by obtain ⟨m, hm⟩ := t1; exact DataW.trod_lt m _ _ _ hm
 obtain ⟨a1, rfl⟩ := okWide_string Tryz.underlying9 (hval 1 9 v1 rfl rfl)
 obtain ⟨b1, K1, O1⟩ := Op.qx hsz (j := 1) rfl rfl (Op.mq Tryz.underlying9) h1
 obtain rfl : a1 = b1 := by injection K1 with K _; injection K
 have t2 := h2
 have lt2 : ∀ x ∈ p2, x.block < W.heap.size := by obtain ⟨m, hm⟩ := t2; exact DataW.trod_lt m _ _ _ hm
 obtain ⟨x2, len2, cap2, rfl⟩ := okWide_slice Tryz.underlying25 (hval 2 25 v2 rfl rfl)
 obtain ⟨l2, ⟨A2, c2, e2, hl2, hr2⟩, O2⟩ := Op.qx hsz (j := 2) rfl rfl (Op.nC (B := 24) Tryz.underlying25 (by kernel_rfl) (by kernel_rfl) D9) h2
 obtain ⟨rfl, rfl, rfl⟩ : x2 = A2 ∧ len2 = l2.length ∧ cap2 = c2 := by injection e2 with e _; injection e with e1 e2 e3; exact ⟨e1, e2, e3⟩
 have t3 := h3
 have lt3 : ∀ x ∈ p3, x.block < W.heap.size := by obtain ⟨m, hm⟩ := t3; exact DataW.trod_lt m _ _ _ hm
 obtain ⟨x3, len3, cap3, rfl⟩ := okWide_slice Tryz.underlying26 (hval 3 26 v3 rfl rfl)
 obtain ⟨l3, ⟨A3, c3, e3, hl3, hr3⟩, O3⟩ := Op.qx hsz (j := 3) rfl rfl (Op.nC (B := 16) Tryz.underlying26 (by kernel_rfl) (by kernel_rfl) (Op.mq Tryz.underlying9)) h3
 obtain ⟨rfl, rfl, rfl⟩ : x3 = A3 ∧ len3 = l3.length ∧ cap3 = c3 := by injection e3 with e _; injection e with e1 e2 e3; exact ⟨e1, e2, e3⟩
 have t4 := h4
 have lt4 : ∀ x ∈ p4, x.block < W.heap.size := by obtain ⟨m, hm⟩ := t4; exact DataW.trod_lt m _ _ _ hm
 obtain ⟨a4, rfl, _, _, _⟩ := open_int Tryz.underlying3 (hval 4 3 v4 rfl rfl) h4
 obtain ⟨b4, K4, O4⟩ := Op.qx hsz (j := 4) rfl rfl (Op.ku Tryz.underlying3) h4
 obtain rfl : a4 = b4 := by injection K4 with K _; injection K
 clear hA0 hval0 hsz0 hsz
 obtain ⟨k, hk⟩ := Pure.pV y0 a1 l2 l3 a4 O0 O1 O2 O3 O4
 refine (gH.calls (FV := y0.f0.f0) (FW := y0.f0.f1) (FX := y0.f0.f2) (A0_3 := A0_3) (c0_3 := c0_3) (F4 := y0.f1) (A0_4 := A0_4) (c0_4 := c0_4) (F5 := y0.f2) (F6 := y0.f3) (a1 := a1) (A2 := x2) (c2 := cap2) (l2 := l2) (A3 := x3) (c3 := cap3) (l3 := l3) (a4 := a4) (k := k) (r := true) (w := W) (hr0_3 := hr0_3) (hc0_3 := hl0_3) (hr0_4 := hr0_4) (hc0_4 := hl0_4) (hr2 := hr2) (hc2 := hl2) (hr3 := hr3) (hc3 := hl3) (h := hk)).mono fun e W' ⟨he, bel_⟩ => ?_
 have bel : Below W.heap.size W W' := bel_
 subst he
 exact ⟨_, rfl, _, _, _, [], _, [], hW', trodAll_mk1 (shut_bool Tryz.underlying4 _), (trodAll_cons_mk (Below.trod laidOut (by kernel_rfl) (of_decide_eq_true (by kernel_rfl)) t0 bel lt0) (trodAll_cons_mk (Below.trod laidOut (by kernel_rfl) (of_decide_eq_true (by kernel_rfl)) t1 bel lt1) (trodAll_cons_mk (Below.trod laidOut (by kernel_rfl) (of_decide_eq_true (by kernel_rfl)) t2 bel lt2) (trodAll_cons_mk (Below.trod laidOut (by kernel_rfl) (of_decide_eq_true (by kernel_rfl)) t3 bel lt3) (trodAll_cons_mk (Below.trod laidOut (by kernel_rfl) (of_decide_eq_true (by kernel_rfl)) t4 bel lt4) trodAll_mk0))))), rfl, bel.frame _, fun h => by cases h⟩
theorem over : Rows.fnExactOneRoundRow.holds Tryz.pinned (OpenSpec.ofChange Rows.fnExactOneRoundSpec) :=
 OpenClaim.holds_of_wide 4 Tryz.f4 rfl rfl rfl rfl rfl rfl rfl ⟨rfl, rfl, rfl, rfl, rfl⟩ rfl rfl rfl rfl rfl (by kernel_rfl) Tryz.func4 (by kernel_rfl)
  (of_decide_eq_true (by kernel_rfl)) (by unfold Func.isWrapper; first | (rw [if_pos (by decide +kernel)]; kernel_rfl) | (rw [if_neg (by decide +kernel)]; exact ⟨rfl, rfl⟩))
  (fun os started H enc _ => lifted os started H enc)
theorem proved : Rows.FnExactOneRoundSaid := over
#print axioms proved
end Go.Proofs.YtnfiedfaaaphoaaGreat.fnExactOneRound
namespace Go.Proofs.YtnfiedfaaaphoaaGreat
theorem fnExactOneRound_holds : Rows.FnExactOneRoundSaid := fnExactOneRound.proved
end Go.Proofs.YtnfiedfaaaphoaaGreat
