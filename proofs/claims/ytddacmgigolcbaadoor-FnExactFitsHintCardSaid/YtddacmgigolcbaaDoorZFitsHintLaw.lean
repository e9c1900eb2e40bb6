/- The program's law FnExactFitsHint: for every input it returns true, and each argument reads behind the call as it read before. No further condition. -/
import Derived.Test.YtddacmgigolcbaaDoorRows
import Derived.Test.YtddacmgigolcbaaDoorZFitsHintQ
import Derived.Test.YtddacmgigolcbaaDoorZFitsHintPure
import Derived.Test.YtddacmgigolcbaaDoorZFitsHintOpen
import Derived.Test.YtddacmgigolcbaaDoorTie
import Derived.Test.YtddacmgigolcbaaDoorCards
import Derived.LaidMore
import Derived.Stop.Joined
import Derived.SevenTiedAt
import Derived.WalkKit
import Derived.ProofKit
import Derived.OpenShut
import Derived.ShutString
import Derived.ChangeOld
import Derived.Below
import Derived.SizedLaws
import Derived.Carry
namespace Go.Proofs.YtddacmgigolcbaaDoor.fnExactFitsHint
open Go.ChangeShapes Go.WideShapes Go.ChangeAt Go.RowKit Go.Proofs.YtddacmgigolcbaaDoorW.PrintWords Go.Proofs.YtddacmgigolcbaaDoor.PFnExactFitsHint
set_option linter.unusedVariables false
set_option linter.unusedSimpArgs false
theorem own : ownKnob Tryd.prog.godebug = none := by kernel_rfl
theorem laidOut : laidOutB Tryd.prog = true := by kernel_rfl
theorem opens50 {H : Type} {enc : TypeId × Value → H} {W : World} : Op.Opens enc Tryd.prog W k50 50 OK50 :=
  Op.opens_iso (fun p => (⟨p.1, p.2.1, p.2.2.1, p.2.2.2⟩ : S50)) (fun _ => rfl) (Op.opens_struct Tryd.underlying50 rfl (by kernel_rfl) (Op.opensF_cons rfl (by kernel_rfl) (Op.opens_int Tryd.underlying3) (Op.opensF_cons rfl (by kernel_rfl) (Op.opens_string Tryd.underlying9) (Op.opensF_cons rfl (by kernel_rfl) (Op.opens_int Tryd.underlying3) (Op.opensF_one rfl (by kernel_rfl) (Op.opens_int Tryd.underlying3))))))
theorem opens24 {H : Type} {enc : TypeId × Value → H} {W : World} : Op.Opens enc Tryd.prog W k24 24 OK24 :=
  Op.opens_iso (fun p => (⟨p.1, p.2⟩ : S24)) (fun _ => rfl) (Op.opens_struct Tryd.underlying24 rfl (by kernel_rfl) (Op.opensF_cons rfl (by kernel_rfl) (Op.opens_int Tryd.underlying3) (Op.opensF_one rfl (by kernel_rfl) (Op.opens_slice (B := 40) Tryd.underlying22 (by kernel_rfl) (by kernel_rfl) opens50))))
/-- The door's own heap meets the condition on the listed variables. -/
theorem door_met (os : Os) (args : Array Value) : laidMetH Tryd.prog Rows.fnExactFitsHintRow.laid ((World.doorLaid Tryd.prog 400 os).forCall (fun _ _ => 0) ⟨#[], args, []⟩).memory :=
  laidMetH_of_parts3 (fuel := 8) (laidMet_of_run' 8 (by kernel_rfl) (by kernel_rfl)) (by kernel_rfl) (by kernel_rfl)
set_option maxRecDepth 100000 in
theorem lifted (os : Os) (started : os.Started) (H : Type) (enc : TypeId × Value → H) :
    ReturnsInHanded {} Tryd.checked os 5 .any (fun w args => (Rows.fnExactFitsHintSpec.pre enc Tryd.prog Tryd.f5 Rows.fnExactFitsHintRow.domain false w args ∧ laidMetH Tryd.prog Rows.fnExactFitsHintRow.laid w) ∧ sizedMet enc Tryd.prog Tryd.f5 (OpenSpec.ofChange Rows.fnExactFitsHintSpec) false w args) (Rows.fnExactFitsHintSpec.post enc Tryd.prog Tryd.f5 false true false false) := by
  refine returnsInHanded_of_change_and (C := Tryd.checked) (X := fun w _ => laidMetH Tryd.prog Rows.fnExactFitsHintRow.laid w) (fun _ _ _ hh h => h.of_heap hh) own started (by kernel_rfl) Tryd.func5
    (ChangeSpec.witness_shaped (enc := enc) (C := Tryd.checked) (os := os) (X := fun w _ => laidMetH Tryd.prog Rows.fnExactFitsHintRow.laid w) false (World.doorLaid Tryd.prog 400 os) #[.agg #[.int .i64 0, .slice none 0 0], .string ByteArray.empty, .int .i64 0, .string ByteArray.empty] 8 rfl (World.shaped_of_RefB (by kernel_rfl) (by kernel_rfl)) (by kernel_rfl) (by kernel_rfl) (by kernel_rfl) (door_met os _)) ?_
  intro W base args ds gs before hval0 hW hcnd hsz0 _ _
  have hsz : (DataW.weightsEach Tryd.prog (Tryd.f5.params.toList ++ Rows.fnExactFitsHintSpec.plain.varTypes Tryd.prog) (ds ++ gs)).all (· ≤ reachBytes) = true := hsz0
  have hval : ∀ (j : Nat) t v, Tryd.f5.params[j]? = some t → args[j]? = some v → Value.okWide Tryd.prog W .any base t v := hval0
  have hW' := hW
  obtain ⟨p, q, hA0, hV, rfl, hfz, hnd⟩ := hW
  have hA : DataW.TrodAll enc Tryd.prog W 0 (fun _ => true) true Tryd.f5.params.toList args.toList ds p := hA0
  rw [Tryd.params5] at hA hval hsz
  obtain ⟨v0, vs0, d0, ds0, p0, q0, hargs, rfl, rfl, h0, r0⟩ := trodAll_cons hA
  obtain ⟨v1, vs1, d1, ds1, p1, q1, rfl, rfl, rfl, h1, r1⟩ := trodAll_cons r0
  obtain ⟨v2, vs2, d2, ds2, p2, q2, rfl, rfl, rfl, h2, r2⟩ := trodAll_cons r1
  obtain ⟨v3, vs3, d3, ds3, p3, q3, rfl, rfl, rfl, h3, r3⟩ := trodAll_cons r2
  obtain ⟨rfl, rfl, rfl⟩ := trodAll_nil r3
  obtain rfl : args = #[v0, v1, v2, v3] := by cases args; simp_all
  obtain ⟨rfl, rfl⟩ := trodVars_none hV
  have t0 := h0
  have lt0 : ∀ x ∈ p0, x.block < W.heap.size := by obtain ⟨m, hm⟩ := t0; exact DataW.trod_lt m _ _ _ hm
  obtain ⟨cs0, rfl, _⟩ := okWide_struct Tryd.underlying24 (hval 0 24 v0 rfl rfl)
  obtain ⟨y0, K0, O0⟩ := Op.open_arg hsz (j := 0) rfl rfl opens24 h0
  obtain ⟨A0_1, c0_1, e0, hl0_1, hr0_1⟩ := k24_open K0
  obtain rfl : cs0 = #[.int .i64 y0.f0, .slice A0_1 y0.f1.length c0_1] := Array.toList_inj.mp e0
  have t1 := h1
  have lt1 : ∀ x ∈ p1, x.block < W.heap.size := by obtain ⟨m, hm⟩ := t1; exact DataW.trod_lt m _ _ _ hm
  obtain ⟨a1, rfl⟩ := okWide_string Tryd.underlying9 (hval 1 9 v1 rfl rfl)
  obtain ⟨b1, K1, O1⟩ := Op.open_arg hsz (j := 1) rfl rfl (Op.opens_string Tryd.underlying9) h1
  obtain rfl : a1 = b1 := by injection K1 with K _; injection K
  have t2 := h2
  have lt2 : ∀ x ∈ p2, x.block < W.heap.size := by obtain ⟨m, hm⟩ := t2; exact DataW.trod_lt m _ _ _ hm
  obtain ⟨a2, rfl, _, _, _⟩ := open_int Tryd.underlying3 (hval 2 3 v2 rfl rfl) h2
  obtain ⟨b2, K2, O2⟩ := Op.open_arg hsz (j := 2) rfl rfl (Op.opens_int Tryd.underlying3) h2
  obtain rfl : a2 = b2 := by injection K2 with K _; injection K
  have t3 := h3
  have lt3 : ∀ x ∈ p3, x.block < W.heap.size := by obtain ⟨m, hm⟩ := t3; exact DataW.trod_lt m _ _ _ hm
  obtain ⟨a3, rfl⟩ := okWide_string Tryd.underlying9 (hval 3 9 v3 rfl rfl)
  obtain ⟨b3, K3, O3⟩ := Op.open_arg hsz (j := 3) rfl rfl (Op.opens_string Tryd.underlying9) h3
  obtain rfl : a3 = b3 := by injection K3 with K _; injection K
  clear hA0 hval0 hsz0 hsz
  obtain ⟨k, hk⟩ := Pure.FnExactFitsHint y0 a1 a2 a3 O0 O1 O2 O3
  refine (laws_FnExactFitsHint.calls (a0_0 := y0.f0) (A0_1 := A0_1) (c0_1 := c0_1) (l0_1 := y0.f1) (a1 := a1) (a2 := a2) (a3 := a3) (k := k) (r := true) (w := W) (hr0_1 := hr0_1) (hc0_1 := hl0_1) (h := hk)).mono fun e W' ⟨he, bel_⟩ => ?_
  have bel : Below W.heap.size W W' := bel_
  subst he
  exact ⟨_, rfl, _, _, _, [], _, [], hW', trodAll_mk1 (shut_bool Tryd.underlying4 _), (trodAll_cons_mk (Below.trod laidOut (by kernel_rfl) (of_decide_eq_true (by kernel_rfl)) t0 bel lt0) (trodAll_cons_mk (Below.trod laidOut (by kernel_rfl) (of_decide_eq_true (by kernel_rfl)) t1 bel lt1) (trodAll_cons_mk (Below.trod laidOut (by kernel_rfl) (of_decide_eq_true (by kernel_rfl)) t2 bel lt2) (trodAll_cons_mk (Below.trod laidOut (by kernel_rfl) (of_decide_eq_true (by kernel_rfl)) t3 bel lt3) trodAll_mk0)))), rfl, bel.frame _, fun h => by cases h⟩
theorem over : Rows.fnExactFitsHintRow.holds Tryd.pinned (OpenSpec.ofChange Rows.fnExactFitsHintSpec) :=
  OpenClaim.holds_of_wide 5 Tryd.f5 rfl rfl rfl rfl rfl rfl rfl ⟨rfl, rfl, rfl, rfl, rfl⟩ rfl rfl rfl rfl rfl (by kernel_rfl) Tryd.func5 (by kernel_rfl)
    (of_decide_eq_true (by kernel_rfl)) (by unfold Func.isWrapper; first | (rw [if_pos (by decide +kernel)]; kernel_rfl) | (rw [if_neg (by decide +kernel)]; exact ⟨rfl, rfl⟩))
    (fun os started H enc _ => lifted os started H enc)
theorem proved : Rows.FnExactFitsHintCardSaid :=
  Claim7.holds_tied_plain_at .later [] [.data, .data, .data] true (true, "27e2dda1e477cf7109344ccbc528364ab26afe4f4280f2a837b392d4b25f783d") false
    over (fun _ h => by cases h) (by kernel_rfl) (fun _ h => by cases h) fnExactFitsHint_row_tie rfl ⟨rfl, rfl⟩ (by kernel_rfl) rfl
    (fun f fn hf hfn => by
      obtain rfl : f = 5 := Option.some.inj ((show Tryd.prog.funcNamed "loop.example/g03003/laws.FnExactFitsHint" = some 5 by kernel_rfl).symm.trans hf) |>.symm
      obtain rfl : fn = Tryd.f5 := (Option.some.inj (Tryd.func5.symm.trans hfn)).symm
      exact ⟨by kernel_rfl, fun j t ht => by
        rw [Tryd.params5] at ht
        have hall : ∀ u ∈ (#[24, 9, 3, 9] : Array TypeId).toList, Tryd.prog.wantsStandIn u = false := by
          intro u hu
          simp only [List.mem_cons, List.not_mem_nil, or_false] at hu
          rcases hu with rfl | rfl | rfl | rfl <;> kernel_rfl
        exact hall t (by rw [Array.getElem?_eq_some_iff] at ht; obtain ⟨hj, rfl⟩ := ht; exact Array.getElem_mem_toList hj)⟩)
    (by kernel_rfl)
#print axioms proved
end Go.Proofs.YtddacmgigolcbaaDoor.fnExactFitsHint
namespace Go.Proofs.YtddacmgigolcbaaDoor
/-- The tied card, under a short name, for the claim. -/
theorem fnExactFitsHint_holds : Rows.FnExactFitsHintCardSaid := fnExactFitsHint.proved
end Go.Proofs.YtddacmgigolcbaaDoor
