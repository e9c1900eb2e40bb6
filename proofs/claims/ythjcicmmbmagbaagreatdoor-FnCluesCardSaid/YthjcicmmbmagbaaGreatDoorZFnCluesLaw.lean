/- The program's law FnClues: for every input it returns true, and each argument reads behind the call as it read before. No further condition. -/
import Derived.Test.YthjcicmmbmagbaaGreatDoorRows
import Derived.Test.YthjcicmmbmagbaaGreatDoorZFnCluesQ
import Derived.Test.YthjcicmmbmagbaaGreatDoorZFnCluesPure
import Derived.Test.YthjcicmmbmagbaaGreatDoorZFnCluesOpen
import Derived.Test.YthjcicmmbmagbaaGreatDoorTie
import Derived.Test.YthjcicmmbmagbaaGreatDoorCards
import Derived.LaidMore
import Derived.Stop.Joined
import Derived.SevenTiedAt
import Derived.WalkKit
import Derived.ProofKit
import Derived.OpenShut
import Derived.ShutString
import Derived.ChangeOld
import Derived.Below
import Derived.SizedLaws
import Derived.Carry
namespace Go.Proofs.YthjcicmmbmagbaaGreatDoor.fnClues
open Go.ChangeShapes Go.WideShapes Go.ChangeAt Go.RowKit Go.Proofs.YthjcicmmbmagbaaGreatDoorW.PrintWords Go.Proofs.YthjcicmmbmagbaaGreatDoor.PFnClues
set_option linter.unusedVariables false
set_option linter.unusedSimpArgs false
theorem own : ownKnob Tryz.prog.godebug = none := by kernel_rfl
theorem laidOut : laidOutB Tryz.prog = true := by kernel_rfl
theorem wB (os : Os) (args : Array Value) : laidMetH Tryz.prog Rows.fnCluesRow.laid ((World.doorLaid Tryz.prog 400 os).forCall (fun _ _ => 0) ⟨#[], args, []⟩).memory :=
 laidMetH_of_parts3 (fuel := 8) (laidMet_of_run' 8 (by kernel_rfl) (by kernel_rfl)) (by kernel_rfl) (by kernel_rfl)
set_option maxRecDepth 100000 in
theorem lifted (os : Os) (started : os.Started) (H : Type) (enc : TypeId × Value → H) :
  ReturnsInHanded {} Tryz.checked os 3 .any (fun w args => (Rows.fnCluesSpec.pre enc Tryz.prog Tryz.f3 Rows.fnCluesRow.domain false w args ∧ laidMetH Tryz.prog Rows.fnCluesRow.laid w) ∧ sizedMet enc Tryz.prog Tryz.f3 (OpenSpec.ofChange Rows.fnCluesSpec) false w args) (Rows.fnCluesSpec.post enc Tryz.prog Tryz.f3 false true false false) := by
 refine returnsInHanded_of_change_and (C := Tryz.checked) (X := fun w _ => laidMetH Tryz.prog Rows.fnCluesRow.laid w) (fun _ _ _ hh h => h.of_heap hh) own started (by kernel_rfl) Tryz.func3
  (ChangeSpec.witness_shaped (enc := enc) (C := Tryz.checked) (os := os) (X := fun w _ => laidMetH Tryz.prog Rows.fnCluesRow.laid w) false (World.doorLaid Tryz.prog 400 os) #[.slice none 0 0] 8 rfl (World.shaped_of_RefB (by kernel_rfl) (by kernel_rfl)) (by kernel_rfl) (by kernel_rfl) (by kernel_rfl) (wB os _)) ?_
 intro W base args ds gs before hval0 hW hcnd hsz0 _ _
 have hsz : (DataW.weightsEach Tryz.prog (Tryz.f3.params.toList ++ Rows.fnCluesSpec.plain.varTypes Tryz.prog) (ds ++ gs)).all (· ≤ reachBytes) = true := hsz0
 have hval : ∀ (j : Nat) t v, Tryz.f3.params[j]? = some t → args[j]? = some v → Value.okWide Tryz.prog W .any base t v := hval0
 have hW' := hW
 obtain ⟨p, q, hA0, hV, rfl, hfz, hnd⟩ := hW
 have hA : DataW.TrodAll enc Tryz.prog W 0 (fun _ => true) true Tryz.f3.params.toList args.toList ds p := hA0
 rw [Tryz.params3] at hA hval hsz
 obtain ⟨v0, vs0, d0, ds0, p0, q0, hargs, rfl, rfl, h0, r0⟩ := trodAll_cons hA
 obtain ⟨rfl, rfl, rfl⟩ := trodAll_nil r0
 obtain rfl : args = #[v0] := by cases args; simp_all
 obtain ⟨rfl, rfl⟩ := trodVars_none hV
 have t0 := h0
 have lt0 : ∀ x ∈ p0, x.block < W.heap.size := by obtain ⟨m, hm⟩ := t0; exact DataW.trod_lt m _ _ _ hm
 obtain ⟨x0, len0, cap0, rfl⟩ := okWide_slice Tryz.underlying22 (hval 0 22 v0 rfl rfl)
 obtain ⟨l0, ⟨A0, c0, e0, hl0, hr0⟩, O0⟩ := Op.uW hsz (j := 0) rfl rfl (Op.rF (B := 1) Tryz.underlying22 (by kernel_rfl) (by kernel_rfl) (Op.uq Tryz.underlying5)) h0
 obtain ⟨rfl, rfl, rfl⟩ : x0 = A0 ∧ len0 = l0.length ∧ cap0 = c0 := by injection e0 with e _; injection e with e1 e2 e3; exact ⟨e1, e2, e3⟩
 clear hA0 hval0 hsz0 hsz
 obtain ⟨k, hk⟩ := Pure.qz l0 (by unfold maxLen; exact O0.2.1) O0.1 O0.2.2
 refine (bg.calls (A0 := x0) (c0 := cap0) (l0 := l0) (k := k) (r := true) (w := W) (zA := hr0) (zB := hl0) (h := hk)).mono fun e W' ⟨he, bel_⟩ => ?_
 have bel : Below W.heap.size W W' := bel_
 subst he
 exact ⟨_, rfl, _, _, _, [], _, [], hW', trodAll_mk1 (shut_bool Tryz.underlying4 _), (trodAll_cons_mk (Below.trod laidOut (by kernel_rfl) (of_decide_eq_true (by kernel_rfl)) t0 bel lt0) trodAll_mk0), rfl, bel.frame _, fun h => by cases h⟩
theorem over : Rows.fnCluesRow.holds Tryz.pinned (OpenSpec.ofChange Rows.fnCluesSpec) :=
 OpenClaim.holds_of_wide 3 Tryz.f3 rfl rfl rfl rfl rfl rfl rfl ⟨rfl, rfl, rfl, rfl, rfl⟩ rfl rfl rfl rfl rfl (by kernel_rfl) Tryz.func3 (by kernel_rfl)
  (of_decide_eq_true (by kernel_rfl)) (by unfold Func.isWrapper; first | (rw [if_pos (by decide +kernel)]; kernel_rfl) | (rw [if_neg (by decide +kernel)]; exact ⟨rfl, rfl⟩))
  (fun os started H enc _ => lifted os started H enc)
theorem proved : Rows.FnCluesCardSaid :=
 Claim7.holds_tied_plain_at .later [] [.data, .data, .data] true (true, "3f59b3d0ccf7eb2dab76b41f3bab6b734320714f7497f06d249f24c8e4a8543c") false
  over (fun _ h => by cases h) (by kernel_rfl) (fun _ h => by cases h) fnClues_row_tie rfl ⟨rfl, rfl⟩ (by kernel_rfl) rfl
  (fun f fn hf hfn => by
   obtain rfl : f = 3 := Option.some.inj ((show Tryz.prog.funcNamed "loop.example/g03003/laws.FnClues" = some 3 by kernel_rfl).symm.trans hf) |>.symm
   obtain rfl : fn = Tryz.f3 := (Option.some.inj (Tryz.func3.symm.trans hfn)).symm
   exact ⟨by kernel_rfl, fun j t ht => by
    rw [Tryz.params3] at ht
    have hall : ∀ u ∈ (#[22] : Array TypeId).toList, Tryz.prog.wantsStandIn u = false := by
     intro u hu
     simp only [List.mem_cons, List.not_mem_nil, or_false] at hu
     rcases hu with rfl <;> kernel_rfl
    exact hall t (by rw [Array.getElem?_eq_some_iff] at ht; obtain ⟨hj, rfl⟩ := ht; exact Array.getElem_mem_toList hj)⟩)
  (by kernel_rfl)
#print axioms proved
end Go.Proofs.YthjcicmmbmagbaaGreatDoor.fnClues
namespace Go.Proofs.YthjcicmmbmagbaaGreatDoor
theorem fnClues_holds : Rows.FnCluesCardSaid := fnClues.proved
end Go.Proofs.YthjcicmmbmagbaaGreatDoor
