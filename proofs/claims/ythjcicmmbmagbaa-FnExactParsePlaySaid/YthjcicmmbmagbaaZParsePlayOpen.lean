/- What a law's arguments are, read out of the row's data: a value of each kind, with its bounds. Plain lemmas, no condition beside those written. -/
import Derived.Test.YthjcicmmbmagbaaZParsePlayW
import Derived.Deep.Slices
import Derived.ChangeArms
import Derived.SizedLaws
import Derived.OpenShut
import Derived.WideShapes
namespace Go.Proofs.Ythjcicmmbmagbaa.Op
open Go.Proofs.YthjcicmmbmagbaaW.PrintWords Go.ChangeShapes Go.WideShapes Go.Deep Go.RowKit
set_option linter.unusedVariables false
set_option linter.unusedSimpArgs false
section
variable {H : Type} {enc : TypeId × Value → H} {P : Program} {W : World} {α β : Type}
def Opens (enc : TypeId × Value → H) (P : Program) (W : World) (k : Kd α) (T : TypeId) (OK : α → Prop) : Prop :=
 ∀ fuel cs d ps, DataW.trod enc P W 0 (fun _ => true) true fuel T cs = some (d, ps) → (d.weights P T).all (· ≤ reachBytes) = true → ∃ y, k.K W y cs ∧ OK y
theorem mh {T : TypeId} (h : P.underlying T = some .string) : Opens enc P W Kd.string T (fun s => s.size ≤ 140737488351232) := by
 intro fuel cs d ps ht hw
 cases fuel with
 | zero => simp [DataW.trod] at ht
 | succ n =>
  unfold DataW.trod at ht
  rw [h] at ht
  split at ht <;> simp_all
  rename_i s
  refine ⟨_, rfl, ?_⟩
  obtain ⟨_, rfl, _⟩ := ht
  simpa [DataW.weights, reachBytes] using hw
theorem jV : ∀ {ts : List TypeId} {ds : List (DataW H)} {j : Nat} {t : TypeId} {d : DataW H}, ts[j]? = some t → ds[j]? = some d → (DataW.weightsEach P ts ds).all (· ≤ reachBytes) = true → (d.weights P t).all (· ≤ reachBytes) = true := by
 intro ts ds j t d ht hd h
 rw [List.all_eq_true] at h ⊢
 exact fun m hm => h m (DataW.weights_mem_each ht hd m hm)
theorem o8 {ts : List TypeId} {ds : List (DataW H)} {j : Nat} {T : TypeId} {v : Value} {d : DataW H} {ps : List MemPlace} {k : Kd α} {OK : α → Prop} (hsz : (DataW.weightsEach P ts ds).all (· ≤ reachBytes) = true) (ht : ts[j]? = some T) (hd : ds[j]? = some d)
  (h : Opens enc P W k T OK) (hr : DataW.Trod enc P W 0 (fun _ => true) true T v d ps) : ∃ y, k.K W y v.cells.toList ∧ OK y := by
 obtain ⟨fuel, hf⟩ := hr
 exact h _ _ _ _ hf (jV ht hd hsz)
end
end Go.Proofs.Ythjcicmmbmagbaa.Op
