/- What a law's arguments are, read out of the row's data: a value of each kind, with its bounds. Plain lemmas, no condition beside those written. -/
import Derived.Test.YtdbefmkcondbgaaGreatDoorZHaOnSoW
import Derived.Deep.Slices
import Derived.ChangeArms
import Derived.SizedLaws
import Derived.OpenShut
import Derived.WideShapes
namespace Go.Proofs.YtdbefmkcondbgaaGreatDoor.Op
open Go.Proofs.Yw.PrintWords Go.ChangeShapes Go.WideShapes Go.Deep Go.RowKit
set_option linter.unusedVariables false
set_option linter.unusedSimpArgs false
section
variable {H : Type} {enc : TypeId × Value → H} {P : Program} {W : World} {α β : Type}
def Opens (enc : TypeId × Value → H) (P : Program) (W : World) (k : Kd α) (T : TypeId) (OK : α → Prop) : Prop :=
 ∀ fuel cs d ps, DataW.trod enc P W 0 (fun _ => true) true fuel T cs = some (d, ps) → (d.weights P T).all (· ≤ reachBytes) = true → ∃ y, k.K W y cs ∧ OK y
theorem mH {T : TypeId} {ik : IntKind} (h : P.underlying T = some (.int ik)) : Opens enc P W (Kd.int ik) T (fun n => (Lit.int ik n).wf = true) := by
 intro fuel cs d ps ht hw
 cases fuel with
 | zero => simp [DataW.trod] at ht
 | succ n =>
  unfold DataW.trod at ht
  rw [h] at ht
  split at ht <;> simp_all
  rename_i n _
  exact ⟨n, by obtain ⟨⟨rfl, _⟩, _⟩ := ht; rfl, ht.1.2⟩
theorem oW {T : TypeId} (h : P.underlying T = some .string) : Opens enc P W Kd.string T (fun s => s.size ≤ 140737488351232) := by
 intro fuel cs d ps ht hw
 cases fuel with
 | zero => simp [DataW.trod] at ht
 | succ n =>
  unfold DataW.trod at ht
  rw [h] at ht
  split at ht <;> simp_all
  rename_i s
  refine ⟨_, rfl, ?_⟩
  obtain ⟨_, rfl, _⟩ := ht
  simpa [DataW.weights, reachBytes] using hw
theorem pick {n : Nat} {Q : Nat → α → Prop} (h : ∀ i, i < n → ∃ y, Q i y) : ∃ xs : List α, xs.length = n ∧ ∀ (i : Nat) x, xs[i]? = some x → Q i x := by
 induction n with
 | zero => exact ⟨[], rfl, fun i x hx => by simp at hx⟩
 | succ n ih =>
  obtain ⟨xs, hl, hx⟩ := ih (fun i hi => h i (by omega))
  obtain ⟨y, hy⟩ := h n (by omega)
  refine ⟨xs ++ [y], by simp [hl], fun i x hi => ?_⟩
  rcases Nat.lt_or_ge i xs.length with h1 | h1
  ·rw [List.getElem?_append_left h1] at hi
   exact hx i x hi
  ·rw [List.getElem?_append_right h1] at hi
   have h2 : i - xs.length = 0 := by
    rcases Nat.eq_zero_or_pos (i - xs.length) with h0 | h0
    ·exact h0
    ·rw [List.getElem?_eq_none (by simp; omega)] at hi
     cases hi
   rw [h2] at hi
   simp only [List.getElem?_cons_zero, Option.some.injEq] at hi
   subst hi
   rw [show i = n by omega]
   exact hy
theorem rT {E : TypeId} : ∀ {l : List (DataW H)} {d : DataW H}, d ∈ l → ∀ m ∈ d.weights P E, m ∈ DataW.weightsAll P E l
 | [], _, h, _, _ => by cases h
 | x :: r, d, h, m, hm => by
  simp only [DataW.weightsAll, List.mem_append]
  rcases List.mem_cons.1 h with rfl | h
  ·exact .inl hm
  ·exact .inr (rT h m hm)
theorem Bq {T E : TypeId} {k : Kd α} {OK : α → Prop} {B : Nat} (hT : P.underlying T = some (.slice E)) (hB : P.bytesOf E = B) (hsz : P.cellsOf E = k.sz) (hE : Opens enc P W k E OK)
  {fuel : Nat} {cs : List Value} {d : DataW H} {ps : List MemPlace} (ht : DataW.trod enc P W 0 (fun _ => true) true fuel T cs = some (d, ps)) (hw : (d.weights P T).all (· ≤ reachBytes) = true) :
  ∃ (A : Option Addr) (c : Nat) (xs : List α), cs = [.slice A xs.length c] ∧ xs.length ≤ c ∧ k.C W A xs.length xs ∧ xs.length * B ≤ 140737488351232 ∧ xs.length ≤ 9223372036854775807 ∧ ∀ x ∈ xs, OK x := by
 rcases open_slice hT ht with ⟨rfl, _⟩ | ⟨a, len, cap, m, n, D, Pl, rfl, hb, hl, hm, hmm, hx, hi⟩
 ·exact ⟨none, 0, [], rfl, Nat.le_refl _, ⟨rfl, by simp, fun h => by simp at h⟩, by simp, by simp, fun x hx => by cases hx⟩
 ·obtain ⟨hd, _⟩ := Prod.mk.inj hx
  subst hd
  have hmc : m = cap := by simpa using hmm
  subst hmc
  simp only [DataW.weights, hT, List.all_eq_true, List.mem_cons, List.mem_append] at hw
  have hw1 := hw _ (.inl rfl)
  have hw2 : ∀ i, i < len → ((D i).weights P E).all (· ≤ reachBytes) = true := by
   intro i hil
   rw [List.all_eq_true]
   intro q hq
   exact hw q (.inr (.inl (rT (List.mem_map.2 ⟨i, List.mem_range.2 hil, rfl⟩) q hq)))
  have key : ∀ i, i < len → ∃ y, (∃ cs', W.cells? 0 (a.add (i * P.cellsOf E)) (P.cellsOf E) = some cs' ∧ k.K W y cs') ∧ OK y := by
   intro i hil
   obtain ⟨cs', h1, h2⟩ := hi i (by omega)
   obtain ⟨y, h3, h4⟩ := hE _ _ _ _ h2 (hw2 i hil)
   exact ⟨y, ⟨cs', h1, h3⟩, h4⟩
  obtain ⟨xs, hxl, hxs⟩ := pick key
  subst hxl
  simp only [List.length_map, List.length_range, hB, decide_eq_true_eq, reachBytes] at hw1
  refine ⟨some a, m, xs, rfl, hl, ⟨rfl, by unfold maxLen at hm; omega, fun _ => ⟨a, rfl, fun j p hj => ?_⟩⟩, ?_, by unfold maxLen at hm; omega, fun x hx => ?_⟩
  ·obtain ⟨⟨cs', h1, h2⟩, _⟩ := hxs j p hj
   obtain ⟨_, hcl, hat⟩ := World.cells?_some h1
   rw [hsz] at h1 hcl hat
   refine ⟨cs', hcl, h2, fun i u hu => ?_⟩
   have hlt : i < k.sz := by
    rw [← hcl]
    exact (List.getElem?_eq_some_iff.1 hu).1
   have := hat i hlt
   rw [Go.Deep.add_add] at this
   rw [this, hu]
  ·refine Nat.le_trans (Nat.mul_le_mul_right _ (Nat.le_add_right xs.length _)) hw1
  ·obtain ⟨j, hj⟩ := List.getElem?_of_mem hx
   exact (hxs j x hj).2
theorem oC {T E : TypeId} {k : Kd α} {OK : α → Prop} {B : Nat} (hT : P.underlying T = some (.slice E)) (hB : P.bytesOf E = B) (hsz : P.cellsOf E = k.sz) (hE : Opens enc P W k E OK) :
  Opens enc P W (Kd.slice E k) T (fun xs => xs.length * B ≤ 140737488351232 ∧ xs.length ≤ 9223372036854775807 ∧ ∀ x ∈ xs, OK x) := by
 intro fuel cs d ps ht hw
 obtain ⟨A, c, xs, rfl, hl, hr, h1, h2, h3⟩ := Bq hT hB hsz hE ht hw
 exact ⟨xs, ⟨A, c, rfl, hl, hr⟩, h1, h2, h3⟩
def CV (enc : TypeId × Value → H) (P : Program) (W : World) (k : Kd α) (off : Nat) (fs : List Field) (OK : α → Prop) : Prop :=
 ∀ fuel (cs : List Value), cs.length = off + k.sz → (∀ f ∈ fs, ∃ d ps, DataW.trod enc P W 0 (fun _ => true) true fuel f.type ((cs.drop f.offset).take (P.cellsOf f.type)) = some (d, ps) ∧ (d.weights P f.type).all (· ≤ reachBytes) = true) → ∃ y, k.K W y (cs.drop off) ∧ OK y
theorem pF {k : Kd α} {off : Nat} {f : Field} {OK : α → Prop} (ho : f.offset = off) (hsz : P.cellsOf f.type = k.sz) (h : Opens enc P W k f.type OK) : CV enc P W k off [f] OK := by
 intro fuel cs hl hf
 obtain ⟨d, ps, h1, h2⟩ := hf f (List.mem_singleton.2 rfl)
 obtain ⟨y, h3, h4⟩ := h _ _ _ _ h1 h2
 rw [ho, hsz, List.take_of_length_le (by simp; omega)] at h3
 exact ⟨y, h3, h4⟩
theorem jM {k : Kd α} {k' : Kd β} {off : Nat} {f : Field} {fs : List Field} {OK : α → Prop} {OK' : β → Prop} (ho : f.offset = off) (hsz : P.cellsOf f.type = k.sz) (h : Opens enc P W k f.type OK) (h' : CV enc P W k' (off + k.sz) fs OK') :
  CV enc P W (Kd.pair k k') off (f :: fs) (fun y => OK y.1 ∧ OK' y.2) := by
 intro fuel cs hl hf
 have hl' : cs.length = off + (k.sz + k'.sz) := hl
 obtain ⟨d, ps, h1, h2⟩ := hf f (List.mem_cons_self ..)
 obtain ⟨y, h3, h4⟩ := h _ _ _ _ h1 h2
 obtain ⟨z, h5, h6⟩ := h' fuel cs (by omega) (fun g hg => hf g (List.mem_cons_of_mem _ hg))
 rw [ho, hsz] at h3
 refine ⟨(y, z), ⟨_, _, ?_, h3, h5⟩, h4, h6⟩
 rw [← List.drop_drop]
 exact (List.take_append_drop k.sz (cs.drop off)).symm
theorem qZ : ∀ {ts : List TypeId} {ds : List (DataW H)} {j : Nat} {t : TypeId} {d : DataW H}, ts[j]? = some t → ds[j]? = some d → (DataW.weightsEach P ts ds).all (· ≤ reachBytes) = true → (d.weights P t).all (· ≤ reachBytes) = true := by
 intro ts ds j t d ht hd h
 rw [List.all_eq_true] at h ⊢
 exact fun m hm => h m (DataW.weights_mem_each ht hd m hm)
theorem nN {T : TypeId} {fs : Array Field} {l : List Field} {k : Kd α} {OK : α → Prop} (hT : P.underlying T = some (.struct fs)) (hl : fs.toList = l) (hsz : P.cellsOf T = k.sz) (h : CV enc P W k 0 l OK) : Opens enc P W k T OK := by
 intro fuel cs d ps ht hw
 obtain ⟨xs, n, _, hx, hcl, hxl, hf⟩ := DataW.trod_struct hT ht
 obtain ⟨hd, _⟩ := Prod.mk.inj hx
 subst hd
 simp only [DataW.weights, hT] at hw
 have := h n cs (by omega) (fun f hfm => ?_)
 ·simpa using this
 ·rw [← hl] at hfm
  obtain ⟨i, hi⟩ := List.getElem?_of_mem hfm
  have hi' : fs[i]? = some f := by simpa using hi
  have hlt : i < xs.length := by
   rw [hxl]
   exact (Array.getElem?_eq_some_iff.1 hi').1
  have h1 := hf i f hi'
  rw [List.getElem?_eq_getElem hlt] at h1
  refine ⟨xs[i].1, xs[i].2, h1, qZ (j := i) (ts := fs.toList.map (·.type)) (ds := xs.map (·.1)) ?_ ?_ hw⟩
  ·simp [hi']
  ·simp [List.getElem?_eq_getElem hlt]
theorem qB {T : TypeId} {k : Kd α} {OK : α → Prop} {f : β → α} (g : α → β) (hg : ∀ y, f (g y) = y) (h : Opens enc P W k T OK) : Opens enc P W (Kd.iso k f) T (fun y => OK (f y)) := by
 intro fuel cs d ps ht hw
 obtain ⟨y, h1, h2⟩ := h fuel cs d ps ht hw
 refine ⟨g y, ?_, by show OK (f (g y)); rw [hg]; exact h2⟩
 show k.K W (f (g y)) cs
 rw [hg]
 exact h1
theorem Bp {ts : List TypeId} {ds : List (DataW H)} {j : Nat} {T : TypeId} {v : Value} {d : DataW H} {ps : List MemPlace} {k : Kd α} {OK : α → Prop} (hsz : (DataW.weightsEach P ts ds).all (· ≤ reachBytes) = true) (ht : ts[j]? = some T) (hd : ds[j]? = some d)
  (h : Opens enc P W k T OK) (hr : DataW.Trod enc P W 0 (fun _ => true) true T v d ps) : ∃ y, k.K W y v.cells.toList ∧ OK y := by
 obtain ⟨fuel, hf⟩ := hr
 exact h _ _ _ _ hf (qZ ht hd hsz)
end
end Go.Proofs.YtdbefmkcondbgaaGreatDoor.Op
