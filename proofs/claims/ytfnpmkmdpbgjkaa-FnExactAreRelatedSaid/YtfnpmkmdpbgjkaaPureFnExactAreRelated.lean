/- The program's AreRelated returns what the reference's returns, for every argument; no further condition. -/
import Derived.Test.YtfnpmkmdpbgjkaaQFnExactAreRelated
import Derived.Test.YtfnpmkmdpbgjkaaEv
namespace Go.Proofs.Ytfnpmkmdpbgjkaa.Pure
open Go.RowKit Go.Proofs.Ytfnpmkmdpbgjkaa.PFnExactAreRelated Go.Proofs.YtfnpmkmdpbgjkaaW.PrintWords Go.Proofs.YtfnpmkmdpbgjkaaW.PrintLast Go.Proofs.YtfnpmkmdpbgjkaaW.PrintMore Go.Proofs.Ytfnpmkmdpbgjkaa.Sem
set_option linter.unusedVariables false
set_option linter.unusedSimpArgs false
theorem rdt_72 (xs : List S72) (i : Nat) (h : i < xs.length) : rd_T72 xs (i : Int) = xs[i] := by
  simp [rd_T72, List.getD_eq_getElem?_getD, List.getElem?_eq_getElem h]
theorem rdts_72 (xs : List S72) (i : Nat) (x : S72) (h : i < xs.length) : rd_T72 (xs.set i x) (i : Int) = x := by
  rw [rdt_72 _ i (by rw [List.length_set]; exact h), List.getElem_set_self]
theorem rdt_73 (xs : List S73) (i : Nat) (h : i < xs.length) : rd_T73 xs (i : Int) = xs[i] := by
  simp [rd_T73, List.getD_eq_getElem?_getD, List.getElem?_eq_getElem h]
theorem rdts_73 (xs : List S73) (i : Nat) (x : S73) (h : i < xs.length) : rd_T73 (xs.set i x) (i : Int) = x := by
  rw [rdt_73 _ i (by rw [List.length_set]; exact h), List.getElem_set_self]
theorem szMeaningS_ev (l : List S72) (hl : l.length < 4611686018427387904) (hs : ∀ x ∈ l, x.f0.size ≤ 140737488351232) (a : Int) (ha : 0 ≤ a) (ha' : a ≤ 1048576) : ∃ r, Ev (fun k => laws_szMeaningS.f k l a) r ∧ r ≤ 1048576 := by
  unfold laws_szMeaningS.f
  have w1 : wrap64 (a - (l.length : Int)) = a - l.length := w_in (by omega) (by omega)
  simp only [ev_ite_iff, ev_some_iff, w1]
  by_cases h : a - (l.length : Int) < 0
  · exact ⟨-1, by simp [h]⟩
  · simp only [h, if_false]
    refine loop_size (fun k b i => laws_szMeaningS.l0 k l b i) l 1048576 (fun b => ?_) (fun i hi b hb hb' => ?_) _ (by omega) (by omega)
    · rw [← ev_succ_iff]
      simp only [laws_szMeaningS.l0]
      rw [ev_ite_iff, if_neg (by omega)]
      exact ev_some _
    · have hsz := hs _ (List.getElem_mem hi)
      have w3 : wrap64 (b - (l[i].f0.size : Int)) = b - l[i].f0.size := w_in (by omega) (by omega)
      by_cases h2 : b - (l[i].f0.size : Int) < 0
      · refine .inl ?_
        rw [← ev_succ_iff]
        simp only [laws_szMeaningS.l0, laws_szMeaning.f, rdt_72 l i hi, w_succ (i := i) (by omega), w3, if_pos h2, Option.bind_some]
        simp [ev_ite_iff, ev_some_iff, hi]
      · refine .inr ⟨b - l[i].f0.size, by omega, by omega, fun r hr => ?_⟩
        rw [← ev_succ_iff]
        simp only [laws_szMeaningS.l0, laws_szMeaning.f, rdt_72 l i hi, w_succ (i := i) (by omega), w3, if_neg h2, Option.bind_some]
        rw [ev_ite_iff, if_pos (by omega), ev_ite_iff, if_pos (by omega)]
        exact hr
def toMeaning (x : S72) : S73 := ⟨x.f0, x.f1⟩
theorem toMeaningS_ev (l : List S72) (hl : l.length ≤ 5864062014805) : Ev (fun k => laws_toMeaningS.f k l) (l.map toMeaning) := by
  unfold laws_toMeaningS.f
  rw [ev_ite_iff, if_pos (by omega), ev_ite_iff, if_pos (by omega)]
  refine loop_fill (fun k s i => laws_toMeaningS.l0 k l s i) l toMeaning z73 (fun s hs => ?_) (fun i hi s hs r hr => ?_)
  · rw [← ev_succ_iff]
    simp [laws_toMeaningS.l0, ev_some]
  · rw [← ev_succ_iff]
    simp only [laws_toMeaningS.l0, laws_toMeaning.f, rdt_72 l i hi, w_succ (i := i) (by omega), Option.bind_some]
    simp [ev_ite_iff, hi, hs]
    exact hr
theorem eqMeaningS_ev (l : List S73) (hl : l.length < 4611686018427387904) : Ev (fun k => laws_eqMeaningS.f k l l) true := by
  unfold laws_eqMeaningS.f
  rw [ev_ite_iff, if_pos rfl]
  refine ev_as (loop_all (fun k i => laws_eqMeaningS.l0 k l l i) l (fun _ => true) ?_ (fun i hi hp r hr => ?_) (fun i hi hp => by cases hp)) (by simp)
  · rw [← ev_succ_iff]; simp [laws_eqMeaningS.l0, ev_some]
  · rw [← ev_succ_iff]
    simp only [laws_eqMeaningS.l0, laws_eqMeaning.f, w_succ (i := i) (by omega)]
    simp [ev_ite_iff, hi]
    exact hr
def eqpM (w : ByteArray) (s : Int) (x : S73) : Bool := decide (x.f0 = w ∧ x.f1 = s)
def hasB (l : List S73) (w : ByteArray) (s : Int) : Bool := l.any (eqpM w s)
theorem spec_HasSense_ev (l : List S73) (w : ByteArray) (s : Int) (hl : l.length < 4611686018427387904) : Ev (fun k => spec_HasSense.f k l w s) (hasB l w s) := by
  refine loop_any (fun k i => spec_HasSense.l0 k l w s i) l _ ?_ (fun i hi hp r hr => ?_) (fun i hi hp => ?_)
  · rw [← ev_succ_iff]; simp [spec_HasSense.l0, ev_some]
  · rw [← ev_succ_iff]
    simp only [spec_HasSense.l0, rdt_73 l i hi, w_succ (i := i) (by omega), toList_eq]
    simp [eqpM] at hp
    simp [ev_ite_iff, hi]
    split
    · rw [if_neg (hp ‹_›)]; exact hr
    · exact hr
  · rw [← ev_succ_iff]
    simp only [spec_HasSense.l0, rdt_73 l i hi, w_succ (i := i) (by omega), toList_eq]
    simp [eqpM] at hp
    simp [ev_ite_iff, hi, hp, ev_some]
theorem indexM_ev (l : List S73) (w : ByteArray) (s : Int) (hl : l.length < 4611686018427387904) : Ev (fun k => impl_Meaning_90.f k l w s) (match l.findIdx? (eqpM w s) with | some i => (i : Int) | none => -1) := by
  refine loop_find (fun k i => impl_Meaning_90.l0 k l (l.length : Int) i w s) l _ ?_ (fun i hi hp r hr => ?_) (fun i hi hp => ?_)
  · rw [← ev_succ_iff]; simp [impl_Meaning_90.l0, ev_some]
  · rw [← ev_succ_iff]
    simp only [impl_Meaning_90.l0, rdt_73 l i hi, w_succ (i := i) (by omega), toList_beq]
    simp [eqpM] at hp
    simp [ev_ite_iff, hi]
    rw [if_neg (by intro h; exact hp h.1.symm h.2.symm)]
    exact hr
  · rw [← ev_succ_iff]
    simp only [impl_Meaning_90.l0, rdt_73 l i hi, w_succ (i := i) (by omega), toList_beq]
    simp [eqpM] at hp
    simp [ev_ite_iff, hi, hp, ev_some]
theorem find_ge {α : Type} (l : List α) (p : α → Bool) : decide ((match l.findIdx? p with | some i => (i : Int) | none => -1) ≥ 0) = l.any p := by
  cases h : l.findIdx? p with
  | none =>
    have := List.findIdx?_eq_none_iff.1 h
    simp
    intro x hx
    simpa using this x hx
  | some i =>
    obtain ⟨h1, h2, _⟩ := List.findIdx?_eq_some_iff_getElem.1 h
    simp
    exact ⟨l[i], List.getElem_mem h1, h2⟩
theorem containsM_ev (l : List S73) (w : ByteArray) (s : Int) (hl : l.length < 4611686018427387904) : Ev (fun k => impl_Meaning_61.f k l w s) (hasB l w s) := by
  unfold impl_Meaning_61.f
  rw [ev_bind_iff (indexM_ev l w s hl), find_ge]
  exact ev_some _
theorem impl_HasSense_ev (l : List S73) (w : ByteArray) (s : Int) (hl : l.length < 4611686018427387904) : Ev (fun k => impl_HasSense.f k l w s) (hasB l w s) := by
  unfold impl_HasSense.f
  rw [ev_bind_iff (containsM_ev l w s hl)]
  exact ev_some _
def sensesB (w : ByteArray) (x : S73) : List Int := if x.f0 = w then [x.f1] else []
theorem flat_if_le {α β : Type} (f : α → List β) (h : ∀ x, (f x).length ≤ 1) (l : List α) : (l.flatMap f).length ≤ l.length := by
  induction l with
  | nil => simp
  | cons x l ih => have := h x; simp only [List.flatMap_cons, List.length_append, List.length_cons]; omega
theorem senses_le (w : ByteArray) (x : S73) : (sensesB w x).length ≤ 1 := by unfold sensesB; split <;> simp
theorem spec_SensesOf_ev (l : List S73) (w : ByteArray) (hl : l.length ≤ 17592186044416) : Ev (fun k => spec_SensesOf.f k l w) (l.flatMap (sensesB w)) := by
  refine loop_collect (fun k x i => spec_SensesOf.l0 k l w x i) l (sensesB w) 0 (fun x => ?_) (fun i hi x hx r hr => ?_)
  · rw [← ev_succ_iff]; simp [spec_SensesOf.l0, ev_some]
  · have hx' := flat_if_le _ (senses_le w) (l.take i)
    rw [List.length_take] at hx'
    rw [← ev_succ_iff]
    simp only [spec_SensesOf.l0, rdt_73 l i hi, w_succ (i := i) (by omega), toList_eq]
    rw [ev_ite_iff, if_pos (by omega), ev_ite_iff, if_pos (by omega), ev_ite_iff]
    unfold sensesB at hr
    split
    · rw [if_pos ‹_›] at hr
      rw [ev_ite_iff, if_pos (by omega)]
      exact hr
    · rw [if_neg ‹_›, List.append_nil] at hr
      exact hr
theorem impl_SensesOf_ev (l : List S73) (w : ByteArray) (hl : l.length ≤ 17592186044416) : Ev (fun k => impl_SensesOf.f k l w) (l.flatMap (sensesB w)) := by
  refine loop_collect (fun k x i => impl_SensesOf.l0 k w x l (l.length : Int) i) l (sensesB w) 0 (fun x => ?_) (fun i hi x hx r hr => ?_)
  · rw [← ev_succ_iff]; simp [impl_SensesOf.l0, ev_some]
  · have hx' := flat_if_le _ (senses_le w) (l.take i)
    rw [List.length_take] at hx'
    rw [← ev_succ_iff]
    simp only [impl_SensesOf.l0, rdt_73 l i hi, w_succ (i := i) (by omega), toList_eq]
    rw [ev_ite_iff, if_pos (by omega), ev_ite_iff, if_pos (by omega), ev_ite_iff, if_pos (by omega), ev_ite_iff]
    unfold sensesB at hr
    split
    · rw [if_pos ‹_›] at hr
      rw [ev_ite_iff, if_pos (by omega)]
      exact hr
    · rw [if_neg ‹_›, List.append_nil] at hr
      exact hr
theorem indexFI_ev (l : List Int) (p : Nat → Int → Option Bool) (q : Int → Bool) (hl : l.length < 4611686018427387904) (hp : ∀ s ∈ l, Ev (fun k => p k s) (q s)) : Ev (fun k => slices_IndexFunc_int_int.f k l p) (match l.findIdx? q with | some i => (i : Int) | none => -1) := by
  refine loop_find (fun k i => slices_IndexFunc_int_int.l0 k l p (l.length : Int) i) l q ?_ (fun i hi hq r hr => ?_) (fun i hi hq => ?_)
  · rw [← ev_succ_iff]; simp [slices_IndexFunc_int_int.l0, ev_some]
  · rw [← ev_succ_iff]
    simp only [slices_IndexFunc_int_int.l0, rd_nat l i hi, w_succ (i := i) (by omega)]
    rw [ev_ite_iff, if_pos (by omega), ev_ite_iff, if_pos (by omega), ev_ite_iff, if_pos (by omega), ev_bind_iff (hp _ (List.getElem_mem hi)), ev_ite_iff, if_neg (by rw [hq]; decide)]
    exact hr
  · rw [← ev_succ_iff]
    simp only [slices_IndexFunc_int_int.l0, rd_nat l i hi, w_succ (i := i) (by omega)]
    rw [ev_ite_iff, if_pos (by omega), ev_ite_iff, if_pos (by omega), ev_ite_iff, if_pos (by omega), ev_bind_iff (hp _ (List.getElem_mem hi)), ev_ite_iff, if_pos hq]
    exact ev_some _
theorem findF_ge {α : Type} (l : List α) (p : α → Bool) : decide ((match l.findIdx? p with | some i => (i : Int) | none => -1) ≥ 0) = l.any p := by
  cases h : l.findIdx? p with
  | none =>
    have := List.findIdx?_eq_none_iff.1 h
    simp
    intro x hx
    simpa using this x hx
  | some i =>
    obtain ⟨h1, h2, _⟩ := List.findIdx?_eq_some_iff_getElem.1 h
    simp
    exact ⟨l[i], List.getElem_mem h1, h2⟩
theorem containsFI_ev (l : List Int) (p : Nat → Int → Option Bool) (q : Int → Bool) (hl : l.length < 4611686018427387904) (hp : ∀ s ∈ l, Ev (fun k => p k s) (q s)) : Ev (fun k => slices_ContainsFunc_int_int.f k l p) (l.any q) := by
  unfold slices_ContainsFunc_int_int.f
  rw [ev_bind_iff (indexFI_ev l p q hl hp), findF_ge]
  exact ev_some _
def relB (d : List S73) (a b : ByteArray) : Bool := (d.flatMap (sensesB a)).any (fun n => hasB d b n)
theorem spec_AreRelated_ev (d : List S73) (a b : ByteArray) (hd : d.length ≤ 17592186044416) : Ev (fun k => spec_AreRelated.f k d a b) (relB d a b) := by
  have hz := flat_if_le _ (senses_le a) d
  unfold spec_AreRelated.f relB
  rw [ev_bind_iff (spec_SensesOf_ev d a hd)]
  generalize d.flatMap (sensesB a) = l at hz
  refine loop_any (fun k i => spec_AreRelated.l0 k d b l i) l _ ?_ (fun i hi hp r hr => ?_) (fun i hi hp => ?_)
  · rw [← ev_succ_iff]; simp [spec_AreRelated.l0, ev_some]
  · rw [← ev_succ_iff]
    simp only [spec_AreRelated.l0, rd_nat l i hi, w_succ (i := i) (by omega)]
    rw [ev_ite_iff, if_pos (by omega), ev_ite_iff, if_pos (by omega), ev_bind_iff (spec_HasSense_ev d _ _ (by omega)), ev_ite_iff, if_neg (by rw [hp]; decide)]
    exact hr
  · rw [← ev_succ_iff]
    simp only [spec_AreRelated.l0, rd_nat l i hi, w_succ (i := i) (by omega)]
    rw [ev_ite_iff, if_pos (by omega), ev_ite_iff, if_pos (by omega), ev_bind_iff (spec_HasSense_ev d _ _ (by omega)), ev_ite_iff, if_pos hp]
    exact ev_some _
theorem impl_AreRelated_ev (d : List S73) (a b : ByteArray) (hd : d.length ≤ 17592186044416) : Ev (fun k => impl_AreRelated.f k d a b) (relB d a b) := by
  have hz := flat_if_le _ (senses_le a) d
  unfold impl_AreRelated.f relB
  rw [ev_bind_iff (impl_SensesOf_ev d a hd)]
  exact containsFI_ev _ _ _ (by omega) (fun n _ => impl_HasSense_ev d b n (by omega))
theorem FnExactAreRelated : laws_FnExactAreRelated.Pure := by
  intro d a b ⟨h1, h2, h3⟩ ha hb
  refine Ev.rounds ?_
  unfold laws_FnExactAreRelated.f
  rw [ev_ite_iff]
  split
  · exact ev_some _
  rw [ev_ite_iff]
  split
  · exact ev_some _
  obtain ⟨r, hr, _⟩ := szMeaningS_ev d (by omega) (fun x hx => (h3 x hx).1) 1048576 (by omega) (by omega)
  rw [ev_bind_iff hr, ev_ite_iff]
  split
  · exact ev_some _
  have hto := toMeaningS_ev d (by omega)
  have hl : (d.map toMeaning).length = d.length := List.length_map _
  have s := spec_AreRelated_ev (d.map toMeaning) a b (by omega)
  have i := impl_AreRelated_ev (d.map toMeaning) a b (by omega)
  have e := eqMeaningS_ev (d.map toMeaning) (by omega)
  simp only [ev_bind_iff hto, ev_bind_iff s, ev_bind_iff i, ev_bind_iff e, ev_ite_iff, if_true]
  simp only [bne_self_eq_false, Bool.false_eq_true, if_false]
  exact ev_some _
end Go.Proofs.Ytfnpmkmdpbgjkaa.Pure
