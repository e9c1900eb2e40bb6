/- The program's WordsFor returns what the reference's returns, for every argument; no further condition. -/
import Derived.Test.YtfnpmkmdpbgjkaaQFnExactWordsFor
import Derived.Test.YtfnpmkmdpbgjkaaEv
namespace Go.Proofs.Ytfnpmkmdpbgjkaa.Pure
open Go.RowKit Go.Proofs.Ytfnpmkmdpbgjkaa.PFnExactWordsFor Go.Proofs.YtfnpmkmdpbgjkaaW.PrintWords Go.Proofs.YtfnpmkmdpbgjkaaW.PrintLast Go.Proofs.YtfnpmkmdpbgjkaaW.PrintMore Go.Proofs.Ytfnpmkmdpbgjkaa.Sem
set_option linter.unusedVariables false
set_option linter.unusedSimpArgs false
theorem rdt_72 (xs : List S72) (i : Nat) (h : i < xs.length) : rd_T72 xs (i : Int) = xs[i] := by
  simp [rd_T72, List.getD_eq_getElem?_getD, List.getElem?_eq_getElem h]
theorem rdts_72 (xs : List S72) (i : Nat) (x : S72) (h : i < xs.length) : rd_T72 (xs.set i x) (i : Int) = x := by
  rw [rdt_72 _ i (by rw [List.length_set]; exact h), List.getElem_set_self]
theorem rdt_73 (xs : List S73) (i : Nat) (h : i < xs.length) : rd_T73 xs (i : Int) = xs[i] := by
  simp [rd_T73, List.getD_eq_getElem?_getD, List.getElem?_eq_getElem h]
theorem rdts_73 (xs : List S73) (i : Nat) (x : S73) (h : i < xs.length) : rd_T73 (xs.set i x) (i : Int) = x := by
  rw [rdt_73 _ i (by rw [List.length_set]; exact h), List.getElem_set_self]
theorem strOfNums_one (c : Int) : (strOfNums [c]).size = 1 := rfl
theorem markText_loop : ∀ (n : Nat) (x : Int) (s : ByteArray), x.toNat ≤ n → s.size + n < 9223372036854775807 → n < 4611686018427387904 → ∃ r, Ev (fun k => laws_markText.l0 k x s) r := by
  intro n
  induction n with
  | zero =>
    intro x s hx hs hn
    refine ⟨(⟨#[109]⟩ : ByteArray) ++ s, ?_⟩
    rw [← ev_succ_iff]
    simp only [laws_markText.l0]
    rw [ev_ite_iff, if_neg (by omega), ev_ite_iff, if_pos (by omega)]
    exact ev_some _
  | succ n ih =>
    intro x s hx hs hn
    by_cases h : x > 0
    · have h1 : Int.tdiv x 10 = x / 10 := Int.tdiv_eq_ediv_of_nonneg (by omega)
      have h2 : wrap64 (Int.tdiv x 10) = x / 10 := by rw [h1]; exact w_in (by omega) (by omega)
      obtain ⟨r, hr⟩ := ih (x / 10) ((strOfNums [(wrap64 (48 + (Int.tmod x 10))) % 256]) ++ s) (by omega) (by rw [ByteArray.size_append, strOfNums_one]; omega) (by omega)
      refine ⟨r, ?_⟩
      rw [← ev_succ_iff]
      simp only [laws_markText.l0, Option.bind_some, h2]
      rw [ev_ite_iff, if_pos h, ev_ite_iff, if_pos (by rw [strOfNums_one]; omega)]
      exact hr
    · refine ⟨(⟨#[109]⟩ : ByteArray) ++ s, ?_⟩
      rw [← ev_succ_iff]
      simp only [laws_markText.l0]
      rw [ev_ite_iff, if_neg h, ev_ite_iff, if_pos (by omega)]
      exact ev_some _
theorem markText_ex (c : Int) (h : c < 4611686018427387904) : ∃ r, Ev (fun k => laws_markText.f k c) r := by
  unfold laws_markText.f
  by_cases h0 : c ≤ 0
  · exact ⟨_, by rw [ev_ite_iff, if_pos h0]; exact ev_some _⟩
  · obtain ⟨r, hr⟩ := markText_loop c.toNat c ⟨#[]⟩ (Nat.le_refl _) (by show 0 + _ < _; omega) (by omega)
    exact ⟨r, by rw [ev_ite_iff, if_neg h0]; exact hr⟩
noncomputable def MT (c : Int) : ByteArray := open Classical in if h : ∃ r, Ev (fun k => laws_markText.f k c) r then h.choose else ByteArray.empty
theorem MT_ev (c : Int) (h : c < 4611686018427387904) : Ev (fun k => laws_markText.f k c) (MT c) := by
  have hx := markText_ex c h
  unfold MT
  rw [dif_pos hx]
  exact hx.choose_spec
theorem markStringS_ev (l : List ByteArray) (c : Int) (h0 : 0 ≤ c) (hc : c + l.length < 4611686018427387904) : Ev (fun k => laws_markStringS.f k l c) (c + l.length, markd (fun _ b => MT b) (fun _ => 1) l c) := by
  have hw : wsum (fun _ => 1) l = l.length := by rw [wsum_one]; omega
  have := loop_mark (fun k s b i => laws_markStringS.l0 k s b i) l (fun _ => 1) (fun _ b => MT b) c (fun s b hs => ?_) (fun i hi s b hs hsi hb hb' r hr => ?_)
  · rw [hw] at this
    exact this
  · rw [← ev_succ_iff]
    simp only [laws_markStringS.l0]
    simp [hs, ev_some]
  · rw [← ev_succ_iff]
    rw [hw] at hb'
    have e : wrap64 (b + 1) = b + 1 := w_in (by omega) (by omega)
    simp only [laws_markStringS.l0, w_succ (i := i) (by omega), e]
    rw [ev_ite_iff, if_pos (by omega), ev_bind_iff (MT_ev b (by omega)), ev_ite_iff, if_pos (by omega)]
    exact hr
theorem heldStringS_ev (l : List ByteArray) (c : Int) (h0 : 0 ≤ c) (hc : c + l.length < 4611686018427387904) : Ev (fun k => laws_heldStringS.f k (markd (fun _ b => MT b) (fun _ => 1) l c) c) (c + l.length) := by
  have hw : wsum (fun _ => 1) l = l.length := by rw [wsum_one]; omega
  have := loop_held (fun k b i => laws_heldStringS.l0 k (markd (fun _ b => MT b) (fun _ => 1) l c) b i) l (fun _ => 1) c (fun b => ?_) (fun i hi b hb hb' r hr => ?_)
  · rw [hw] at this
    exact this
  · rw [← ev_succ_iff]
    simp only [laws_heldStringS.l0]
    simp [markd_length, ev_some]
  · rw [← ev_succ_iff]
    rw [hw] at hb'
    have e : wrap64 (b + 1) = b + 1 := w_in (by omega) (by omega)
    have hr' := rdOf_nat ByteArray.empty (markd (fun _ b => MT b) (fun _ => 1) l c) i (by rw [markd_length]; exact hi)
    rw [markd_get _ _ _ _ _ hi] at hr'
    simp only [laws_heldStringS.l0, w_succ (i := i) (by omega), e, hr', ← hb]
    rw [ev_ite_iff, if_pos (by rw [markd_length]; omega), ev_ite_iff, if_pos (by omega), ev_bind_iff (MT_ev b (by omega)), ev_ite_iff, if_pos rfl]
    exact hr
theorem szStringS_ev (l : List ByteArray) (hl : l.length < 4611686018427387904) (hs : ∀ x ∈ l, x.size ≤ 140737488351232) (a : Int) (ha : 0 ≤ a) (ha' : a ≤ 1048576) : ∃ r, Ev (fun k => laws_szStringS.f k l a) r ∧ r ≤ 1048576 := by
  unfold laws_szStringS.f
  have w1 : wrap64 (a - (l.length : Int)) = a - l.length := w_in (by omega) (by omega)
  simp only [ev_ite_iff, ev_some_iff, w1]
  by_cases h : a - (l.length : Int) < 0
  · exact ⟨-1, by simp [h]⟩
  · simp only [h, if_false]
    refine loop_size (fun k b i => laws_szStringS.l0 k l b i) l 1048576 (fun b => ?_) (fun i hi b hb hb' => ?_) _ (by omega) (by omega)
    · rw [← ev_succ_iff]
      simp only [laws_szStringS.l0]
      rw [ev_ite_iff, if_neg (by omega)]
      exact ev_some _
    · have hsz := hs _ (List.getElem_mem hi)
      have w3 : wrap64 (b - (l[i].size : Int)) = b - l[i].size := w_in (by omega) (by omega)
      by_cases h2 : b - (l[i].size : Int) < 0
      · refine .inl ?_
        rw [← ev_succ_iff]
        simp only [laws_szStringS.l0, rdOf_nat ByteArray.empty l i hi, w_succ (i := i) (by omega), w3]
        simp [ev_ite_iff, ev_some_iff, hi, h2]
      · refine .inr ⟨b - l[i].size, by omega, by omega, fun r hr => ?_⟩
        rw [← ev_succ_iff]
        simp only [laws_szStringS.l0, rdOf_nat ByteArray.empty l i hi, w_succ (i := i) (by omega), w3]
        rw [ev_ite_iff, if_pos (by omega), ev_ite_iff, if_pos (by omega), ev_ite_iff, if_neg h2]
        exact hr
theorem toStringS_ev (l : List ByteArray) (hl : l.length ≤ 8796093022208) : Ev (fun k => laws_toStringS.f k l) l := by
  unfold laws_toStringS.f
  rw [ev_ite_iff, if_pos (by omega), ev_ite_iff, if_pos (by omega)]
  refine ev_as (loop_fill (fun k s i => laws_toStringS.l0 k l s i) l id (⟨#[]⟩ : ByteArray) (fun s hs => ?_) (fun i hi s hs r hr => ?_)) (by simp)
  · rw [← ev_succ_iff]
    simp [laws_toStringS.l0, ev_some]
  · rw [← ev_succ_iff]
    simp only [laws_toStringS.l0, rdOf_nat ByteArray.empty l i hi, w_succ (i := i) (by omega)]
    simp [ev_ite_iff, hi, hs]
    exact hr
theorem eqStringS_ev (l : List ByteArray) (hl : l.length < 4611686018427387904) : Ev (fun k => laws_eqStringS.f k l l) true := by
  unfold laws_eqStringS.f
  rw [ev_ite_iff, if_pos rfl]
  refine ev_as (loop_all (fun k i => laws_eqStringS.l0 k l l i) l (fun _ => true) ?_ (fun i hi hp r hr => ?_) (fun i hi hp => by cases hp)) (by simp)
  · rw [← ev_succ_iff]; simp [laws_eqStringS.l0, ev_some]
  · rw [← ev_succ_iff]
    simp only [laws_eqStringS.l0, w_succ (i := i) (by omega)]
    simp [ev_ite_iff, hi]
    exact hr
theorem szMeaningS_ev (l : List S72) (hl : l.length < 4611686018427387904) (hs : ∀ x ∈ l, x.f0.size ≤ 140737488351232) (a : Int) (ha : 0 ≤ a) (ha' : a ≤ 1048576) : ∃ r, Ev (fun k => laws_szMeaningS.f k l a) r ∧ r ≤ 1048576 := by
  unfold laws_szMeaningS.f
  have w1 : wrap64 (a - (l.length : Int)) = a - l.length := w_in (by omega) (by omega)
  simp only [ev_ite_iff, ev_some_iff, w1]
  by_cases h : a - (l.length : Int) < 0
  · exact ⟨-1, by simp [h]⟩
  · simp only [h, if_false]
    refine loop_size (fun k b i => laws_szMeaningS.l0 k l b i) l 1048576 (fun b => ?_) (fun i hi b hb hb' => ?_) _ (by omega) (by omega)
    · rw [← ev_succ_iff]
      simp only [laws_szMeaningS.l0]
      rw [ev_ite_iff, if_neg (by omega)]
      exact ev_some _
    · have hsz := hs _ (List.getElem_mem hi)
      have w3 : wrap64 (b - (l[i].f0.size : Int)) = b - l[i].f0.size := w_in (by omega) (by omega)
      by_cases h2 : b - (l[i].f0.size : Int) < 0
      · refine .inl ?_
        rw [← ev_succ_iff]
        simp only [laws_szMeaningS.l0, laws_szMeaning.f, rdt_72 l i hi, w_succ (i := i) (by omega), w3, if_pos h2, Option.bind_some]
        simp [ev_ite_iff, ev_some_iff, hi]
      · refine .inr ⟨b - l[i].f0.size, by omega, by omega, fun r hr => ?_⟩
        rw [← ev_succ_iff]
        simp only [laws_szMeaningS.l0, laws_szMeaning.f, rdt_72 l i hi, w_succ (i := i) (by omega), w3, if_neg h2, Option.bind_some]
        rw [ev_ite_iff, if_pos (by omega), ev_ite_iff, if_pos (by omega)]
        exact hr
def toMeaning (x : S72) : S73 := ⟨x.f0, x.f1⟩
theorem toMeaningS_ev (l : List S72) (hl : l.length ≤ 5864062014805) : Ev (fun k => laws_toMeaningS.f k l) (l.map toMeaning) := by
  unfold laws_toMeaningS.f
  rw [ev_ite_iff, if_pos (by omega), ev_ite_iff, if_pos (by omega)]
  refine loop_fill (fun k s i => laws_toMeaningS.l0 k l s i) l toMeaning z73 (fun s hs => ?_) (fun i hi s hs r hr => ?_)
  · rw [← ev_succ_iff]
    simp [laws_toMeaningS.l0, ev_some]
  · rw [← ev_succ_iff]
    simp only [laws_toMeaningS.l0, laws_toMeaning.f, rdt_72 l i hi, w_succ (i := i) (by omega), Option.bind_some]
    simp [ev_ite_iff, hi, hs]
    exact hr
theorem eqMeaningS_ev (l : List S73) (hl : l.length < 4611686018427387904) : Ev (fun k => laws_eqMeaningS.f k l l) true := by
  unfold laws_eqMeaningS.f
  rw [ev_ite_iff, if_pos rfl]
  refine ev_as (loop_all (fun k i => laws_eqMeaningS.l0 k l l i) l (fun _ => true) ?_ (fun i hi hp r hr => ?_) (fun i hi hp => by cases hp)) (by simp)
  · rw [← ev_succ_iff]; simp [laws_eqMeaningS.l0, ev_some]
  · rw [← ev_succ_iff]
    simp only [laws_eqMeaningS.l0, laws_eqMeaning.f, w_succ (i := i) (by omega)]
    simp [ev_ite_iff, hi]
    exact hr
theorem markMeaningS_ex (l : List S73) (c : Int) (h0 : 0 ≤ c) (hc : c + 2 * l.length < 4611686018427387904) : Ev (fun k => laws_markMeaningS.f k l c) (c + 2 * l.length, markd (fun _ b => ⟨MT b, b + 1⟩) (fun _ => 2) l c) := by
  have hw : wsum (fun _ => 2) l = 2 * l.length := wsum_one _ _
  have := loop_mark (fun k s b i => laws_markMeaningS.l0 k s b i) l (fun _ => 2) (fun _ b => ⟨MT b, b + 1⟩) c (fun s b hs => ?_) (fun i hi s b hs hsi hb hb' r hr => ?_)
  · rw [hw] at this
    exact this
  · rw [← ev_succ_iff]
    simp only [laws_markMeaningS.l0]
    simp [hs, ev_some]
  · rw [← ev_succ_iff]
    rw [hw] at hb'
    have e : wrap64 (b + 1) = b + 1 := w_in (by omega) (by omega)
    have e' : wrap64 (b + 1 + 1) = b + ((2 : Nat) : Int) := by rw [w_in (by omega) (by omega)]; omega
    simp only [laws_markMeaningS.l0, w_succ (i := i) (by omega), e, e', Option.bind_some]
    rw [ev_ite_iff, if_pos (by omega), ev_bind_iff (MT_ev b (by omega)), ev_ite_iff, if_pos (by omega)]
    simp only [Int.toNat_natCast, rdts_73, List.length_set, hs, hi, List.set_set]
    exact hr
def eqpM (w : ByteArray) (s : Int) (x : S73) : Bool := decide (x.f0 = w ∧ x.f1 = s)
def hasB (l : List S73) (w : ByteArray) (s : Int) : Bool := l.any (eqpM w s)
theorem spec_HasSense_ev (l : List S73) (w : ByteArray) (s : Int) (hl : l.length < 4611686018427387904) : Ev (fun k => spec_HasSense.f k l w s) (hasB l w s) := by
  refine loop_any (fun k i => spec_HasSense.l0 k l w s i) l _ ?_ (fun i hi hp r hr => ?_) (fun i hi hp => ?_)
  · rw [← ev_succ_iff]; simp [spec_HasSense.l0, ev_some]
  · rw [← ev_succ_iff]
    simp only [spec_HasSense.l0, rdt_73 l i hi, w_succ (i := i) (by omega), toList_eq]
    simp [eqpM] at hp
    simp [ev_ite_iff, hi]
    split
    · rw [if_neg (hp ‹_›)]; exact hr
    · exact hr
  · rw [← ev_succ_iff]
    simp only [spec_HasSense.l0, rdt_73 l i hi, w_succ (i := i) (by omega), toList_eq]
    simp [eqpM] at hp
    simp [ev_ite_iff, hi, hp, ev_some]
theorem indexM_ev (l : List S73) (w : ByteArray) (s : Int) (hl : l.length < 4611686018427387904) : Ev (fun k => impl_Meaning_90.f k l w s) (match l.findIdx? (eqpM w s) with | some i => (i : Int) | none => -1) := by
  refine loop_find (fun k i => impl_Meaning_90.l0 k l (l.length : Int) i w s) l _ ?_ (fun i hi hp r hr => ?_) (fun i hi hp => ?_)
  · rw [← ev_succ_iff]; simp [impl_Meaning_90.l0, ev_some]
  · rw [← ev_succ_iff]
    simp only [impl_Meaning_90.l0, rdt_73 l i hi, w_succ (i := i) (by omega), toList_beq]
    simp [eqpM] at hp
    simp [ev_ite_iff, hi]
    rw [if_neg (by intro h; exact hp h.1.symm h.2.symm)]
    exact hr
  · rw [← ev_succ_iff]
    simp only [impl_Meaning_90.l0, rdt_73 l i hi, w_succ (i := i) (by omega), toList_beq]
    simp [eqpM] at hp
    simp [ev_ite_iff, hi, hp, ev_some]
theorem find_ge {α : Type} (l : List α) (p : α → Bool) : decide ((match l.findIdx? p with | some i => (i : Int) | none => -1) ≥ 0) = l.any p := by
  cases h : l.findIdx? p with
  | none =>
    have := List.findIdx?_eq_none_iff.1 h
    simp
    intro x hx
    simpa using this x hx
  | some i =>
    obtain ⟨h1, h2, _⟩ := List.findIdx?_eq_some_iff_getElem.1 h
    simp
    exact ⟨l[i], List.getElem_mem h1, h2⟩
theorem containsM_ev (l : List S73) (w : ByteArray) (s : Int) (hl : l.length < 4611686018427387904) : Ev (fun k => impl_Meaning_61.f k l w s) (hasB l w s) := by
  unfold impl_Meaning_61.f
  rw [ev_bind_iff (indexM_ev l w s hl), find_ge]
  exact ev_some _
theorem impl_HasSense_ev (l : List S73) (w : ByteArray) (s : Int) (hl : l.length < 4611686018427387904) : Ev (fun k => impl_HasSense.f k l w s) (hasB l w s) := by
  unfold impl_HasSense.f
  rw [ev_bind_iff (containsM_ev l w s hl)]
  exact ev_some _
theorem flat_filter {α : Type} (q : α → Bool) (l : List α) : l.flatMap (fun s => if q s = true then [s] else []) = l.filter q := by
  induction l with
  | nil => rfl
  | cons x l ih => rw [List.flatMap_cons, ih, List.filter_cons]; split <;> simp
theorem flat_f_le {α β : Type} (f : α → List β) (h : ∀ x, (f x).length ≤ 1) (l : List α) : (l.flatMap f).length ≤ l.length := by
  induction l with
  | nil => simp
  | cons x l ih => have := h x; simp only [List.flatMap_cons, List.length_append, List.length_cons]; omega
theorem impl_those_ev (l : List ByteArray) (p : Nat → ByteArray → Option Bool) (q : ByteArray → Bool) (hl : l.length ≤ 8796093022208) (hp : ∀ s ∈ l, Ev (fun k => p k s) (q s)) : Ev (fun k => impl_those.f k l p) (l.filter q) := by
  rw [← flat_filter]
  refine loop_collect (fun k x i => impl_those.l0 k p x l (l.length : Int) i) l (fun s => if q s = true then [s] else []) 0 (fun x => ?_) (fun i hi x hx r hr => ?_)
  · rw [← ev_succ_iff]; simp [impl_those.l0, ev_some]
  · have hx' := flat_f_le (fun s => if q s = true then [s] else []) (fun x => by split <;> simp) (l.take i)
    rw [List.length_take] at hx'
    rw [← ev_succ_iff]
    simp only [impl_those.l0, rdOf_nat ByteArray.empty l i hi, w_succ (i := i) (by omega)]
    rw [ev_ite_iff, if_pos (by omega), ev_ite_iff, if_pos (by omega), ev_ite_iff, if_pos (by omega), ev_bind_iff (hp _ (List.getElem_mem hi)), ev_ite_iff]
    split
    · rename_i hq
      rw [if_pos hq] at hr
      rw [ev_ite_iff, if_pos (by omega)]
      exact hr
    · rename_i hq
      rw [if_neg hq, List.append_nil] at hr
      exact hr
theorem spec_WordsFor_ev (d : List S73) (l : List ByteArray) (s : Int) (hd : d.length < 4611686018427387904) (hl : l.length ≤ 8796093022208) : Ev (fun k => spec_WordsFor.f k d l s) (l.filter (fun w => hasB d w s)) := by
  rw [← flat_filter]
  refine loop_collect (fun k x i => spec_WordsFor.l0 k d l s x i) l (fun w => if hasB d w s = true then [w] else []) 0 (fun x => ?_) (fun i hi x hx r hr => ?_)
  · rw [← ev_succ_iff]; simp [spec_WordsFor.l0, ev_some]
  · have hx' := flat_f_le (fun w => if hasB d w s = true then [w] else []) (fun x => by split <;> simp) (l.take i)
    rw [List.length_take] at hx'
    rw [← ev_succ_iff]
    simp only [spec_WordsFor.l0, rdOf_nat ByteArray.empty l i hi, w_succ (i := i) (by omega)]
    rw [ev_ite_iff, if_pos (by omega), ev_ite_iff, if_pos (by omega), ev_bind_iff (spec_HasSense_ev d _ _ hd), ev_ite_iff]
    split
    · rename_i hq
      rw [if_pos hq] at hr
      rw [ev_ite_iff, if_pos (by omega)]
      exact hr
    · rename_i hq
      rw [if_neg hq, List.append_nil] at hr
      exact hr
theorem impl_WordsFor_ev (d : List S73) (l : List ByteArray) (s : Int) (hd : d.length < 4611686018427387904) (hl : l.length ≤ 8796093022208) : Ev (fun k => impl_WordsFor.f k d l s) (l.filter (fun w => hasB d w s)) :=
  impl_those_ev l _ _ hl (fun w _ => impl_HasSense_ev d w s hd)
theorem FnExactWordsFor : laws_FnExactWordsFor.Pure := by
  intro d l x ⟨h1, h2, h3⟩ ⟨h4, h5, h6⟩ hw
  refine Ev.rounds ?_
  unfold laws_FnExactWordsFor.f
  obtain ⟨r, hr, hr1⟩ := szMeaningS_ev d (by omega) (fun x hx => (h3 x hx).1) 1048576 (by omega) (by omega)
  rw [ev_bind_iff hr, ev_ite_iff]
  split
  · exact ev_some _
  obtain ⟨r', hr', _⟩ := szStringS_ev l (by omega) (fun x hx => h6 x hx) r (by omega) hr1
  rw [ev_bind_iff hr', ev_ite_iff]
  split
  · exact ev_some _
  have t1 := toMeaningS_ev d (by omega)
  have t2 := toStringS_ev l (by omega)
  have hl : (d.map toMeaning).length = d.length := List.length_map _
  have s := spec_WordsFor_ev (d.map toMeaning) l x (by omega) (by omega)
  have i := impl_WordsFor_ev (d.map toMeaning) l x (by omega) (by omega)
  have e1 := eqMeaningS_ev (d.map toMeaning) (by omega)
  have e2 := eqStringS_ev l (by omega)
  have m1 := markMeaningS_ex (d.map toMeaning) 1 (by omega) (by omega)
  have m2 := markStringS_ev l (1 + 2 * ((d.map toMeaning).length : Int)) (by omega) (by omega)
  have hz := List.length_filter_le (fun w => hasB (d.map toMeaning) w x) l
  generalize l.filter (fun w => hasB (d.map toMeaning) w x) = q at s i hz
  have e3 := eqStringS_ev q (by omega)
  have m3 := markStringS_ev q 1 (by omega) (by omega)
  have h3 := heldStringS_ev q 1 (by omega) (by omega)
  simp only [ev_bind_iff t1, ev_bind_iff t2, ev_bind_iff s, ev_bind_iff i, ev_bind_iff e1, ev_bind_iff e2, ev_bind_iff e3, ev_bind_iff m1, ev_bind_iff m2, ev_ite_iff, if_true]
  rw [if_neg (by omega), ← ev_succ_iff]
  simp only [laws_FnExactWordsFor.j0, ev_bind_iff t1, ev_bind_iff t2, ev_bind_iff i, ev_bind_iff e3, ev_bind_iff m3, ev_bind_iff h3, ev_ite_iff, if_true]
  simp only [Bool.not_true, Bool.false_eq_true, if_false]
  rw [if_neg (by omega), if_neg (by omega)]
  exact ev_some _
end Go.Proofs.Ytfnpmkmdpbgjkaa.Pure
