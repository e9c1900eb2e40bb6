/- The program's IsDictionary returns what the reference's returns, for every argument; no further condition. -/
import Derived.Test.YtfnpmkmdpbgjkaaQFnExactIsDictionary
import Derived.Test.YtfnpmkmdpbgjkaaEv
namespace Go.Proofs.Ytfnpmkmdpbgjkaa.Pure
open Go.RowKit Go.Proofs.Ytfnpmkmdpbgjkaa.PFnExactIsDictionary Go.Proofs.YtfnpmkmdpbgjkaaW.PrintWords Go.Proofs.YtfnpmkmdpbgjkaaW.PrintLast Go.Proofs.YtfnpmkmdpbgjkaaW.PrintMore Go.Proofs.Ytfnpmkmdpbgjkaa.Sem
set_option linter.unusedVariables false
set_option linter.unusedSimpArgs false
theorem rdt_72 (xs : List S72) (i : Nat) (h : i < xs.length) : rd_T72 xs (i : Int) = xs[i] := by
  simp [rd_T72, List.getD_eq_getElem?_getD, List.getElem?_eq_getElem h]
theorem rdts_72 (xs : List S72) (i : Nat) (x : S72) (h : i < xs.length) : rd_T72 (xs.set i x) (i : Int) = x := by
  rw [rdt_72 _ i (by rw [List.length_set]; exact h), List.getElem_set_self]
theorem rdt_73 (xs : List S73) (i : Nat) (h : i < xs.length) : rd_T73 xs (i : Int) = xs[i] := by
  simp [rd_T73, List.getD_eq_getElem?_getD, List.getElem?_eq_getElem h]
theorem rdts_73 (xs : List S73) (i : Nat) (x : S73) (h : i < xs.length) : rd_T73 (xs.set i x) (i : Int) = x := by
  rw [rdt_73 _ i (by rw [List.length_set]; exact h), List.getElem_set_self]
theorem l1In_eq (a b c : Int) : spec_l1In.f a b c = some (decide (b ≤ a ∧ a ≤ c)) := by
  unfold spec_l1In.f
  by_cases h : b ≤ a <;> simp [h]
theorem InRange_eq (a b c : Int) : impl_InRange.f a b c = some (decide (b ≤ a ∧ a ≤ c)) := by
  unfold impl_InRange.f
  by_cases h : b ≤ a <;> simp [h]
theorem isLetter_eq (a : Int) : impl_isLetter.f a = some (decide (97 ≤ a ∧ a ≤ 122)) := by
  unfold impl_isLetter.f
  by_cases h : 97 ≤ a <;> simp [h]
theorem szMeaningS_ev (l : List S72) (hl : l.length < 4611686018427387904) (hs : ∀ x ∈ l, x.f0.size ≤ 140737488351232) (a : Int) (ha : 0 ≤ a) (ha' : a ≤ 1048576) : ∃ r, Ev (fun k => laws_szMeaningS.f k l a) r ∧ r ≤ 1048576 := by
  unfold laws_szMeaningS.f
  have w1 : wrap64 (a - (l.length : Int)) = a - l.length := w_in (by omega) (by omega)
  simp only [ev_ite_iff, ev_some_iff, w1]
  by_cases h : a - (l.length : Int) < 0
  · exact ⟨-1, by simp [h]⟩
  · simp only [h, if_false]
    refine loop_size (fun k b i => laws_szMeaningS.l0 k l b i) l 1048576 (fun b => ?_) (fun i hi b hb hb' => ?_) _ (by omega) (by omega)
    · rw [← ev_succ_iff]
      simp only [laws_szMeaningS.l0]
      rw [ev_ite_iff, if_neg (by omega)]
      exact ev_some _
    · have hsz := hs _ (List.getElem_mem hi)
      have w3 : wrap64 (b - (l[i].f0.size : Int)) = b - l[i].f0.size := w_in (by omega) (by omega)
      by_cases h2 : b - (l[i].f0.size : Int) < 0
      · refine .inl ?_
        rw [← ev_succ_iff]
        simp only [laws_szMeaningS.l0, laws_szMeaning.f, rdt_72 l i hi, w_succ (i := i) (by omega), w3, if_pos h2, Option.bind_some]
        simp [ev_ite_iff, ev_some_iff, hi]
      · refine .inr ⟨b - l[i].f0.size, by omega, by omega, fun r hr => ?_⟩
        rw [← ev_succ_iff]
        simp only [laws_szMeaningS.l0, laws_szMeaning.f, rdt_72 l i hi, w_succ (i := i) (by omega), w3, if_neg h2, Option.bind_some]
        rw [ev_ite_iff, if_pos (by omega), ev_ite_iff, if_pos (by omega)]
        exact hr
def toMeaning (x : S72) : S73 := ⟨x.f0, x.f1⟩
theorem toMeaningS_ev (l : List S72) (hl : l.length ≤ 5864062014805) : Ev (fun k => laws_toMeaningS.f k l) (l.map toMeaning) := by
  unfold laws_toMeaningS.f
  rw [ev_ite_iff, if_pos (by omega), ev_ite_iff, if_pos (by omega)]
  refine loop_fill (fun k s i => laws_toMeaningS.l0 k l s i) l toMeaning z73 (fun s hs => ?_) (fun i hi s hs r hr => ?_)
  · rw [← ev_succ_iff]
    simp [laws_toMeaningS.l0, ev_some]
  · rw [← ev_succ_iff]
    simp only [laws_toMeaningS.l0, laws_toMeaning.f, rdt_72 l i hi, w_succ (i := i) (by omega), Option.bind_some]
    simp [ev_ite_iff, hi, hs]
    exact hr
theorem eqMeaningS_ev (l : List S73) (hl : l.length < 4611686018427387904) : Ev (fun k => laws_eqMeaningS.f k l l) true := by
  unfold laws_eqMeaningS.f
  rw [ev_ite_iff, if_pos rfl]
  refine ev_as (loop_all (fun k i => laws_eqMeaningS.l0 k l l i) l (fun _ => true) ?_ (fun i hi hp r hr => ?_) (fun i hi hp => by cases hp)) (by simp)
  · rw [← ev_succ_iff]; simp [laws_eqMeaningS.l0, ev_some]
  · rw [← ev_succ_iff]
    simp only [laws_eqMeaningS.l0, laws_eqMeaning.f, w_succ (i := i) (by omega)]
    simp [ev_ite_iff, hi]
    exact hr
def letterB (c : Int) : Bool := decide (97 ≤ c ∧ c ≤ 122)
def isWordB (s : ByteArray) : Bool := decide (1 ≤ s.size ∧ s.size ≤ 8) && (bytesOf s).all letterB
theorem isWordB_size {s : ByteArray} (h : isWordB s = true) : 1 ≤ s.size ∧ s.size ≤ 8 := by
  simp [isWordB] at h
  exact h.1
theorem isWordB_letter {s : ByteArray} (h : isWordB s = true) : ∀ c ∈ bytesOf s, 97 ≤ c ∧ c ≤ 122 := by
  simp [isWordB, letterB] at h
  exact h.2
theorem spec_IsWord_ev (s : ByteArray) : Ev (fun k => spec_IsWord.f k s) (isWordB s) := by
  simp only [spec_IsWord.f, l1In_eq, Option.bind_some, ev_ite_iff, decide_eq_true_eq, isWordB]
  by_cases h : (1 : Int) ≤ s.size ∧ (s.size : Int) ≤ 8
  · rw [if_pos h]
    have h' : 1 ≤ s.size ∧ s.size ≤ 8 := by omega
    simp only [h', decide_true, Bool.true_and, and_self]
    refine loop_all (fun k i => spec_IsWord.l0 k s i) (bytesOf s) letterB ?_ (fun i hi hp r hr => ?_) (fun i hi hp => ?_)
    · rw [← ev_succ_iff]; simp [spec_IsWord.l0, bytesOf_length, ev_some]
    · have hi' : i < s.size := by rw [bytesOf_length] at hi; exact hi
      rw [← ev_succ_iff]
      simp [letterB] at hp
      simp only [spec_IsWord.l0, bt_nat s i hi', w_succ (i := i) (by omega)]
      rw [ev_ite_iff, if_pos (by omega), ev_ite_iff, if_pos (by omega), ev_ite_iff, if_neg (by omega), ev_ite_iff, if_neg (by omega)]
      exact hr
    · have hi' : i < s.size := by rw [bytesOf_length] at hi; exact hi
      rw [← ev_succ_iff]
      simp [letterB] at hp
      simp only [spec_IsWord.l0, bt_nat s i hi', w_succ (i := i) (by omega)]
      rw [ev_ite_iff, if_pos (by omega), ev_ite_iff, if_pos (by omega), ev_ite_iff]
      by_cases h1 : (bytesOf s)[i] < 97
      · rw [if_pos h1]; exact ev_some _
      · rw [if_neg h1, ev_ite_iff, if_pos (by omega)]; exact ev_some _
  · rw [if_neg h]
    have h' : ¬ (1 ≤ s.size ∧ s.size ≤ 8) := by omega
    simp [h', ev_some]
theorem impl_IsWord_ev (s : ByteArray) : Ev (fun k => impl_IsWord.f k s) (isWordB s) := by
  simp only [impl_IsWord.f, InRange_eq, Option.bind_some, ev_ite_iff, decide_eq_true_eq, isWordB]
  by_cases h : (1 : Int) ≤ s.size ∧ (s.size : Int) ≤ 8
  · rw [if_pos h]
    have h' : 1 ≤ s.size ∧ s.size ≤ 8 := by omega
    simp only [h', decide_true, Bool.true_and, and_self]
    refine loop_all (fun k i => impl_IsWord.l0 k s (s.size : Int) i) (bytesOf s) letterB ?_ (fun i hi hp r hr => ?_) (fun i hi hp => ?_)
    · rw [← ev_succ_iff]; simp [impl_IsWord.l0, bytesOf_length, ev_some]
    · have hi' : i < s.size := by rw [bytesOf_length] at hi; exact hi
      rw [← ev_succ_iff]
      simp [letterB] at hp
      simp only [impl_IsWord.l0, bt_nat s i hi', w_succ (i := i) (by omega), isLetter_eq, Option.bind_some]
      rw [ev_ite_iff, if_pos (by omega), ev_ite_iff, if_pos (by omega), ev_ite_iff, if_pos (by omega), ev_ite_iff, if_pos (by simpa using hp)]
      exact hr
    · have hi' : i < s.size := by rw [bytesOf_length] at hi; exact hi
      rw [← ev_succ_iff]
      simp only [letterB] at hp
      simp only [impl_IsWord.l0, bt_nat s i hi', w_succ (i := i) (by omega), isLetter_eq, Option.bind_some]
      rw [ev_ite_iff, if_pos (by omega), ev_ite_iff, if_pos (by omega), ev_ite_iff, if_pos (by omega), ev_ite_iff, if_neg (by rw [hp]; decide)]
      exact ev_some _
  · rw [if_neg h]
    have h' : ¬ (1 ≤ s.size ∧ s.size ≤ 8) := by omega
    simp [h', ev_some]
def bwB (a b : ByteArray) : Bool := if (a.size : Int) = b.size then _root_.Go.Op.bytesLess a.toList b.toList else decide ((a.size : Int) < b.size)
theorem spec_BeforeWord_eq (a b : ByteArray) : spec_BeforeWord.f a b = some (bwB a b) := by
  unfold spec_BeforeWord.f bwB
  split <;> rfl
theorem bytesLess_irrefl : ∀ l : List UInt8, _root_.Go.Op.bytesLess l l = false
  | [] => rfl
  | a :: l => by simp [_root_.Go.Op.bytesLess, bytesLess_irrefl l]
theorem bwB_irrefl (a : ByteArray) : bwB a a = false := by simp [bwB, bytesLess_irrefl]
theorem impl_BeforeWord_eq (a b : ByteArray) : impl_BeforeWord.f a b = some (bwB a b) := by
  unfold impl_BeforeWord.f bwB
  split <;> rfl
def bmB (a : ByteArray) (m : Int) (b : ByteArray) (n : Int) : Bool := if a = b then decide (m < n) else bwB a b
theorem l17Before_eq (a : ByteArray) (m : Int) (b : ByteArray) (n : Int) : spec_l17Before.f a m b n = some (bmB a m b n) := by
  simp only [spec_l17Before.f, spec_BeforeWord_eq, Option.bind_some, toList_eq, bmB]
  by_cases h : a = b
  · subst h
    simp [bwB_irrefl]
  · simp [h]
    cases bwB a b <;> rfl
theorem beforeMeaning_eq (a : ByteArray) (m : Int) (b : ByteArray) (n : Int) : impl_beforeMeaning.f a m b n = some (bmB a m b n) := by
  simp only [impl_beforeMeaning.f, impl_BeforeWord_eq, Option.bind_some, toList_eq, bmB]
  by_cases h : a = b <;> simp [h]
def okM (l : List S73) (i : Nat) : Bool := if h : i < l.length then isWordB l[i].f0 && (decide (1 ≤ l[i].f1 ∧ l[i].f1 ≤ 99) && (decide (i = 0) || bmB (l[i - 1]'(by omega)).f0 (l[i - 1]'(by omega)).f1 l[i].f0 l[i].f1)) else false
def isDictB (l : List S73) : Bool := decide (l.length ≤ 40) && (List.range l.length).all (okM l)
theorem w_pred {i : Nat} (h : i < 4611686018427387904) : wrap64 ((i + 1 : Nat) - 1 : Int) = (i : Int) := by unfold wrap64; omega
theorem spec_IsDictionary_ev (l : List S73) (hl : l.length < 4611686018427387904) : Ev (fun k => spec_IsDictionary.f k l) (isDictB l) := by
  unfold spec_IsDictionary.f
  have := loop_up0 (fun k i => spec_IsDictionary.l0 k l i) l.length (fun i => decide (l.length ≤ 40) && ((List.range l.length).drop i).all (okM l)) ?_ (fun i hi => ?_) 0 (Nat.zero_le _)
  · simpa [isDictB] using this
  · rw [← ev_succ_iff]
    simp only [spec_IsDictionary.l0]
    rw [ev_ite_iff, if_neg (by omega), ev_some_iff, List.drop_eq_nil_of_le (by simp)]
    simp
    omega
  · have hd : (List.range l.length).drop i = i :: (List.range l.length).drop (i + 1) := by rw [List.drop_eq_getElem_cons (by simpa using hi)]; simp
    have hu : ∀ r, Ev (fun k => spec_IsDictionary.l0 k l (i : Int)) r ↔ if okM l i = true then Ev (fun k => spec_IsDictionary.l0 k l ((i + 1 : Nat) : Int)) r else Ev (fun _ => some false) r := by
      intro r
      rw [← ev_succ_iff]
      simp only [spec_IsDictionary.l0, rdt_73 l i hi, w_succ (i := i) (by omega), l1In_eq, Option.bind_some]
      rw [ev_ite_iff, if_pos (by omega), ev_ite_iff, if_pos (by omega), ev_bind_iff (spec_IsWord_ev _), ev_ite_iff, ev_ite_iff, ev_ite_iff]
      simp only [okM, hi, dif_pos, Bool.and_eq_true, Bool.or_eq_true]
      by_cases h1 : isWordB l[i].f0 = true
      · simp only [h1, if_true, true_and]
        by_cases h2 : 1 ≤ l[i].f1 ∧ l[i].f1 ≤ 99
        · simp only [h2, and_self, decide_true, if_true, true_and]
          cases i with
          | zero => simp
          | succ j =>
            rw [if_pos (by omega), w_pred (by omega), rdt_73 l j (by omega), ev_ite_iff, if_pos (by omega), ev_ite_iff, if_pos (by omega), l17Before_eq]
            simp only [Option.bind_some, ev_ite_iff]
            simp
        · simp [h2]
      · simp [h1]
    rw [hd, List.all_cons]
    by_cases ho : okM l i = true
    · refine .inr ⟨by simp [ho], fun r hr => ?_⟩
      rw [hu, if_pos ho]
      exact hr
    · refine .inl ?_
      rw [hu, if_neg ho, ev_some_iff]
      simp [ho]
theorem impl_IsDictionary_ev (l : List S73) (hl : l.length < 4611686018427387904) : Ev (fun k => impl_IsDictionary.f k l) (isDictB l) := by
  unfold impl_IsDictionary.f
  rw [ev_ite_iff]
  unfold isDictB
  split
  · rw [ev_some_iff]
    have : ¬ l.length ≤ 40 := by omega
    simp [this]
  have h40 : l.length ≤ 40 := by omega
  have := loop_up0 (fun k i => impl_IsDictionary.l0 k l l (l.length : Int) i) l.length (fun i => ((List.range l.length).drop i).all (okM l)) ?_ (fun i hi => ?_) 0 (Nat.zero_le _)
  · simpa [h40] using this
  · rw [← ev_succ_iff]
    simp only [impl_IsDictionary.l0]
    rw [ev_ite_iff, if_neg (by omega), ev_some_iff, List.drop_eq_nil_of_le (by simp)]
    simp
  · have hd : (List.range l.length).drop i = i :: (List.range l.length).drop (i + 1) := by rw [List.drop_eq_getElem_cons (by simpa using hi)]; simp
    have hu : ∀ r, Ev (fun k => impl_IsDictionary.l0 k l l (l.length : Int) (i : Int)) r ↔ if okM l i = true then Ev (fun k => impl_IsDictionary.l0 k l l (l.length : Int) ((i + 1 : Nat) : Int)) r else Ev (fun _ => some false) r := by
      intro r
      rw [← ev_succ_iff]
      simp only [impl_IsDictionary.l0, rdt_73 l i hi, w_succ (i := i) (by omega), InRange_eq, beforeMeaning_eq, Option.bind_some]
      rw [ev_ite_iff, if_pos (by omega), ev_ite_iff, if_pos (by omega), ev_ite_iff, if_pos (by omega), ev_ite_iff]
      simp only [okM, hi, dif_pos, Bool.and_eq_true, Bool.or_eq_true]
      cases i with
      | zero =>
        rw [if_neg (by simp), ev_bind_iff (impl_IsWord_ev _), ev_ite_iff, ev_ite_iff]
        by_cases h1 : isWordB l[0].f0 = true
        · by_cases h2 : 1 ≤ l[0].f1 ∧ l[0].f1 ≤ 99 <;> simp [h1, h2]
        · simp [h1]
      | succ j =>
        rw [if_pos (by omega), w_pred (by omega), rdt_73 l j (by omega), ev_ite_iff, if_pos (by omega), ev_ite_iff, if_pos (by omega), ev_ite_iff]
        by_cases h3 : bmB l[j].f0 l[j].f1 l[j + 1].f0 l[j + 1].f1 = true
        · rw [if_pos h3, ev_bind_iff (impl_IsWord_ev _), ev_ite_iff, ev_ite_iff]
          by_cases h1 : isWordB l[j + 1].f0 = true
          · by_cases h2 : 1 ≤ l[j + 1].f1 ∧ l[j + 1].f1 ≤ 99 <;> simp [h1, h2, h3]
          · simp [h1]
        · simp [h3]
    rw [hd, List.all_cons]
    by_cases ho : okM l i = true
    · refine .inr ⟨by simp [ho], fun r hr => ?_⟩
      rw [hu, if_pos ho]
      exact hr
    · refine .inl ?_
      rw [hu, if_neg ho, ev_some_iff]
      simp [ho]
theorem FnExactIsDictionary : laws_FnExactIsDictionary.Pure := by
  intro l ⟨h1, h2, h3⟩
  refine Ev.rounds ?_
  unfold laws_FnExactIsDictionary.f
  obtain ⟨r, hr, _⟩ := szMeaningS_ev l (by omega) (fun x hx => (h3 x hx).1) 1048576 (by omega) (by omega)
  rw [ev_bind_iff hr, ev_ite_iff]
  split
  · exact ev_some _
  have hto := toMeaningS_ev l (by omega)
  have hl : (l.map toMeaning).length = l.length := List.length_map _
  have s := spec_IsDictionary_ev (l.map toMeaning) (by omega)
  have i := impl_IsDictionary_ev (l.map toMeaning) (by omega)
  have e' := eqMeaningS_ev (l.map toMeaning) (by omega)
  simp only [ev_bind_iff hto, ev_bind_iff s, ev_bind_iff i, ev_bind_iff e', ev_ite_iff, bne_self_eq_false, Bool.false_eq_true, if_false, if_true]
  exact ev_some _
end Go.Proofs.Ytfnpmkmdpbgjkaa.Pure
