/- The program's GuessesFor returns what the reference's returns, for every argument; no further condition. -/
import Derived.Test.YthincoghppaegaaZGuessesForQ
import Derived.Test.YthincoghppaegaaZGuessesForEv
namespace Go.Proofs.Ythincoghppaegaa.Pure
open Go.RowKit Go.Proofs.Ythincoghppaegaa.PFnExactGuessesFor Go.Proofs.YthincoghppaegaaW.PrintWords Go.Proofs.YthincoghppaegaaW.PrintLast Go.Proofs.YthincoghppaegaaW.PrintMore Go.Proofs.Ythincoghppaegaa.Sem
set_option linter.unusedVariables false
set_option linter.unusedSimpArgs false
theorem rdt_72 (xs : List S72) (i : Nat) (h : i < xs.length) : rd_T72 xs (i : Int) = xs[i] := by
  simp [rd_T72, List.getD_eq_getElem?_getD, List.getElem?_eq_getElem h]
theorem rdts_72 (xs : List S72) (i : Nat) (x : S72) (h : i < xs.length) : rd_T72 (xs.set i x) (i : Int) = x := by
  rw [rdt_72 _ i (by rw [List.length_set]; exact h), List.getElem_set_self]
theorem rdt_52 (xs : List S52) (i : Nat) (h : i < xs.length) : rd_T52 xs (i : Int) = xs[i] := by
  simp [rd_T52, List.getD_eq_getElem?_getD, List.getElem?_eq_getElem h]
theorem rdts_52 (xs : List S52) (i : Nat) (x : S52) (h : i < xs.length) : rd_T52 (xs.set i x) (i : Int) = x := by
  rw [rdt_52 _ i (by rw [List.length_set]; exact h), List.getElem_set_self]
theorem rdt_73 (xs : List S73) (i : Nat) (h : i < xs.length) : rd_T73 xs (i : Int) = xs[i] := by
  simp [rd_T73, List.getD_eq_getElem?_getD, List.getElem?_eq_getElem h]
theorem rdts_73 (xs : List S73) (i : Nat) (x : S73) (h : i < xs.length) : rd_T73 (xs.set i x) (i : Int) = x := by
  rw [rdt_73 _ i (by rw [List.length_set]; exact h), List.getElem_set_self]
theorem rdt_54 (xs : List S54) (i : Nat) (h : i < xs.length) : rd_T54 xs (i : Int) = xs[i] := by
  simp [rd_T54, List.getD_eq_getElem?_getD, List.getElem?_eq_getElem h]
theorem rdts_54 (xs : List S54) (i : Nat) (x : S54) (h : i < xs.length) : rd_T54 (xs.set i x) (i : Int) = x := by
  rw [rdt_54 _ i (by rw [List.length_set]; exact h), List.getElem_set_self]
theorem l1In_eq (a b c : Int) : spec_l1In.f a b c = some (decide (b ≤ a ∧ a ≤ c)) := by
  unfold spec_l1In.f
  by_cases h : b ≤ a <;> simp [h]
theorem InRange_eq (a b c : Int) : impl_InRange.f a b c = some (decide (b ≤ a ∧ a ≤ c)) := by
  unfold impl_InRange.f
  by_cases h : b ≤ a <;> simp [h]
theorem at_eq (a b : Int) : impl_at.f a b = some (decide (0 ≤ a ∧ a < b)) := by
  unfold impl_at.f
  by_cases h : 0 ≤ a <;> simp [h]
theorem isLetter_eq (a : Int) : impl_isLetter.f a = some (decide (97 ≤ a ∧ a ≤ 122)) := by
  unfold impl_isLetter.f
  by_cases h : 97 ≤ a <;> simp [h]
theorem strOfNums_one (c : Int) : (strOfNums [c]).size = 1 := rfl
theorem markText_loop : ∀ (n : Nat) (x : Int) (s : ByteArray), x.toNat ≤ n → s.size + n < 9223372036854775807 → n < 4611686018427387904 → ∃ r, Ev (fun k => laws_markText.l0 k x s) r := by
  intro n
  induction n with
  | zero =>
    intro x s hx hs hn
    refine ⟨(⟨#[109]⟩ : ByteArray) ++ s, ?_⟩
    rw [← ev_succ_iff]
    simp only [laws_markText.l0]
    rw [ev_ite_iff, if_neg (by omega), ev_ite_iff, if_pos (by omega)]
    exact ev_some _
  | succ n ih =>
    intro x s hx hs hn
    by_cases h : x > 0
    · have h1 : Int.tdiv x 10 = x / 10 := Int.tdiv_eq_ediv_of_nonneg (by omega)
      have h2 : wrap64 (Int.tdiv x 10) = x / 10 := by rw [h1]; exact w_in (by omega) (by omega)
      obtain ⟨r, hr⟩ := ih (x / 10) ((strOfNums [(wrap64 (48 + (Int.tmod x 10))) % 256]) ++ s) (by omega) (by rw [ByteArray.size_append, strOfNums_one]; omega) (by omega)
      refine ⟨r, ?_⟩
      rw [← ev_succ_iff]
      simp only [laws_markText.l0, Option.bind_some, h2]
      rw [ev_ite_iff, if_pos h, ev_ite_iff, if_pos (by rw [strOfNums_one]; omega)]
      exact hr
    · refine ⟨(⟨#[109]⟩ : ByteArray) ++ s, ?_⟩
      rw [← ev_succ_iff]
      simp only [laws_markText.l0]
      rw [ev_ite_iff, if_neg h, ev_ite_iff, if_pos (by omega)]
      exact ev_some _
theorem markText_ex (c : Int) (h : c < 4611686018427387904) : ∃ r, Ev (fun k => laws_markText.f k c) r := by
  unfold laws_markText.f
  by_cases h0 : c ≤ 0
  · exact ⟨_, by rw [ev_ite_iff, if_pos h0]; exact ev_some _⟩
  · obtain ⟨r, hr⟩ := markText_loop c.toNat c ⟨#[]⟩ (Nat.le_refl _) (by show 0 + _ < _; omega) (by omega)
    exact ⟨r, by rw [ev_ite_iff, if_neg h0]; exact hr⟩
noncomputable def MT (c : Int) : ByteArray := open Classical in if h : ∃ r, Ev (fun k => laws_markText.f k c) r then h.choose else ByteArray.empty
theorem MT_ev (c : Int) (h : c < 4611686018427387904) : Ev (fun k => laws_markText.f k c) (MT c) := by
  have hx := markText_ex c h
  unfold MT
  rw [dif_pos hx]
  exact hx.choose_spec
theorem markStringS_ev (l : List ByteArray) (c : Int) (h0 : 0 ≤ c) (hc : c + l.length < 4611686018427387904) : Ev (fun k => laws_markStringS.f k l c) (c + l.length, markd (fun _ b => MT b) (fun _ => 1) l c) := by
  have hw : wsum (fun _ => 1) l = l.length := by rw [wsum_one]; omega
  have := loop_mark (fun k s b i => laws_markStringS.l0 k s b i) l (fun _ => 1) (fun _ b => MT b) c (fun s b hs => ?_) (fun i hi s b hs hsi hb hb' r hr => ?_)
  · rw [hw] at this
    exact this
  · rw [← ev_succ_iff]
    simp only [laws_markStringS.l0]
    simp [hs, ev_some]
  · rw [← ev_succ_iff]
    rw [hw] at hb'
    have e : wrap64 (b + 1) = b + 1 := w_in (by omega) (by omega)
    simp only [laws_markStringS.l0, w_succ (i := i) (by omega), e]
    rw [ev_ite_iff, if_pos (by omega), ev_bind_iff (MT_ev b (by omega)), ev_ite_iff, if_pos (by omega)]
    exact hr
theorem heldStringS_ev (l : List ByteArray) (c : Int) (h0 : 0 ≤ c) (hc : c + l.length < 4611686018427387904) : Ev (fun k => laws_heldStringS.f k (markd (fun _ b => MT b) (fun _ => 1) l c) c) (c + l.length) := by
  have hw : wsum (fun _ => 1) l = l.length := by rw [wsum_one]; omega
  have := loop_held (fun k b i => laws_heldStringS.l0 k (markd (fun _ b => MT b) (fun _ => 1) l c) b i) l (fun _ => 1) c (fun b => ?_) (fun i hi b hb hb' r hr => ?_)
  · rw [hw] at this
    exact this
  · rw [← ev_succ_iff]
    simp only [laws_heldStringS.l0]
    simp [markd_length, ev_some]
  · rw [← ev_succ_iff]
    rw [hw] at hb'
    have e : wrap64 (b + 1) = b + 1 := w_in (by omega) (by omega)
    have hr' := rdOf_nat ByteArray.empty (markd (fun _ b => MT b) (fun _ => 1) l c) i (by rw [markd_length]; exact hi)
    rw [markd_get _ _ _ _ _ hi] at hr'
    simp only [laws_heldStringS.l0, w_succ (i := i) (by omega), e, hr', ← hb]
    rw [ev_ite_iff, if_pos (by rw [markd_length]; omega), ev_ite_iff, if_pos (by omega), ev_bind_iff (MT_ev b (by omega)), ev_ite_iff, if_pos rfl]
    exact hr
theorem szStringS_ev (l : List ByteArray) (hl : l.length < 4611686018427387904) (hs : ∀ x ∈ l, x.size ≤ 140737488351232) (a : Int) (ha : 0 ≤ a) (ha' : a ≤ 1048576) : ∃ r, Ev (fun k => laws_szStringS.f k l a) r ∧ r ≤ 1048576 := by
  unfold laws_szStringS.f
  have w1 : wrap64 (a - (l.length : Int)) = a - l.length := w_in (by omega) (by omega)
  simp only [ev_ite_iff, ev_some_iff, w1]
  by_cases h : a - (l.length : Int) < 0
  · exact ⟨-1, by simp [h]⟩
  · simp only [h, if_false]
    refine loop_size (fun k b i => laws_szStringS.l0 k l b i) l 1048576 (fun b => ?_) (fun i hi b hb hb' => ?_) _ (by omega) (by omega)
    · rw [← ev_succ_iff]
      simp only [laws_szStringS.l0]
      rw [ev_ite_iff, if_neg (by omega)]
      exact ev_some _
    · have hsz := hs _ (List.getElem_mem hi)
      have w3 : wrap64 (b - (l[i].size : Int)) = b - l[i].size := w_in (by omega) (by omega)
      by_cases h2 : b - (l[i].size : Int) < 0
      · refine .inl ?_
        rw [← ev_succ_iff]
        simp only [laws_szStringS.l0, rdOf_nat ByteArray.empty l i hi, w_succ (i := i) (by omega), w3]
        simp [ev_ite_iff, ev_some_iff, hi, h2]
      · refine .inr ⟨b - l[i].size, by omega, by omega, fun r hr => ?_⟩
        rw [← ev_succ_iff]
        simp only [laws_szStringS.l0, rdOf_nat ByteArray.empty l i hi, w_succ (i := i) (by omega), w3]
        rw [ev_ite_iff, if_pos (by omega), ev_ite_iff, if_pos (by omega), ev_ite_iff, if_neg h2]
        exact hr
theorem toStringS_ev (l : List ByteArray) (hl : l.length ≤ 8796093022208) : Ev (fun k => laws_toStringS.f k l) l := by
  unfold laws_toStringS.f
  rw [ev_ite_iff, if_pos (by omega), ev_ite_iff, if_pos (by omega)]
  refine ev_as (loop_fill (fun k s i => laws_toStringS.l0 k l s i) l id (⟨#[]⟩ : ByteArray) (fun s hs => ?_) (fun i hi s hs r hr => ?_)) (by simp)
  · rw [← ev_succ_iff]
    simp [laws_toStringS.l0, ev_some]
  · rw [← ev_succ_iff]
    simp only [laws_toStringS.l0, rdOf_nat ByteArray.empty l i hi, w_succ (i := i) (by omega)]
    simp [ev_ite_iff, hi, hs]
    exact hr
theorem eqStringS_ev (l : List ByteArray) (hl : l.length < 4611686018427387904) : Ev (fun k => laws_eqStringS.f k l l) true := by
  unfold laws_eqStringS.f
  rw [ev_ite_iff, if_pos rfl]
  refine ev_as (loop_all (fun k i => laws_eqStringS.l0 k l l i) l (fun _ => true) ?_ (fun i hi hp r hr => ?_) (fun i hi hp => by cases hp)) (by simp)
  · rw [← ev_succ_iff]; simp [laws_eqStringS.l0, ev_some]
  · rw [← ev_succ_iff]
    simp only [laws_eqStringS.l0, w_succ (i := i) (by omega)]
    simp [ev_ite_iff, hi]
    exact hr
theorem szMeaningS_ev (l : List S52) (hl : l.length < 4611686018427387904) (hs : ∀ x ∈ l, x.f0.size ≤ 140737488351232) (a : Int) (ha : 0 ≤ a) (ha' : a ≤ 1048576) : ∃ r, Ev (fun k => laws_szMeaningS.f k l a) r ∧ r ≤ 1048576 := by
  unfold laws_szMeaningS.f
  have w1 : wrap64 (a - (l.length : Int)) = a - l.length := w_in (by omega) (by omega)
  simp only [ev_ite_iff, ev_some_iff, w1]
  by_cases h : a - (l.length : Int) < 0
  · exact ⟨-1, by simp [h]⟩
  · simp only [h, if_false]
    refine loop_size (fun k b i => laws_szMeaningS.l0 k l b i) l 1048576 (fun b => ?_) (fun i hi b hb hb' => ?_) _ (by omega) (by omega)
    · rw [← ev_succ_iff]
      simp only [laws_szMeaningS.l0]
      rw [ev_ite_iff, if_neg (by omega)]
      exact ev_some _
    · have hsz := hs _ (List.getElem_mem hi)
      have w3 : wrap64 (b - (l[i].f0.size : Int)) = b - l[i].f0.size := w_in (by omega) (by omega)
      by_cases h2 : b - (l[i].f0.size : Int) < 0
      · refine .inl ?_
        rw [← ev_succ_iff]
        simp only [laws_szMeaningS.l0, laws_szMeaning.f, rdt_52 l i hi, w_succ (i := i) (by omega), w3, if_pos h2, Option.bind_some]
        simp [ev_ite_iff, ev_some_iff, hi]
      · refine .inr ⟨b - l[i].f0.size, by omega, by omega, fun r hr => ?_⟩
        rw [← ev_succ_iff]
        simp only [laws_szMeaningS.l0, laws_szMeaning.f, rdt_52 l i hi, w_succ (i := i) (by omega), w3, if_neg h2, Option.bind_some]
        rw [ev_ite_iff, if_pos (by omega), ev_ite_iff, if_pos (by omega)]
        exact hr
def toMeaning (x : S52) : S54 := ⟨x.f0, x.f1⟩
theorem toMeaningS_ev (l : List S52) (hl : l.length ≤ 5864062014805) : Ev (fun k => laws_toMeaningS.f k l) (l.map toMeaning) := by
  unfold laws_toMeaningS.f
  rw [ev_ite_iff, if_pos (by omega), ev_ite_iff, if_pos (by omega)]
  refine loop_fill (fun k s i => laws_toMeaningS.l0 k l s i) l toMeaning z54 (fun s hs => ?_) (fun i hi s hs r hr => ?_)
  · rw [← ev_succ_iff]
    simp [laws_toMeaningS.l0, ev_some]
  · rw [← ev_succ_iff]
    simp only [laws_toMeaningS.l0, laws_toMeaning.f, rdt_52 l i hi, w_succ (i := i) (by omega), Option.bind_some]
    simp [ev_ite_iff, hi, hs]
    exact hr
theorem eqMeaningS_ev (l : List S54) (hl : l.length < 4611686018427387904) : Ev (fun k => laws_eqMeaningS.f k l l) true := by
  unfold laws_eqMeaningS.f
  rw [ev_ite_iff, if_pos rfl]
  refine ev_as (loop_all (fun k i => laws_eqMeaningS.l0 k l l i) l (fun _ => true) ?_ (fun i hi hp r hr => ?_) (fun i hi hp => by cases hp)) (by simp)
  · rw [← ev_succ_iff]; simp [laws_eqMeaningS.l0, ev_some]
  · rw [← ev_succ_iff]
    simp only [laws_eqMeaningS.l0, laws_eqMeaning.f, w_succ (i := i) (by omega)]
    simp [ev_ite_iff, hi]
    exact hr
theorem markMeaningS_ex (l : List S54) (c : Int) (h0 : 0 ≤ c) (hc : c + 2 * l.length < 4611686018427387904) : Ev (fun k => laws_markMeaningS.f k l c) (c + 2 * l.length, markd (fun _ b => ⟨MT b, b + 1⟩) (fun _ => 2) l c) := by
  have hw : wsum (fun _ => 2) l = 2 * l.length := wsum_one _ _
  have := loop_mark (fun k s b i => laws_markMeaningS.l0 k s b i) l (fun _ => 2) (fun _ b => ⟨MT b, b + 1⟩) c (fun s b hs => ?_) (fun i hi s b hs hsi hb hb' r hr => ?_)
  · rw [hw] at this
    exact this
  · rw [← ev_succ_iff]
    simp only [laws_markMeaningS.l0]
    simp [hs, ev_some]
  · rw [← ev_succ_iff]
    rw [hw] at hb'
    have e : wrap64 (b + 1) = b + 1 := w_in (by omega) (by omega)
    have e' : wrap64 (b + 1 + 1) = b + ((2 : Nat) : Int) := by rw [w_in (by omega) (by omega)]; omega
    simp only [laws_markMeaningS.l0, w_succ (i := i) (by omega), e, e', Option.bind_some]
    rw [ev_ite_iff, if_pos (by omega), ev_bind_iff (MT_ev b (by omega)), ev_ite_iff, if_pos (by omega)]
    simp only [Int.toNat_natCast, rdts_54, List.length_set, hs, hi, List.set_set]
    exact hr
def letterB (c : Int) : Bool := decide (97 ≤ c ∧ c ≤ 122)
def isWordB (s : ByteArray) : Bool := decide (1 ≤ s.size ∧ s.size ≤ 8) && (bytesOf s).all letterB
theorem isWordB_size {s : ByteArray} (h : isWordB s = true) : 1 ≤ s.size ∧ s.size ≤ 8 := by
  simp [isWordB] at h
  exact h.1
theorem isWordB_letter {s : ByteArray} (h : isWordB s = true) : ∀ c ∈ bytesOf s, 97 ≤ c ∧ c ≤ 122 := by
  simp [isWordB, letterB] at h
  exact h.2
theorem spec_IsWord_ev (s : ByteArray) : Ev (fun k => spec_IsWord.f k s) (isWordB s) := by
  simp only [spec_IsWord.f, l1In_eq, Option.bind_some, ev_ite_iff, decide_eq_true_eq, isWordB]
  by_cases h : (1 : Int) ≤ s.size ∧ (s.size : Int) ≤ 8
  · rw [if_pos h]
    have h' : 1 ≤ s.size ∧ s.size ≤ 8 := by omega
    simp only [h', decide_true, Bool.true_and, and_self]
    refine loop_all (fun k i => spec_IsWord.l0 k s i) (bytesOf s) letterB ?_ (fun i hi hp r hr => ?_) (fun i hi hp => ?_)
    · rw [← ev_succ_iff]; simp [spec_IsWord.l0, bytesOf_length, ev_some]
    · have hi' : i < s.size := by rw [bytesOf_length] at hi; exact hi
      rw [← ev_succ_iff]
      simp [letterB] at hp
      simp only [spec_IsWord.l0, bt_nat s i hi', w_succ (i := i) (by omega)]
      rw [ev_ite_iff, if_pos (by omega), ev_ite_iff, if_pos (by omega), ev_ite_iff, if_neg (by omega), ev_ite_iff, if_neg (by omega)]
      exact hr
    · have hi' : i < s.size := by rw [bytesOf_length] at hi; exact hi
      rw [← ev_succ_iff]
      simp [letterB] at hp
      simp only [spec_IsWord.l0, bt_nat s i hi', w_succ (i := i) (by omega)]
      rw [ev_ite_iff, if_pos (by omega), ev_ite_iff, if_pos (by omega), ev_ite_iff]
      by_cases h1 : (bytesOf s)[i] < 97
      · rw [if_pos h1]; exact ev_some _
      · rw [if_neg h1, ev_ite_iff, if_pos (by omega)]; exact ev_some _
  · rw [if_neg h]
    have h' : ¬ (1 ≤ s.size ∧ s.size ≤ 8) := by omega
    simp [h', ev_some]
theorem impl_IsWord_ev (s : ByteArray) : Ev (fun k => impl_IsWord.f k s) (isWordB s) := by
  simp only [impl_IsWord.f, InRange_eq, Option.bind_some, ev_ite_iff, decide_eq_true_eq, isWordB]
  by_cases h : (1 : Int) ≤ s.size ∧ (s.size : Int) ≤ 8
  · rw [if_pos h]
    have h' : 1 ≤ s.size ∧ s.size ≤ 8 := by omega
    simp only [h', decide_true, Bool.true_and, and_self]
    refine loop_all (fun k i => impl_IsWord.l0 k s (s.size : Int) i) (bytesOf s) letterB ?_ (fun i hi hp r hr => ?_) (fun i hi hp => ?_)
    · rw [← ev_succ_iff]; simp [impl_IsWord.l0, bytesOf_length, ev_some]
    · have hi' : i < s.size := by rw [bytesOf_length] at hi; exact hi
      rw [← ev_succ_iff]
      simp [letterB] at hp
      simp only [impl_IsWord.l0, bt_nat s i hi', w_succ (i := i) (by omega), isLetter_eq, Option.bind_some]
      rw [ev_ite_iff, if_pos (by omega), ev_ite_iff, if_pos (by omega), ev_ite_iff, if_pos (by omega), ev_ite_iff, if_pos (by simpa using hp)]
      exact hr
    · have hi' : i < s.size := by rw [bytesOf_length] at hi; exact hi
      rw [← ev_succ_iff]
      simp only [letterB] at hp
      simp only [impl_IsWord.l0, bt_nat s i hi', w_succ (i := i) (by omega), isLetter_eq, Option.bind_some]
      rw [ev_ite_iff, if_pos (by omega), ev_ite_iff, if_pos (by omega), ev_ite_iff, if_pos (by omega), ev_ite_iff, if_neg (by rw [hp]; decide)]
      exact ev_some _
  · rw [if_neg h]
    have h' : ¬ (1 ≤ s.size ∧ s.size ≤ 8) := by omega
    simp [h', ev_some]
def eqpM (w : ByteArray) (s : Int) (x : S54) : Bool := decide (x.f0 = w ∧ x.f1 = s)
def hasB (l : List S54) (w : ByteArray) (s : Int) : Bool := l.any (eqpM w s)
theorem spec_HasSense_ev (l : List S54) (w : ByteArray) (s : Int) (hl : l.length < 4611686018427387904) : Ev (fun k => spec_HasSense.f k l w s) (hasB l w s) := by
  refine loop_any (fun k i => spec_HasSense.l0 k l w s i) l _ ?_ (fun i hi hp r hr => ?_) (fun i hi hp => ?_)
  · rw [← ev_succ_iff]; simp [spec_HasSense.l0, ev_some]
  · rw [← ev_succ_iff]
    simp only [spec_HasSense.l0, rdt_54 l i hi, w_succ (i := i) (by omega), toList_eq]
    simp [eqpM] at hp
    simp [ev_ite_iff, hi]
    split
    · rw [if_neg (hp ‹_›)]; exact hr
    · exact hr
  · rw [← ev_succ_iff]
    simp only [spec_HasSense.l0, rdt_54 l i hi, w_succ (i := i) (by omega), toList_eq]
    simp [eqpM] at hp
    simp [ev_ite_iff, hi, hp, ev_some]
theorem indexM_ev (l : List S54) (w : ByteArray) (s : Int) (hl : l.length < 4611686018427387904) : Ev (fun k => impl_Meaning_85.f k l w s) (match l.findIdx? (eqpM w s) with | some i => (i : Int) | none => -1) := by
  refine loop_find (fun k i => impl_Meaning_85.l0 k l (l.length : Int) i w s) l _ ?_ (fun i hi hp r hr => ?_) (fun i hi hp => ?_)
  · rw [← ev_succ_iff]; simp [impl_Meaning_85.l0, ev_some]
  · rw [← ev_succ_iff]
    simp only [impl_Meaning_85.l0, rdt_54 l i hi, w_succ (i := i) (by omega), toList_beq]
    simp [eqpM] at hp
    simp [ev_ite_iff, hi]
    rw [if_neg (by intro h; exact hp h.1.symm h.2.symm)]
    exact hr
  · rw [← ev_succ_iff]
    simp only [impl_Meaning_85.l0, rdt_54 l i hi, w_succ (i := i) (by omega), toList_beq]
    simp [eqpM] at hp
    simp [ev_ite_iff, hi, hp, ev_some]
theorem find_ge {α : Type} (l : List α) (p : α → Bool) : decide ((match l.findIdx? p with | some i => (i : Int) | none => -1) ≥ 0) = l.any p := by
  cases h : l.findIdx? p with
  | none =>
    have := List.findIdx?_eq_none_iff.1 h
    simp
    intro x hx
    simpa using this x hx
  | some i =>
    obtain ⟨h1, h2, _⟩ := List.findIdx?_eq_some_iff_getElem.1 h
    simp
    exact ⟨l[i], List.getElem_mem h1, h2⟩
theorem containsM_ev (l : List S54) (w : ByteArray) (s : Int) (hl : l.length < 4611686018427387904) : Ev (fun k => impl_Meaning_67.f k l w s) (hasB l w s) := by
  unfold impl_Meaning_67.f
  rw [ev_bind_iff (indexM_ev l w s hl), find_ge]
  exact ev_some _
theorem impl_HasSense_ev (l : List S54) (w : ByteArray) (s : Int) (hl : l.length < 4611686018427387904) : Ev (fun k => impl_HasSense.f k l w s) (hasB l w s) := by
  unfold impl_HasSense.f
  rw [ev_bind_iff (containsM_ev l w s hl)]
  exact ev_some _
theorem szStepS_ev (l : List S72) (hl : l.length < 4611686018427387904) (hs : ∀ x ∈ l, x.f1.size ≤ 140737488351232) (a : Int) (ha : 0 ≤ a) (ha' : a ≤ 1048576) : ∃ r, Ev (fun k => laws_szStepS.f k l a) r ∧ r ≤ 1048576 := by
  unfold laws_szStepS.f
  have w1 : wrap64 (a - (l.length : Int)) = a - l.length := w_in (by omega) (by omega)
  simp only [ev_ite_iff, ev_some_iff, w1]
  by_cases h : a - (l.length : Int) < 0
  · exact ⟨-1, by simp [h]⟩
  · simp only [h, if_false]
    refine loop_size (fun k b i => laws_szStepS.l0 k l b i) l 1048576 (fun b => ?_) (fun i hi b hb hb' => ?_) _ (by omega) (by omega)
    · rw [← ev_succ_iff]
      simp only [laws_szStepS.l0]
      rw [ev_ite_iff, if_neg (by omega)]
      exact ev_some _
    · have hsz := hs _ (List.getElem_mem hi)
      have w3 : wrap64 (b - (l[i].f1.size : Int)) = b - l[i].f1.size := w_in (by omega) (by omega)
      by_cases h2 : b - (l[i].f1.size : Int) < 0
      · refine .inl ?_
        rw [← ev_succ_iff]
        simp only [laws_szStepS.l0, laws_szStep.f, rdt_72 l i hi, w_succ (i := i) (by omega), w3, if_pos h2, Option.bind_some]
        simp [ev_ite_iff, ev_some_iff, hi]
      · refine .inr ⟨b - l[i].f1.size, by omega, by omega, fun r hr => ?_⟩
        rw [← ev_succ_iff]
        simp only [laws_szStepS.l0, laws_szStep.f, rdt_72 l i hi, w_succ (i := i) (by omega), w3, if_neg h2, Option.bind_some]
        rw [ev_ite_iff, if_pos (by omega), ev_ite_iff, if_pos (by omega)]
        exact hr
def toStep (x : S72) : S73 := ⟨x.f0, x.f1, x.f2, x.f3⟩
theorem toStepS_ev (l : List S72) (hl : l.length ≤ 3518437208883) : Ev (fun k => laws_toStepS.f k l) (l.map toStep) := by
  unfold laws_toStepS.f
  rw [ev_ite_iff, if_pos (by omega), ev_ite_iff, if_pos (by omega)]
  refine loop_fill (fun k s i => laws_toStepS.l0 k l s i) l toStep z73 (fun s hs => ?_) (fun i hi s hs r hr => ?_)
  · rw [← ev_succ_iff]
    simp [laws_toStepS.l0, ev_some]
  · rw [← ev_succ_iff]
    simp only [laws_toStepS.l0, laws_toStep.f, rdt_72 l i hi, w_succ (i := i) (by omega), Option.bind_some]
    simp [ev_ite_iff, hi, hs]
    exact hr
theorem eqStepS_ev (l : List S73) (hl : l.length < 4611686018427387904) : Ev (fun k => laws_eqStepS.f k l l) true := by
  unfold laws_eqStepS.f
  rw [ev_ite_iff, if_pos rfl]
  refine ev_as (loop_all (fun k i => laws_eqStepS.l0 k l l i) l (fun _ => true) ?_ (fun i hi hp r hr => ?_) (fun i hi hp => by cases hp)) (by simp)
  · rw [← ev_succ_iff]; simp [laws_eqStepS.l0, ev_some]
  · rw [← ev_succ_iff]
    simp only [laws_eqStepS.l0, laws_eqStep.f, w_succ (i := i) (by omega)]
    simp [ev_ite_iff, hi]
    exact hr
theorem markStepS_ev (l : List S73) (c : Int) (h0 : 0 ≤ c) (hc : c + 4 * l.length < 4611686018427387904) : Ev (fun k => laws_markStepS.f k l c) (c + 4 * l.length, markd (fun _ b => ⟨b, MT (b + 1), b + 2, b + 3⟩) (fun _ => 4) l c) := by
  have hw : wsum (fun _ => 4) l = 4 * l.length := wsum_one _ _
  have := loop_mark (fun k s b i => laws_markStepS.l0 k s b i) l (fun _ => 4) (fun _ b => ⟨b, MT (b + 1), b + 2, b + 3⟩) c (fun s b hs => ?_) (fun i hi s b hs hsi hb hb' r hr => ?_)
  · rw [hw] at this
    exact this
  · rw [← ev_succ_iff]
    simp only [laws_markStepS.l0]
    simp [hs, ev_some]
  · rw [← ev_succ_iff]
    rw [hw] at hb'
    have e1 : wrap64 (b + 1) = b + 1 := w_in (by omega) (by omega)
    have e2 : wrap64 (b + 1 + 1) = b + 2 := by rw [w_in (by omega) (by omega)]; omega
    have e3 : wrap64 (b + 2 + 1) = b + 3 := by rw [w_in (by omega) (by omega)]; omega
    have e4 : wrap64 (b + 3 + 1) = b + ((4 : Nat) : Int) := by rw [w_in (by omega) (by omega)]; omega
    simp only [laws_markStepS.l0, w_succ (i := i) (by omega), e1, e2, e3, e4, Option.bind_some]
    rw [ev_ite_iff, if_pos (by omega), ev_ite_iff, if_pos (by omega), ev_bind_iff (MT_ev (b + 1) (by omega))]
    simp only [Int.toNat_natCast, rdts_73, List.length_set, hs, hi, List.set_set]
    exact hr
theorem szClue_ev (a0 : Int) (l : List S72) (hl : l.length < 4611686018427387904) (hs : ∀ x ∈ l, x.f1.size ≤ 140737488351232) (a : Int) (ha : 0 ≤ a) (ha' : a ≤ 1048576) : ∃ r, Ev (fun k => laws_szClue.f k a0 l a) r ∧ r ≤ 1048576 := by
  obtain ⟨r, hr, hb⟩ := szStepS_ev l hl hs a ha ha'
  unfold laws_szClue.f
  by_cases h : r < 0
  · exact ⟨-1, by rw [ev_bind_iff hr, ev_ite_iff, if_pos h]; exact ev_some _, by omega⟩
  · exact ⟨r, by rw [ev_bind_iff hr, ev_ite_iff, if_neg h]; exact ev_some _, hb⟩
theorem toClue_ev (a0 : Int) (l : List S72) (hl : l.length ≤ 3518437208883) : Ev (fun k => laws_toClue.f k a0 l) (a0, l.map toStep) := by
  unfold laws_toClue.f
  rw [ev_bind_iff (toStepS_ev l hl)]
  exact ev_some _
theorem eqClue_ev (a0 : Int) (l : List S73) (hl : l.length < 4611686018427387904) : Ev (fun k => laws_eqClue.f k a0 l a0 l) true := by
  unfold laws_eqClue.f
  rw [ev_ite_iff, if_pos rfl, ev_bind_iff (eqStepS_ev l hl), ev_ite_iff, if_pos rfl]
  exact ev_some _
def okTail (l : List S73) (i : Nat) (two : Bool) (kind A B : Int) : Bool :=
  if kind = 1 then decide (A = 0 ∧ B = 0) else decide (0 ≤ A ∧ A < i) && (if two = true then decide (0 ≤ B ∧ B < i) else decide (B = 0) && (decide (kind = 2) || decide ((rd_T73 l A).f0 = 1)))
def okStep (l : List S73) (i : Nat) : Bool :=
  decide (1 ≤ (rd_T73 l i).f0 ∧ (rd_T73 l i).f0 ≤ 9) && ((if (rd_T73 l i).f0 = 1 then isWordB (rd_T73 l i).f1 else decide ((rd_T73 l i).f1.size = 0)) && okTail l i (decide ((rd_T73 l i).f0 = 4 ∨ (rd_T73 l i).f0 = 5)) (rd_T73 l i).f0 (rd_T73 l i).f2 (rd_T73 l i).f3)
theorem l15Ok_j1 (l : List S73) (i : Nat) (hi : i < l.length) (hl : l.length < 4611686018427387904) (two : Bool) (kind : Int) (word : ByteArray) (A B : Int) : Ev (fun k => spec_l15Ok.j1 k l (i : Int) two kind word A B) (okTail l i two kind A B) := by
  have e : wrap64 ((i : Int) - 1) = i - 1 := w_in (by omega) (by omega)
  rw [← ev_succ_iff]
  simp only [spec_l15Ok.j1, l1In_eq, Option.bind_some, e, okTail, ev_ite_iff]
  by_cases h1 : kind = 1
  · by_cases h2 : A = 0 <;> simp [h1, h2, ev_some_iff] <;> rfl
  · rw [if_neg h1, if_neg h1]
    by_cases h2 : 0 ≤ A ∧ A < (i : Int)
    · have h2' : 0 ≤ A ∧ A ≤ (i : Int) - 1 := by omega
      simp only [h2, h2', and_self, decide_true, if_true, Bool.true_and]
      cases two
      · simp only [Bool.false_eq_true, if_false]
        by_cases h3 : B = 0
        · by_cases h4 : kind = 2
          · simp [h3, h4, ev_some_iff]
          · simp only [h3, h4, if_true, if_false, decide_true, decide_false, Bool.true_and, Bool.false_or]
            rw [if_pos (by omega), ev_some_iff]
            rfl
        · simp [h3, ev_some_iff]
      · simp only [if_true]
        by_cases h3 : 0 ≤ B ∧ B < (i : Int)
        · have h3' : 0 ≤ B ∧ B ≤ (i : Int) - 1 := by omega
          simp [h3, h3', ev_some_iff]
        · have h3' : ¬ (0 ≤ B ∧ B ≤ (i : Int) - 1) := by omega
          simp [h3, h3', ev_some_iff]
    · have h2' : ¬ (0 ≤ A ∧ A ≤ (i : Int) - 1) := by omega
      simp [h2, h2', ev_some_iff]
theorem l15Ok_j0 (l : List S73) (i : Nat) (hi : i < l.length) (hl : l.length < 4611686018427387904) (b : Bool) (kind : Int) (word : ByteArray) (A B : Int) : Ev (fun k => spec_l15Ok.j0 k l (i : Int) b kind word A B) (!b && okTail l i (decide (kind = 4 ∨ kind = 5)) kind A B) := by
  rw [← ev_succ_iff]
  simp only [spec_l15Ok.j0, ev_ite_iff]
  cases b
  · simp only [Bool.false_eq_true, if_false, Bool.not_false, Bool.true_and]
    by_cases h : kind = 4
    · simp only [h, if_true, true_or, decide_true]
      exact l15Ok_j1 l i hi hl _ _ _ _ _
    · simp only [h, if_false, false_or]
      have := l15Ok_j1 l i hi hl (kind == 5) kind word A B
      exact this
  · simp [ev_some_iff]
theorem spec_l15Ok_ev (l : List S73) (i : Nat) (hi : i < l.length) (hl : l.length < 4611686018427387904) : Ev (fun k => spec_l15Ok.f k l (i : Int)) (okStep l i) := by
  unfold spec_l15Ok.f
  rw [ev_ite_iff, if_pos (by omega), ev_ite_iff, if_pos (by omega)]
  simp only [l1In_eq, Option.bind_some, decide_eq_true_eq]
  unfold okStep
  generalize rd_T73 l (i : Int) = s
  rw [ev_ite_iff]
  by_cases h1 : 1 ≤ s.f0 ∧ s.f0 ≤ 9
  · rw [if_pos h1, ev_bind_iff (spec_IsWord_ev s.f1), ev_ite_iff]
    simp only [h1, and_self, decide_true, Bool.true_and]
    by_cases h2 : s.f0 = 1
    · simp only [h2, beq_self_eq_true, if_true, ev_ite_iff]
      cases hw : isWordB s.f1
      · simp only [Bool.true_bne, Bool.not_false, if_true]
        exact ev_as (l15Ok_j0 l i hi hl _ _ _ _ _) (by simp)
      · simp only [Bool.true_bne, Bool.not_true, Bool.false_eq_true, if_false]
        exact ev_as (l15Ok_j0 l i hi hl _ _ _ _ _) (by simp)
    · have h2' : (s.f0 == 1) = false := by simpa using h2
      simp only [h2, h2', if_false, ev_ite_iff, Bool.false_bne]
      cases hw : isWordB s.f1
      · simp only [Bool.false_eq_true, if_false]
        refine ev_as (l15Ok_j0 l i hi hl _ _ _ _ _) ?_
        congr 1
        rw [Bool.eq_iff_iff]
        simp [bne, toList_nil]
      · have hz : ¬ s.f1.size = 0 := by have := isWordB_size hw; omega
        simp only [if_true]
        exact ev_as (l15Ok_j0 l i hi hl _ _ _ _ _) (by simp [hz])
  · rw [if_neg h1]
    simp only [h1, decide_false, Bool.false_and]
    exact ev_as (l15Ok_j0 l i hi hl _ _ _ _ _) (by simp)
def isPlayB (l : List S73) : Bool := decide (1 ≤ l.length ∧ l.length ≤ 9) && (List.range l.length).all (okStep l)
theorem isPlayB_len {l : List S73} (h : isPlayB l = true) : 1 ≤ l.length ∧ l.length ≤ 9 := by
  simp [isPlayB] at h
  exact h.1
theorem isPlayB_step {l : List S73} (h : isPlayB l = true) (i : Nat) (hi : i < l.length) : okStep l i = true := by
  simp [isPlayB] at h
  exact h.2 i hi
theorem spec_IsPlay_ev (l : List S73) (hl : l.length < 4611686018427387904) : Ev (fun k => spec_IsPlay.f k l) (isPlayB l) := by
  unfold spec_IsPlay.f
  have hend : ∀ i : Nat, Ev (fun k => spec_IsPlay.j1 k l (i : Int) false) (decide (1 ≤ l.length ∧ l.length ≤ 9)) := by
    intro i
    rw [← ev_succ_iff]
    simp only [spec_IsPlay.j1, l1In_eq, Option.bind_some, Bool.false_eq_true, if_false, ev_some_iff]
    rw [Bool.eq_iff_iff]
    simp
    omega
  have := loop_up0 (fun k i => spec_IsPlay.l0 k l i) l.length (fun i => decide (1 ≤ l.length ∧ l.length ≤ 9) && ((List.range l.length).drop i).all (okStep l)) ?_ (fun i hi => ?_) 0 (Nat.zero_le _)
  · simpa [isPlayB] using this
  · rw [← ev_succ_iff]
    simp only [spec_IsPlay.l0]
    rw [ev_ite_iff, if_neg (by omega), List.drop_eq_nil_of_le (by simp)]
    simpa using hend l.length
  · have hd : (List.range l.length).drop i = i :: (List.range l.length).drop (i + 1) := by rw [List.drop_eq_getElem_cons (by simpa using hi)]; simp
    by_cases h9 : l.length ≤ 9
    · have hu : ∀ r, Ev (fun k => spec_IsPlay.l0 k l (i : Int)) r ↔ if okStep l i = true then Ev (fun k => spec_IsPlay.l0 k l ((i + 1 : Nat) : Int)) r else Ev (fun _ => some false) r := by
        intro r
        have h9' : decide ((l.length : Int) ≤ 9) = true := by simp; omega
        rw [← ev_succ_iff]
        simp only [spec_IsPlay.l0, h9']
        rw [ev_ite_iff, if_pos (by omega), ← ev_succ_iff]
        simp only [spec_IsPlay.j1, if_true, w_succ (i := i) (by omega)]
        rw [ev_bind_iff (spec_l15Ok_ev l i hi hl), ev_ite_iff]
      rw [hd, List.all_cons]
      by_cases ho : okStep l i = true
      · refine .inr ⟨by simp [ho], fun r hr => ?_⟩
        rw [hu, if_pos ho]
        exact hr
      · refine .inl ?_
        rw [hu, if_neg ho, ev_some_iff]
        simp [ho]
    · refine .inl ?_
      have h9' : decide ((l.length : Int) ≤ 9) = false := by simp; omega
      rw [← ev_succ_iff]
      simp only [spec_IsPlay.l0, h9']
      rw [ev_ite_iff, if_pos (by omega)]
      exact ev_as (hend i) (by simp [h9])
theorem isPair_eq (a : Int) : impl_isPair.f a = some (decide (a = 4 ∨ a = 5)) := by
  unfold impl_isPair.f
  by_cases h : a = 4
  · simp [h]
  · simp [h]; rfl
theorem needsWord_eq (a : Int) : impl_needsWord.f a = some (decide (a = 3 ∨ a ≥ 6)) := by
  unfold impl_needsWord.f
  by_cases h : a = 3 <;> simp [h]
theorem impl_IsPlay_j1 (l : List S73) (i : Nat) (hi : i < l.length) (hl : l.length < 4611686018427387904) (b : Bool) (kind : Int) (word : ByteArray) (A B : Int) (r : Bool) :
    Ev (fun k => impl_IsPlay.j1 k l (i : Int) l (l.length : Int) (i : Int) b kind word A B) r ↔ if (!b && (if kind = 4 ∨ kind = 5 then decide (0 ≤ B ∧ B < i) else decide (B = 0))) = true then Ev (fun k => impl_IsPlay.l0 k l l (l.length : Int) ((i + 1 : Nat) : Int)) r else Ev (fun _ => some false) r := by
  rw [← ev_succ_iff]
  simp only [impl_IsPlay.j1, isPair_eq, at_eq, Option.bind_some, w_succ (i := i) (by omega), ev_ite_iff, decide_eq_true_eq]
  cases b
  · by_cases h : kind = 4 ∨ kind = 5
    · by_cases h2 : 0 ≤ B ∧ B < (i : Int) <;> simp [h, h2]
    · by_cases h2 : B = 0 <;> simp [h, h2]
  · simp
theorem okStep_impl (l : List S73) (i : Nat) : okStep l i = (decide (1 ≤ (rd_T73 l i).f0 ∧ (rd_T73 l i).f0 ≤ 9) && (if (rd_T73 l i).f0 = 1 then isWordB (rd_T73 l i).f1 && decide ((rd_T73 l i).f2 = 0 ∧ (rd_T73 l i).f3 = 0)
    else decide ((rd_T73 l i).f1.size = 0) && (decide (0 ≤ (rd_T73 l i).f2 ∧ (rd_T73 l i).f2 < i) && (!(decide ((rd_T73 l i).f0 = 3 ∨ (rd_T73 l i).f0 ≥ 6) && decide (¬ (rd_T73 l (rd_T73 l i).f2).f0 = 1)) && (if (rd_T73 l i).f0 = 4 ∨ (rd_T73 l i).f0 = 5 then decide (0 ≤ (rd_T73 l i).f3 ∧ (rd_T73 l i).f3 < i) else decide ((rd_T73 l i).f3 = 0)))))) := by
  unfold okStep okTail
  generalize rd_T73 l (i : Int) = s
  generalize (rd_T73 l s.f2).f0 = a
  by_cases h1 : 1 ≤ s.f0 ∧ s.f0 ≤ 9
  · by_cases h2 : s.f0 = 1
    · simp [h2]
    · simp only [h1, h2, and_self, decide_true, Bool.true_and, if_false]
      by_cases h3 : s.f0 = 4 ∨ s.f0 = 5
      · have h4 : ¬ (s.f0 = 3 ∨ s.f0 ≥ 6) := by omega
        simp [h3, h4]
      · simp only [h3, decide_false, Bool.false_eq_true, if_false]
        by_cases h4 : s.f0 = 2
        · have h5 : ¬ (s.f0 = 3 ∨ s.f0 ≥ 6) := by omega
          simp [h4]
        · have h5 : s.f0 = 3 ∨ s.f0 ≥ 6 := by omega
          by_cases h6 : a = 1 <;> simp [h4, h5, h6]
  · simp [h1]
theorem impl_IsPlay_ev (l : List S73) (hl : l.length < 4611686018427387904) : Ev (fun k => impl_IsPlay.f k l) (isPlayB l) := by
  unfold impl_IsPlay.f
  simp only [InRange_eq, Option.bind_some, decide_eq_true_eq]
  unfold isPlayB
  rw [ev_ite_iff]
  by_cases hlen : 1 ≤ l.length ∧ l.length ≤ 9
  · rw [if_pos (by omega)]
    simp only [hlen, and_self, decide_true, Bool.true_and]
    have := loop_up0 (fun k i => impl_IsPlay.l0 k l l (l.length : Int) i) l.length (fun i => ((List.range l.length).drop i).all (okStep l)) ?_ (fun i hi => ?_) 0 (Nat.zero_le _)
    · simpa using this
    · rw [← ev_succ_iff]
      simp only [impl_IsPlay.l0]
      rw [ev_ite_iff, if_neg (by omega), ev_some_iff, List.drop_eq_nil_of_le (by simp)]
      simp
    · have hd : (List.range l.length).drop i = i :: (List.range l.length).drop (i + 1) := by rw [List.drop_eq_getElem_cons (by simpa using hi)]; simp
      have hu : ∀ r, Ev (fun k => impl_IsPlay.l0 k l l (l.length : Int) (i : Int)) r ↔ if okStep l i = true then Ev (fun k => impl_IsPlay.l0 k l l (l.length : Int) ((i + 1 : Nat) : Int)) r else Ev (fun _ => some false) r := by
        intro r
        rw [← ev_succ_iff]
        simp only [impl_IsPlay.l0, w_succ (i := i) (by omega), InRange_eq, needsWord_eq, at_eq, Option.bind_some, okStep_impl]
        generalize rd_T73 l (i : Int) = s
        simp only [ev_ite_iff, decide_eq_true_eq, ev_bind_iff (impl_IsWord_ev s.f1), impl_IsPlay_j1 l i hi hl, toList_nil]
        rw [if_pos (by omega), if_pos (by omega), if_pos (by omega)]
        by_cases h1 : 1 ≤ s.f0 ∧ s.f0 ≤ 9
        · by_cases h2 : s.f0 = 1
          · simp only [h2]
            cases hw : isWordB s.f1
            · simp
            · by_cases h3 : s.f2 = 0
              · by_cases h4 : s.f3 = 0 <;> simp [h3, h4]
              · simp [h3]
          · simp only [h1, h2, and_self, decide_true, Bool.true_and, if_true, if_false]
            by_cases h3 : s.f1.size = 0
            · by_cases h4 : 0 ≤ s.f2 ∧ s.f2 < (i : Int)
              · have h4' : s.f2 < (l.length : Int) := by omega
                by_cases h5 : s.f0 = 3 ∨ s.f0 ≥ 6
                · simp only [h3, h4, h4', h5, and_self, decide_true, if_true, Bool.true_and]
                  cases hb : ((rd_T73 l s.f2).f0 != 1)
                  · have hb' : (rd_T73 l s.f2).f0 = 1 := by simpa using hb
                    simp [hb']
                  · have hb' : ¬ (rd_T73 l s.f2).f0 = 1 := by simpa using hb
                    simp [hb']
                · simp [h3, h4, h5]
              · simp [h3, h4]
            · simp [h3]
        · simp [h1]
      rw [hd, List.all_cons]
      by_cases ho : okStep l i = true
      · refine .inr ⟨by simp [ho], fun r hr => ?_⟩
        rw [hu, if_pos ho]
        exact hr
      · refine .inl ?_
        rw [hu, if_neg ho, ev_some_iff]
        simp [ho]
  · rw [if_neg (by omega)]
    simp [hlen, ev_some_iff]
/-- What is made step by step, each out of what was made before it. -/
def build {β : Type} (f : List β → S73 → β) : List β → List S73 → List β
  | acc, [] => acc
  | acc, s :: l => build f (acc ++ [f acc s]) l
def built {β : Type} (f : List β → S73 → β) (l : List S73) : List β := build f [] l
theorem build_append {β : Type} (f : List β → S73 → β) : ∀ (l m : List S73) (acc : List β), build f acc (l ++ m) = build f (build f acc l) m
  | [], m, acc => rfl
  | s :: l, m, acc => by simp only [List.cons_append, build]; exact build_append f l m _
theorem build_length {β : Type} (f : List β → S73 → β) : ∀ (l : List S73) (acc : List β), (build f acc l).length = acc.length + l.length
  | [], acc => by simp [build]
  | s :: l, acc => by simp only [build]; rw [build_length f l]; simp; omega
theorem built_length {β : Type} (f : List β → S73 → β) (l : List S73) : (built f l).length = l.length := by
  unfold built; rw [build_length]; simp
theorem build_mono {β : Type} (f : List β → S73 → β) : ∀ (l : List S73) (acc : List β) (j : Nat), j < acc.length → (build f acc l)[j]? = acc[j]?
  | [], acc, j, h => rfl
  | s :: l, acc, j, h => by
    simp only [build]
    rw [build_mono f l _ j (by simp; omega), List.getElem?_append_left h]
theorem built_succ {β : Type} (f : List β → S73 → β) (l : List S73) (i : Nat) (h : i < l.length) : built f (l.take (i + 1)) = built f (l.take i) ++ [f (built f (l.take i)) l[i]] := by
  rw [List.take_succ_eq_append_getElem h]
  unfold built
  rw [build_append]
  rfl
theorem built_take {β : Type} (f : List β → S73 → β) (l : List S73) (i j : Nat) (hj : j < i) (hi : i ≤ l.length) : (built f (l.take i))[j]? = (built f l)[j]? := by
  have e : built f l = build f (built f (l.take i)) (l.drop i) := by
    unfold built
    rw [← build_append, List.take_append_drop]
  rw [e, build_mono f _ _ _ (by rw [built_length, List.length_take]; omega)]
theorem built_get {β : Type} (f : List β → S73 → β) (l : List S73) (i : Nat) (h : i < l.length) : (built f l)[i]? = some (f (built f (l.take i)) l[i]) := by
  rw [← built_take f l (i + 1) i (by omega) (by omega), built_succ f l i h, List.getElem?_append_right (by rw [built_length, List.length_take]; omega)]
  rw [built_length, List.length_take, Nat.min_eq_left (by omega), Nat.sub_self]
  rfl
theorem okStep_parts {l : List S73} {i : Nat} (hi : i < l.length) (h : okStep l i = true) : (1 ≤ l[i].f0 ∧ l[i].f0 ≤ 9) ∧ (l[i].f0 = 1 → isWordB l[i].f1 = true) ∧ (¬ l[i].f0 = 1 → 0 ≤ l[i].f2 ∧ l[i].f2 < i) ∧ (l[i].f0 = 4 ∨ l[i].f0 = 5 → 0 ≤ l[i].f3 ∧ l[i].f3 < i) ∧ (¬ l[i].f0 = 1 → ¬ (l[i].f0 = 4 ∨ l[i].f0 = 5) → l[i].f3 = 0) ∧
    (l[i].f0 = 3 ∨ l[i].f0 ≥ 6 → (rd_T73 l l[i].f2).f0 = 1) ∧ (¬ l[i].f0 = 1 → l[i].f1.size = 0) ∧ (l[i].f0 = 1 → l[i].f2 = 0 ∧ l[i].f3 = 0) := by
  rw [okStep_impl, rdt_73 l i hi] at h
  simp only [Bool.and_eq_true, decide_eq_true_eq] at h
  obtain ⟨h1, h2⟩ := h
  refine ⟨h1, fun e => ?_, fun e => ?_, fun e => ?_, fun e e' => ?_, fun e => ?_, fun e => ?_, fun e => ?_⟩
  · rw [if_pos e] at h2; simp at h2; exact h2.1
  · rw [if_neg e] at h2; simp at h2; exact h2.2.1
  · have e' : ¬ l[i].f0 = 1 := by omega
    rw [if_neg e', if_pos e] at h2; simp at h2; exact h2.2.2.2
  · rw [if_neg e, if_neg e'] at h2; simp at h2; exact h2.2.2.2
  · have e' : ¬ l[i].f0 = 1 := by omega
    rw [if_neg e'] at h2; simp at h2
    have h3 := h2.2.2.1
    rcases h3 with h3 | h3
    · omega
    · exact h3
  · rw [if_neg e] at h2; simp at h2; rw [h2.1]; rfl
  · rw [if_pos e] at h2; simp at h2; exact h2.2
theorem flat_filter {α : Type} (q : α → Bool) (l : List α) : l.flatMap (fun s => if q s = true then [s] else []) = l.filter q := by
  induction l with
  | nil => rfl
  | cons x l ih => rw [List.flatMap_cons, ih, List.filter_cons]; split <;> simp
theorem flat_f_le {α β : Type} (f : α → List β) (h : ∀ x, (f x).length ≤ 1) (l : List α) : (l.flatMap f).length ≤ l.length := by
  induction l with
  | nil => simp
  | cons x l ih => have := h x; simp only [List.flatMap_cons, List.length_append, List.length_cons]; omega
theorem impl_those_ev (l : List ByteArray) (p : Nat → ByteArray → Option Bool) (q : ByteArray → Bool) (hl : l.length ≤ 8796093022208) (hp : ∀ s ∈ l, Ev (fun k => p k s) (q s)) : Ev (fun k => impl_those.f k l p) (l.filter q) := by
  rw [← flat_filter]
  refine loop_collect (fun k x i => impl_those.l0 k p x l (l.length : Int) i) l (fun s => if q s = true then [s] else []) 0 (fun x => ?_) (fun i hi x hx r hr => ?_)
  · rw [← ev_succ_iff]; simp [impl_those.l0, ev_some]
  · have hx' := flat_f_le (fun s => if q s = true then [s] else []) (fun x => by split <;> simp) (l.take i)
    rw [List.length_take] at hx'
    rw [← ev_succ_iff]
    simp only [impl_those.l0, rdOf_nat ByteArray.empty l i hi, w_succ (i := i) (by omega)]
    rw [ev_ite_iff, if_pos (by omega), ev_ite_iff, if_pos (by omega), ev_ite_iff, if_pos (by omega), ev_bind_iff (hp _ (List.getElem_mem hi)), ev_ite_iff]
    split
    · rename_i hq
      rw [if_pos hq] at hr
      rw [ev_ite_iff, if_pos (by omega)]
      exact hr
    · rename_i hq
      rw [if_neg hq, List.append_nil] at hr
      exact hr
def headB (s : ByteArray) : ByteArray := if isWordB s = true then s.extract 0 1 else (⟨#[]⟩ : ByteArray)
theorem spec_HeadOf_ev (s : ByteArray) : Ev (fun k => spec_HeadOf.f k s) (headB s) := by
  unfold spec_HeadOf.f headB
  rw [ev_bind_iff (spec_IsWord_ev s), ev_ite_iff]
  split
  · rename_i h
    have := isWordB_size h
    rw [ev_ite_iff, if_pos (by omega), ev_ite_iff, if_pos (by omega)]
    exact ev_some _
  · exact ev_some _
theorem impl_HeadOf_ev (s : ByteArray) : Ev (fun k => impl_HeadOf.f k s) (headB s) := by
  unfold impl_HeadOf.f headB
  rw [ev_bind_iff (impl_IsWord_ev s), ev_ite_iff]
  split
  · rename_i h
    have := isWordB_size h
    rw [ev_ite_iff, if_pos (by omega), ev_ite_iff, if_pos (by omega)]
    exact ev_some _
  · exact ev_some _
theorem sn_app (a b : List Int) : strOfNums (a ++ b) = strOfNums a ++ strOfNums b := by
  refine ByteArray.ext (Array.toList_inj.1 ?_)
  rw [ByteArray.data_append, Array.toList_append, strOfNums_data, strOfNums_data, strOfNums_data, List.map_append]
theorem extract1 (s : ByteArray) (i : Nat) (h : i < s.size) : s.extract i (i + 1) = strOfNums [(bytesOf s)[i]'(by rw [bytesOf_length]; exact h)] := by
  have hd : i < s.data.toList.length := by rw [Array.length_toList]; exact h
  refine ByteArray.ext (Array.toList_inj.1 ?_)
  rw [strOfNums_data, ByteArray.data_extract, Array.toList_extract, List.extract_eq_drop_take', List.drop_take, List.drop_eq_getElem_cons hd]
  simp [bytesOf]
def revB (s : ByteArray) : ByteArray := strOfNums (bytesOf s).reverse
theorem revB_size (s : ByteArray) : (revB s).size = s.size := by rw [revB, strOfNums_size, List.length_reverse, bytesOf_length]
theorem spec_Backwards_ev (s : ByteArray) (hs : s.size ≤ 100) : Ev (fun k => spec_Backwards.f k s) (revB s) := by
  unfold spec_Backwards.f
  refine loop_up (σ := ByteArray) (fun k a i => spec_Backwards.l0 k s a i) s.size (fun i a => a = strOfNums ((bytesOf s).take i).reverse) (fun _ _ => revB s) (fun a ha => ?_) (fun i a hi ha => ?_) 0 _ (Nat.zero_le _) rfl
  · rw [List.take_of_length_le (by rw [bytesOf_length]; exact Nat.le_refl _)] at ha
    rw [← ev_succ_iff]
    simp only [spec_Backwards.l0, Int.lt_irrefl, if_false, ha]
    exact ev_some _
  · have hb : i < (bytesOf s).length := by rw [bytesOf_length]; exact hi
    refine .inr ⟨strOfNums [(bytesOf s)[i]] ++ a, ?_, rfl, fun r hr => ?_⟩
    · rw [List.take_succ_eq_append_getElem hb, List.reverse_append, sn_app, ha]
      rfl
    · have h1 : (strOfNums [(bytesOf s)[i]]).size = 1 := by rw [strOfNums_size]; rfl
      have h2 : a.size ≤ 100 := by rw [ha, strOfNums_size, List.length_reverse, List.length_take]; omega
      rw [← ev_succ_iff]
      simp only [spec_Backwards.l0, w_succ (i := i) (by omega), Int.toNat_natCast, extract1 s i hi]
      rw [ev_ite_iff, if_pos (by omega), ev_ite_iff, if_pos (by omega), ev_ite_iff, if_pos (by omega), ev_ite_iff, if_pos (by omega), ev_ite_iff, if_pos (by omega), ev_ite_iff, if_pos (by omega)]
      exact hr
theorem impl_Backwards_eq (s : ByteArray) (hs : s.size ≤ 100) : impl_Backwards.f s = some (revB s) := by
  unfold impl_Backwards.f revB
  rw [if_pos hs]
def sortB (s : ByteArray) : ByteArray := strOfNums ((bytesOf s).mergeSort (fun x y => decide (x ≤ y)))
def bucket (xs : List Int) (c : Nat) : List Int := xs.filter (fun b => decide (b = 97 + (c : Int)))
theorem bucket_count (xs : List Int) (a : Int) : ∀ n : Nat, List.count a ((List.range n).flatMap (bucket xs)) = if 97 ≤ a ∧ a < 97 + (n : Int) then List.count a xs else 0
  | 0 => by rw [if_neg (by omega)]; rfl
  | n + 1 => by
    rw [List.range_succ, List.flatMap_append, List.count_append, bucket_count xs a n]
    have hb : List.count a (([n] : List Nat).flatMap (bucket xs)) = if a = 97 + (n : Int) then List.count a xs else 0 := by
      simp only [List.flatMap_cons, List.flatMap_nil, List.append_nil, bucket]
      split
      · rename_i h
        exact List.count_filter (by simpa using h)
      · rename_i h
        refine List.count_eq_zero.2 (fun hm => h ?_)
        have := (List.mem_filter.1 hm).2
        simpa using this
    rw [hb]
    by_cases h1 : a = 97 + (n : Int)
    · rw [if_pos h1, if_neg (by omega), if_pos (by omega)]
      omega
    · rw [if_neg h1]
      by_cases h2 : 97 ≤ a ∧ a < 97 + (n : Int)
      · rw [if_pos h2, if_pos (by omega)]
        omega
      · rw [if_neg h2, if_neg (by omega)]
theorem bucket_sorted (xs : List Int) (h : ∀ x ∈ xs, 97 ≤ x ∧ x ≤ 122) : (List.range 26).flatMap (bucket xs) = xs.mergeSort (fun x y => decide (x ≤ y)) := by
  have hperm : ((List.range 26).flatMap (bucket xs)).Perm xs := by
    rw [List.perm_iff_count]
    intro a
    rw [bucket_count]
    split
    · rfl
    · rename_i hn
      refine (List.count_eq_zero.2 (fun hm => hn ?_)).symm
      have := h a hm
      omega
  refine List.Perm.eq_of_pairwise (le := fun x y => decide (x ≤ y) = true) ?_ ?_ ?_ (hperm.trans (List.mergeSort_perm _ _).symm)
  · intro a b _ _ h1 h2
    have h1 := of_decide_eq_true h1
    have h2 := of_decide_eq_true h2
    omega
  · rw [List.pairwise_flatMap]
    refine ⟨fun c _ => ?_, ?_⟩
    · rw [List.pairwise_iff_getElem]
      intro i j hi hj _
      have e1 := (List.mem_filter.1 (List.getElem_mem hi)).2
      have e2 := (List.mem_filter.1 (List.getElem_mem hj)).2
      have e1 := of_decide_eq_true e1
      have e2 := of_decide_eq_true e2
      exact decide_eq_true (by omega)
    · refine List.Pairwise.imp ?_ (List.pairwise_lt_range (n := 26))
      intro a b hab x hx y hy
      have e1 := of_decide_eq_true (List.mem_filter.1 hx).2
      have e2 := of_decide_eq_true (List.mem_filter.1 hy).2
      exact decide_eq_true (by omega)
  · refine List.pairwise_mergeSort ?_ ?_ _
    · intro a b c h1 h2
      have h1 := of_decide_eq_true h1
      have h2 := of_decide_eq_true h2
      exact decide_eq_true (by omega)
    · intro a b
      by_cases h : a ≤ b
      · simp [h]
      · have : b ≤ a := by omega
        simp [this]
theorem spec_SortLetters_ev (s : ByteArray) (hw : isWordB s = true) : Ev (fun k => spec_SortLetters.f k s) (sortB s) := by
  have hsz := isWordB_size hw
  have hlet := isWordB_letter hw
  have hlen : (bytesOf s).length = s.size := bytesOf_length s
  unfold spec_SortLetters.f sortB
  rw [← bucket_sorted (bytesOf s) hlet]
  have hinner : ∀ (c : Nat) (a : ByteArray) (r : ByteArray), c < 26 → a.size ≤ 1000 → Ev (fun k => spec_SortLetters.l0 k s (a ++ strOfNums (bucket (bytesOf s) c)) (97 + ((c + 1 : Nat) : Int))) r → Ev (fun k => spec_SortLetters.l1 k s a (97 + (c : Int)) 0) r := by
    intro c a r hc ha hr
    refine loop_up (σ := ByteArray) (fun k b j => spec_SortLetters.l1 k s b (97 + (c : Int)) j) s.size (fun j b => b = a ++ strOfNums (bucket ((bytesOf s).take j) c)) (fun _ _ => r) (fun b hb => ?_) (fun j b hj hb => ?_) 0 _ (Nat.zero_le _) (by simp [bucket, strOfNums]; exact (ByteArray.append_empty (b := a)).symm)
    · rw [List.take_of_length_le (by omega)] at hb
      have e : wrap32 (97 + (c : Int) + 1) = 97 + ((c + 1 : Nat) : Int) := by unfold wrap32; omega
      rw [← ev_succ_iff]
      simp only [spec_SortLetters.l1, e, Int.lt_irrefl, if_false, hb]
      exact hr
    · have hj' : j < (bytesOf s).length := by omega
      have hx := hlet _ (List.getElem_mem hj')
      have hsb : b.size ≤ 1000 + j := by
        rw [hb, ByteArray.size_append, strOfNums_size, bucket]
        have := List.length_filter_le (fun b => decide (b = 97 + (c : Int))) ((bytesOf s).take j)
        rw [List.length_take] at this
        omega
      have e : wrap32 (bt s (j : Int)) = (bytesOf s)[j] := by rw [bt_nat s j hj]; unfold wrap32; omega
      have htk : bucket ((bytesOf s).take (j + 1)) c = bucket ((bytesOf s).take j) c ++ (if (bytesOf s)[j] = 97 + (c : Int) then [(bytesOf s)[j]] else []) := by
        rw [List.take_succ_eq_append_getElem hj', bucket, bucket, List.filter_append, List.filter_cons, List.filter_nil]
        simp only [decide_eq_true_eq]
      refine .inr ⟨a ++ strOfNums (bucket ((bytesOf s).take (j + 1)) c), rfl, rfl, fun q hq => ?_⟩
      rw [← ev_succ_iff]
      simp only [spec_SortLetters.l1, e, w_succ (i := j) (by omega), Int.toNat_natCast, extract1 s j hj]
      rw [ev_ite_iff, if_pos (by omega), ev_ite_iff, if_pos (by omega), ev_ite_iff]
      rw [htk, sn_app, ← ByteArray.append_assoc, ← hb] at hq
      split
      · rename_i h1
        rw [if_pos h1] at hq
        rw [ev_ite_iff, if_pos (by omega), ev_ite_iff, if_pos (by omega), ev_ite_iff, if_pos (by rw [strOfNums_size]; simp; omega)]
        exact hq
      · rename_i h1
        rw [if_neg h1, show strOfNums ([] : List Int) = ByteArray.empty from rfl, ByteArray.append_empty] at hq
        exact hq
  refine loop_up (σ := ByteArray) (fun k a i => spec_SortLetters.l0 k s a (97 + i)) 26 (fun i a => a = strOfNums ((List.range i).flatMap (bucket (bytesOf s))) ∧ a.size ≤ 8 * i) (fun _ _ => strOfNums ((List.range 26).flatMap (bucket (bytesOf s)))) (fun a ha => ?_) (fun i a hi ha => ?_) 0 _ (Nat.zero_le _) ⟨rfl, Nat.le_refl _⟩
  · rw [← ev_succ_iff]
    simp only [spec_SortLetters.l0]
    rw [ev_ite_iff, if_neg (by omega), ← ev_succ_iff]
    simp only [spec_SortLetters.j1, Bool.false_eq_true, if_false, ha.1]
    exact ev_some _
  · have hbl : (bucket (bytesOf s) i).length ≤ 8 := by
      rw [bucket]
      have := List.length_filter_le (fun b => decide (b = 97 + (i : Int))) (bytesOf s)
      omega
    refine .inr ⟨a ++ strOfNums (bucket (bytesOf s) i), ⟨?_, ?_⟩, rfl, fun r hr => ?_⟩
    · rw [List.range_succ, List.flatMap_append, sn_app, ← ha.1]
      simp only [List.flatMap_cons, List.flatMap_nil, List.append_nil]
    · have := ha.2
      rw [ByteArray.size_append, strOfNums_size]
      omega
    · rw [← ev_succ_iff]
      simp only [spec_SortLetters.l0]
      rw [ev_ite_iff, if_pos (by omega), ev_bind_iff (spec_IsWord_ev s), hw, ← ev_succ_iff]
      simp only [spec_SortLetters.j1, if_true]
      exact hinner i a r hi (by have := ha.2; omega) hr
theorem impl_SortLetters_ev (s : ByteArray) (hw : isWordB s = true) : Ev (fun k => impl_SortLetters.f k s) (sortB s) := by
  have hsz := isWordB_size hw
  unfold impl_SortLetters.f sortB
  rw [ev_bind_iff (impl_IsWord_ev s), hw, ev_ite_iff, if_pos rfl, ev_ite_iff, if_pos (by omega), Go.Proofs.Ythincoghppaegaa.HandSort.sorted_eq]
  exact ev_some _
def rearrB (a b : ByteArray) : Bool := if isWordB a = true then (if isWordB b = true then (if a = b then false else decide (sortB a = sortB b)) else false) else false
theorem spec_IsRearranged_ev (a b : ByteArray) : Ev (fun k => spec_IsRearranged.f k a b) (rearrB a b) := by
  unfold spec_IsRearranged.f rearrB
  rw [ev_bind_iff (spec_IsWord_ev a), ev_ite_iff]
  split
  · rename_i h1
    rw [ev_bind_iff (spec_IsWord_ev b), ev_ite_iff]
    split
    · rename_i h2
      simp only [toList_eq, ev_ite_iff]
      split
      · exact ev_some _
      · rw [ev_bind_iff (spec_SortLetters_ev a h1), ev_bind_iff (spec_SortLetters_ev b h2), toList_beq]
        exact ev_some _
    · exact ev_some _
  · exact ev_some _
theorem impl_IsRearranged_ev (a b : ByteArray) : Ev (fun k => impl_IsRearranged.f k a b) (rearrB a b) := by
  unfold impl_IsRearranged.f rearrB
  rw [ev_bind_iff (impl_IsWord_ev a), ev_ite_iff]
  split
  · rename_i h1
    rw [ev_bind_iff (impl_IsWord_ev b), ev_ite_iff]
    split
    · rename_i h2
      simp only [toList_eq, ev_ite_iff]
      split
      · exact ev_some _
      · rw [ev_bind_iff (impl_SortLetters_ev a h1), ev_bind_iff (impl_SortLetters_ev b h2), toList_beq]
        exact ev_some _
    · exact ev_some _
  · exact ev_some _
def noHeadB (s : ByteArray) : ByteArray := if isWordB s = true then s.extract 1 s.size else (⟨#[]⟩ : ByteArray)
theorem spec_WithoutHead_ev (s : ByteArray) : Ev (fun k => spec_WithoutHead.f k s) (noHeadB s) := by
  unfold spec_WithoutHead.f noHeadB
  rw [ev_bind_iff (spec_IsWord_ev s), ev_ite_iff]
  split
  · rename_i h
    have := isWordB_size h
    rw [ev_ite_iff, if_pos (by omega)]
    exact ev_some _
  · exact ev_some _
theorem impl_WithoutHead_ev (s : ByteArray) : Ev (fun k => impl_WithoutHead.f k s) (noHeadB s) := by
  unfold impl_WithoutHead.f noHeadB
  rw [ev_bind_iff (impl_IsWord_ev s), ev_ite_iff]
  split
  · rename_i h
    have := isWordB_size h
    rw [ev_ite_iff, if_pos (by omega)]
    exact ev_some _
  · exact ev_some _
def noTailB (s : ByteArray) : ByteArray := if isWordB s = true then s.extract 0 (s.size - 1) else (⟨#[]⟩ : ByteArray)
theorem spec_WithoutTail_ev (s : ByteArray) : Ev (fun k => spec_WithoutTail.f k s) (noTailB s) := by
  unfold spec_WithoutTail.f noTailB
  rw [ev_bind_iff (spec_IsWord_ev s), ev_ite_iff]
  split
  · rename_i h
    have := isWordB_size h
    have e : wrap64 ((s.size : Int) - 1) = ((s.size - 1 : Nat) : Int) := by rw [w_in (by omega) (by omega)]; omega
    rw [e, ev_ite_iff, if_pos (by omega), ev_ite_iff, if_pos (by omega)]
    exact ev_some _
  · exact ev_some _
theorem impl_WithoutTail_ev (s : ByteArray) : Ev (fun k => impl_WithoutTail.f k s) (noTailB s) := by
  unfold impl_WithoutTail.f noTailB
  rw [ev_bind_iff (impl_IsWord_ev s), ev_ite_iff]
  split
  · rename_i h
    have := isWordB_size h
    have e : wrap64 ((s.size : Int) - 1) = ((s.size - 1 : Nat) : Int) := by rw [w_in (by omega) (by omega)]; omega
    rw [e, ev_ite_iff, if_pos (by omega), ev_ite_iff, if_pos (by omega)]
    exact ev_some _
  · exact ev_some _
/-- A loop that asks at each place, and ends at the first yes. -/
theorem loop_or (L : Nat → Int → Option Bool) (n b : Nat) (f : Nat → Bool) (R : Bool) (hend : ∀ i : Nat, n ≤ i → i ≤ n + b → Ev (fun k => L k (i : Int)) R)
    (hstep : ∀ i : Nat, b ≤ i → i < n → ∀ r, Ev (fun k => L k ((i + 1 : Nat) : Int)) r → Ev (fun k => L k (i : Int)) (f i || r)) : ∀ a : Nat, b ≤ a → a ≤ n + b → Ev (fun k => L k (a : Int)) ((List.range' a (n - a)).any f || R) := by
  have key : ∀ d a : Nat, n - a = d → b ≤ a → a ≤ n + b → Ev (fun k => L k (a : Int)) ((List.range' a d).any f || R) := by
    intro d
    induction d with
    | zero =>
      intro a h hb ha
      exact ev_as (hend a (by omega) ha) (by simp)
    | succ d ih =>
      intro a h hb ha
      have := hstep a hb (by omega) _ (ih (a + 1) (by omega) (by omega) (by omega))
      rw [List.range'_succ, List.any_cons, Bool.or_assoc]
      exact this
  intro a hb ha
  exact key _ a rfl hb ha
def insideB (p w : ByteArray) : Bool := if isWordB p = true then (if isWordB w = true then (List.range' 1 (w.size - p.size - 1)).any (fun i => decide (w.extract i (i + p.size) = p)) else false) else false
theorem spec_IsInside_ev (p w : ByteArray) : Ev (fun k => spec_IsInside.f k p w) (insideB p w) := by
  unfold spec_IsInside.f insideB
  rw [ev_bind_iff (spec_IsWord_ev p), ev_ite_iff]
  split
  · rename_i h1
    rw [ev_bind_iff (spec_IsWord_ev w), ← ev_succ_iff]
    simp only [spec_IsInside.j0]
    rw [ev_ite_iff]
    by_cases h2 : isWordB w = true
    · have s1 := isWordB_size h1
      have s2 := isWordB_size h2
      rw [if_neg (by rw [h2]; decide), if_pos h2]
      have e : ∀ i : Nat, i ≤ 20 → wrap64 ((i : Int) + (p.size : Int)) = ((i + p.size : Nat) : Int) := fun i hi => by rw [w_in (by omega) (by omega)]; omega
      refine ev_as (loop_or (fun k i => spec_IsInside.l0 k p w i) (w.size - p.size) 1 _ false (fun i hi hi' => ?_) (fun i hb hi r hr => ?_) 1 (Nat.le_refl _) (by omega)) (by rw [Bool.or_false])
      · rw [← ev_succ_iff]
        simp only [spec_IsInside.l0, e i (by omega)]
        rw [ev_ite_iff, if_neg (by omega)]
        exact ev_some _
      · rw [← ev_succ_iff]
        simp only [spec_IsInside.l0, e i (by omega), w_succ (i := i) (by omega), Int.toNat_natCast, toList_eq]
        rw [ev_ite_iff, if_pos (by omega), ev_ite_iff, if_pos (by omega), ev_ite_iff, if_pos (by omega), ev_ite_iff, if_pos (by omega), ev_ite_iff]
        split
        · rename_i h3
          rw [decide_eq_true h3, Bool.true_or]
          exact ev_some _
        · rename_i h3
          rw [decide_eq_false h3, Bool.false_or]
          exact hr
    · rw [if_pos (by simpa using h2), if_neg h2]
      exact ev_some _
  · rw [← ev_succ_iff]
    simp only [spec_IsInside.j0, if_true]
    exact ev_some _
theorem impl_IsInside_ev (p w : ByteArray) : Ev (fun k => impl_IsInside.f k p w) (insideB p w) := by
  unfold impl_IsInside.f insideB
  rw [ev_bind_iff (impl_IsWord_ev p), ev_ite_iff]
  split
  · rename_i h1
    rw [ev_bind_iff (impl_IsWord_ev w), ← ev_succ_iff]
    simp only [impl_IsInside.j0]
    rw [ev_ite_iff]
    by_cases h2 : isWordB w = true
    · have s1 := isWordB_size h1
      have s2 := isWordB_size h2
      rw [if_neg (by rw [h2]; decide), if_pos h2]
      have e : ∀ i : Nat, i ≤ 20 → wrap64 ((i : Int) + (p.size : Int)) = ((i + p.size : Nat) : Int) := fun i hi => by rw [w_in (by omega) (by omega)]; omega
      refine ev_as (loop_or (fun k i => impl_IsInside.l0 k p w i) (w.size - p.size) 1 _ false (fun i hi hi' => ?_) (fun i hb hi r hr => ?_) 1 (Nat.le_refl _) (by omega)) (by rw [Bool.or_false])
      · rw [← ev_succ_iff]
        simp only [impl_IsInside.l0, e i (by omega)]
        rw [ev_ite_iff, if_neg (by omega)]
        exact ev_some _
      · rw [← ev_succ_iff]
        simp only [impl_IsInside.l0, e i (by omega), w_succ (i := i) (by omega), Int.toNat_natCast, toList_eq]
        rw [ev_ite_iff, if_pos (by omega), ev_ite_iff, if_pos (by omega), ev_ite_iff, if_pos (by omega), ev_ite_iff, if_pos (by omega), ev_ite_iff]
        split
        · rename_i h3
          rw [decide_eq_true h3, Bool.true_or]
          exact ev_some _
        · rename_i h3
          rw [decide_eq_false h3, Bool.false_or]
          exact hr
    · rw [if_pos (by simpa using h2), if_neg h2]
      exact ev_some _
  · rw [← ev_succ_iff]
    simp only [impl_IsInside.j0, if_true]
    exact ev_some _
theorem ev_upto {Q : Nat → Nat → Prop} (n : Nat) (h : ∀ p, p < n → ∃ K, ∀ k, K ≤ k → Q p k) : ∃ K, ∀ p, p < n → ∀ k, K ≤ k → Q p k := by
  induction n with
  | zero => exact ⟨0, fun p hp => absurd hp (Nat.not_lt_zero _)⟩
  | succ n ih =>
    obtain ⟨K, hK⟩ := ih (fun p hp => h p (by omega))
    obtain ⟨K', hK'⟩ := h n (by omega)
    refine ⟨max K K', fun p hp k hk => ?_⟩
    by_cases e : p = n
    · subst e
      exact hK' k (by omega)
    · exact hK p (by omega) k (by omega)
theorem join_same (M M' : Nat → List S73 → Int → ByteArray → Option Bool) (l : List S73) (s : ByteArray) (a0 : Int) (a1 : ByteArray) (a2 a3 : Int) (hs : s.size ≤ 100)
    (h : ∀ j p, 1 ≤ p → p < s.size → M j l a2 (s.extract 0 p) = M' j l a2 (s.extract 0 p) ∧ M j l a3 (s.extract p s.size) = M' j l a3 (s.extract p s.size)) :
    ∀ (k x : Nat), 1 ≤ x → x ≤ 100 → spec_l15Join.l0 M k l s (x : Int) a0 a1 a2 a3 = spec_l15Join.l0 M' k l s (x : Int) a0 a1 a2 a3 := by
  intro k
  induction k with
  | zero => intro x _ _; rfl
  | succ k ih =>
    intro x h1 h2
    simp only [spec_l15Join.l0]
    by_cases hx : (x : Int) < (s.size : Int)
    · have hp := h k x h1 (by omega)
      simp only [w_succ (i := x) (by omega), Int.toNat_natCast, hp.1, hp.2, ih (x + 1) (by omega) (by omega)]
    · rw [if_neg hx, if_neg hx]
theorem spec_l15Join_ev (l : List S73) (s : ByteArray) (a0 : Int) (a1 : ByteArray) (a2 a3 : Int) (f g : ByteArray → Bool) (hs : s.size ≤ 8) (h1 : 1 ≤ s.size)
    (hf : ∀ p, 1 ≤ p → p < s.size → Ev (fun k => spec_l15Makes.f k l a2 (s.extract 0 p)) (f (s.extract 0 p)))
    (hg : ∀ p, 1 ≤ p → p < s.size → Ev (fun k => spec_l15Makes.f k l a3 (s.extract p s.size)) (g (s.extract p s.size))) :
    Ev (fun k => spec_l15Join.f (fun _ => spec_l15Makes.f k) k l a0 a1 a2 a3 s) ((List.range' 1 (s.size - 1)).any (fun p => f (s.extract 0 p) && g (s.extract p s.size))) := by
  obtain ⟨K, hK⟩ := ev_upto (Q := fun p k => 1 ≤ p → spec_l15Makes.f k l a2 (s.extract 0 p) = some (f (s.extract 0 p)) ∧ spec_l15Makes.f k l a3 (s.extract p s.size) = some (g (s.extract p s.size))) s.size (fun p hp => by
    by_cases h : 1 ≤ p
    · obtain ⟨K1, k1⟩ := hf p h hp
      obtain ⟨K2, k2⟩ := hg p h hp
      exact ⟨max K1 K2, fun k hk _ => ⟨k1 k (by omega), k2 k (by omega)⟩⟩
    · exact ⟨0, fun _ _ h' => absurd h' h⟩)
  let M' : Nat → List S73 → Int → ByteArray → Option Bool := fun _ => spec_l15Makes.f K
  have hM' : ∀ p, 1 ≤ p → p < s.size → M' 0 l a2 (s.extract 0 p) = some (f (s.extract 0 p)) ∧ M' 0 l a3 (s.extract p s.size) = some (g (s.extract p s.size)) := fun p h hp => hK p hp K (Nat.le_refl _) h
  have hev : Ev (fun k => spec_l15Join.l0 M' k l s 1 a0 a1 a2 a3) ((List.range' 1 (s.size - 1)).any (fun p => f (s.extract 0 p) && g (s.extract p s.size))) := by
    refine ev_as (loop_or (fun k i => spec_l15Join.l0 M' k l s i a0 a1 a2 a3) s.size 1 _ false (fun i hi hi' => ?_) (fun i hb hi r hr => ?_) 1 (Nat.le_refl _) (by omega)) (by rw [Bool.or_false])
    · rw [← ev_succ_iff]
      simp only [spec_l15Join.l0]
      rw [ev_ite_iff, if_neg (by omega)]
      exact ev_some _
    · have hm := hM' i hb hi
      have hm1 : ∀ k, M' k l a2 (s.extract 0 i) = some (f (s.extract 0 i)) := fun k => hm.1
      have hm2 : ∀ k, M' k l a3 (s.extract i s.size) = some (g (s.extract i s.size)) := fun k => hm.2
      rw [← ev_succ_iff]
      simp only [spec_l15Join.l0, w_succ (i := i) (by omega), Int.toNat_natCast, hm1, hm2, Option.bind_some]
      rw [ev_ite_iff, if_pos (by omega), ev_ite_iff, if_pos (by omega), ev_ite_iff, if_pos (by omega), ev_ite_iff]
      split
      · rename_i h3
        rw [h3, Bool.true_and, ev_ite_iff]
        split
        · rename_i h4
          rw [h4, Bool.true_or]
          exact ev_some _
        · rename_i h4
          rw [Bool.not_eq_true] at h4
          rw [h4, Bool.false_or]
          exact hr
      · rename_i h3
        rw [Bool.not_eq_true] at h3
        rw [h3, Bool.false_and, Bool.false_or]
        exact hr
  obtain ⟨K2, hK2⟩ := hev
  refine ⟨max K K2, fun k hk => ?_⟩
  show spec_l15Join.l0 _ k l s 1 a0 a1 a2 a3 = _
  have := join_same (fun _ => spec_l15Makes.f k) M' l s a0 a1 a2 a3 (by omega) (fun j p h hp => by
    have e1 := hK p hp k (by omega) h
    have e2 := hM' p h hp
    exact ⟨e1.1.trans e2.1.symm, e1.2.trans e2.2.symm⟩) k 1 (Nat.le_refl _) (by omega)
  rw [show ((1 : Nat) : Int) = 1 from rfl] at this
  rw [this]
  exact hK2 k (by omega)
theorem in_same (M M' : Nat → List S73 → Int → ByteArray → Option Bool) (l : List S73) (s : ByteArray) (a0 : Int) (a1 : ByteArray) (a2 a3 : Int) (hs : s.size ≤ 100)
    (h : ∀ j p q, 1 ≤ p → p < q → q < s.size → M j l a3 (s.extract p q) = M' j l a3 (s.extract p q) ∧ M j l a2 (s.extract 0 p ++ s.extract q s.size) = M' j l a2 (s.extract 0 p ++ s.extract q s.size)) :
    ∀ k : Nat, (∀ x : Nat, 1 ≤ x → x ≤ 100 → spec_l15In.l0 M k l s (x : Int) a0 a1 a2 a3 = spec_l15In.l0 M' k l s (x : Int) a0 a1 a2 a3) ∧ (∀ x y : Nat, 1 ≤ x → x < y → x ≤ 100 → y ≤ 102 → spec_l15In.l1 M k l s (x : Int) (y : Int) a0 a1 a2 a3 = spec_l15In.l1 M' k l s (x : Int) (y : Int) a0 a1 a2 a3) := by
  intro k
  induction k with
  | zero => exact ⟨fun x _ _ => by simp only [spec_l15In.l0], fun x y _ _ _ _ => by simp only [spec_l15In.l1]⟩
  | succ k ih =>
    refine ⟨fun x h1 h2 => ?_, fun x y h1 h2 h3 h4 => ?_⟩
    · simp only [spec_l15In.l0, w_succ (i := x) (by omega)]
      by_cases hx : (x : Int) < (s.size : Int)
      · rw [if_pos hx, if_pos hx, ih.2 x (x + 1) h1 (by omega) h2 (by omega)]
      · rw [if_neg hx, if_neg hx]
    · simp only [spec_l15In.l1, w_succ (i := x) (by omega), w_succ (i := y) (by omega), Int.toNat_natCast]
      by_cases hy : (y : Int) < (s.size : Int)
      · have hp := h k x y h1 h2 (by omega)
        simp only [hp.1, hp.2, ih.2 x (y + 1) h1 (by omega) h3 (by omega)]
        rw [if_pos hy, if_pos hy]
      · rw [if_neg hy, if_neg hy]
        by_cases hx : x + 1 ≤ 100
        · exact ih.1 (x + 1) (by omega) hx
        · cases k with
          | zero => simp only [spec_l15In.l0]
          | succ k =>
            simp only [spec_l15In.l0]
            rw [if_neg (by omega), if_neg (by omega)]
theorem spec_l15In_ev (l : List S73) (s : ByteArray) (a0 : Int) (a1 : ByteArray) (a2 a3 : Int) (f g : ByteArray → Bool) (hs : s.size ≤ 8) (h1 : 1 ≤ s.size)
    (hg : ∀ p q, 1 ≤ p → p < q → q < s.size → Ev (fun k => spec_l15Makes.f k l a3 (s.extract p q)) (g (s.extract p q)))
    (hf : ∀ p q, 1 ≤ p → p < q → q < s.size → Ev (fun k => spec_l15Makes.f k l a2 (s.extract 0 p ++ s.extract q s.size)) (f (s.extract 0 p ++ s.extract q s.size))) :
    Ev (fun k => spec_l15In.f (fun _ => spec_l15Makes.f k) k l a0 a1 a2 a3 s) ((List.range' 1 (s.size - 1)).any (fun p => (List.range' (p + 1) (s.size - (p + 1))).any (fun q => g (s.extract p q) && f (s.extract 0 p ++ s.extract q s.size)))) := by
  obtain ⟨K, hK⟩ := ev_upto (Q := fun p k => ∀ q, q < s.size → 1 ≤ p → p < q → spec_l15Makes.f k l a3 (s.extract p q) = some (g (s.extract p q)) ∧ spec_l15Makes.f k l a2 (s.extract 0 p ++ s.extract q s.size) = some (f (s.extract 0 p ++ s.extract q s.size))) s.size (fun p hp => by
    obtain ⟨K, hK⟩ := ev_upto (Q := fun q k => 1 ≤ p → p < q → spec_l15Makes.f k l a3 (s.extract p q) = some (g (s.extract p q)) ∧ spec_l15Makes.f k l a2 (s.extract 0 p ++ s.extract q s.size) = some (f (s.extract 0 p ++ s.extract q s.size))) s.size (fun q hq => by
      by_cases h : 1 ≤ p ∧ p < q
      · obtain ⟨K1, k1⟩ := hg p q h.1 h.2 hq
        obtain ⟨K2, k2⟩ := hf p q h.1 h.2 hq
        exact ⟨max K1 K2, fun k hk _ _ => ⟨k1 k (by omega), k2 k (by omega)⟩⟩
      · exact ⟨0, fun _ _ h' h'' => absurd ⟨h', h''⟩ h⟩)
    exact ⟨K, fun k hk q hq => hK q hq k hk⟩)
  let M' : Nat → List S73 → Int → ByteArray → Option Bool := fun _ => spec_l15Makes.f K
  have hM' : ∀ p q, 1 ≤ p → p < q → q < s.size → M' 0 l a3 (s.extract p q) = some (g (s.extract p q)) ∧ M' 0 l a2 (s.extract 0 p ++ s.extract q s.size) = some (f (s.extract 0 p ++ s.extract q s.size)) := fun p q h h' hq => hK p (by omega) K (Nat.le_refl _) q hq h h'
  have hev : Ev (fun k => spec_l15In.l0 M' k l s 1 a0 a1 a2 a3) ((List.range' 1 (s.size - 1)).any (fun p => (List.range' (p + 1) (s.size - (p + 1))).any (fun q => g (s.extract p q) && f (s.extract 0 p ++ s.extract q s.size)))) := by
    refine ev_as (loop_or (fun k i => spec_l15In.l0 M' k l s i a0 a1 a2 a3) s.size 1 _ false (fun i hi hi' => ?_) (fun i hb hi r hr => ?_) 1 (Nat.le_refl _) (by omega)) (by rw [Bool.or_false])
    · rw [← ev_succ_iff]
      simp only [spec_l15In.l0]
      rw [ev_ite_iff, if_neg (by omega)]
      exact ev_some _
    · rw [← ev_succ_iff]
      simp only [spec_l15In.l0, w_succ (i := i) (by omega)]
      rw [ev_ite_iff, if_pos (by omega)]
      refine loop_or (fun k j => spec_l15In.l1 M' k l s (i : Int) j a0 a1 a2 a3) s.size (i + 1) _ r (fun j hj hj' => ?_) (fun j hjb hj q hq => ?_) (i + 1) (Nat.le_refl _) (by omega)
      · rw [← ev_succ_iff]
        simp only [spec_l15In.l1, w_succ (i := i) (by omega)]
        rw [ev_ite_iff, if_neg (by omega)]
        exact hr
      · have hm := hM' i j hb (by omega) hj
        have hm1 : ∀ k, M' k l a3 (s.extract i j) = some (g (s.extract i j)) := fun k => hm.1
        have hm2 : ∀ k, M' k l a2 (s.extract 0 i ++ s.extract j s.size) = some (f (s.extract 0 i ++ s.extract j s.size)) := fun k => hm.2
        have hz : (s.extract 0 i).size + (s.extract j s.size).size ≤ 9223372036854775807 := by simp only [ByteArray.size_extract]; omega
        rw [← ev_succ_iff]
        simp only [spec_l15In.l1, w_succ (i := j) (by omega), Int.toNat_natCast, hm1, hm2, Option.bind_some]
        rw [ev_ite_iff, if_pos (by omega), ev_ite_iff, if_pos (by omega), ev_ite_iff, if_pos (by omega), ev_ite_iff, if_pos (by omega), ev_ite_iff]
        split
        · rename_i h3
          have c1 : (i : Int) ≤ (s.size : Int) := by omega
          have c2 : (0 : Int) ≤ (j : Int) := by omega
          rw [h3, Bool.true_and]
          simp only [ev_ite_iff, if_pos c1, if_pos c2, if_pos hz]
          split
          · rename_i h4
            rw [h4, Bool.true_or]
            exact ev_some _
          · rename_i h4
            rw [Bool.not_eq_true] at h4
            rw [h4, Bool.false_or]
            exact hq
        · rename_i h3
          rw [Bool.not_eq_true] at h3
          rw [h3, Bool.false_and, Bool.false_or]
          exact hq
  obtain ⟨K2, hK2⟩ := hev
  refine ⟨max K K2, fun k hk => ?_⟩
  show spec_l15In.l0 _ k l s 1 a0 a1 a2 a3 = _
  have := (in_same (fun _ => spec_l15Makes.f k) M' l s a0 a1 a2 a3 (by omega) (fun j p q h h' hq => by
    have e1 := hK p (by omega) k (by omega) q hq h h'
    have e2 := hM' p q h h' hq
    exact ⟨e1.1.trans e2.1.symm, e1.2.trans e2.2.symm⟩) k).1 1 (Nat.le_refl _) (by omega)
  rw [show ((1 : Nat) : Int) = 1 from rfl] at this
  rw [this]
  exact hK2 k (by omega)
/-- What a step makes: the fuel is a number beyond the step's place. -/
def makesB (l : List S73) : Nat → Nat → ByteArray → Bool
  | 0, _, _ => false
  | n + 1, i, s =>
    if (rd_T73 l i).f0 = 1 then decide (s = (rd_T73 l i).f1)
    else if (rd_T73 l i).f0 = 2 then makesB l n (rd_T73 l i).f2.toNat (revB s)
    else if (rd_T73 l i).f0 = 3 then rearrB (rd_T73 l (rd_T73 l i).f2).f1 s
    else if (rd_T73 l i).f0 = 4 then (List.range' 1 (s.size - 1)).any (fun p => makesB l n (rd_T73 l i).f2.toNat (s.extract 0 p) && makesB l n (rd_T73 l i).f3.toNat (s.extract p s.size))
    else if (rd_T73 l i).f0 = 5 then (List.range' 1 (s.size - 1)).any (fun p => (List.range' (p + 1) (s.size - (p + 1))).any (fun q => makesB l n (rd_T73 l i).f3.toNat (s.extract p q) && makesB l n (rd_T73 l i).f2.toNat (s.extract 0 p ++ s.extract q s.size)))
    else if (rd_T73 l i).f0 = 6 then decide (s = headB (rd_T73 l (rd_T73 l i).f2).f1)
    else if (rd_T73 l i).f0 = 7 then decide (s = noHeadB (rd_T73 l (rd_T73 l i).f2).f1)
    else if (rd_T73 l i).f0 = 8 then decide (s = noTailB (rd_T73 l (rd_T73 l i).f2).f1)
    else insideB s (rd_T73 l (rd_T73 l i).f2).f1
theorem beq_swap (a b : ByteArray) : (a.toList == b.toList) = decide (b = a) := by
  rw [toList_beq]
  by_cases h : a = b
  · subst h; rfl
  · rw [decide_eq_false h, decide_eq_false (fun e => h e.symm)]
theorem spec_l15Makes_ev {l : List S73} (hp : isPlayB l = true) : ∀ (n i : Nat) (s : ByteArray), i < n → i < l.length → 1 ≤ s.size → s.size ≤ 8 → Ev (fun k => spec_l15Makes.f k l (i : Int) s) (makesB l n i s) := by
  intro n
  induction n with
  | zero => intro i s h; exact absurd h (Nat.not_lt_zero _)
  | succ n ih =>
    intro i s hn hi h1 h8
    obtain ⟨o1, o2, o3, o4, o5, o6, o7, o8⟩ := okStep_parts hi (isPlayB_step hp i hi)
    rw [← ev_succ_iff]
    simp only [spec_l15Makes.f, makesB, rdt_73 l i hi]
    rw [ev_ite_iff, if_pos (by omega), ev_ite_iff, if_pos (by omega), ev_ite_iff]
    by_cases n1 : l[i].f0 = 1
    · rw [if_pos n1, if_pos n1, beq_swap]; exact ev_some _
    rw [if_neg n1, if_neg n1, ev_ite_iff]
    have oA := o3 n1
    have eA : l[i].f2 = ((l[i].f2.toNat : Nat) : Int) := by omega
    by_cases n2 : l[i].f0 = 2
    · rw [if_pos n2, if_pos n2, ev_bind_iff (spec_Backwards_ev s (by omega))]
      have := ih l[i].f2.toNat (revB s) (by omega) (by omega) (by rw [revB_size]; exact h1) (by rw [revB_size]; exact h8)
      rw [← eA] at this
      rw [ev_bind_iff this]
      exact ev_some _
    rw [if_neg n2, if_neg n2, ev_ite_iff]
    by_cases n3 : l[i].f0 = 3
    · rw [if_pos n3, if_pos n3, ev_ite_iff, if_pos (by omega), ev_ite_iff, if_pos (by omega), ev_bind_iff (spec_IsRearranged_ev _ _)]
      exact ev_some _
    rw [if_neg n3, if_neg n3, ev_ite_iff]
    by_cases k4 : l[i].f0 = 4
    · have oB := o4 (.inl k4)
      have eB : l[i].f3 = ((l[i].f3.toNat : Nat) : Int) := by omega
      rw [if_pos k4, if_pos k4, ev_bind_iff (spec_l15Join_ev l s l[i].f0 l[i].f1 l[i].f2 l[i].f3 (makesB l n l[i].f2.toNat) (makesB l n l[i].f3.toNat) h8 h1 (fun p hp1 hp2 => ?_) (fun p hp1 hp2 => ?_))]
      · exact ev_some _
      · have := ih l[i].f2.toNat (s.extract 0 p) (by omega) (by omega) (by rw [ByteArray.size_extract]; omega) (by rw [ByteArray.size_extract]; omega)
        rw [← eA] at this
        exact this
      · have := ih l[i].f3.toNat (s.extract p s.size) (by omega) (by omega) (by rw [ByteArray.size_extract]; omega) (by rw [ByteArray.size_extract]; omega)
        rw [← eB] at this
        exact this
    rw [if_neg k4, if_neg k4, ev_ite_iff]
    by_cases k5 : l[i].f0 = 5
    · have oB := o4 (.inr k5)
      have eB : l[i].f3 = ((l[i].f3.toNat : Nat) : Int) := by omega
      rw [if_pos k5, if_pos k5, ev_bind_iff (spec_l15In_ev l s l[i].f0 l[i].f1 l[i].f2 l[i].f3 (makesB l n l[i].f2.toNat) (makesB l n l[i].f3.toNat) h8 h1 (fun p q hp1 hp2 hp3 => ?_) (fun p q hp1 hp2 hp3 => ?_))]
      · exact ev_some _
      · have := ih l[i].f3.toNat (s.extract p q) (by omega) (by omega) (by rw [ByteArray.size_extract]; omega) (by rw [ByteArray.size_extract]; omega)
        rw [← eB] at this
        exact this
      · have := ih l[i].f2.toNat (s.extract 0 p ++ s.extract q s.size) (by omega) (by omega) (by rw [ByteArray.size_append, ByteArray.size_extract, ByteArray.size_extract]; omega) (by rw [ByteArray.size_append, ByteArray.size_extract, ByteArray.size_extract]; omega)
        rw [← eA] at this
        exact this
    rw [if_neg k5, if_neg k5, ev_ite_iff]
    by_cases k6 : l[i].f0 = 6
    · rw [if_pos k6, if_pos k6, ev_ite_iff, if_pos (by omega), ev_ite_iff, if_pos (by omega), ev_bind_iff (spec_HeadOf_ev _), beq_swap]
      exact ev_some _
    rw [if_neg k6, if_neg k6, ev_ite_iff]
    by_cases k7 : l[i].f0 = 7
    · rw [if_pos k7, if_pos k7, ev_ite_iff, if_pos (by omega), ev_ite_iff, if_pos (by omega), ev_bind_iff (spec_WithoutHead_ev _), beq_swap]
      exact ev_some _
    rw [if_neg k7, if_neg k7, ev_ite_iff]
    by_cases k8 : l[i].f0 = 8
    · rw [if_pos k8, if_pos k8, ev_ite_iff, if_pos (by omega), ev_ite_iff, if_pos (by omega), ev_bind_iff (spec_WithoutTail_ev _), beq_swap]
      exact ev_some _
    rw [if_neg k8, if_neg k8, ev_ite_iff, if_pos (by omega), ev_ite_iff, if_pos (by omega), ev_bind_iff (spec_IsInside_ev _ _)]
    exact ev_some _
def makesWordB (l : List S73) (s : ByteArray) : Bool := if isPlayB l = true then (if isWordB s = true then makesB l l.length (l.length - 1) s else false) else false
theorem spec_Makes_ev (l : List S73) (s : ByteArray) (hl : l.length < 4611686018427387904) : Ev (fun k => spec_Makes.f k l s) (makesWordB l s) := by
  unfold spec_Makes.f makesWordB
  rw [ev_bind_iff (spec_IsPlay_ev l hl), ev_ite_iff]
  split
  · rename_i hp
    have hlen := isPlayB_len hp
    rw [ev_bind_iff (spec_IsWord_ev s), ev_ite_iff]
    split
    · rename_i hw
      have hsz := isWordB_size hw
      have e : wrap64 ((l.length : Int) - 1) = ((l.length - 1 : Nat) : Int) := by rw [w_in (by omega) (by omega)]; omega
      rw [e, ev_bind_iff (spec_l15Makes_ev hp l.length (l.length - 1) s (by omega) (by omega) (by omega) (by omega))]
      exact ev_some _
    · exact ev_some _
  · exact ev_some _
theorem impl_makes_ev {l : List S73} (hp : isPlayB l = true) : ∀ (n i : Nat) (s : ByteArray), i < n → i < l.length → 1 ≤ s.size → s.size ≤ 8 → Ev (fun k => impl_makes.f k l (i : Int) s) (makesB l n i s) := by
  intro n
  induction n with
  | zero => intro i s h; exact absurd h (Nat.not_lt_zero _)
  | succ n ih =>
    intro i s hn hi h1 h8
    obtain ⟨o1, o2, o3, o4, o5, o6, o7, o8⟩ := okStep_parts hi (isPlayB_step hp i hi)
    have hne : ¬ s.toList = ([] : List UInt8) := fun e => by have := toList_nil.1 e; omega
    have hA : 0 ≤ l[i].f2 ∧ l[i].f2 < (l.length : Int) := by
      by_cases n1 : l[i].f0 = 1
      · have := (o8 n1).1; omega
      · have := o3 n1; omega
    rw [← ev_succ_iff]
    simp only [impl_makes.f, makesB, rdt_73 l i hi]
    rw [ev_ite_iff, if_pos (by omega), ev_ite_iff, if_pos (by omega), ev_ite_iff, if_neg hne, ev_ite_iff, if_pos hA.1, ev_ite_iff, if_pos hA.2, ev_ite_iff]
    split
    · rw [toList_beq]; exact ev_some _
    rename_i n1
    have oA := o3 n1
    have eA : l[i].f2 = ((l[i].f2.toNat : Nat) : Int) := by omega
    rw [ev_ite_iff]
    split
    · have := ih l[i].f2.toNat (revB s) (by omega) (by omega) (by rw [revB_size]; exact h1) (by rw [revB_size]; exact h8)
      rw [← eA] at this
      simp only [impl_Backwards_eq s (show s.size ≤ 100 by omega), Option.bind_some]
      rw [ev_bind_iff this]
      exact ev_some _
    rw [ev_ite_iff]
    split
    · rw [ev_bind_iff (impl_IsRearranged_ev _ _)]
      exact ev_some _
    rw [ev_ite_iff]
    split
    · rename_i k4
      have oB := o4 (.inl k4)
      have eB : l[i].f3 = ((l[i].f3.toNat : Nat) : Int) := by omega
      refine ev_as (loop_or (fun k j => impl_makes.l0 k l s j l[i].f0 l[i].f1 l[i].f2 l[i].f3) s.size 1 _ false (fun j hj hj' => ?_) (fun j hb hj r hr => ?_) 1 (Nat.le_refl _) (by omega)) (by rw [Bool.or_false])
      · rw [← ev_succ_iff]
        simp only [impl_makes.l0]
        rw [ev_ite_iff, if_neg (by omega)]
        exact ev_some _
      · have m1 := ih l[i].f2.toNat (s.extract 0 j) (by omega) (by omega) (by rw [ByteArray.size_extract]; omega) (by rw [ByteArray.size_extract]; omega)
        have m2 := ih l[i].f3.toNat (s.extract j s.size) (by omega) (by omega) (by rw [ByteArray.size_extract]; omega) (by rw [ByteArray.size_extract]; omega)
        rw [← eA] at m1
        rw [← eB] at m2
        rw [← ev_succ_iff]
        simp only [impl_makes.l0, w_succ (i := j) (by omega), Int.toNat_natCast]
        rw [ev_ite_iff, if_pos (by omega), ev_ite_iff, if_pos (by omega), ev_ite_iff, if_pos (by omega), ev_bind_iff m1, ev_ite_iff]
        split
        · rename_i h3
          rw [h3, Bool.true_and, ev_bind_iff m2, ev_ite_iff]
          split
          · rename_i h4
            rw [h4, Bool.true_or]
            exact ev_some _
          · rename_i h4
            rw [Bool.not_eq_true] at h4
            rw [h4, Bool.false_or]
            exact hr
        · rename_i h3
          rw [Bool.not_eq_true] at h3
          rw [h3, Bool.false_and, Bool.false_or]
          exact hr
    rw [ev_ite_iff]
    split
    · rename_i k5
      have oB := o4 (.inr k5)
      have eB : l[i].f3 = ((l[i].f3.toNat : Nat) : Int) := by omega
      refine ev_as (loop_or (fun k j => impl_makes.l1 k l s j l[i].f0 l[i].f1 l[i].f2 l[i].f3) s.size 1 _ false (fun j hj hj' => ?_) (fun j hb hj r hr => ?_) 1 (Nat.le_refl _) (by omega)) (by rw [Bool.or_false])
      · rw [← ev_succ_iff]
        simp only [impl_makes.l1]
        rw [ev_ite_iff, if_neg (by omega)]
        exact ev_some _
      · rw [← ev_succ_iff]
        simp only [impl_makes.l1, w_succ (i := j) (by omega)]
        rw [ev_ite_iff, if_pos (by omega)]
        refine loop_or (fun k q => impl_makes.l2 k l s (j : Int) q l[i].f0 l[i].f1 l[i].f2 l[i].f3) s.size (j + 1) _ r (fun q hq hq' => ?_) (fun q hqb hq t ht => ?_) (j + 1) (Nat.le_refl _) (by omega)
        · rw [← ev_succ_iff]
          simp only [impl_makes.l2, w_succ (i := j) (by omega)]
          rw [ev_ite_iff, if_neg (by omega)]
          exact hr
        · have m1 := ih l[i].f3.toNat (s.extract j q) (by omega) (by omega) (by rw [ByteArray.size_extract]; omega) (by rw [ByteArray.size_extract]; omega)
          have m2 := ih l[i].f2.toNat (s.extract 0 j ++ s.extract q s.size) (by omega) (by omega) (by rw [ByteArray.size_append, ByteArray.size_extract, ByteArray.size_extract]; omega) (by rw [ByteArray.size_append, ByteArray.size_extract, ByteArray.size_extract]; omega)
          rw [← eB] at m1
          rw [← eA] at m2
          have hz : (s.extract 0 j).size + (s.extract q s.size).size ≤ 9223372036854775807 := by simp only [ByteArray.size_extract]; omega
          rw [← ev_succ_iff]
          simp only [impl_makes.l2, w_succ (i := q) (by omega), Int.toNat_natCast]
          rw [ev_ite_iff, if_pos (by omega), ev_ite_iff, if_pos (by omega), ev_ite_iff, if_pos (by omega), ev_ite_iff, if_pos (by omega), ev_bind_iff m1, ev_ite_iff]
          split
          · rename_i h3
            have c1 : (j : Int) ≤ (s.size : Int) := by omega
            have c2 : (0 : Int) ≤ (q : Int) := by omega
            rw [h3, Bool.true_and]
            simp only [ev_ite_iff, if_pos c1, if_pos c2, if_pos hz]
            rw [ev_bind_iff m2, ev_ite_iff]
            split
            · rename_i h4
              rw [h4, Bool.true_or]
              exact ev_some _
            · rename_i h4
              rw [Bool.not_eq_true] at h4
              rw [h4, Bool.false_or]
              exact ht
          · rename_i h3
            rw [Bool.not_eq_true] at h3
            rw [h3, Bool.false_and, Bool.false_or]
            exact ht
    rw [ev_ite_iff]
    split
    · rw [ev_bind_iff (impl_HeadOf_ev _), toList_beq]
      exact ev_some _
    rw [ev_ite_iff]
    split
    · rw [ev_bind_iff (impl_WithoutHead_ev _), toList_beq]
      exact ev_some _
    rw [ev_ite_iff]
    split
    · rw [ev_bind_iff (impl_WithoutTail_ev _), toList_beq]
      exact ev_some _
    rw [ev_ite_iff, if_pos (by omega), ev_bind_iff (impl_IsInside_ev _ _)]
    exact ev_some _
theorem impl_Makes_ev (l : List S73) (s : ByteArray) (hl : l.length < 4611686018427387904) : Ev (fun k => impl_Makes.f k l s) (makesWordB l s) := by
  unfold impl_Makes.f makesWordB
  rw [ev_bind_iff (impl_IsPlay_ev l hl), ev_ite_iff]
  split
  · rename_i hp
    have hlen := isPlayB_len hp
    rw [ev_bind_iff (impl_IsWord_ev s), ev_ite_iff]
    split
    · rename_i hw
      have hsz := isWordB_size hw
      have e : wrap64 ((l.length : Int) - 1) = ((l.length - 1 : Nat) : Int) := by rw [w_in (by omega) (by omega)]; omega
      rw [e, ev_bind_iff (impl_makes_ev hp l.length (l.length - 1) s (by omega) (by omega) (by omega) (by omega))]
      exact ev_some _
    · exact ev_some _
  · exact ev_some _
def hasWB (l : List ByteArray) (w : ByteArray) : Bool := l.any (fun x => decide (x = w))
theorem spec_HasWord_ev (l : List ByteArray) (w : ByteArray) (hl : l.length < 4611686018427387904) : Ev (fun k => spec_HasWord.f k l w) (hasWB l w) := by
  refine loop_any (fun k i => spec_HasWord.l0 k l w i) l _ ?_ (fun i hi hp r hr => ?_) (fun i hi hp => ?_)
  · rw [← ev_succ_iff]; simp [spec_HasWord.l0, ev_some]
  · rw [← ev_succ_iff]
    simp only [spec_HasWord.l0, rdOf_nat ByteArray.empty l i hi, w_succ (i := i) (by omega), toList_eq]
    rw [ev_ite_iff, if_pos (by omega), ev_ite_iff, if_pos (by omega), ev_ite_iff, if_neg (of_decide_eq_false hp)]
    exact hr
  · rw [← ev_succ_iff]
    simp only [spec_HasWord.l0, rdOf_nat ByteArray.empty l i hi, toList_eq]
    rw [ev_ite_iff, if_pos (by omega), ev_ite_iff, if_pos (by omega), ev_ite_iff, if_pos (of_decide_eq_true hp)]
    exact ev_some _
def onceStep (out : List ByteArray) (x : ByteArray) : List ByteArray := if hasWB out x = true then out else out ++ [x]
def onceB (l : List ByteArray) : List ByteArray := l.foldl onceStep []
theorem onceStep_le (out : List ByteArray) (x : ByteArray) : (onceStep out x).length ≤ out.length + 1 := by
  unfold onceStep
  split
  · omega
  · simp
theorem fold_once_le : ∀ (l out : List ByteArray), (l.foldl onceStep out).length ≤ out.length + l.length
  | [], out => by simp
  | x :: l, out => by
    have h1 := fold_once_le l (onceStep out x)
    have h2 := onceStep_le out x
    simp only [List.foldl_cons, List.length_cons]
    omega
theorem onceB_le (l : List ByteArray) : (onceB l).length ≤ l.length := by
  have := fold_once_le l []
  simpa [onceB] using this
theorem once_take (q : ByteArray → Bool) (l : List ByteArray) (i : Nat) (h : i < l.length) : ((l.take (i + 1)).filter q).foldl onceStep [] = if q l[i] = true then onceStep (((l.take i).filter q).foldl onceStep []) l[i] else ((l.take i).filter q).foldl onceStep [] := by
  rw [List.take_succ_eq_append_getElem h, List.filter_append, List.foldl_append]
  by_cases hq : q l[i] = true
  · rw [if_pos hq]; simp [hq]
  · rw [if_neg hq]; simp [hq]
theorem indexS_ev (l : List ByteArray) (w : ByteArray) (hl : l.length < 4611686018427387904) : Ev (fun k => slices_Index_string_string.f k l w) (match l.findIdx? (fun x => decide (x = w)) with | some i => (i : Int) | none => -1) := by
  refine loop_find (fun k i => slices_Index_string_string.l0 k l w (l.length : Int) i) l _ ?_ (fun i hi hp r hr => ?_) (fun i hi hp => ?_)
  · rw [← ev_succ_iff]; simp [slices_Index_string_string.l0, ev_some]
  · rw [← ev_succ_iff]
    simp only [slices_Index_string_string.l0, rdOf_nat ByteArray.empty l i hi, w_succ (i := i) (by omega), toList_eq]
    rw [ev_ite_iff, if_pos (by omega), ev_ite_iff, if_pos (by omega), ev_ite_iff, if_pos (by omega), ev_ite_iff, if_neg (fun e => of_decide_eq_false hp e.symm)]
    exact hr
  · rw [← ev_succ_iff]
    simp only [slices_Index_string_string.l0, rdOf_nat ByteArray.empty l i hi, toList_eq]
    rw [ev_ite_iff, if_pos (by omega), ev_ite_iff, if_pos (by omega), ev_ite_iff, if_pos (by omega), ev_ite_iff, if_pos (of_decide_eq_true hp).symm]
    exact ev_some _
theorem find_ge' {α : Type} (l : List α) (p : α → Bool) : decide ((match l.findIdx? p with | some i => (i : Int) | none => -1) ≥ 0) = l.any p := by
  cases h : l.findIdx? p with
  | none =>
    have := List.findIdx?_eq_none_iff.1 h
    simp
    intro x hx
    simpa using this x hx
  | some i =>
    obtain ⟨h1, h2, _⟩ := List.findIdx?_eq_some_iff_getElem.1 h
    simp
    exact ⟨l[i], List.getElem_mem h1, h2⟩
theorem containsS_ev (l : List ByteArray) (w : ByteArray) (hl : l.length < 4611686018427387904) : Ev (fun k => slices_Contains_string_string.f k l w) (hasWB l w) := by
  unfold slices_Contains_string_string.f hasWB
  rw [ev_bind_iff (indexS_ev l w hl), find_ge']
  exact ev_some _
theorem impl_once_ev (l : List ByteArray) (hl : l.length ≤ 8796093022208) : Ev (fun k => impl_once.f k l) (onceB l) := by
  unfold impl_once.f
  refine loop_up (σ := List ByteArray) (fun k out i => impl_once.l0 k out l (l.length : Int) i) l.length (fun i out => out = (l.take i).foldl onceStep []) (fun _ _ => onceB l) (fun out ho => ?_) (fun i out hi ho => ?_) 0 [] (Nat.zero_le _) rfl
  · rw [List.take_length] at ho
    rw [← ev_succ_iff]
    simp only [impl_once.l0, Int.lt_irrefl, if_false, ho]
    exact ev_some _
  · have hlen : out.length ≤ i := by
      have := fold_once_le (l.take i) []
      rw [ho]
      simp only [List.length_nil, List.length_take] at this
      omega
    refine .inr ⟨onceStep out l[i], ?_, rfl, fun r hr => ?_⟩
    · rw [List.take_succ_eq_append_getElem hi, List.foldl_append, ho]
      rfl
    · rw [← ev_succ_iff]
      simp only [impl_once.l0, rdOf_nat ByteArray.empty l i hi, w_succ (i := i) (by omega)]
      rw [ev_ite_iff, if_pos (by omega), ev_ite_iff, if_pos (by omega), ev_ite_iff, if_pos (by omega), ev_bind_iff (containsS_ev out l[i] (by omega)), ev_ite_iff]
      unfold onceStep at hr
      split
      · rename_i h
        rw [if_pos h] at hr
        exact hr
      · rename_i h
        rw [if_neg h] at hr
        rw [ev_ite_iff, if_pos (by omega)]
        exact hr
theorem markClue_ev (a : Int) (l : List S73) (c : Int) (h0 : 0 ≤ c) (hc : c + 4 * l.length < 4611686018427387904) : Ev (fun k => laws_markClue.f k a l c) (c + 4 * l.length, markd (fun _ b => ⟨b, MT (b + 1), b + 2, b + 3⟩) (fun _ => 4) l c) := by
  unfold laws_markClue.f
  rw [ev_bind_iff (markStepS_ev l c h0 hc)]
  exact ev_some _
def isPatB (p : ByteArray) : Bool := decide (1 ≤ p.size ∧ p.size ≤ 8) && (bytesOf p).all (fun c => decide (c = 63) || letterB c)
theorem isPatB_size {p : ByteArray} (h : isPatB p = true) : 1 ≤ p.size ∧ p.size ≤ 8 := by
  unfold isPatB at h
  rw [Bool.and_eq_true] at h
  exact of_decide_eq_true h.1
theorem spec_IsPattern_ev (p : ByteArray) : Ev (fun k => spec_IsPattern.f k p) (isPatB p) := by
  simp only [spec_IsPattern.f, l1In_eq, Option.bind_some, ev_ite_iff, decide_eq_true_eq, isPatB]
  by_cases h : (1 : Int) ≤ p.size ∧ (p.size : Int) ≤ 8
  · rw [if_pos h]
    have h' : 1 ≤ p.size ∧ p.size ≤ 8 := by omega
    simp only [h', decide_true, Bool.true_and, and_self]
    refine loop_all (fun k i => spec_IsPattern.l0 k p i) (bytesOf p) _ ?_ (fun i hi hp r hr => ?_) (fun i hi hp => ?_)
    · rw [← ev_succ_iff]; simp [spec_IsPattern.l0, bytesOf_length, ev_some]
    · have hi' : i < p.size := by rw [bytesOf_length] at hi; exact hi
      rw [← ev_succ_iff]
      simp only [spec_IsPattern.l0, bt_nat p i hi', w_succ (i := i) (by omega)]
      rw [ev_ite_iff, if_pos (by omega), ev_ite_iff, if_pos (by omega), ev_ite_iff]
      by_cases h63 : (bytesOf p)[i] = 63
      · rw [if_pos h63]; exact hr
      · simp [letterB, h63] at hp
        rw [if_neg h63, ev_ite_iff, if_neg (by omega), ev_ite_iff, if_neg (by omega)]
        exact hr
    · have hi' : i < p.size := by rw [bytesOf_length] at hi; exact hi
      simp only [Bool.or_eq_false_iff, decide_eq_false_iff_not, letterB] at hp
      rw [← ev_succ_iff]
      simp only [spec_IsPattern.l0, bt_nat p i hi', w_succ (i := i) (by omega)]
      rw [ev_ite_iff, if_pos (by omega), ev_ite_iff, if_pos (by omega), ev_ite_iff, if_neg hp.1, ev_ite_iff]
      by_cases h1 : (bytesOf p)[i] < 97
      · rw [if_pos h1]; exact ev_some _
      · rw [if_neg h1, ev_ite_iff, if_pos (by omega)]; exact ev_some _
  · rw [if_neg h]
    have h' : ¬ (1 ≤ p.size ∧ p.size ≤ 8) := by omega
    simp [h', ev_some]
def fitsPB (p w : ByteArray) : Bool := if isPatB p = true then (if isWordB w = true then (if p.size = w.size then (List.range p.size).all (fun i => decide (bt p (i : Int) = 63) || decide (bt p (i : Int) = bt w (i : Int))) else false) else false) else false
theorem spec_FitsPattern_ev (p w : ByteArray) : Ev (fun k => spec_FitsPattern.f k p w) (fitsPB p w) := by
  have hf : Ev (fun k => spec_FitsPattern.j0 k p w true) false := by
    rw [← ev_succ_iff]
    simp only [spec_FitsPattern.j0, if_true]
    exact ev_some _
  unfold spec_FitsPattern.f fitsPB
  rw [ev_bind_iff (spec_IsPattern_ev p), ev_ite_iff]
  split
  · rename_i h1
    have hs := isPatB_size h1
    rw [ev_bind_iff (spec_IsWord_ev w), ev_ite_iff]
    split
    · by_cases h3 : p.size = w.size
      · rw [if_pos h3, show ((p.size : Int) != (w.size : Int)) = false by rw [h3]; simp, ← ev_succ_iff]
        simp only [spec_FitsPattern.j0, Bool.false_eq_true, if_false]
        refine loop_all (fun k i => spec_FitsPattern.l0 k p w i) (List.range p.size) _ ?_ (fun i hi hp r hr => ?_) (fun i hi hp => ?_)
        · rw [← ev_succ_iff]; simp [spec_FitsPattern.l0, ev_some]
        · rw [List.length_range] at hi
          rw [List.getElem_range] at hp
          rw [← ev_succ_iff]
          simp only [spec_FitsPattern.l0, w_succ (i := i) (by omega)]
          rw [ev_ite_iff, if_pos (by omega), ev_ite_iff, if_pos (by omega), ev_ite_iff]
          by_cases h63 : bt p (i : Int) = 63
          · rw [if_pos h63]; exact hr
          · have he : bt p (i : Int) = bt w (i : Int) := by simpa [h63] using hp
            rw [if_neg h63, ev_ite_iff, if_pos (by omega), ev_ite_iff, if_pos he]
            exact hr
        · rw [List.length_range] at hi
          rw [List.getElem_range] at hp
          simp only [Bool.or_eq_false_iff, decide_eq_false_iff_not] at hp
          rw [← ev_succ_iff]
          simp only [spec_FitsPattern.l0, w_succ (i := i) (by omega)]
          rw [ev_ite_iff, if_pos (by omega), ev_ite_iff, if_pos (by omega), ev_ite_iff, if_neg hp.1, ev_ite_iff, if_pos (by omega), ev_ite_iff, if_neg hp.2]
          exact ev_some _
      · rw [if_neg h3, show ((p.size : Int) != (w.size : Int)) = true by simp; omega]
        exact hf
    · exact hf
  · exact hf
theorem impl_IsPattern_ev (p : ByteArray) : Ev (fun k => impl_IsPattern.f k p) (isPatB p) := by
  simp only [impl_IsPattern.f, InRange_eq, Option.bind_some, ev_ite_iff, decide_eq_true_eq, isPatB]
  by_cases h : (1 : Int) ≤ p.size ∧ (p.size : Int) ≤ 8
  · rw [if_pos h]
    have h' : 1 ≤ p.size ∧ p.size ≤ 8 := by omega
    simp only [h', decide_true, Bool.true_and, and_self]
    refine loop_all (fun k i => impl_IsPattern.l0 k p (p.size : Int) i) (bytesOf p) _ ?_ (fun i hi hp r hr => ?_) (fun i hi hp => ?_)
    · rw [← ev_succ_iff]; simp [impl_IsPattern.l0, bytesOf_length, ev_some]
    · have hi' : i < p.size := by rw [bytesOf_length] at hi; exact hi
      rw [← ev_succ_iff]
      simp only [impl_IsPattern.l0, bt_nat p i hi', w_succ (i := i) (by omega), isLetter_eq, Option.bind_some]
      rw [ev_ite_iff, if_pos (by omega), ev_ite_iff, if_pos (by omega), ev_ite_iff, if_pos (by omega), ev_ite_iff]
      by_cases h63 : (bytesOf p)[i] = 63
      · rw [if_pos h63]; exact hr
      · simp [letterB, h63] at hp
        rw [if_neg h63, ev_ite_iff, if_pos (by simpa using hp)]
        exact hr
    · have hi' : i < p.size := by rw [bytesOf_length] at hi; exact hi
      simp only [Bool.or_eq_false_iff, decide_eq_false_iff_not, letterB] at hp
      rw [← ev_succ_iff]
      simp only [impl_IsPattern.l0, bt_nat p i hi', w_succ (i := i) (by omega), isLetter_eq, Option.bind_some]
      rw [ev_ite_iff, if_pos (by omega), ev_ite_iff, if_pos (by omega), ev_ite_iff, if_pos (by omega), ev_ite_iff, if_neg hp.1, ev_ite_iff, if_neg (by simpa using hp.2)]
      exact ev_some _
  · rw [if_neg h]
    have h' : ¬ (1 ≤ p.size ∧ p.size ≤ 8) := by omega
    simp [h', ev_some]
theorem impl_FitsPattern_ev (p w : ByteArray) : Ev (fun k => impl_FitsPattern.f k p w) (fitsPB p w) := by
  have hf : Ev (fun k => impl_FitsPattern.j0 k p w true) false := by
    rw [← ev_succ_iff]
    simp only [impl_FitsPattern.j0, if_true]
    exact ev_some _
  unfold impl_FitsPattern.f fitsPB
  rw [ev_bind_iff (impl_IsPattern_ev p), ev_ite_iff]
  split
  · rename_i h1
    have hs := isPatB_size h1
    rw [ev_bind_iff (impl_IsWord_ev w), ev_ite_iff]
    split
    · by_cases h3 : p.size = w.size
      · rw [if_pos h3, show ((p.size : Int) != (w.size : Int)) = false by rw [h3]; simp, ← ev_succ_iff]
        simp only [impl_FitsPattern.j0, Bool.false_eq_true, if_false]
        refine loop_all (fun k i => impl_FitsPattern.l0 k p w (p.size : Int) i) (List.range p.size) _ ?_ (fun i hi hp r hr => ?_) (fun i hi hp => ?_)
        · rw [← ev_succ_iff]; simp [impl_FitsPattern.l0, ev_some]
        · rw [List.length_range] at hi
          rw [List.getElem_range] at hp
          rw [← ev_succ_iff]
          simp only [impl_FitsPattern.l0, w_succ (i := i) (by omega)]
          rw [ev_ite_iff, if_pos (by omega), ev_ite_iff, if_pos (by omega), ev_ite_iff, if_pos (by omega), ev_ite_iff]
          by_cases h63 : bt p (i : Int) = 63
          · rw [if_pos h63]; exact hr
          · have he : bt p (i : Int) = bt w (i : Int) := by simpa [h63] using hp
            rw [if_neg h63, ev_ite_iff, if_pos (by omega), ev_ite_iff, if_pos he]
            exact hr
        · rw [List.length_range] at hi
          rw [List.getElem_range] at hp
          simp only [Bool.or_eq_false_iff, decide_eq_false_iff_not] at hp
          rw [← ev_succ_iff]
          simp only [impl_FitsPattern.l0, w_succ (i := i) (by omega)]
          rw [ev_ite_iff, if_pos (by omega), ev_ite_iff, if_pos (by omega), ev_ite_iff, if_pos (by omega), ev_ite_iff, if_neg hp.1, ev_ite_iff, if_pos (by omega), ev_ite_iff, if_neg hp.2]
          exact ev_some _
      · rw [if_neg h3, show ((p.size : Int) != (w.size : Int)) = true by simp; omega]
        exact hf
    · exact hf
  · exact hf
def guessB (how a : Int) (pl : List S73) (d : List S54) (pat w : ByteArray) : Bool := fitsPB pat w && ((decide (Int.tmod how 2 = 0) || hasB d w a) && (decide (how < 2) || makesWordB pl w))
def guessesB (how a : Int) (pl : List S73) (d : List S54) (l : List ByteArray) (pat : ByteArray) : List ByteArray := if 0 ≤ how ∧ how ≤ 3 then onceB (l.filter (guessB how a pl d pat)) else []
theorem guessesB_le (how a : Int) (pl : List S73) (d : List S54) (l : List ByteArray) (pat : ByteArray) : (guessesB how a pl d l pat).length ≤ l.length := by
  unfold guessesB
  split
  · exact Nat.le_trans (onceB_le _) (List.length_filter_le _ _)
  · simp
theorem spec_GuessesFor_ev (a : Int) (pl : List S73) (d : List S54) (l : List ByteArray) (pat : ByteArray) (how : Int) (hp : pl.length < 4611686018427387904) (hd : d.length < 4611686018427387904) (hl : l.length ≤ 8796093022208) : Ev (fun k => spec_GuessesFor.f k a pl d l pat how) (guessesB how a pl d l pat) := by
  have hend : ∀ (out : List ByteArray) (i : Int), Ev (fun k => spec_GuessesFor.j1 k d l pat how out i false a pl) out := by
    intro out i
    rw [← ev_succ_iff]
    simp only [spec_GuessesFor.j1, Bool.false_eq_true, if_false]
    exact ev_some _
  have hj3 : ∀ (out : List ByteArray) (i : Nat) (w : ByteArray) (sn py : Bool) (r : List ByteArray), i < 4611686018427387904 → out.length < 8796093022208 → Ev (fun k => spec_GuessesFor.l0 k d l pat how (if (fitsPB pat w && (sn && py)) = true then onceStep out w else out) ((i + 1 : Nat) : Int) a pl) r → Ev (fun k => spec_GuessesFor.j3 k d l pat how out (i : Int) w sn py a pl) r := by
    intro out i w sn py r hi ho hr
    rw [← ev_succ_iff]
    simp only [spec_GuessesFor.j3, w_succ (i := i) hi]
    rw [ev_bind_iff (spec_FitsPattern_ev pat w), ev_ite_iff]
    by_cases h1 : fitsPB pat w = true
    · rw [if_pos h1, ev_ite_iff]
      by_cases h2 : sn = true
      · rw [if_pos h2, ev_ite_iff]
        by_cases h3 : py = true
        · rw [if_pos h3, ev_bind_iff (spec_HasWord_ev out w (by omega)), ev_ite_iff]
          rw [h1, h2, h3] at hr
          simp only [Bool.and_self, if_true] at hr
          unfold onceStep at hr
          by_cases h4 : hasWB out w = true
          · rw [if_pos h4] at hr ⊢
            exact hr
          · rw [if_neg h4] at hr ⊢
            rw [ev_ite_iff, if_pos (by omega)]
            exact hr
        · rw [if_neg h3]
          rw [if_neg (by simp [h3])] at hr
          exact hr
      · rw [if_neg h2]
        rw [if_neg (by simp [h2])] at hr
        exact hr
    · rw [if_neg h1]
      rw [if_neg (by simp [h1])] at hr
      exact hr
  have hj2 : ∀ (out : List ByteArray) (i : Int) (w : ByteArray) (sn : Bool) (r : List ByteArray), Ev (fun k => spec_GuessesFor.j3 k d l pat how out i w sn (decide (how < 2) || makesWordB pl w) a pl) r → Ev (fun k => spec_GuessesFor.j2 k d l pat how out i w sn a pl) r := by
    intro out i w sn r hr
    rw [← ev_succ_iff]
    simp only [spec_GuessesFor.j2]
    rw [ev_ite_iff]
    by_cases h : how < 2
    · rw [if_pos h]
      rw [decide_eq_true h, Bool.true_or] at hr
      exact hr
    · rw [if_neg h, ev_bind_iff (spec_Makes_ev pl w hp)]
      rw [decide_eq_false h, Bool.false_or] at hr
      exact hr
  unfold spec_GuessesFor.f guessesB
  by_cases hh : 0 ≤ how ∧ how ≤ 3
  · rw [if_pos hh]
    refine loop_up (σ := List ByteArray) (fun k out i => spec_GuessesFor.l0 k d l pat how out i a pl) l.length (fun i out => out = ((l.take i).filter (guessB how a pl d pat)).foldl onceStep []) (fun _ _ => onceB (l.filter (guessB how a pl d pat))) (fun out ho => ?_) (fun i out hi ho => ?_) 0 [] (Nat.zero_le _) rfl
    · rw [List.take_length] at ho
      rw [← ev_succ_iff]
      simp only [spec_GuessesFor.l0, Int.lt_irrefl, if_false]
      rw [ho]
      exact hend _ _
    · have hlen : out.length ≤ i := by
        have h1 := fold_once_le ((l.take i).filter (guessB how a pl d pat)) []
        have h2 := List.length_filter_le (guessB how a pl d pat) (l.take i)
        rw [ho]
        simp only [List.length_nil, List.length_take] at h1 h2
        omega
      refine .inr ⟨if guessB how a pl d pat l[i] = true then onceStep out l[i] else out, ?_, rfl, fun r hr => ?_⟩
      · rw [once_take _ l i hi, ← ho]
      · have hr' := hj2 out (i : Int) l[i] (decide (Int.tmod how 2 = 0) || hasB d l[i] a) r (hj3 out i l[i] _ _ r (by omega) (by omega) hr)
        rw [← ev_succ_iff]
        simp only [spec_GuessesFor.l0, l1In_eq, Option.bind_some, decide_eq_true hh]
        rw [ev_ite_iff, if_pos (by omega), ← ev_succ_iff]
        simp only [spec_GuessesFor.j1, if_true, rdOf_nat ByteArray.empty l i hi]
        rw [ev_ite_iff, if_pos (by omega), ev_ite_iff, if_pos (by omega), ev_ite_iff]
        by_cases h : Int.tmod how 2 = 0
        · rw [if_pos h]
          rw [decide_eq_true h, Bool.true_or] at hr'
          exact hr'
        · rw [if_neg h, ev_bind_iff (spec_HasSense_ev d l[i] a hd)]
          rw [decide_eq_false h, Bool.false_or] at hr'
          exact hr'
  · rw [if_neg hh, ← ev_succ_iff]
    simp only [spec_GuessesFor.l0, l1In_eq, Option.bind_some, decide_eq_false hh]
    rw [ev_ite_iff]
    split
    · exact hend _ _
    · exact hend _ _
theorem impl_guess_ev (how a : Int) (pl : List S73) (d : List S54) (pat w : ByteArray) (hh : 0 ≤ how ∧ how ≤ 3) (hp : pl.length < 4611686018427387904) (hd : d.length < 4611686018427387904) : Ev (fun k => impl_GuessesFor.g how k a pl d pat w) (guessB how a pl d pat w) := by
  have hc : how = 0 ∨ how = 1 ∨ how = 2 ∨ how = 3 := by omega
  have f := impl_FitsPattern_ev pat w
  have h := impl_HasSense_ev d w a hd
  have m := impl_Makes_ev pl w hp
  unfold guessB
  generalize fitsPB pat w = fb at *
  generalize hasB d w a = hb at *
  generalize makesWordB pl w = mb at *
  rcases hc with rfl | rfl | rfl | rfl
  · rw [show Int.tmod 0 2 = 0 by decide]
    simp only [impl_GuessesFor.g, impl_GuessesFor.g0, if_true]
    rw [ev_bind_iff f, ev_ite_iff]
    cases fb <;> simp [ev_some_iff]
  · rw [show Int.tmod 1 2 = 1 by decide]
    simp only [impl_GuessesFor.g, impl_GuessesFor.g1, if_true, show ¬ (1 : Int) = 0 by decide, if_false]
    rw [ev_bind_iff f, ev_ite_iff, ev_bind_iff h, ev_ite_iff]
    cases fb <;> cases hb <;> simp [ev_some_iff]
  · rw [show Int.tmod 2 2 = 0 by decide]
    simp only [impl_GuessesFor.g, impl_GuessesFor.g2, if_true, show ¬ (2 : Int) = 0 by decide, show ¬ (2 : Int) = 1 by decide, if_false]
    rw [ev_bind_iff f, ev_ite_iff, ev_bind_iff m]
    cases fb <;> simp [ev_some_iff]
  · rw [show Int.tmod 3 2 = 1 by decide]
    simp only [impl_GuessesFor.g, impl_GuessesFor.g3, show ¬ (3 : Int) = 0 by decide, show ¬ (3 : Int) = 1 by decide, show ¬ (3 : Int) = 2 by decide, if_false]
    rw [ev_bind_iff f, ev_ite_iff, ev_bind_iff h, ev_ite_iff, ev_bind_iff m]
    cases fb <;> cases hb <;> simp [ev_some_iff]
theorem impl_GuessesFor_ev (a : Int) (pl : List S73) (d : List S54) (l : List ByteArray) (pat : ByteArray) (how : Int) (hp : pl.length < 4611686018427387904) (hd : d.length < 4611686018427387904) (hl : l.length ≤ 8796093022208) : Ev (fun k => impl_GuessesFor.f k a pl d l pat how) (guessesB how a pl d l pat) := by
  unfold impl_GuessesFor.f guessesB
  simp only [InRange_eq, Option.bind_some, decide_eq_true_eq, ev_ite_iff]
  by_cases hh : 0 ≤ how ∧ how ≤ 3
  · rw [if_pos hh, if_pos hh, ev_bind_iff (impl_those_ev l _ (guessB how a pl d pat) hl (fun s _ => impl_guess_ev how a pl d pat s hh hp hd))]
    exact impl_once_ev _ (Nat.le_trans (List.length_filter_le _ _) hl)
  · rw [if_neg hh, if_neg hh]
    exact ev_some _
theorem FnExactGuessesFor : laws_FnExactGuessesFor.Pure := by
  intro y d l pat how ⟨h0, h1, h2, h3⟩ ⟨i1, i2, i3⟩ ⟨j1, j2, j3⟩ hpat hhow
  refine Ev.rounds ?_
  unfold laws_FnExactGuessesFor.f
  rw [ev_ite_iff]
  split
  · exact ev_some _
  obtain ⟨r, hr, hrb⟩ := szClue_ev y.f0 y.f1 (by omega) (fun x hx => (h3 x hx).2.1) 1048576 (by omega) (by omega)
  rw [ev_bind_iff hr, ev_ite_iff]
  split
  · exact ev_some _
  obtain ⟨q, hq, hqb⟩ := szMeaningS_ev d (by omega) (fun x hx => (i3 x hx).1) r (by omega) hrb
  rw [ev_bind_iff hq, ev_ite_iff]
  split
  · exact ev_some _
  obtain ⟨u, hu, _⟩ := szStringS_ev l (by omega) (fun x hx => j3 x hx) q (by omega) hqb
  rw [ev_bind_iff hu, ev_ite_iff]
  split
  · exact ev_some _
  have t1 := toClue_ev y.f0 y.f1 (by omega)
  have t2 := toMeaningS_ev d (by omega)
  have t3 := toStringS_ev l (by omega)
  have l1 : (y.f1.map toStep).length = y.f1.length := List.length_map _
  have l2 : (d.map toMeaning).length = d.length := List.length_map _
  have sp := spec_GuessesFor_ev y.f0 (y.f1.map toStep) (d.map toMeaning) l pat how (by omega) (by omega) (by omega)
  have im := impl_GuessesFor_ev y.f0 (y.f1.map toStep) (d.map toMeaning) l pat how (by omega) (by omega) (by omega)
  have e1 := eqClue_ev y.f0 (y.f1.map toStep) (by omega)
  have e2 := eqMeaningS_ev (d.map toMeaning) (by omega)
  have e3 := eqStringS_ev l (by omega)
  have m1 := markClue_ev y.f0 (y.f1.map toStep) 1 (by omega) (by omega)
  have m2 := markMeaningS_ex (d.map toMeaning) (1 + 4 * ((y.f1.map toStep).length : Int)) (by omega) (by omega)
  have m3 := markStringS_ev l (1 + 4 * ((y.f1.map toStep).length : Int) + 2 * ((d.map toMeaning).length : Int)) (by omega) (by omega)
  have hz := guessesB_le how y.f0 (y.f1.map toStep) (d.map toMeaning) l pat
  generalize guessesB how y.f0 (y.f1.map toStep) (d.map toMeaning) l pat = z at sp im hz
  have e4 := eqStringS_ev z (by omega)
  have m4 := markStringS_ev z 1 (by omega) (by omega)
  have h4 := heldStringS_ev z 1 (by omega) (by omega)
  simp only [ev_bind_iff t1, ev_bind_iff t2, ev_bind_iff t3, ev_bind_iff sp, ev_bind_iff im, ev_bind_iff e1, ev_bind_iff e2, ev_bind_iff e3, ev_bind_iff e4, ev_bind_iff m1, ev_bind_iff m2, ev_bind_iff m3, ev_ite_iff, if_true]
  rw [if_neg (by omega), ← ev_succ_iff]
  simp only [laws_FnExactGuessesFor.j0, ev_bind_iff t1, ev_bind_iff t2, ev_bind_iff t3, ev_bind_iff im, ev_bind_iff e4, ev_bind_iff m4, ev_bind_iff h4, ev_ite_iff, if_true]
  simp only [Bool.not_true, Bool.false_eq_true, if_false]
  rw [if_neg (by omega), if_neg (by omega)]
  exact ev_some _
end Go.Proofs.Ythincoghppaegaa.Pure
