/- The program's IsSolved returns what the reference's returns, for every argument; no further condition. -/
import Derived.Test.YthjcicmmbmagbaaZIsSolvedQ
import Derived.Test.YthjcicmmbmagbaaZIsSolvedEv
namespace Go.Proofs.Ythjcicmmbmagbaa.Pure
open Go.RowKit Go.Proofs.Ythjcicmmbmagbaa.PFnExactIsSolved Go.Proofs.YthjcicmmbmagbaaW.PrintWords Go.Proofs.YthjcicmmbmagbaaW.PrintLast Go.Proofs.YthjcicmmbmagbaaW.PrintMore Go.Proofs.Ythjcicmmbmagbaa.Sem
set_option linter.unusedVariables false
set_option linter.unusedSimpArgs false
theorem rdt_186 (xs : List S186) (i : Nat) (h : i < xs.length) : rd_T186 xs (i : Int) = xs[i] := by
  simp [rd_T186, List.getD_eq_getElem?_getD, List.getElem?_eq_getElem h]
theorem rdts_186 (xs : List S186) (i : Nat) (x : S186) (h : i < xs.length) : rd_T186 (xs.set i x) (i : Int) = x := by
  rw [rdt_186 _ i (by rw [List.length_set]; exact h), List.getElem_set_self]
theorem rdt_149 (xs : List S149) (i : Nat) (h : i < xs.length) : rd_T149 xs (i : Int) = xs[i] := by
  simp [rd_T149, List.getD_eq_getElem?_getD, List.getElem?_eq_getElem h]
theorem rdts_149 (xs : List S149) (i : Nat) (x : S149) (h : i < xs.length) : rd_T149 (xs.set i x) (i : Int) = x := by
  rw [rdt_149 _ i (by rw [List.length_set]; exact h), List.getElem_set_self]
theorem rdt_110 (xs : List S110) (i : Nat) (h : i < xs.length) : rd_T110 xs (i : Int) = xs[i] := by
  simp [rd_T110, List.getD_eq_getElem?_getD, List.getElem?_eq_getElem h]
theorem rdts_110 (xs : List S110) (i : Nat) (x : S110) (h : i < xs.length) : rd_T110 (xs.set i x) (i : Int) = x := by
  rw [rdt_110 _ i (by rw [List.length_set]; exact h), List.getElem_set_self]
theorem rdt_116 (xs : List S116) (i : Nat) (h : i < xs.length) : rd_T116 xs (i : Int) = xs[i] := by
  simp [rd_T116, List.getD_eq_getElem?_getD, List.getElem?_eq_getElem h]
theorem rdts_116 (xs : List S116) (i : Nat) (x : S116) (h : i < xs.length) : rd_T116 (xs.set i x) (i : Int) = x := by
  rw [rdt_116 _ i (by rw [List.length_set]; exact h), List.getElem_set_self]
theorem rdt_153 (xs : List S153) (i : Nat) (h : i < xs.length) : rd_T153 xs (i : Int) = xs[i] := by
  simp [rd_T153, List.getD_eq_getElem?_getD, List.getElem?_eq_getElem h]
theorem rdts_153 (xs : List S153) (i : Nat) (x : S153) (h : i < xs.length) : rd_T153 (xs.set i x) (i : Int) = x := by
  rw [rdt_153 _ i (by rw [List.length_set]; exact h), List.getElem_set_self]
theorem rdl_3 (xs : List (List S186)) (i : Nat) (h : i < xs.length) : rd_L3 xs (i : Int) = xs[i] := by
  simp [rd_L3, List.getD_eq_getElem?_getD, List.getElem?_eq_getElem h]
theorem rdl_6 (xs : List (List S110)) (i : Nat) (h : i < xs.length) : rd_L6 xs (i : Int) = xs[i] := by
  simp [rd_L6, List.getD_eq_getElem?_getD, List.getElem?_eq_getElem h]
theorem rdl_10 (xs : List (List Int)) (i : Nat) (h : i < xs.length) : rd_L10 xs (i : Int) = xs[i] := by
  simp [rd_L10, List.getD_eq_getElem?_getD, List.getElem?_eq_getElem h]
theorem l1In_eq (a b c : Int) : spec_l1In.f a b c = some (decide (b ≤ a ∧ a ≤ c)) := by
  unfold spec_l1In.f
  by_cases h : b ≤ a <;> simp [h]
theorem InRange_eq (a b c : Int) : impl_InRange.f a b c = some (decide (b ≤ a ∧ a ≤ c)) := by
  unfold impl_InRange.f
  by_cases h : b ≤ a <;> simp [h]
theorem at_eq (a b : Int) : impl_at.f a b = some (decide (0 ≤ a ∧ a < b)) := by
  unfold impl_at.f
  by_cases h : 0 ≤ a <;> simp [h]
theorem isLetter_eq (a : Int) : impl_isLetter.f a = some (decide (97 ≤ a ∧ a ≤ 122)) := by
  unfold impl_isLetter.f
  by_cases h : 97 ≤ a <;> simp [h]
theorem eqIntS_ev (l : List Int) (hl : l.length < 4611686018427387904) : Ev (fun k => laws_eqIntS.f k l l) true := by
  unfold laws_eqIntS.f
  rw [ev_ite_iff, if_pos rfl]
  refine ev_as (loop_all (fun k i => laws_eqIntS.l0 k l l i) l (fun _ => true) ?_ (fun i hi hp r hr => ?_) (fun i hi hp => by cases hp)) (by simp)
  · rw [← ev_succ_iff]; simp [laws_eqIntS.l0, ev_some]
  · rw [← ev_succ_iff]
    simp only [laws_eqIntS.l0, w_succ (i := i) (by omega)]
    simp [ev_ite_iff, hi]
    exact hr
theorem toIntS_ev (l : List Int) (hl : l.length ≤ 17592186044416) : Ev (fun k => laws_toIntS.f k l) l := by
  unfold laws_toIntS.f
  rw [ev_ite_iff, if_pos (by omega), ev_ite_iff, if_pos (by omega)]
  refine ev_as (loop_fill (fun k s i => laws_toIntS.l0 k l s i) l id 0 (fun s hs => ?_) (fun i hi s hs r hr => ?_)) (by simp)
  · rw [← ev_succ_iff]
    simp [laws_toIntS.l0, ev_some]
  · rw [← ev_succ_iff]
    simp only [laws_toIntS.l0, rd_nat l i hi, w_succ (i := i) (by omega)]
    simp [ev_ite_iff, hi, hs]
    exact hr
def letterB (c : Int) : Bool := decide (97 ≤ c ∧ c ≤ 122)
def isWordB (s : ByteArray) : Bool := decide (1 ≤ s.size ∧ s.size ≤ 8) && (bytesOf s).all letterB
theorem isWordB_size {s : ByteArray} (h : isWordB s = true) : 1 ≤ s.size ∧ s.size ≤ 8 := by
  simp [isWordB] at h
  exact h.1
theorem isWordB_letter {s : ByteArray} (h : isWordB s = true) : ∀ c ∈ bytesOf s, 97 ≤ c ∧ c ≤ 122 := by
  simp [isWordB, letterB] at h
  exact h.2
theorem spec_IsWord_ev (s : ByteArray) : Ev (fun k => spec_IsWord.f k s) (isWordB s) := by
  simp only [spec_IsWord.f, l1In_eq, Option.bind_some, ev_ite_iff, decide_eq_true_eq, isWordB]
  by_cases h : (1 : Int) ≤ s.size ∧ (s.size : Int) ≤ 8
  · rw [if_pos h]
    have h' : 1 ≤ s.size ∧ s.size ≤ 8 := by omega
    simp only [h', decide_true, Bool.true_and, and_self]
    refine loop_all (fun k i => spec_IsWord.l0 k s i) (bytesOf s) letterB ?_ (fun i hi hp r hr => ?_) (fun i hi hp => ?_)
    · rw [← ev_succ_iff]; simp [spec_IsWord.l0, bytesOf_length, ev_some]
    · have hi' : i < s.size := by rw [bytesOf_length] at hi; exact hi
      rw [← ev_succ_iff]
      simp [letterB] at hp
      simp only [spec_IsWord.l0, bt_nat s i hi', w_succ (i := i) (by omega)]
      rw [ev_ite_iff, if_pos (by omega), ev_ite_iff, if_pos (by omega), ev_ite_iff, if_neg (by omega), ev_ite_iff, if_neg (by omega)]
      exact hr
    · have hi' : i < s.size := by rw [bytesOf_length] at hi; exact hi
      rw [← ev_succ_iff]
      simp [letterB] at hp
      simp only [spec_IsWord.l0, bt_nat s i hi', w_succ (i := i) (by omega)]
      rw [ev_ite_iff, if_pos (by omega), ev_ite_iff, if_pos (by omega), ev_ite_iff]
      by_cases h1 : (bytesOf s)[i] < 97
      · rw [if_pos h1]; exact ev_some _
      · rw [if_neg h1, ev_ite_iff, if_pos (by omega)]; exact ev_some _
  · rw [if_neg h]
    have h' : ¬ (1 ≤ s.size ∧ s.size ≤ 8) := by omega
    simp [h', ev_some]
theorem impl_IsWord_ev (s : ByteArray) : Ev (fun k => impl_IsWord.f k s) (isWordB s) := by
  simp only [impl_IsWord.f, InRange_eq, Option.bind_some, ev_ite_iff, decide_eq_true_eq, isWordB]
  by_cases h : (1 : Int) ≤ s.size ∧ (s.size : Int) ≤ 8
  · rw [if_pos h]
    have h' : 1 ≤ s.size ∧ s.size ≤ 8 := by omega
    simp only [h', decide_true, Bool.true_and, and_self]
    refine loop_all (fun k i => impl_IsWord.l0 k s (s.size : Int) i) (bytesOf s) letterB ?_ (fun i hi hp r hr => ?_) (fun i hi hp => ?_)
    · rw [← ev_succ_iff]; simp [impl_IsWord.l0, bytesOf_length, ev_some]
    · have hi' : i < s.size := by rw [bytesOf_length] at hi; exact hi
      rw [← ev_succ_iff]
      simp [letterB] at hp
      simp only [impl_IsWord.l0, bt_nat s i hi', w_succ (i := i) (by omega), isLetter_eq, Option.bind_some]
      rw [ev_ite_iff, if_pos (by omega), ev_ite_iff, if_pos (by omega), ev_ite_iff, if_pos (by omega), ev_ite_iff, if_pos (by simpa using hp)]
      exact hr
    · have hi' : i < s.size := by rw [bytesOf_length] at hi; exact hi
      rw [← ev_succ_iff]
      simp only [letterB] at hp
      simp only [impl_IsWord.l0, bt_nat s i hi', w_succ (i := i) (by omega), isLetter_eq, Option.bind_some]
      rw [ev_ite_iff, if_pos (by omega), ev_ite_iff, if_pos (by omega), ev_ite_iff, if_pos (by omega), ev_ite_iff, if_neg (by rw [hp]; decide)]
      exact ev_some _
  · rw [if_neg h]
    have h' : ¬ (1 ≤ s.size ∧ s.size ≤ 8) := by omega
    simp [h', ev_some]
theorem wrap_byte {c : Int} (h : 0 ≤ c ∧ c ≤ 255) : wrap64 c = c := w_in (by omega) (by omega)
theorem flat_one {α : Type} (l : List α) : l.flatMap (fun c => [c]) = l := by induction l <;> simp_all
theorem flat_take {α : Type} (l : List α) (i : Nat) : ((l.take i).flatMap (fun c => [c])).length ≤ i := by rw [flat_one, List.length_take]; omega
theorem spec_LettersOf_ev (s : ByteArray) (hs : s.size ≤ 17592186044416) : Ev (fun k => spec_LettersOf.f k s) (bytesOf s) := by
  refine ev_as (loop_collect (fun k x i => spec_LettersOf.l0 k s x i) (bytesOf s) (fun c => [c]) 0 (fun x => ?_) (fun i hi x hx r hr => ?_)) (flat_one _)
  · rw [← ev_succ_iff]; simp [spec_LettersOf.l0, bytesOf_length, ev_some]
  · have hi' : i < s.size := by rw [bytesOf_length] at hi; exact hi
    have hx' := flat_take (bytesOf s) i
    have hw := wrap_byte (bytes_range s _ (List.getElem_mem hi))
    rw [← ev_succ_iff]
    simp only [spec_LettersOf.l0, bt_nat s i hi', w_succ (i := i) (by omega), hw]
    rw [ev_ite_iff, if_pos (by omega), ev_ite_iff, if_pos (by omega), ev_ite_iff, if_pos (by omega)]
    exact hr
theorem impl_LettersOf_ev (s : ByteArray) (hs : s.size ≤ 17592186044416) : Ev (fun k => impl_LettersOf.f k s) (bytesOf s) := by
  refine ev_as (loop_collect (fun k x i => impl_LettersOf.l0 k s x (s.size : Int) i) (bytesOf s) (fun c => [c]) 0 (fun x => ?_) (fun i hi x hx r hr => ?_)) (flat_one _)
  · rw [← ev_succ_iff]; simp [impl_LettersOf.l0, bytesOf_length, ev_some]
  · have hi' : i < s.size := by rw [bytesOf_length] at hi; exact hi
    have hx' := flat_take (bytesOf s) i
    have hw := wrap_byte (bytes_range s _ (List.getElem_mem hi))
    rw [← ev_succ_iff]
    simp only [impl_LettersOf.l0, bt_nat s i hi', w_succ (i := i) (by omega), hw]
    rw [ev_ite_iff, if_pos (by omega), ev_ite_iff, if_pos (by omega), ev_ite_iff, if_pos (by omega), ev_ite_iff, if_pos (by omega)]
    exact hr
def mdP (a : Int) : Int := Int.tmod (wrap64 ((Int.tmod a 2147483647) + 2147483647)) 2147483647
def hstep (d v : Int) : Int := Int.tmod (wrap64 ((wrap64 ((wrap64 (d * 1000003)) + mdP v)) + 13)) 2147483647
def hashL (l : List Int) : Int := l.foldl hstep 11
theorem spec_Mod_eq (a : Int) : spec_Mod.f a 2147483647 = some (mdP a) := by
  simp [spec_Mod.f, l1In_eq, mdP]
theorem foldl_drop {α β : Type} (f : β → α → β) (l : List α) (i : Nat) (h : i < l.length) (s : β) : (l.drop i).foldl f s = (l.drop (i + 1)).foldl f (f s l[i]) := by
  rw [List.drop_eq_getElem_cons h]; rfl
theorem spec_Hash_ev (l : List Int) (hl : l.length < 4611686018427387904) : Ev (fun k => spec_Hash.f k l) (hashL l) := by
  have := loop_up (fun k s i => spec_Hash.l0 k l s i) l.length (fun _ _ => True) (fun i s => (l.drop i).foldl hstep s) (fun s _ => ?_) (fun i s hi _ => .inr ⟨hstep s l[i], trivial, foldl_drop _ _ _ hi _, fun r hr => ?_⟩) 0 11 (Nat.zero_le _) trivial
  · simpa [spec_Hash.f, hashL] using this
  · rw [← ev_succ_iff]; simp [spec_Hash.l0, ev_some]
  · rw [← ev_succ_iff]
    simp only [spec_Hash.l0, rd_nat l i hi, spec_Mod_eq, Option.bind_some, w_succ (i := i) (by omega)]
    rw [ev_ite_iff, if_pos (by omega), ev_ite_iff, if_pos (by omega)]
    exact hr
theorem impl_Mod_eq (a : Int) : impl_Mod.f a 2147483647 = some (mdP a) := by
  simp [impl_Mod.f, InRange_eq, mdP]
theorem impl_Hash_ev (l : List Int) (hl : l.length < 4611686018427387904) : Ev (fun k => impl_Hash.f k l) (hashL l) := by
  have := loop_up (fun k s i => impl_Hash.l0 k s l (l.length : Int) i) l.length (fun _ _ => True) (fun i s => (l.drop i).foldl hstep s) (fun s _ => ?_) (fun i s hi _ => .inr ⟨hstep s l[i], trivial, foldl_drop _ _ _ hi _, fun r hr => ?_⟩) 0 11 (Nat.zero_le _) trivial
  · simpa [impl_Hash.f, hashL] using this
  · rw [← ev_succ_iff]; simp [impl_Hash.l0, ev_some]
  · rw [← ev_succ_iff]
    simp only [impl_Hash.l0, rd_nat l i hi, impl_Mod_eq, Option.bind_some, w_succ (i := i) (by omega)]
    rw [ev_ite_iff, if_pos (by omega), ev_ite_iff, if_pos (by omega), ev_ite_iff, if_pos (by omega)]
    exact hr
def sealB (salt slot : Int) (w : ByteArray) : Int := if isWordB w = true then hashL ([salt, slot, (w.size : Int)] ++ bytesOf w) else 0
theorem spec_SealAnswer_ev (a b : Int) (w : ByteArray) : Ev (fun k => spec_SealAnswer.f k a b w) (sealB a b w) := by
  unfold spec_SealAnswer.f
  rw [ev_bind_iff (spec_IsWord_ev w), ev_ite_iff]
  unfold sealB
  split
  · rename_i h
    have hs := isWordB_size h
    have hl := bytesOf_length w
    simp only [Option.bind_some]
    rw [ev_bind_iff (spec_LettersOf_ev w (by omega)), ev_ite_iff, if_pos (by simp; omega)]
    rw [ev_bind_iff (spec_Hash_ev _ (by simp; omega))]
    exact ev_some _
  · exact ev_some _
theorem impl_SealAnswer_ev (a b : Int) (w : ByteArray) : Ev (fun k => impl_SealAnswer.f k a b w) (sealB a b w) := by
  unfold impl_SealAnswer.f
  rw [ev_bind_iff (impl_IsWord_ev w), ev_ite_iff]
  unfold sealB
  split
  · rename_i h
    have hs := isWordB_size h
    have hl := bytesOf_length w
    simp only [Option.bind_some]
    rw [ev_bind_iff (impl_LettersOf_ev w (by omega)), ev_ite_iff, if_pos (by simp; omega)]
    rw [ev_bind_iff (impl_Hash_ev _ (by simp; omega))]
    exact ev_some _
  · exact ev_some _
def checksB (l : List Int) (salt slot : Int) (w : ByteArray) : Bool := decide (0 ≤ slot ∧ slot < l.length) && (isWordB w && (sealB salt slot w == rd l slot))
theorem spec_ChecksAnswer_ev (l : List Int) (hl : l.length < 4611686018427387904) (a b : Int) (w : ByteArray) : Ev (fun k => spec_ChecksAnswer.f k l a b w) (checksB l a b w) := by
  have e : wrap64 ((l.length : Int) - 1) = l.length - 1 := w_in (by omega) (by omega)
  simp only [spec_ChecksAnswer.f, l1In_eq, Option.bind_some, e, ev_ite_iff, decide_eq_true_eq, checksB]
  by_cases h : 0 ≤ b ∧ b ≤ (l.length : Int) - 1
  · have h' : 0 ≤ b ∧ b < (l.length : Int) := by omega
    rw [if_pos h, ev_bind_iff (spec_IsWord_ev w), ev_ite_iff]
    simp only [h', and_self, decide_true, Bool.true_and]
    cases hw : isWordB w
    · simp [ev_some]
    · simp only [if_true, Bool.true_and]
      rw [ev_bind_iff (spec_SealAnswer_ev a b w)]
      exact ev_some _
  · have h' : ¬ (0 ≤ b ∧ b < (l.length : Int)) := by omega
    rw [if_neg h]
    simp [h', ev_some]
theorem impl_ChecksAnswer_ev (l : List Int) (hl : l.length < 4611686018427387904) (a b : Int) (w : ByteArray) : Ev (fun k => impl_ChecksAnswer.f k l a b w) (checksB l a b w) := by
  simp only [impl_ChecksAnswer.f, at_eq, Option.bind_some, ev_ite_iff, decide_eq_true_eq, checksB]
  by_cases h' : 0 ≤ b ∧ b < (l.length : Int)
  · rw [if_pos h', ev_bind_iff (impl_IsWord_ev w), ev_ite_iff]
    simp only [h', and_self, decide_true, Bool.true_and]
    cases hw : isWordB w
    · simp [ev_some]
    · simp only [if_true, Bool.true_and]
      rw [ev_bind_iff (impl_SealAnswer_ev a b w)]
      exact ev_some _
  · rw [if_neg h']
    simp [h', ev_some]
theorem szStepS_ev (l : List S186) (hl : l.length < 4611686018427387904) (hs : ∀ x ∈ l, x.f1.size ≤ 140737488351232) (a : Int) (ha : 0 ≤ a) (ha' : a ≤ 1048576) : ∃ r, Ev (fun k => laws_szStepS.f k l a) r ∧ r ≤ 1048576 := by
  unfold laws_szStepS.f
  have w1 : wrap64 (a - (l.length : Int)) = a - l.length := w_in (by omega) (by omega)
  simp only [ev_ite_iff, ev_some_iff, w1]
  by_cases h : a - (l.length : Int) < 0
  · exact ⟨-1, by simp [h]⟩
  · simp only [h, if_false]
    refine loop_size (fun k b i => laws_szStepS.l0 k l b i) l 1048576 (fun b => ?_) (fun i hi b hb hb' => ?_) _ (by omega) (by omega)
    · rw [← ev_succ_iff]
      simp only [laws_szStepS.l0]
      rw [ev_ite_iff, if_neg (by omega)]
      exact ev_some _
    · have hsz := hs _ (List.getElem_mem hi)
      have w3 : wrap64 (b - (l[i].f1.size : Int)) = b - l[i].f1.size := w_in (by omega) (by omega)
      by_cases h2 : b - (l[i].f1.size : Int) < 0
      · refine .inl ?_
        rw [← ev_succ_iff]
        simp only [laws_szStepS.l0, laws_szStep.f, rdt_186 l i hi, w_succ (i := i) (by omega), w3, if_pos h2, Option.bind_some]
        simp [ev_ite_iff, ev_some_iff, hi]
      · refine .inr ⟨b - l[i].f1.size, by omega, by omega, fun r hr => ?_⟩
        rw [← ev_succ_iff]
        simp only [laws_szStepS.l0, laws_szStep.f, rdt_186 l i hi, w_succ (i := i) (by omega), w3, if_neg h2, Option.bind_some]
        rw [ev_ite_iff, if_pos (by omega), ev_ite_iff, if_pos (by omega)]
        exact hr
def toStep (x : S186) : S110 := ⟨x.f0, x.f1, x.f2, x.f3⟩
theorem toStepS_ev (l : List S186) (hl : l.length ≤ 3518437208883) : Ev (fun k => laws_toStepS.f k l) (l.map toStep) := by
  unfold laws_toStepS.f
  rw [ev_ite_iff, if_pos (by omega), ev_ite_iff, if_pos (by omega)]
  refine loop_fill (fun k s i => laws_toStepS.l0 k l s i) l toStep z110 (fun s hs => ?_) (fun i hi s hs r hr => ?_)
  · rw [← ev_succ_iff]
    simp [laws_toStepS.l0, ev_some]
  · rw [← ev_succ_iff]
    simp only [laws_toStepS.l0, laws_toStep.f, rdt_186 l i hi, w_succ (i := i) (by omega), Option.bind_some]
    simp [ev_ite_iff, hi, hs]
    exact hr
theorem eqStepS_ev (l : List S110) (hl : l.length < 4611686018427387904) : Ev (fun k => laws_eqStepS.f k l l) true := by
  unfold laws_eqStepS.f
  rw [ev_ite_iff, if_pos rfl]
  refine ev_as (loop_all (fun k i => laws_eqStepS.l0 k l l i) l (fun _ => true) ?_ (fun i hi hp r hr => ?_) (fun i hi hp => by cases hp)) (by simp)
  · rw [← ev_succ_iff]; simp [laws_eqStepS.l0, ev_some]
  · rw [← ev_succ_iff]
    simp only [laws_eqStepS.l0, laws_eqStep.f, w_succ (i := i) (by omega)]
    simp [ev_ite_iff, hi]
    exact hr
theorem szClue_ev (a0 : Int) (l : List S186) (hl : l.length < 4611686018427387904) (hs : ∀ x ∈ l, x.f1.size ≤ 140737488351232) (a : Int) (ha : 0 ≤ a) (ha' : a ≤ 1048576) : ∃ r, Ev (fun k => laws_szClue.f k a0 l a) r ∧ r ≤ 1048576 := by
  obtain ⟨r, hr, hb⟩ := szStepS_ev l hl hs a ha ha'
  unfold laws_szClue.f
  by_cases h : r < 0
  · exact ⟨-1, by rw [ev_bind_iff hr, ev_ite_iff, if_pos h]; exact ev_some _, by omega⟩
  · exact ⟨r, by rw [ev_bind_iff hr, ev_ite_iff, if_neg h]; exact ev_some _, hb⟩
theorem toClue_ev (a0 : Int) (l : List S186) (hl : l.length ≤ 3518437208883) : Ev (fun k => laws_toClue.f k a0 l) (a0, l.map toStep) := by
  unfold laws_toClue.f
  rw [ev_bind_iff (toStepS_ev l hl)]
  exact ev_some _
theorem eqClue_ev (a0 : Int) (l : List S110) (hl : l.length < 4611686018427387904) : Ev (fun k => laws_eqClue.f k a0 l a0 l) true := by
  unfold laws_eqClue.f
  rw [ev_ite_iff, if_pos rfl, ev_bind_iff (eqStepS_ev l hl), ev_ite_iff, if_pos rfl]
  exact ev_some _
def okTail (l : List S110) (i : Nat) (two : Bool) (kind A B : Int) : Bool :=
  if kind = 1 then decide (A = 0 ∧ B = 0) else decide (0 ≤ A ∧ A < i) && (if two = true then decide (0 ≤ B ∧ B < i) else decide (B = 0) && (decide (kind = 2) || decide ((rd_T110 l A).f0 = 1)))
def okStep (l : List S110) (i : Nat) : Bool :=
  decide (1 ≤ (rd_T110 l i).f0 ∧ (rd_T110 l i).f0 ≤ 9) && ((if (rd_T110 l i).f0 = 1 then isWordB (rd_T110 l i).f1 else decide ((rd_T110 l i).f1.size = 0)) && okTail l i (decide ((rd_T110 l i).f0 = 4 ∨ (rd_T110 l i).f0 = 5)) (rd_T110 l i).f0 (rd_T110 l i).f2 (rd_T110 l i).f3)
theorem l15Ok_j1 (l : List S110) (i : Nat) (hi : i < l.length) (hl : l.length < 4611686018427387904) (two : Bool) (kind : Int) (word : ByteArray) (A B : Int) : Ev (fun k => spec_l15Ok.j1 k l (i : Int) two kind word A B) (okTail l i two kind A B) := by
  have e : wrap64 ((i : Int) - 1) = i - 1 := w_in (by omega) (by omega)
  rw [← ev_succ_iff]
  simp only [spec_l15Ok.j1, l1In_eq, Option.bind_some, e, okTail, ev_ite_iff]
  by_cases h1 : kind = 1
  · by_cases h2 : A = 0 <;> simp [h1, h2, ev_some_iff] <;> rfl
  · rw [if_neg h1, if_neg h1]
    by_cases h2 : 0 ≤ A ∧ A < (i : Int)
    · have h2' : 0 ≤ A ∧ A ≤ (i : Int) - 1 := by omega
      simp only [h2, h2', and_self, decide_true, if_true, Bool.true_and]
      cases two
      · simp only [Bool.false_eq_true, if_false]
        by_cases h3 : B = 0
        · by_cases h4 : kind = 2
          · simp [h3, h4, ev_some_iff]
          · simp only [h3, h4, if_true, if_false, decide_true, decide_false, Bool.true_and, Bool.false_or]
            rw [if_pos (by omega), ev_some_iff]
            rfl
        · simp [h3, ev_some_iff]
      · simp only [if_true]
        by_cases h3 : 0 ≤ B ∧ B < (i : Int)
        · have h3' : 0 ≤ B ∧ B ≤ (i : Int) - 1 := by omega
          simp [h3, h3', ev_some_iff]
        · have h3' : ¬ (0 ≤ B ∧ B ≤ (i : Int) - 1) := by omega
          simp [h3, h3', ev_some_iff]
    · have h2' : ¬ (0 ≤ A ∧ A ≤ (i : Int) - 1) := by omega
      simp [h2, h2', ev_some_iff]
theorem l15Ok_j0 (l : List S110) (i : Nat) (hi : i < l.length) (hl : l.length < 4611686018427387904) (b : Bool) (kind : Int) (word : ByteArray) (A B : Int) : Ev (fun k => spec_l15Ok.j0 k l (i : Int) b kind word A B) (!b && okTail l i (decide (kind = 4 ∨ kind = 5)) kind A B) := by
  rw [← ev_succ_iff]
  simp only [spec_l15Ok.j0, ev_ite_iff]
  cases b
  · simp only [Bool.false_eq_true, if_false, Bool.not_false, Bool.true_and]
    by_cases h : kind = 4
    · simp only [h, if_true, true_or, decide_true]
      exact l15Ok_j1 l i hi hl _ _ _ _ _
    · simp only [h, if_false, false_or]
      have := l15Ok_j1 l i hi hl (kind == 5) kind word A B
      exact this
  · simp [ev_some_iff]
theorem spec_l15Ok_ev (l : List S110) (i : Nat) (hi : i < l.length) (hl : l.length < 4611686018427387904) : Ev (fun k => spec_l15Ok.f k l (i : Int)) (okStep l i) := by
  unfold spec_l15Ok.f
  rw [ev_ite_iff, if_pos (by omega), ev_ite_iff, if_pos (by omega)]
  simp only [l1In_eq, Option.bind_some, decide_eq_true_eq]
  unfold okStep
  generalize rd_T110 l (i : Int) = s
  rw [ev_ite_iff]
  by_cases h1 : 1 ≤ s.f0 ∧ s.f0 ≤ 9
  · rw [if_pos h1, ev_bind_iff (spec_IsWord_ev s.f1), ev_ite_iff]
    simp only [h1, and_self, decide_true, Bool.true_and]
    by_cases h2 : s.f0 = 1
    · simp only [h2, beq_self_eq_true, if_true, ev_ite_iff]
      cases hw : isWordB s.f1
      · simp only [Bool.true_bne, Bool.not_false, if_true]
        exact ev_as (l15Ok_j0 l i hi hl _ _ _ _ _) (by simp)
      · simp only [Bool.true_bne, Bool.not_true, Bool.false_eq_true, if_false]
        exact ev_as (l15Ok_j0 l i hi hl _ _ _ _ _) (by simp)
    · have h2' : (s.f0 == 1) = false := by simpa using h2
      simp only [h2, h2', if_false, ev_ite_iff, Bool.false_bne]
      cases hw : isWordB s.f1
      · simp only [Bool.false_eq_true, if_false]
        refine ev_as (l15Ok_j0 l i hi hl _ _ _ _ _) ?_
        congr 1
        rw [Bool.eq_iff_iff]
        simp [bne, toList_nil]
      · have hz : ¬ s.f1.size = 0 := by have := isWordB_size hw; omega
        simp only [if_true]
        exact ev_as (l15Ok_j0 l i hi hl _ _ _ _ _) (by simp [hz])
  · rw [if_neg h1]
    simp only [h1, decide_false, Bool.false_and]
    exact ev_as (l15Ok_j0 l i hi hl _ _ _ _ _) (by simp)
def isPlayB (l : List S110) : Bool := decide (1 ≤ l.length ∧ l.length ≤ 9) && (List.range l.length).all (okStep l)
theorem isPlayB_len {l : List S110} (h : isPlayB l = true) : 1 ≤ l.length ∧ l.length ≤ 9 := by
  simp [isPlayB] at h
  exact h.1
theorem isPlayB_step {l : List S110} (h : isPlayB l = true) (i : Nat) (hi : i < l.length) : okStep l i = true := by
  simp [isPlayB] at h
  exact h.2 i hi
theorem spec_IsPlay_ev (l : List S110) (hl : l.length < 4611686018427387904) : Ev (fun k => spec_IsPlay.f k l) (isPlayB l) := by
  unfold spec_IsPlay.f
  have hend : ∀ i : Nat, Ev (fun k => spec_IsPlay.j1 k l (i : Int) false) (decide (1 ≤ l.length ∧ l.length ≤ 9)) := by
    intro i
    rw [← ev_succ_iff]
    simp only [spec_IsPlay.j1, l1In_eq, Option.bind_some, Bool.false_eq_true, if_false, ev_some_iff]
    rw [Bool.eq_iff_iff]
    simp
    omega
  have := loop_up0 (fun k i => spec_IsPlay.l0 k l i) l.length (fun i => decide (1 ≤ l.length ∧ l.length ≤ 9) && ((List.range l.length).drop i).all (okStep l)) ?_ (fun i hi => ?_) 0 (Nat.zero_le _)
  · simpa [isPlayB] using this
  · rw [← ev_succ_iff]
    simp only [spec_IsPlay.l0]
    rw [ev_ite_iff, if_neg (by omega), List.drop_eq_nil_of_le (by simp)]
    simpa using hend l.length
  · have hd : (List.range l.length).drop i = i :: (List.range l.length).drop (i + 1) := by rw [List.drop_eq_getElem_cons (by simpa using hi)]; simp
    by_cases h9 : l.length ≤ 9
    · have hu : ∀ r, Ev (fun k => spec_IsPlay.l0 k l (i : Int)) r ↔ if okStep l i = true then Ev (fun k => spec_IsPlay.l0 k l ((i + 1 : Nat) : Int)) r else Ev (fun _ => some false) r := by
        intro r
        have h9' : decide ((l.length : Int) ≤ 9) = true := by simp; omega
        rw [← ev_succ_iff]
        simp only [spec_IsPlay.l0, h9']
        rw [ev_ite_iff, if_pos (by omega), ← ev_succ_iff]
        simp only [spec_IsPlay.j1, if_true, w_succ (i := i) (by omega)]
        rw [ev_bind_iff (spec_l15Ok_ev l i hi hl), ev_ite_iff]
      rw [hd, List.all_cons]
      by_cases ho : okStep l i = true
      · refine .inr ⟨by simp [ho], fun r hr => ?_⟩
        rw [hu, if_pos ho]
        exact hr
      · refine .inl ?_
        rw [hu, if_neg ho, ev_some_iff]
        simp [ho]
    · refine .inl ?_
      have h9' : decide ((l.length : Int) ≤ 9) = false := by simp; omega
      rw [← ev_succ_iff]
      simp only [spec_IsPlay.l0, h9']
      rw [ev_ite_iff, if_pos (by omega)]
      exact ev_as (hend i) (by simp [h9])
theorem isPair_eq (a : Int) : impl_isPair.f a = some (decide (a = 4 ∨ a = 5)) := by
  unfold impl_isPair.f
  by_cases h : a = 4
  · simp [h]
  · simp [h]; rfl
theorem needsWord_eq (a : Int) : impl_needsWord.f a = some (decide (a = 3 ∨ a ≥ 6)) := by
  unfold impl_needsWord.f
  by_cases h : a = 3 <;> simp [h]
theorem impl_IsPlay_j1 (l : List S110) (i : Nat) (hi : i < l.length) (hl : l.length < 4611686018427387904) (b : Bool) (kind : Int) (word : ByteArray) (A B : Int) (r : Bool) :
    Ev (fun k => impl_IsPlay.j1 k l (i : Int) l (l.length : Int) (i : Int) b kind word A B) r ↔ if (!b && (if kind = 4 ∨ kind = 5 then decide (0 ≤ B ∧ B < i) else decide (B = 0))) = true then Ev (fun k => impl_IsPlay.l0 k l l (l.length : Int) ((i + 1 : Nat) : Int)) r else Ev (fun _ => some false) r := by
  rw [← ev_succ_iff]
  simp only [impl_IsPlay.j1, isPair_eq, at_eq, Option.bind_some, w_succ (i := i) (by omega), ev_ite_iff, decide_eq_true_eq]
  cases b
  · by_cases h : kind = 4 ∨ kind = 5
    · by_cases h2 : 0 ≤ B ∧ B < (i : Int) <;> simp [h, h2]
    · by_cases h2 : B = 0 <;> simp [h, h2]
  · simp
theorem okStep_impl (l : List S110) (i : Nat) : okStep l i = (decide (1 ≤ (rd_T110 l i).f0 ∧ (rd_T110 l i).f0 ≤ 9) && (if (rd_T110 l i).f0 = 1 then isWordB (rd_T110 l i).f1 && decide ((rd_T110 l i).f2 = 0 ∧ (rd_T110 l i).f3 = 0)
    else decide ((rd_T110 l i).f1.size = 0) && (decide (0 ≤ (rd_T110 l i).f2 ∧ (rd_T110 l i).f2 < i) && (!(decide ((rd_T110 l i).f0 = 3 ∨ (rd_T110 l i).f0 ≥ 6) && decide (¬ (rd_T110 l (rd_T110 l i).f2).f0 = 1)) && (if (rd_T110 l i).f0 = 4 ∨ (rd_T110 l i).f0 = 5 then decide (0 ≤ (rd_T110 l i).f3 ∧ (rd_T110 l i).f3 < i) else decide ((rd_T110 l i).f3 = 0)))))) := by
  unfold okStep okTail
  generalize rd_T110 l (i : Int) = s
  generalize (rd_T110 l s.f2).f0 = a
  by_cases h1 : 1 ≤ s.f0 ∧ s.f0 ≤ 9
  · by_cases h2 : s.f0 = 1
    · simp [h2]
    · simp only [h1, h2, and_self, decide_true, Bool.true_and, if_false]
      by_cases h3 : s.f0 = 4 ∨ s.f0 = 5
      · have h4 : ¬ (s.f0 = 3 ∨ s.f0 ≥ 6) := by omega
        simp [h3, h4]
      · simp only [h3, decide_false, Bool.false_eq_true, if_false]
        by_cases h4 : s.f0 = 2
        · have h5 : ¬ (s.f0 = 3 ∨ s.f0 ≥ 6) := by omega
          simp [h4]
        · have h5 : s.f0 = 3 ∨ s.f0 ≥ 6 := by omega
          by_cases h6 : a = 1 <;> simp [h4, h5, h6]
  · simp [h1]
theorem impl_IsPlay_ev (l : List S110) (hl : l.length < 4611686018427387904) : Ev (fun k => impl_IsPlay.f k l) (isPlayB l) := by
  unfold impl_IsPlay.f
  simp only [InRange_eq, Option.bind_some, decide_eq_true_eq]
  unfold isPlayB
  rw [ev_ite_iff]
  by_cases hlen : 1 ≤ l.length ∧ l.length ≤ 9
  · rw [if_pos (by omega)]
    simp only [hlen, and_self, decide_true, Bool.true_and]
    have := loop_up0 (fun k i => impl_IsPlay.l0 k l l (l.length : Int) i) l.length (fun i => ((List.range l.length).drop i).all (okStep l)) ?_ (fun i hi => ?_) 0 (Nat.zero_le _)
    · simpa using this
    · rw [← ev_succ_iff]
      simp only [impl_IsPlay.l0]
      rw [ev_ite_iff, if_neg (by omega), ev_some_iff, List.drop_eq_nil_of_le (by simp)]
      simp
    · have hd : (List.range l.length).drop i = i :: (List.range l.length).drop (i + 1) := by rw [List.drop_eq_getElem_cons (by simpa using hi)]; simp
      have hu : ∀ r, Ev (fun k => impl_IsPlay.l0 k l l (l.length : Int) (i : Int)) r ↔ if okStep l i = true then Ev (fun k => impl_IsPlay.l0 k l l (l.length : Int) ((i + 1 : Nat) : Int)) r else Ev (fun _ => some false) r := by
        intro r
        rw [← ev_succ_iff]
        simp only [impl_IsPlay.l0, w_succ (i := i) (by omega), InRange_eq, needsWord_eq, at_eq, Option.bind_some, okStep_impl]
        generalize rd_T110 l (i : Int) = s
        simp only [ev_ite_iff, decide_eq_true_eq, ev_bind_iff (impl_IsWord_ev s.f1), impl_IsPlay_j1 l i hi hl, toList_nil]
        rw [if_pos (by omega), if_pos (by omega), if_pos (by omega)]
        by_cases h1 : 1 ≤ s.f0 ∧ s.f0 ≤ 9
        · by_cases h2 : s.f0 = 1
          · simp only [h2]
            cases hw : isWordB s.f1
            · simp
            · by_cases h3 : s.f2 = 0
              · by_cases h4 : s.f3 = 0 <;> simp [h3, h4]
              · simp [h3]
          · simp only [h1, h2, and_self, decide_true, Bool.true_and, if_true, if_false]
            by_cases h3 : s.f1.size = 0
            · by_cases h4 : 0 ≤ s.f2 ∧ s.f2 < (i : Int)
              · have h4' : s.f2 < (l.length : Int) := by omega
                by_cases h5 : s.f0 = 3 ∨ s.f0 ≥ 6
                · simp only [h3, h4, h4', h5, and_self, decide_true, if_true, Bool.true_and]
                  cases hb : ((rd_T110 l s.f2).f0 != 1)
                  · have hb' : (rd_T110 l s.f2).f0 = 1 := by simpa using hb
                    simp [hb']
                  · have hb' : ¬ (rd_T110 l s.f2).f0 = 1 := by simpa using hb
                    simp [hb']
                · simp [h3, h4, h5]
              · simp [h3, h4]
            · simp [h3]
        · simp [h1]
      rw [hd, List.all_cons]
      by_cases ho : okStep l i = true
      · refine .inr ⟨by simp [ho], fun r hr => ?_⟩
        rw [hu, if_pos ho]
        exact hr
      · refine .inl ?_
        rw [hu, if_neg ho, ev_some_iff]
        simp [ho]
  · rw [if_neg (by omega)]
    simp [hlen, ev_some_iff]
def isClueB (a : Int) (l : List S110) : Bool := decide (1 ≤ a ∧ a ≤ 99) && isPlayB l
theorem spec_IsClue_ev (a : Int) (l : List S110) (hl : l.length < 4611686018427387904) : Ev (fun k => spec_IsClue.f k a l) (isClueB a l) := by
  unfold spec_IsClue.f isClueB
  simp only [l1In_eq, Option.bind_some, ev_ite_iff, ev_bind_iff (spec_IsPlay_ev l hl), decide_eq_true_eq]
  by_cases h : 1 ≤ a ∧ a ≤ 99 <;> simp [h, ev_some_iff]
theorem impl_IsClue_ev (a : Int) (l : List S110) (hl : l.length < 4611686018427387904) : Ev (fun k => impl_IsClue.f k a l) (isClueB a l) := by
  unfold impl_IsClue.f isClueB
  simp only [InRange_eq, Option.bind_some, ev_ite_iff, ev_bind_iff (impl_IsPlay_ev l hl), decide_eq_true_eq]
  by_cases h : 1 ≤ a ∧ a ≤ 99 <;> simp [h, ev_some_iff]
/-- What is made step by step, each out of what was made before it. -/
def build {β : Type} (f : List β → S110 → β) : List β → List S110 → List β
  | acc, [] => acc
  | acc, s :: l => build f (acc ++ [f acc s]) l
def built {β : Type} (f : List β → S110 → β) (l : List S110) : List β := build f [] l
theorem build_append {β : Type} (f : List β → S110 → β) : ∀ (l m : List S110) (acc : List β), build f acc (l ++ m) = build f (build f acc l) m
  | [], m, acc => rfl
  | s :: l, m, acc => by simp only [List.cons_append, build]; exact build_append f l m _
theorem build_length {β : Type} (f : List β → S110 → β) : ∀ (l : List S110) (acc : List β), (build f acc l).length = acc.length + l.length
  | [], acc => by simp [build]
  | s :: l, acc => by simp only [build]; rw [build_length f l]; simp; omega
theorem built_length {β : Type} (f : List β → S110 → β) (l : List S110) : (built f l).length = l.length := by
  unfold built; rw [build_length]; simp
theorem build_mono {β : Type} (f : List β → S110 → β) : ∀ (l : List S110) (acc : List β) (j : Nat), j < acc.length → (build f acc l)[j]? = acc[j]?
  | [], acc, j, h => rfl
  | s :: l, acc, j, h => by
    simp only [build]
    rw [build_mono f l _ j (by simp; omega), List.getElem?_append_left h]
theorem built_succ {β : Type} (f : List β → S110 → β) (l : List S110) (i : Nat) (h : i < l.length) : built f (l.take (i + 1)) = built f (l.take i) ++ [f (built f (l.take i)) l[i]] := by
  rw [List.take_succ_eq_append_getElem h]
  unfold built
  rw [build_append]
  rfl
theorem built_take {β : Type} (f : List β → S110 → β) (l : List S110) (i j : Nat) (hj : j < i) (hi : i ≤ l.length) : (built f (l.take i))[j]? = (built f l)[j]? := by
  have e : built f l = build f (built f (l.take i)) (l.drop i) := by
    unfold built
    rw [← build_append, List.take_append_drop]
  rw [e, build_mono f _ _ _ (by rw [built_length, List.length_take]; omega)]
theorem built_get {β : Type} (f : List β → S110 → β) (l : List S110) (i : Nat) (h : i < l.length) : (built f l)[i]? = some (f (built f (l.take i)) l[i]) := by
  rw [← built_take f l (i + 1) i (by omega) (by omega), built_succ f l i h, List.getElem?_append_right (by rw [built_length, List.length_take]; omega)]
  rw [built_length, List.length_take, Nat.min_eq_left (by omega), Nat.sub_self]
  rfl
theorem okStep_parts {l : List S110} {i : Nat} (hi : i < l.length) (h : okStep l i = true) : (1 ≤ l[i].f0 ∧ l[i].f0 ≤ 9) ∧ (l[i].f0 = 1 → isWordB l[i].f1 = true) ∧ (¬ l[i].f0 = 1 → 0 ≤ l[i].f2 ∧ l[i].f2 < i) ∧ (l[i].f0 = 4 ∨ l[i].f0 = 5 → 0 ≤ l[i].f3 ∧ l[i].f3 < i) ∧ (¬ l[i].f0 = 1 → ¬ (l[i].f0 = 4 ∨ l[i].f0 = 5) → l[i].f3 = 0) ∧
    (l[i].f0 = 3 ∨ l[i].f0 ≥ 6 → (rd_T110 l l[i].f2).f0 = 1) ∧ (¬ l[i].f0 = 1 → l[i].f1.size = 0) ∧ (l[i].f0 = 1 → l[i].f2 = 0 ∧ l[i].f3 = 0) := by
  rw [okStep_impl, rdt_110 l i hi] at h
  simp only [Bool.and_eq_true, decide_eq_true_eq] at h
  obtain ⟨h1, h2⟩ := h
  refine ⟨h1, fun e => ?_, fun e => ?_, fun e => ?_, fun e e' => ?_, fun e => ?_, fun e => ?_, fun e => ?_⟩
  · rw [if_pos e] at h2; simp at h2; exact h2.1
  · rw [if_neg e] at h2; simp at h2; exact h2.2.1
  · have e' : ¬ l[i].f0 = 1 := by omega
    rw [if_neg e', if_pos e] at h2; simp at h2; exact h2.2.2.2
  · rw [if_neg e, if_neg e'] at h2; simp at h2; exact h2.2.2.2
  · have e' : ¬ l[i].f0 = 1 := by omega
    rw [if_neg e'] at h2; simp at h2
    have h3 := h2.2.2.1
    rcases h3 with h3 | h3
    · omega
    · exact h3
  · rw [if_neg e] at h2; simp at h2; rw [h2.1]; rfl
  · rw [if_pos e] at h2; simp at h2; exact h2.2
theorem spec_l8Has_ev (l : List Int) (x : Int) (hl : l.length < 4611686018427387904) : Ev (fun k => spec_l8Has.f k l x) (l.any (fun y => decide (y = x))) := by
  refine loop_any (fun k i => spec_l8Has.l0 k l x i) l _ ?_ (fun i hi hp r hr => ?_) (fun i hi hp => ?_)
  · rw [← ev_succ_iff]; simp [spec_l8Has.l0, ev_some]
  · rw [← ev_succ_iff]
    simp only [spec_l8Has.l0, rd_nat l i hi, w_succ (i := i) (by omega)]
    simp at hp
    simp [ev_ite_iff, hi, hp]
    exact hr
  · rw [← ev_succ_iff]
    simp only [spec_l8Has.l0, rd_nat l i hi, w_succ (i := i) (by omega)]
    simp at hp
    simp [ev_ite_iff, hi, hp, ev_some]
def cellB (c : Int) : Bool := decide (c = 35 ∨ c = 46)
def isGridB (R C : Int) (s : ByteArray) : Bool := decide ((2 ≤ R ∧ R ≤ 6) ∧ (2 ≤ C ∧ C ≤ 6) ∧ (s.size : Int) = R * C) && (bytesOf s).all cellB
theorem isGridB_parts {R C : Int} {s : ByteArray} (h : isGridB R C s = true) : (2 ≤ R ∧ R ≤ 6) ∧ (2 ≤ C ∧ C ≤ 6) ∧ (s.size : Int) = R * C ∧ ∀ c ∈ bytesOf s, c = 35 ∨ c = 46 := by
  simp [isGridB, cellB] at h
  exact ⟨h.1.1, h.1.2.1, h.1.2.2, h.2⟩
theorem side_cases {C : Int} (hC : 2 ≤ C ∧ C ≤ 6) : C = 2 ∨ C = 3 ∨ C = 4 ∨ C = 5 ∨ C = 6 := by omega
theorem grid_mul {R C : Int} (hR : 2 ≤ R ∧ R ≤ 6) (hC : 2 ≤ C ∧ C ≤ 6) : 4 ≤ R * C ∧ R * C ≤ 36 := by
  rcases side_cases hC with rfl | rfl | rfl | rfl | rfl <;> omega
theorem isGridB_size {R C : Int} {s : ByteArray} (h : isGridB R C s = true) : 4 ≤ s.size ∧ s.size ≤ 36 := by
  obtain ⟨h1, h2, h3, _⟩ := isGridB_parts h
  have := grid_mul h1 h2
  omega
theorem spec_IsGrid_l (R C : Int) (s : ByteArray) (hs : s.size < 4611686018427387904) : Ev (fun k => spec_IsGrid.l0 k 0 R C s) ((bytesOf s).all cellB) := by
  refine loop_all (fun k i => spec_IsGrid.l0 k i R C s) (bytesOf s) cellB ?_ (fun i hi hp r hr => ?_) (fun i hi hp => ?_)
  · rw [← ev_succ_iff]; simp [spec_IsGrid.l0, bytesOf_length, ev_some]
  · have hi' : i < s.size := by rw [bytesOf_length] at hi; exact hi
    rw [← ev_succ_iff]
    simp only [cellB, decide_eq_true_eq] at hp
    simp only [spec_IsGrid.l0, bt_nat s i hi', w_succ (i := i) (by omega)]
    rw [ev_ite_iff, if_pos (by omega), ev_ite_iff, if_pos (by omega), ev_ite_iff]
    by_cases h : (bytesOf s)[i] = 35
    · rw [if_pos h]; exact hr
    · rw [if_neg h, ev_ite_iff, if_pos (by omega)]; exact hr
  · have hi' : i < s.size := by rw [bytesOf_length] at hi; exact hi
    rw [← ev_succ_iff]
    simp only [cellB, decide_eq_false_iff_not] at hp
    simp only [spec_IsGrid.l0, bt_nat s i hi', w_succ (i := i) (by omega)]
    rw [ev_ite_iff, if_pos (by omega), ev_ite_iff, if_pos (by omega), ev_ite_iff, if_neg (by omega), ev_ite_iff, if_neg (by omega)]
    exact ev_some _
theorem spec_IsGrid_ev (R C : Int) (s : ByteArray) : Ev (fun k => spec_IsGrid.f k R C s) (isGridB R C s) := by
  simp only [spec_IsGrid.f, l1In_eq, Option.bind_some, ev_ite_iff, decide_eq_true_eq]
  by_cases hR : 2 ≤ R ∧ R ≤ 6
  · rw [if_pos hR]
    by_cases hC : 2 ≤ C ∧ C ≤ 6
    · rw [if_pos hC]
      have hm := grid_mul hR hC
      have e : wrap64 (R * C) = R * C := w_in (by omega) (by omega)
      rw [e, ← ev_succ_iff]
      simp only [spec_IsGrid.j0, ev_ite_iff, bne_iff_ne, ne_eq]
      by_cases hs : (s.size : Int) = R * C
      · rw [if_neg (not_not_intro hs)]
        exact ev_as (spec_IsGrid_l R C s (by omega)) (by simp [isGridB, hR, hC, hs])
      · rw [if_pos hs]
        exact ev_as (ev_some _) (by simp [isGridB, hs])
    · rw [if_neg hC, ← ev_succ_iff]
      simp only [spec_IsGrid.j0, if_true]
      exact ev_as (ev_some _) (by simp [isGridB, hC])
  · rw [if_neg hR, ← ev_succ_iff]
    simp only [spec_IsGrid.j0, if_true]
    exact ev_as (ev_some _) (by simp [isGridB, hR])
theorem impl_IsGrid_l (R C : Int) (s : ByteArray) (hs : s.size < 4611686018427387904) : Ev (fun k => impl_IsGrid.l0 k (s.size : Int) 0 R C s) ((bytesOf s).all cellB) := by
  refine loop_all (fun k i => impl_IsGrid.l0 k (s.size : Int) i R C s) (bytesOf s) cellB ?_ (fun i hi hp r hr => ?_) (fun i hi hp => ?_)
  · rw [← ev_succ_iff]; simp [impl_IsGrid.l0, bytesOf_length, ev_some]
  · have hi' : i < s.size := by rw [bytesOf_length] at hi; exact hi
    rw [← ev_succ_iff]
    simp only [cellB, decide_eq_true_eq] at hp
    simp only [impl_IsGrid.l0, bt_nat s i hi', w_succ (i := i) (by omega)]
    rw [ev_ite_iff, if_pos (by omega), ev_ite_iff, if_pos (by omega), ev_ite_iff, if_pos (by omega), ev_ite_iff]
    by_cases h : (bytesOf s)[i] = 35
    · rw [if_pos h]; exact hr
    · rw [if_neg h, ev_ite_iff, if_pos (by omega)]; exact hr
  · have hi' : i < s.size := by rw [bytesOf_length] at hi; exact hi
    rw [← ev_succ_iff]
    simp only [cellB, decide_eq_false_iff_not] at hp
    simp only [impl_IsGrid.l0, bt_nat s i hi', w_succ (i := i) (by omega)]
    rw [ev_ite_iff, if_pos (by omega), ev_ite_iff, if_pos (by omega), ev_ite_iff, if_pos (by omega), ev_ite_iff, if_neg (by omega), ev_ite_iff, if_neg (by omega)]
    exact ev_some _
theorem impl_IsGrid_ev (R C : Int) (s : ByteArray) : Ev (fun k => impl_IsGrid.f k R C s) (isGridB R C s) := by
  simp only [impl_IsGrid.f, InRange_eq, Option.bind_some, ev_ite_iff, decide_eq_true_eq]
  by_cases hR : 2 ≤ R ∧ R ≤ 6
  · rw [if_pos hR]
    by_cases hC : 2 ≤ C ∧ C ≤ 6
    · rw [if_pos hC]
      have hm := grid_mul hR hC
      have e : wrap64 (R * C) = R * C := w_in (by omega) (by omega)
      rw [e, ← ev_succ_iff]
      simp only [impl_IsGrid.j0, ev_ite_iff, bne_iff_ne, ne_eq]
      by_cases hs : (s.size : Int) = R * C
      · rw [if_neg (not_not_intro hs)]
        exact ev_as (impl_IsGrid_l R C s (by omega)) (by simp [isGridB, hR, hC, hs])
      · rw [if_pos hs]
        exact ev_as (ev_some _) (by simp [isGridB, hs])
    · rw [if_neg hC, ← ev_succ_iff]
      simp only [impl_IsGrid.j0, if_true]
      exact ev_as (ev_some _) (by simp [isGridB, hC])
  · rw [if_neg hR, ← ev_succ_iff]
    simp only [impl_IsGrid.j0, if_true]
    exact ev_as (ev_some _) (by simp [isGridB, hR])
theorem mul_small {j st : Int} (hj : 0 ≤ j ∧ j ≤ 6) (hs : 1 ≤ st ∧ st ≤ 6) : 0 ≤ j * st ∧ j * st ≤ 36 := by
  have : st = 1 ∨ st = 2 ∨ st = 3 ∨ st = 4 ∨ st = 5 ∨ st = 6 := by omega
  rcases this with rfl | rfl | rfl | rfl | rfl | rfl <;> omega
theorem l8_loop (R C : Int) (s : ByteArray) (i st p n : Int) (hp : 0 ≤ p ∧ p ≤ 36) (hn : n ≤ 6) (hi : 0 ≤ i ∧ i ≤ 36) (hst : 1 ≤ st ∧ st ≤ 6) (hin : ∀ j, 0 ≤ j → p + j < n → 0 ≤ i + j * st ∧ i + j * st < (s.size : Int)) :
    ∀ (d : Nat) (j : Int), (n - p - j).toNat ≤ d → 0 ≤ j → j ≤ 6 → (∀ j', 0 ≤ j' → j' < j → p + j' < n ∧ bt s (i + j' * st) = 46) →
    ∃ r, Ev (fun k => spec_l8From.l0 k i st p n j R C s) r ∧ 0 ≤ r ∧ r ≤ 6 ∧ ∀ j', 0 ≤ j' → j' < r → p + j' < n ∧ bt s (i + j' * st) = 46 := by
  intro d
  induction d with
  | zero =>
    intro j hd h0 h6 hb
    have e1 : wrap64 (p + j) = p + j := w_in (by omega) (by omega)
    refine ⟨j, ?_, h0, h6, hb⟩
    rw [← ev_succ_iff]
    simp only [spec_l8From.l0, e1]
    rw [ev_ite_iff, if_neg (by omega)]
    exact ev_some _
  | succ d ih =>
    intro j hd h0 h6 hb
    have e1 : wrap64 (p + j) = p + j := w_in (by omega) (by omega)
    by_cases hc : p + j < n
    · have hm := mul_small (j := j) (st := st) ⟨h0, h6⟩ hst
      have hj := hin j h0 hc
      have e2 : wrap64 (j * st) = j * st := w_in (by omega) (by omega)
      have e3 : wrap64 (i + j * st) = i + j * st := w_in (by omega) (by omega)
      have e4 : wrap64 (j + 1) = j + 1 := w_in (by omega) (by omega)
      by_cases h46 : bt s (i + j * st) = 46
      · obtain ⟨r, hr, h⟩ := ih (j + 1) (by omega) (by omega) (by omega) (fun j' h1 h2 => by
          by_cases hh : j' = j
          · rw [hh]; exact ⟨hc, h46⟩
          · exact hb j' h1 (by omega))
        refine ⟨r, ?_, h⟩
        rw [← ev_succ_iff]
        simp only [spec_l8From.l0, e1, e2, e3, e4]
        rw [ev_ite_iff, if_pos hc, ev_ite_iff, if_pos hj.1, ev_ite_iff, if_pos hj.2, ev_ite_iff, if_pos h46]
        exact hr
      · refine ⟨j, ?_, h0, h6, hb⟩
        rw [← ev_succ_iff]
        simp only [spec_l8From.l0, e1, e2, e3, e4]
        rw [ev_ite_iff, if_pos hc, ev_ite_iff, if_pos hj.1, ev_ite_iff, if_pos hj.2, ev_ite_iff, if_neg h46]
        exact ev_some _
    · refine ⟨j, ?_, h0, h6, hb⟩
      rw [← ev_succ_iff]
      simp only [spec_l8From.l0, e1]
      rw [ev_ite_iff, if_neg hc]
      exact ev_some _
theorem l8_j0 (R C : Int) (s : ByteArray) (i st p n : Int) (hp : 0 ≤ p ∧ p ≤ 36) (hn : n ≤ 6) (hi : 0 ≤ i ∧ i ≤ 36) (his : i < (s.size : Int)) (hst : 1 ≤ st ∧ st ≤ 6) (hb : 0 < p → 0 ≤ i - st) (hin : ∀ j, 0 ≤ j → p + j < n → 0 ≤ i + j * st ∧ i + j * st < (s.size : Int)) :
    ∃ r, Ev (fun k => spec_l8From.j0 k i st p n R C s) r ∧ 0 ≤ r ∧ r ≤ 6 ∧ ∀ j', 0 ≤ j' → j' < r → p + j' < n ∧ bt s (i + j' * st) = 46 := by
  have hj1 : ∀ b : Bool, ∃ r, Ev (fun k => spec_l8From.j1 k i st p n b R C s) r ∧ 0 ≤ r ∧ r ≤ 6 ∧ ∀ j', 0 ≤ j' → j' < r → p + j' < n ∧ bt s (i + j' * st) = 46 := by
    intro b
    cases b with
    | true =>
      refine ⟨0, ?_, by omega, by omega, fun _ _ _ => by omega⟩
      rw [← ev_succ_iff]
      simp only [spec_l8From.j1, if_true]
      exact ev_some _
    | false =>
      obtain ⟨r, hr, h⟩ := l8_loop R C s i st p n hp hn hi hst hin _ 0 (Nat.le_refl _) (by omega) (by omega) (fun _ _ _ => by omega)
      refine ⟨r, ?_, h⟩
      rw [← ev_succ_iff]
      simp only [spec_l8From.j1, Bool.false_eq_true, if_false]
      exact hr
  have e1 : wrap64 (i - st) = i - st := w_in (by omega) (by omega)
  by_cases h46 : bt s i = 46
  · by_cases hp0 : p > 0
    · obtain ⟨r, hr, h⟩ := hj1 (bt s (i - st) == 46)
      have := hb hp0
      refine ⟨r, ?_, h⟩
      rw [← ev_succ_iff]
      simp only [spec_l8From.j0, e1]
      rw [ev_ite_iff, if_pos hi.1, ev_ite_iff, if_pos his, ev_ite_iff, if_pos h46, ev_ite_iff, if_pos hp0, ev_ite_iff, if_pos this, ev_ite_iff, if_pos (by omega)]
      exact hr
    · obtain ⟨r, hr, h⟩ := hj1 false
      refine ⟨r, ?_, h⟩
      rw [← ev_succ_iff]
      simp only [spec_l8From.j0, e1]
      rw [ev_ite_iff, if_pos hi.1, ev_ite_iff, if_pos his, ev_ite_iff, if_pos h46, ev_ite_iff, if_neg hp0]
      exact hr
  · obtain ⟨r, hr, h⟩ := hj1 true
    refine ⟨r, ?_, h⟩
    rw [← ev_succ_iff]
    simp only [spec_l8From.j0, e1]
    rw [ev_ite_iff, if_pos hi.1, ev_ite_iff, if_pos his, ev_ite_iff, if_neg h46]
    exact hr
/-- A cell's part of white cells: its length, and that its cells lie in the grid. -/
theorem l8_ex {R C : Int} {s : ByteArray} (hg : isGridB R C s = true) (i : Nat) (hi : i < s.size) (b : Bool) :
    ∃ r, Ev (fun k => spec_l8From.f k R C s i b) r ∧ 0 ≤ r ∧ r ≤ 6 ∧ ∀ j, 0 ≤ j → j < r → 0 ≤ (i : Int) + j * (if b = true then C else 1) ∧ (i : Int) + j * (if b = true then C else 1) < s.size ∧ bt s ((i : Int) + j * (if b = true then C else 1)) = 46 := by
  obtain ⟨hR, hC, hs, _⟩ := isGridB_parts hg
  have hm := grid_mul hR hC
  have e1 : Int.tdiv (i : Int) C = (i : Int) / C := Int.tdiv_eq_ediv_of_nonneg (by omega)
  have e2 : Int.tmod (i : Int) C = (i : Int) % C := Int.tmod_eq_emod_of_nonneg (by omega)
  have hi2 : (i : Int) < R * C := by omega
  have hdiv : 0 ≤ (i : Int) / C ∧ (i : Int) / C ≤ 36 ∧ 0 ≤ (i : Int) % C ∧ (i : Int) % C ≤ 36 ∧ (0 < (i : Int) / C → 0 ≤ (i : Int) - C) ∧ (0 < (i : Int) % C → 0 ≤ (i : Int) - 1)
      ∧ (∀ j, 0 ≤ j → (i : Int) / C + j < R → 0 ≤ (i : Int) + j * C ∧ (i : Int) + j * C < R * C) ∧ (∀ j, 0 ≤ j → (i : Int) % C + j < C → 0 ≤ (i : Int) + j * 1 ∧ (i : Int) + j * 1 < R * C) := by
    rcases side_cases hC with rfl | rfl | rfl | rfl | rfl <;> exact ⟨by omega, by omega, by omega, by omega, by omega, by omega, fun j h1 h2 => by omega, fun j h1 h2 => by omega⟩
  obtain ⟨d1, d2, d3, d4, d5, d6, d7, d8⟩ := hdiv
  have e3 : wrap64 ((i : Int) / C) = (i : Int) / C := w_in (by omega) (by omega)
  have hc0 : ¬ C = 0 := by omega
  cases b with
  | true =>
    obtain ⟨r, hr, h0, h6, h⟩ := l8_j0 R C s i C ((i : Int) / C) R ⟨d1, d2⟩ hR.2 (by omega) (by omega) (by omega) d5 (fun j h1 h2 => by rw [hs]; exact d7 j h1 h2)
    refine ⟨r, ?_, h0, h6, fun j h1 h2 => ?_⟩
    · simp only [spec_l8From.f, e1, e3]
      rw [ev_ite_iff, if_neg hc0, ev_ite_iff, if_pos trivial]
      exact hr
    · have := h j h1 h2
      have := d7 j h1 this.1
      simp only [if_true]
      omega
  | false =>
    obtain ⟨r, hr, h0, h6, h⟩ := l8_j0 R C s i 1 ((i : Int) % C) C ⟨d3, d4⟩ hC.2 (by omega) (by omega) (by omega) d6 (fun j h1 h2 => by rw [hs]; exact d8 j h1 h2)
    refine ⟨r, ?_, h0, h6, fun j h1 h2 => ?_⟩
    · simp only [spec_l8From.f, e2]
      rw [ev_ite_iff, if_neg hc0, ev_ite_iff, if_neg (by simp)]
      exact hr
    · have := h j h1 h2
      have := d8 j h1 this.1
      simp only [Bool.false_eq_true, if_false]
      omega
noncomputable def run8 (R C : Int) (s : ByteArray) (i : Int) (b : Bool) : Int := open Classical in if h : ∃ r, Ev (fun k => spec_l8From.f k R C s i b) r then h.choose else 0
theorem run8_ev {R C : Int} {s : ByteArray} (hg : isGridB R C s = true) (i : Nat) (hi : i < s.size) (b : Bool) : Ev (fun k => spec_l8From.f k R C s i b) (run8 R C s i b) := by
  obtain ⟨r, hr, _⟩ := l8_ex hg i hi b
  have hx : ∃ r, Ev (fun k => spec_l8From.f k R C s i b) r := ⟨r, hr⟩
  unfold run8
  rw [dif_pos hx]
  exact hx.choose_spec
theorem run8_in {R C : Int} {s : ByteArray} (hg : isGridB R C s = true) (i : Nat) (hi : i < s.size) (b : Bool) : 0 ≤ run8 R C s i b ∧ run8 R C s i b ≤ 6 ∧ ∀ j, 0 ≤ j → j < run8 R C s i b → 0 ≤ (i : Int) + j * (if b = true then C else 1) ∧ (i : Int) + j * (if b = true then C else 1) < s.size ∧ bt s ((i : Int) + j * (if b = true then C else 1)) = 46 := by
  obtain ⟨r, hr, h⟩ := l8_ex hg i hi b
  rw [ev_unique (run8_ev hg i hi b) hr]
  exact h
theorem run_same : ∀ k, (∀ a b c d e f g, impl_run.j0 k a b c d e f g = spec_l8From.j0 k a b c d e f g) ∧ (∀ a b c d x e f g, impl_run.j1 k a b c d x e f g = spec_l8From.j1 k a b c d x e f g) ∧ ∀ a b c d x e f g, impl_run.l0 k a b c d x e f g = spec_l8From.l0 k a b c d x e f g := by
  intro k
  induction k with
  | zero => exact ⟨fun _ _ _ _ _ _ _ => rfl, fun _ _ _ _ _ _ _ _ => rfl, fun _ _ _ _ _ _ _ _ => rfl⟩
  | succ k ih =>
    obtain ⟨h1, h2, h3⟩ := ih
    refine ⟨fun a b c d e f g => ?_, fun a b c d x e f g => ?_, fun a b c d x e f g => ?_⟩
    · simp only [impl_run.j0, spec_l8From.j0, h2]
    · simp only [impl_run.j1, spec_l8From.j1, h3]
    · simp only [impl_run.l0, spec_l8From.l0, h3]
theorem run_eq (k : Nat) (R C : Int) (s : ByteArray) (i : Int) (b : Bool) : impl_run.f k R C s i b = spec_l8From.f k R C s i b := by
  simp only [impl_run.f, spec_l8From.f, (run_same k).1]
def slA (n i a : Int) : List S153 := if a ≥ 2 then [⟨n, false, i, a⟩] else []
def slD (n i d : Int) : List S153 := if d ≥ 2 then [⟨n, true, i, d⟩] else []
def slNum (a d n : Int) : Int := if a ≥ 2 ∨ d ≥ 2 then n + 1 else n
def slNext (a d : Int) (i : Nat) (st : List S153 × Int) : List S153 × Int := ((st.1 ++ slA (slNum a d st.2) i a) ++ slD (slNum a d st.2) i d, slNum a d st.2)
noncomputable def slStep (R C : Int) (s : ByteArray) (st : List S153 × Int) (i : Nat) : List S153 × Int := slNext (run8 R C s i false) (run8 R C s i true) i st
noncomputable def slW (R C : Int) (s : ByteArray) (i : Nat) (st : List S153 × Int) : List S153 × Int := (List.range' i (s.size - i)).foldl (slStep R C s) st
noncomputable def slotsB (R C : Int) (s : ByteArray) : List S153 := if isGridB R C s = true then (slW R C s 0 ([], 0)).1 else []
theorem slW_end (R C : Int) (s : ByteArray) (st : List S153 × Int) : slW R C s s.size st = st := by simp [slW]
theorem slW_step (R C : Int) (s : ByteArray) (i : Nat) (hi : i < s.size) (st : List S153 × Int) : slW R C s i st = slW R C s (i + 1) (slStep R C s st i) := by
  unfold slW
  rw [show s.size - i = (s.size - (i + 1)) + 1 by omega, List.range'_succ]
  rfl
theorem slNum_in (a d n : Int) : n ≤ slNum a d n ∧ slNum a d n ≤ n + 1 := by unfold slNum; split <;> omega
theorem slNext_len (a d : Int) (i : Nat) (st : List S153 × Int) : (slNext a d i st).1.length ≤ st.1.length + 2 := by
  have h1 : (slA (slNum a d st.2) i a).length ≤ 1 := by unfold slA; split <;> simp
  have h2 : (slD (slNum a d st.2) i d).length ≤ 1 := by unfold slD; split <;> simp
  simp only [slNext, List.length_append]
  omega
def slInv (i : Nat) (st : List S153 × Int) : Prop := st.1.length ≤ 2 * i ∧ 0 ≤ st.2 ∧ st.2 ≤ i
theorem slInv_next (R C : Int) (s : ByteArray) (i : Nat) (st : List S153 × Int) (h : slInv i st) : slInv (i + 1) (slStep R C s st i) := by
  obtain ⟨h1, h2, h3⟩ := h
  have := slNext_len (run8 R C s i false) (run8 R C s i true) i st
  have := slNum_in (run8 R C s i false) (run8 R C s i true) st.2
  refine ⟨?_, ?_, ?_⟩
  · unfold slStep; omega
  · unfold slStep slNext; dsimp only; omega
  · unfold slStep slNext; dsimp only; omega
theorem spec_SlotsOf_j3 {R C : Int} {s : ByteArray} (a d : Int) (i : Nat) (hi : i < 36) (l : List S153) (n : Int) (hl : l.length ≤ 72) (r : List S153)
    (hr : Ev (fun k => spec_SlotsOf.l0 k ((l ++ slA n i a) ++ slD n i d) n ((i + 1 : Nat) : Int) R C s) r) : Ev (fun k => spec_SlotsOf.j3 k l n i a d R C s) r := by
  rw [← ev_succ_iff]
  simp only [spec_SlotsOf.j3, w_succ (i := i) (by omega), Option.bind_some, ev_ite_iff]
  by_cases a2 : a ≥ 2 <;> by_cases d2 : d ≥ 2 <;> simp only [slA, slD, a2, d2, if_true, if_false, List.append_nil] at hr ⊢
  · rw [if_pos (by omega), if_pos (by rw [List.length_append]; simp; omega)]
    exact hr
  · rw [if_pos (by omega)]
    exact hr
  · rw [if_pos (by omega)]
    exact hr
  · exact hr
theorem spec_SlotsOf_l {R C : Int} {s : ByteArray} (hg : isGridB R C s = true) : Ev (fun k => spec_SlotsOf.l0 k [] 0 0 R C s) (slW R C s 0 ([], 0)).1 := by
  have hsz := isGridB_size hg
  refine loop_up (σ := List S153 × Int) (fun k st i => spec_SlotsOf.l0 k st.1 st.2 i R C s) s.size slInv (fun i st => (slW R C s i st).1) (fun st hst => ?_) (fun i st hi hst => .inr ⟨slStep R C s st i, slInv_next R C s i st hst, ?_, fun r hr => ?_⟩) 0 ([], 0) (Nat.zero_le _) ⟨by simp, by simp, by simp⟩
  · rw [slW_end, ← ev_succ_iff]
    simp only [spec_SlotsOf.l0, Int.lt_irrefl, if_false]
    rw [← ev_succ_iff]
    simp only [spec_SlotsOf.j1, Bool.false_eq_true, if_false]
    exact ev_some _
  · rw [slW_step R C s i hi]
  · obtain ⟨h1, h2, h3⟩ := hst
    have ha := run8_ev hg i hi false
    have hd := run8_ev hg i hi true
    unfold slStep slNext at hr
    generalize run8 R C s i false = a at ha hr
    generalize run8 R C s i true = d at hd hr
    have hn1 : wrap64 (st.2 + 1) = st.2 + 1 := w_in (by omega) (by omega)
    rw [← ev_succ_iff]
    simp only [spec_SlotsOf.l0]
    rw [ev_ite_iff, if_pos (by omega), ev_bind_iff (spec_IsGrid_ev R C s), hg, ← ev_succ_iff]
    simp only [spec_SlotsOf.j1, if_true]
    rw [ev_bind_iff ha, ev_bind_iff hd, ev_ite_iff]
    have hj2 : ∀ b : Bool, b = decide (a ≥ 2 ∨ d ≥ 2) → Ev (fun k => spec_SlotsOf.j2 k st.1 st.2 i a d b R C s) r := by
      intro b hb
      rw [← ev_succ_iff]
      simp only [spec_SlotsOf.j2, hn1]
      rw [ev_ite_iff]
      by_cases h : a ≥ 2 ∨ d ≥ 2
      · rw [if_pos (by rw [hb]; simpa using h)]
        simp only [slNum, if_pos h] at hr
        exact spec_SlotsOf_j3 a d i (by omega) st.1 _ (by omega) r hr
      · rw [if_neg (by rw [hb]; simpa using h)]
        simp only [slNum, if_neg h] at hr
        exact spec_SlotsOf_j3 a d i (by omega) st.1 _ (by omega) r hr
    by_cases a2 : a ≥ 2
    · rw [if_pos a2]
      exact hj2 _ (by simp [a2])
    · rw [if_neg a2]
      exact hj2 _ (by simp only [a2, false_or])
theorem spec_SlotsOf_ev (R C : Int) (s : ByteArray) : Ev (fun k => spec_SlotsOf.f k R C s) (slotsB R C s) := by
  unfold slotsB
  split
  · rename_i hg
    exact spec_SlotsOf_l hg
  · rename_i hg
    simp only [spec_SlotsOf.f]
    rw [← ev_succ_iff]
    simp only [spec_SlotsOf.l0]
    rw [Bool.not_eq_true] at hg
    have : Ev (fun k => spec_SlotsOf.j1 k [] 0 0 false R C s) [] := by
      rw [← ev_succ_iff]
      simp only [spec_SlotsOf.j1, Bool.false_eq_true, if_false]
      exact ev_some _
    rw [ev_ite_iff]
    split
    · rw [ev_bind_iff (spec_IsGrid_ev R C s), hg]
      exact this
    · exact this
theorem slA_mem {n i a : Int} {x : S153} (h : x ∈ slA n i a) : x = ⟨n, false, i, a⟩ ∧ a ≥ 2 := by
  unfold slA at h
  split at h
  · exact ⟨List.mem_singleton.1 h, ‹_›⟩
  · simp at h
theorem slD_mem {n i a : Int} {x : S153} (h : x ∈ slD n i a) : x = ⟨n, true, i, a⟩ ∧ a ≥ 2 := by
  unfold slD at h
  split at h
  · exact ⟨List.mem_singleton.1 h, ‹_›⟩
  · simp at h
def stepOf (C : Int) (x : S153) : Int := if x.f1 = true then C else 1
/-- A slot that fits the grid. -/
def slOk (C : Int) (s : ByteArray) (x : S153) : Prop := 0 ≤ x.f2 ∧ x.f2 < s.size ∧ 2 ≤ x.f3 ∧ x.f3 ≤ 6 ∧ ∀ j, 0 ≤ j → j < x.f3 → 0 ≤ x.f2 + j * stepOf C x ∧ x.f2 + j * stepOf C x < s.size ∧ bt s (x.f2 + j * stepOf C x) = 46
theorem slots_good {R C : Int} {s : ByteArray} (hg : isGridB R C s = true) : ∀ (n i : Nat) (st : List S153 × Int), i + n = s.size → slInv i st → (∀ x ∈ st.1, slOk C s x ∧ x.f2 < i) → st.1.Nodup →
    (∀ x ∈ (slW R C s i st).1, slOk C s x) ∧ (slW R C s i st).1.Nodup ∧ (slW R C s i st).1.length ≤ 72 := by
  have hsz := isGridB_size hg
  intro n
  induction n with
  | zero =>
    intro i st hi hv hx hnd
    have : i = s.size := by omega
    subst this
    rw [slW_end]
    exact ⟨fun x h => (hx x h).1, hnd, by have := hv.1; omega⟩
  | succ n ih =>
    intro i st hi hv hx hnd
    rw [slW_step R C s i (by omega)]
    have ia := run8_in hg i (by omega) false
    have id := run8_in hg i (by omega) true
    refine ih (i + 1) _ (by omega) (slInv_next R C s i st hv) ?_ ?_
    · intro x h
      unfold slStep slNext at h
      simp only [List.mem_append] at h
      rcases h with (h | h) | h
      · have := hx x h
        exact ⟨this.1, by omega⟩
      · obtain ⟨rfl, h2⟩ := slA_mem h
        refine ⟨⟨by show (0 : Int) ≤ (i : Int); omega, by show (i : Int) < (s.size : Int); omega, h2, ia.2.1, fun j h1 h3 => ?_⟩, by show (i : Int) < ((i + 1 : Nat) : Int); omega⟩
        have := ia.2.2 j h1 h3
        simpa [stepOf] using this
      · obtain ⟨rfl, h2⟩ := slD_mem h
        refine ⟨⟨by show (0 : Int) ≤ (i : Int); omega, by show (i : Int) < (s.size : Int); omega, h2, id.2.1, fun j h1 h3 => ?_⟩, by show (i : Int) < ((i + 1 : Nat) : Int); omega⟩
        have := id.2.2 j h1 h3
        simpa [stepOf] using this
    · unfold slStep slNext
      dsimp only
      rw [List.nodup_append, List.nodup_append]
      refine ⟨⟨hnd, ?_, ?_⟩, ?_, ?_⟩
      · unfold slA; split <;> simp
      · intro x h1 y h2 he
        obtain ⟨rfl, _⟩ := slA_mem h2
        have := (hx x h1).2
        rw [he] at this
        simp at this
      · unfold slD; split <;> simp
      · intro x h1 y h2 he
        obtain ⟨rfl, _⟩ := slD_mem h2
        rcases List.mem_append.1 h1 with h1 | h1
        · have := (hx x h1).2
          rw [he] at this
          simp at this
        · obtain ⟨rfl, _⟩ := slA_mem h1
          simp at he
theorem slotsB_good (R C : Int) (s : ByteArray) : (∀ x ∈ slotsB R C s, slOk C s x) ∧ (slotsB R C s).Nodup ∧ (slotsB R C s).length ≤ 72 := by
  unfold slotsB
  split
  · rename_i hg
    exact slots_good hg s.size 0 ([], 0) (by omega) ⟨by simp, by simp, by simp⟩ (by simp) (by simp)
  · simp
theorem slotsB_grid {R C : Int} {s : ByteArray} {x : S153} (h : x ∈ slotsB R C s) : isGridB R C s = true := by
  unfold slotsB at h
  split at h
  · assumption
  · simp at h
theorem impl_SlotsOf_j2 {R C : Int} {s : ByteArray} (a d : Int) (i : Nat) (hi : i < 36) (l : List S153) (n : Int) (hl : l.length ≤ 72) (r : List S153)
    (hr : Ev (fun k => impl_SlotsOf.l0 k ((l ++ slA n i a) ++ slD n i d) n (s.size : Int) ((i + 1 : Nat) : Int) R C s) r) : Ev (fun k => impl_SlotsOf.j2 k l n i a d (s.size : Int) i R C s) r := by
  rw [← ev_succ_iff]
  simp only [impl_SlotsOf.j2, w_succ (i := i) (by omega), Option.bind_some, ev_ite_iff]
  by_cases a2 : a ≥ 2 <;> by_cases d2 : d ≥ 2 <;> simp only [slA, slD, a2, d2, if_true, if_false, List.append_nil] at hr ⊢
  · rw [if_pos (by omega), if_pos (by rw [List.length_append]; simp; omega)]
    exact hr
  · rw [if_pos (by omega)]
    exact hr
  · rw [if_pos (by omega)]
    exact hr
  · exact hr
theorem impl_SlotsOf_l {R C : Int} {s : ByteArray} (hg : isGridB R C s = true) : Ev (fun k => impl_SlotsOf.l0 k [] 0 (s.size : Int) 0 R C s) (slW R C s 0 ([], 0)).1 := by
  have hsz := isGridB_size hg
  refine loop_up (σ := List S153 × Int) (fun k st i => impl_SlotsOf.l0 k st.1 st.2 (s.size : Int) i R C s) s.size slInv (fun i st => (slW R C s i st).1) (fun st hst => ?_) (fun i st hi hst => .inr ⟨slStep R C s st i, slInv_next R C s i st hst, ?_, fun r hr => ?_⟩) 0 ([], 0) (Nat.zero_le _) ⟨by simp, by simp, by simp⟩
  · rw [slW_end, ← ev_succ_iff]
    simp only [impl_SlotsOf.l0, Int.lt_irrefl, if_false]
    exact ev_some _
  · rw [slW_step R C s i hi]
  · obtain ⟨h1, h2, h3⟩ := hst
    have ha := run8_ev hg i hi false
    have hd := run8_ev hg i hi true
    unfold slStep slNext at hr
    generalize run8 R C s i false = a at ha hr
    generalize run8 R C s i true = d at hd hr
    have hn1 : wrap64 (st.2 + 1) = st.2 + 1 := w_in (by omega) (by omega)
    rw [← ev_succ_iff]
    simp only [impl_SlotsOf.l0, run_eq]
    rw [ev_ite_iff, if_pos (by omega), ev_bind_iff ha, ev_bind_iff hd, ev_ite_iff]
    have hj2 : ∀ b : Bool, b = decide (a ≥ 2 ∨ d ≥ 2) → Ev (fun k => impl_SlotsOf.j1 k st.1 st.2 i a d (s.size : Int) i b R C s) r := by
      intro b hb
      rw [← ev_succ_iff]
      simp only [impl_SlotsOf.j1, hn1]
      rw [ev_ite_iff]
      by_cases h : a ≥ 2 ∨ d ≥ 2
      · rw [if_pos (by rw [hb]; simpa using h)]
        simp only [slNum, if_pos h] at hr
        exact impl_SlotsOf_j2 a d i (by omega) st.1 _ (by omega) r hr
      · rw [if_neg (by rw [hb]; simpa using h)]
        simp only [slNum, if_neg h] at hr
        exact impl_SlotsOf_j2 a d i (by omega) st.1 _ (by omega) r hr
    by_cases a2 : a ≥ 2
    · rw [if_pos a2]
      exact hj2 _ (by simp [a2])
    · rw [if_neg a2]
      exact hj2 _ (by simp only [a2, false_or])
theorem impl_SlotsOf_ev (R C : Int) (s : ByteArray) : Ev (fun k => impl_SlotsOf.f k R C s) (slotsB R C s) := by
  unfold slotsB impl_SlotsOf.f
  rw [ev_bind_iff (impl_IsGrid_ev R C s), ev_ite_iff]
  split
  · rename_i hg
    exact impl_SlotsOf_l hg
  · exact ev_some _
def cellsB (C : Int) (x : S153) : List Int := (List.range x.f3.toNat).map (fun (j : Nat) => x.f2 + (j : Int) * stepOf C x)
theorem cellsB_length (C : Int) (x : S153) : (cellsB C x).length = x.f3.toNat := by simp [cellsB]
theorem cellsB_get (C : Int) (x : S153) (j : Nat) (h : j < (cellsB C x).length) : (cellsB C x)[j] = x.f2 + (j : Int) * stepOf C x := by simp [cellsB]
theorem cellsB_ok {C : Int} {s : ByteArray} {x : S153} (h : slOk C s x) : ∀ c ∈ cellsB C x, 0 ≤ c ∧ c < s.size ∧ bt s c = 46 := by
  intro c hc
  obtain ⟨j, hj, rfl⟩ := List.mem_map.1 hc
  have := List.mem_range.1 hj
  exact h.2.2.2.2 j (by omega) (by omega)
theorem stepOf_in {C : Int} (hC : 2 ≤ C ∧ C ≤ 6) (x : S153) : 1 ≤ stepOf C x ∧ stepOf C x ≤ 6 := by unfold stepOf; split <;> omega
/-- The cells of one slot, put behind a list. -/
theorem spec_CellsOf_in {R C : Int} {s : ByteArray} (hC : 2 ≤ C ∧ C ≤ 6) (x : S153) (hx : 0 ≤ x.f2 ∧ x.f2 ≤ 36 ∧ 0 ≤ x.f3 ∧ x.f3 ≤ 6) (l : List S153) (i : Nat) (hi : i < 4611686018427387903) (acc : List Int) (hacc : acc.length ≤ 100000) (r : List Int)
    (hr : Ev (fun k => spec_CellsOf.l0 k (acc ++ cellsB C x) l ((i + 1 : Nat) : Int) R C s x.f0 x.f1 x.f2 x.f3) r) : Ev (fun k => spec_CellsOf.l1 k acc l i 0 R C s x.f0 x.f1 x.f2 x.f3) r := by
  have hl := cellsB_length C x
  have hst := stepOf_in hC x
  refine loop_up (σ := List Int) (fun k a j => spec_CellsOf.l1 k a l i j R C s x.f0 x.f1 x.f2 x.f3) (cellsB C x).length (fun j a => a = acc ++ (cellsB C x).take j) (fun _ _ => r) (fun a ha => ?_) (fun j a hj ha => .inr ⟨a ++ [(cellsB C x)[j]], ?_, rfl, fun r' hr' => ?_⟩) 0 acc (Nat.zero_le _) (by simp)
  · rw [List.take_length] at ha
    subst ha
    rw [← ev_succ_iff]
    simp only [spec_CellsOf.l1, w_succ (i := i) (by omega)]
    rw [ev_ite_iff, if_neg (by omega)]
    exact hr
  · rw [ha, List.take_succ_eq_append_getElem hj, List.append_assoc]
  · have hal : a.length ≤ 200000 := by rw [ha, List.length_append, List.length_take]; omega
    have hm := mul_small (j := (j : Int)) (st := stepOf C x) (by omega) hst
    rw [cellsB_get] at hr'
    rw [← ev_succ_iff]
    simp only [spec_CellsOf.l1, w_succ (i := j) (by omega)]
    rw [ev_ite_iff, if_pos (by omega), ev_ite_iff]
    unfold stepOf at hm hr'
    by_cases hd : x.f1 = true
    · simp only [hd, if_true] at hm hr' ⊢
      have e1 : wrap64 ((j : Int) * C) = j * C := w_in (by omega) (by omega)
      have e2 : wrap64 (x.f2 + (j : Int) * C) = x.f2 + j * C := w_in (by omega) (by omega)
      rw [e1, e2, ev_ite_iff, if_pos (by omega)]
      exact hr'
    · rw [Bool.not_eq_true] at hd
      simp only [hd, Bool.false_eq_true, if_false, Int.mul_one] at hm hr' ⊢
      have e2 : wrap64 (x.f2 + (j : Int)) = x.f2 + j := w_in (by omega) (by omega)
      rw [e2, ev_ite_iff, if_pos (by omega)]
      exact hr'
theorem flat_none {α β : Type} [DecidableEq α] (l : List α) (x : α) (c : List β) (h : x ∉ l) : l.flatMap (fun y => if y = x then c else []) = [] := by
  rw [List.flatMap_eq_nil_iff]
  intro y hy
  rw [if_neg]
  rintro rfl
  exact h hy
theorem flat_once {α β : Type} [DecidableEq α] (x : α) (c : List β) : ∀ l : List α, l.Nodup → x ∈ l → l.flatMap (fun y => if y = x then c else []) = c
  | [], _, h => by cases h
  | y :: l, hn, h => by
    rw [List.nodup_cons] at hn
    rw [List.flatMap_cons]
    by_cases he : y = x
    · subst he
      rw [if_pos rfl, flat_none l y c hn.1, List.append_nil]
    · rw [if_neg he, List.nil_append]
      refine flat_once x c l hn.2 ?_
      rcases List.mem_cons.1 h with h | h
      · exact absurd h.symm he
      · exact h
theorem flat_len {α β : Type} (f : α → List β) (n : Nat) : ∀ l : List α, (∀ x ∈ l, (f x).length ≤ n) → (l.flatMap f).length ≤ n * l.length
  | [], _ => by simp
  | x :: l, h => by
    have h1 := flat_len f n l (fun y hy => h y (List.mem_cons_of_mem _ hy))
    have h2 := h x List.mem_cons_self
    rw [List.flatMap_cons, List.length_append, List.length_cons, Nat.mul_succ]
    omega
theorem flat_len_take {α β : Type} (f : α → List β) (n i : Nat) (l : List α) (h : ∀ x ∈ l, (f x).length ≤ n) : ((l.take i).flatMap f).length ≤ n * l.length := by
  have h1 := flat_len f n (l.take i) (fun x hx => h x (List.mem_of_mem_take hx))
  have h2 : (l.take i).length ≤ l.length := by rw [List.length_take]; omega
  exact Nat.le_trans h1 (Nat.mul_le_mul_left n h2)
theorem spec_CellsOf_ev {R C : Int} {s : ByteArray} (x : S153) (hx : x ∈ slotsB R C s) : Ev (fun k => spec_CellsOf.f k R C s x.f0 x.f1 x.f2 x.f3) (cellsB C x) := by
  obtain ⟨good, hnd, hlen⟩ := slotsB_good R C s
  have hg := slotsB_grid hx
  have hC := (isGridB_parts hg).2.1
  have hsz := isGridB_size hg
  have ok := good x hx
  unfold spec_CellsOf.f
  rw [ev_bind_iff (spec_SlotsOf_ev R C s)]
  generalize slotsB R C s = l at hx hnd hlen
  letI : DecidableEq S153 := fun _ _ => Classical.propDecidable _
  have hfl : ∀ y ∈ l, (if y = x then cellsB C x else []).length ≤ 6 := by
    intro y _
    split
    · rw [cellsB_length]; have := ok.2.2.2.1; omega
    · simp
  refine ev_as (loop_collect (fun k a i => spec_CellsOf.l0 k a l i R C s x.f0 x.f1 x.f2 x.f3) l (fun y => if y = x then cellsB C x else []) 0 (fun a => ?_) (fun i hi a ha r hr => ?_)) (flat_once x _ l hnd hx)
  · rw [← ev_succ_iff]; simp only [spec_CellsOf.l0, Int.lt_irrefl, if_false]; exact ev_some _
  · have hb := flat_len_take _ 6 i l hfl
    rw [← ev_succ_iff]
    simp only [spec_CellsOf.l0, rdt_153 l i hi, w_succ (i := i) (by omega)]
    rw [ev_ite_iff, if_pos (by omega), ev_ite_iff, if_pos (by omega), ev_ite_iff]
    by_cases he : l[i] = x
    · simp only [he, if_true] at hr ⊢
      rw [if_neg (by simp)]
      exact spec_CellsOf_in hC x ⟨ok.1, by have := ok.2.1; omega, by have := ok.2.2.1; omega, ok.2.2.2.1⟩ l i (by omega) a (by omega) r hr
    · simp only [he, if_false, List.append_nil] at hr
      rw [if_pos]
      · exact hr
      · generalize l[i] = y at he
        obtain ⟨y0, y1, y2, y3⟩ := y
        obtain ⟨x0, x1, x2, x3⟩ := x
        simp only [S153.mk.injEq, not_and] at he
        simp only [Bool.or_eq_true, Bool.not_eq_true', beq_eq_false_iff_ne, ne_eq]
        by_cases h0 : y0 = x0
        · by_cases h1 : y1 = x1
          · by_cases h2 : y2 = x2
            · exact .inr (.inr (.inr (he h0 h1 h2)))
            · exact .inr (.inr (.inl h2))
          · exact .inr (.inl h1)
        · exact .inl h0
theorem impl_cells_ev {R C : Int} {s : ByteArray} (x : S153) (hx : x ∈ slotsB R C s) : Ev (fun k => impl_cells.f k R C s x.f0 x.f1 x.f2 x.f3) (cellsB C x) := by
  obtain ⟨good, hnd, hlen⟩ := slotsB_good R C s
  have hg := slotsB_grid hx
  have hC := (isGridB_parts hg).2.1
  have hsz := isGridB_size hg
  have ok := good x hx
  have hl := cellsB_length C x
  have hst := stepOf_in hC x
  have q1 := ok.1
  have q2 := ok.2.1
  have q3 := ok.2.2.1
  have q4 := ok.2.2.2.1
  have key : Ev (fun k => impl_cells.j0 k (stepOf C x) x.f0 x.f1 x.f2 x.f3) (cellsB C x) := by
    rw [← ev_succ_iff]
    simp only [impl_cells.j0]
    refine loop_up (σ := List Int) (fun k a j => impl_cells.l0 k (stepOf C x) a x.f3 j x.f0 x.f1 x.f2 x.f3) (cellsB C x).length (fun j a => a = (cellsB C x).take j) (fun _ _ => cellsB C x) (fun a ha => ?_) (fun j a hj ha => .inr ⟨a ++ [(cellsB C x)[j]], ?_, rfl, fun r' hr' => ?_⟩) 0 [] (Nat.zero_le _) (by simp)
    · rw [List.take_length] at ha
      subst ha
      rw [← ev_succ_iff]
      simp only [impl_cells.l0]
      rw [ev_ite_iff, if_neg (by omega)]
      exact ev_some _
    · rw [ha, List.take_succ_eq_append_getElem hj]
    · have hal : a.length ≤ 6 := by rw [ha, List.length_take]; omega
      have hm := mul_small (j := (j : Int)) (st := stepOf C x) (by omega) hst
      rw [cellsB_get] at hr'
      have e1 : wrap64 ((j : Int) * stepOf C x) = j * stepOf C x := w_in (by omega) (by omega)
      have e2 : wrap64 (x.f2 + (j : Int) * stepOf C x) = x.f2 + j * stepOf C x := w_in (by omega) (by omega)
      rw [← ev_succ_iff]
      simp only [impl_cells.l0, w_succ (i := j) (by omega), e1, e2]
      rw [ev_ite_iff, if_pos (by omega), ev_ite_iff, if_pos (by omega)]
      exact hr'
  unfold impl_cells.f
  unfold stepOf at key
  rw [ev_ite_iff]
  by_cases hd : x.f1 = true
  · rw [if_pos hd] at key ⊢
    exact key
  · rw [if_neg hd] at key ⊢
    exact key
theorem impl_layout_ev (R C : Int) (s : ByteArray) : Ev (fun k => impl_layout.f k R C s) ((slotsB R C s).map (cellsB C)) := by
  obtain ⟨good, hnd, hlen⟩ := slotsB_good R C s
  unfold impl_layout.f
  rw [ev_bind_iff (impl_SlotsOf_ev R C s)]
  refine ev_as (loop_collect (fun k a i => impl_layout.l0 k a (slotsB R C s) ((slotsB R C s).length : Int) i R C s) (slotsB R C s) (fun x => [cellsB C x]) 0 (fun a => ?_) (fun i hi a ha r hr => ?_)) List.map_eq_flatMap.symm
  · rw [← ev_succ_iff]; simp only [impl_layout.l0, Int.lt_irrefl, if_false]; exact ev_some _
  · have hb := flat_len_take (fun x : S153 => [cellsB C x]) 1 i (slotsB R C s) (fun _ _ => by simp)
    rw [← ev_succ_iff]
    simp only [impl_layout.l0, rdt_153 _ i hi, w_succ (i := i) (by omega)]
    rw [ev_ite_iff, if_pos (by omega), ev_ite_iff, if_pos (by omega), ev_ite_iff, if_pos (by omega), ev_bind_iff (impl_cells_ev _ (List.getElem_mem hi)), ev_ite_iff, if_pos (by omega)]
    exact hr
def fillOk (c f : Int) : Bool := decide ((c = 35 ↔ f = 35) ∧ (f = 35 ∨ f = 63 ∨ (97 ≤ f ∧ f ≤ 122)))
def isFillB (R C : Int) (s f : ByteArray) : Bool := isGridB R C s && (decide (f.size = s.size) && (List.range f.size).all (fun i => fillOk (bt s i) (bt f i)))
theorem isFillB_parts {R C : Int} {s f : ByteArray} (h : isFillB R C s f = true) : isGridB R C s = true ∧ f.size = s.size ∧ ∀ i : Nat, i < f.size → fillOk (bt s i) (bt f i) = true := by
  simpa [isFillB] using h
theorem grid_bt {R C : Int} {s : ByteArray} (hg : isGridB R C s = true) (i : Nat) (hi : i < s.size) : bt s (i : Int) = 35 ∨ bt s (i : Int) = 46 := by
  rw [bt_nat s i hi]
  exact (isGridB_parts hg).2.2.2 _ (List.getElem_mem _)
theorem spec_IsFill_step {R C : Int} {s f : ByteArray} (k i : Nat) (hi : i < f.size) (hs : i < s.size) (h36 : i < 1000) (hc : bt s (i : Int) = 35 ∨ bt s (i : Int) = 46) :
    spec_IsFill.l0 (k + 1) f i R C s = if fillOk (bt s i) (bt f i) = true then spec_IsFill.l0 k f ((i + 1 : Nat) : Int) R C s else some false := by
  have h1 : (i : Int) < (f.size : Int) := by omega
  have h2 : (0 : Int) ≤ (i : Int) := by omega
  have h3 : (i : Int) < (s.size : Int) := by omega
  simp only [spec_IsFill.l0, w_succ (i := i) (by omega), h1, h2, h3, if_true]
  generalize spec_IsFill.l0 k f ((i + 1 : Nat) : Int) R C s = Y
  generalize bt s (i : Int) = c at hc ⊢
  generalize bt f (i : Int) = x
  simp only [fillOk, decide_eq_true_eq]
  repeat' split
  all_goals first | rfl | (exfalso; omega)
theorem spec_IsFill_l {R C : Int} {s f : ByteArray} (hg : isGridB R C s = true) (hf : f.size = s.size) : Ev (fun k => spec_IsFill.l0 k f 0 R C s) ((List.range f.size).all (fun i => fillOk (bt s i) (bt f i))) := by
  have hsz := isGridB_size hg
  refine loop_all (fun k i => spec_IsFill.l0 k f i R C s) (List.range f.size) (fun i => fillOk (bt s i) (bt f i)) ?_ (fun i hi hp r hr => ?_) (fun i hi hp => ?_)
  · rw [← ev_succ_iff]; simp [spec_IsFill.l0, ev_some]
  · rw [List.length_range] at hi
    rw [List.getElem_range] at hp
    rw [← ev_succ_iff]
    simp only [spec_IsFill_step _ i hi (by omega) (by omega) (grid_bt hg i (by omega)), hp, if_true]
    exact hr
  · rw [List.length_range] at hi
    rw [List.getElem_range] at hp
    rw [← ev_succ_iff]
    simp only [spec_IsFill_step _ i hi (by omega) (by omega) (grid_bt hg i (by omega)), hp, Bool.false_eq_true, if_false]
    exact ev_some _
theorem spec_IsFill_ev (R C : Int) (s f : ByteArray) : Ev (fun k => spec_IsFill.f k R C s f) (isFillB R C s f) := by
  unfold spec_IsFill.f
  rw [ev_bind_iff (spec_IsGrid_ev R C s), ev_ite_iff]
  by_cases hg : isGridB R C s = true
  · rw [if_pos hg, ← ev_succ_iff]
    simp only [spec_IsFill.j0, ev_ite_iff, bne_iff_ne, ne_eq]
    by_cases hf : f.size = s.size
    · rw [if_neg (by omega)]
      exact ev_as (spec_IsFill_l hg hf) (by simp [isFillB, hg, hf])
    · rw [if_pos (by omega)]
      exact ev_as (ev_some _) (by simp [isFillB, hf])
  · rw [if_neg hg, ← ev_succ_iff]
    simp only [spec_IsFill.j0, if_true]
    exact ev_as (ev_some _) (by simp [isFillB, hg])
theorem impl_IsFill_step {R C : Int} {s f : ByteArray} (k i : Nat) (hi : i < f.size) (hs : i < s.size) (h36 : i < 1000) :
    impl_IsFill.l0 (k + 1) f (f.size : Int) i R C s = if fillOk (bt s i) (bt f i) = true then impl_IsFill.l0 k f (f.size : Int) ((i + 1 : Nat) : Int) R C s else some false := by
  have h1 : (i : Int) < (f.size : Int) := by omega
  have h2 : (0 : Int) ≤ (i : Int) := by omega
  have h3 : (i : Int) < (s.size : Int) := by omega
  simp only [impl_IsFill.l0, w_succ (i := i) (by omega), h1, h2, h3, if_true, isLetter_eq, Option.bind_some, decide_eq_true_eq]
  generalize impl_IsFill.l0 k f (f.size : Int) ((i + 1 : Nat) : Int) R C s = Y
  generalize bt s (i : Int) = c
  generalize bt f (i : Int) = x
  by_cases he : (c = 35 ↔ x = 35)
  · have e : ((c == 35) != (x == 35)) = false := by rw [bne_eq_false_iff_eq, Bool.eq_iff_iff, beq_iff_eq, beq_iff_eq]; exact he
    rw [e]
    simp only [fillOk, decide_eq_true_eq, Bool.false_eq_true, if_false]
    repeat' split
    all_goals first | rfl | (exfalso; omega)
  · have e : ((c == 35) != (x == 35)) = true := by
      rw [bne_iff_ne]
      intro q
      rw [Bool.eq_iff_iff, beq_iff_eq, beq_iff_eq] at q
      exact he q
    rw [e, if_pos rfl, if_neg]
    simp only [fillOk, decide_eq_true_eq]
    exact fun q => he q.1
theorem impl_IsFill_l {R C : Int} {s f : ByteArray} (hg : isGridB R C s = true) (hf : f.size = s.size) : Ev (fun k => impl_IsFill.l0 k f (f.size : Int) 0 R C s) ((List.range f.size).all (fun i => fillOk (bt s i) (bt f i))) := by
  have hsz := isGridB_size hg
  refine loop_all (fun k i => impl_IsFill.l0 k f (f.size : Int) i R C s) (List.range f.size) (fun i => fillOk (bt s i) (bt f i)) ?_ (fun i hi hp r hr => ?_) (fun i hi hp => ?_)
  · rw [← ev_succ_iff]; simp [impl_IsFill.l0, ev_some]
  · rw [List.length_range] at hi
    rw [List.getElem_range] at hp
    rw [← ev_succ_iff]
    simp only [impl_IsFill_step (R := R) (C := C) (s := s) (f := f) _ i hi (by omega) (by omega), hp, if_true]
    exact hr
  · rw [List.length_range] at hi
    rw [List.getElem_range] at hp
    rw [← ev_succ_iff]
    simp only [impl_IsFill_step (R := R) (C := C) (s := s) (f := f) _ i hi (by omega) (by omega), hp, Bool.false_eq_true, if_false]
    exact ev_some _
theorem impl_IsFill_ev (R C : Int) (s f : ByteArray) : Ev (fun k => impl_IsFill.f k R C s f) (isFillB R C s f) := by
  unfold impl_IsFill.f
  rw [ev_bind_iff (impl_IsGrid_ev R C s), ev_ite_iff]
  by_cases hg : isGridB R C s = true
  · rw [if_pos hg, ← ev_succ_iff]
    simp only [impl_IsFill.j0, ev_ite_iff, bne_iff_ne, ne_eq]
    by_cases hf : f.size = s.size
    · rw [if_neg (by omega)]
      exact ev_as (impl_IsFill_l hg hf) (by simp [isFillB, hg, hf])
    · rw [if_pos (by omega)]
      exact ev_as (ev_some _) (by simp [isFillB, hf])
  · rw [if_neg hg, ← ev_succ_iff]
    simp only [impl_IsFill.j0, if_true]
    exact ev_as (ev_some _) (by simp [isFillB, hg])
def patB (f : ByteArray) (l : List Int) : ByteArray := strOfNums (l.map (bt f))
theorem strOfNums_append (a b : List Int) : strOfNums (a ++ b) = strOfNums a ++ strOfNums b := by
  refine ByteArray.ext (Array.toList_inj.1 ?_)
  rw [ByteArray.data_append, Array.toList_append, strOfNums_data, strOfNums_data, strOfNums_data, List.map_append]
theorem extract_one (f : ByteArray) (hf : f.size ≤ 1000000) (c : Int) (h0 : 0 ≤ c) (h1 : c < f.size) : f.extract c.toNat (wrap64 (c + 1)).toNat = strOfNums [bt f c] := by
  have e : wrap64 (c + 1) = c + 1 := by unfold wrap64; omega
  have hc : c.toNat < f.size := by omega
  have hd : c.toNat < f.data.toList.length := by rw [Array.length_toList]; exact hc
  refine ByteArray.ext (Array.toList_inj.1 ?_)
  rw [e, show (c + 1).toNat = c.toNat + 1 by omega, strOfNums_data, ByteArray.data_extract, Array.toList_extract]
  have hb : bt f c = ((f.data.toList[c.toNat]).toNat : Int) := by
    unfold bt
    rw [dif_pos hc]
    rfl
  rw [List.extract_eq_drop_take', List.drop_take, List.drop_eq_getElem_cons hd]
  simp [hb]
theorem patB_size (f : ByteArray) (l : List Int) : (patB f l).size = l.length := by rw [patB, strOfNums_size, List.length_map]
theorem patB_snoc (f : ByteArray) (l : List Int) (c : Int) : patB f (l ++ [c]) = patB f l ++ strOfNums [bt f c] := by
  rw [patB, List.map_append, strOfNums_append]; rfl
theorem spec_SlotPattern_l (f : ByteArray) (l : List Int) (hl : l.length ≤ 100000) (hf : f.size ≤ 1000000) (hc : ∀ c ∈ l, 0 ≤ c ∧ c < f.size) : Ev (fun k => spec_SlotPattern.l0 k f (⟨#[]⟩ : ByteArray) l 0) (patB f l) := by
  refine loop_up (σ := ByteArray) (fun k a i => spec_SlotPattern.l0 k f a l i) l.length (fun i a => a = patB f (l.take i)) (fun _ _ => patB f l) (fun a ha => ?_) (fun i a hi ha => .inr ⟨a ++ strOfNums [bt f l[i]], ?_, rfl, fun r hr => ?_⟩) 0 _ (Nat.zero_le _) rfl
  · rw [List.take_length] at ha
    rw [← ev_succ_iff]
    simp only [spec_SlotPattern.l0, Int.lt_irrefl, if_false, ha]
    exact ev_some _
  · rw [ha, List.take_succ_eq_append_getElem hi, patB_snoc]
  · have hcc := hc _ (List.getElem_mem hi)
    have hx := extract_one f hf l[i] hcc.1 hcc.2
    have ew : wrap64 (l[i] + 1) = l[i] + 1 := by unfold wrap64; omega
    have hz : (strOfNums [bt f l[i]]).size = 1 := by rw [strOfNums_size]; rfl
    have has : a.size ≤ 100000 := by rw [ha, patB_size, List.length_take]; omega
    rw [← ev_succ_iff]
    simp only [spec_SlotPattern.l0, rd_nat l i hi, w_succ (i := i) (by omega), hx]
    rw [ev_ite_iff, if_pos (by omega), ev_ite_iff, if_pos (by omega), ev_ite_iff, if_pos hcc.1, ev_ite_iff, if_pos (by omega), ev_ite_iff, if_pos (by omega), ev_ite_iff, if_pos (by omega)]
    exact hr
theorem spec_SlotPattern_ev {R C : Int} {s f : ByteArray} (hf : isFillB R C s f = true) (i : Nat) (hi : i < (slotsB R C s).length) : Ev (fun k => spec_SlotPattern.f k R C s f i) (patB f (cellsB C (slotsB R C s)[i])) := by
  obtain ⟨good, hnd, hlen⟩ := slotsB_good R C s
  obtain ⟨hg, hfs, _⟩ := isFillB_parts hf
  have hsz := isGridB_size hg
  have hm := List.getElem_mem hi
  have ok := good _ hm
  have e : wrap64 (((slotsB R C s).length : Int) - 1) = (slotsB R C s).length - 1 := w_in (by omega) (by omega)
  unfold spec_SlotPattern.f
  rw [ev_bind_iff (spec_SlotsOf_ev R C s), ev_bind_iff (spec_IsFill_ev R C s f), ev_ite_iff, if_pos hf]
  simp only [l1In_eq, Option.bind_some, e]
  rw [← ev_succ_iff]
  simp only [spec_SlotPattern.j0, rdt_153 _ i hi]
  rw [ev_ite_iff, if_neg (by simp; omega), ev_ite_iff, if_pos (by omega), ev_ite_iff, if_pos (by omega), ev_bind_iff (spec_CellsOf_ev _ hm)]
  exact spec_SlotPattern_l f _ (by rw [cellsB_length]; have := ok.2.2.2.1; omega) (by omega) (fun c hc => by have := cellsB_ok ok c hc; omega)
theorem impl_readCells_ev (f : ByteArray) (l : List Int) (hl : l.length ≤ 100000) (hc : ∀ c ∈ l, 0 ≤ c ∧ c < f.size) : Ev (fun k => impl_readCells.f k f l) (patB f l) := by
  unfold impl_readCells.f
  refine loop_up (σ := List Int) (fun k a i => impl_readCells.l0 k f a l (l.length : Int) i) l.length (fun i a => a = (l.take i).map (bt f)) (fun _ _ => patB f l) (fun a ha => ?_) (fun i a hi ha => .inr ⟨a ++ [bt f l[i]], ?_, rfl, fun r hr => ?_⟩) 0 _ (Nat.zero_le _) rfl
  · rw [List.take_length] at ha
    rw [← ev_succ_iff]
    simp only [impl_readCells.l0, Int.lt_irrefl, if_false, ha]
    exact ev_some _
  · rw [ha, List.take_succ_eq_append_getElem hi, List.map_append]; rfl
  · have hcc := hc _ (List.getElem_mem hi)
    have has : a.length ≤ 100000 := by rw [ha, List.length_map, List.length_take]; omega
    rw [← ev_succ_iff]
    simp only [impl_readCells.l0, rd_nat l i hi, w_succ (i := i) (by omega)]
    rw [ev_ite_iff, if_pos (by omega), ev_ite_iff, if_pos (by omega), ev_ite_iff, if_pos (by omega), ev_ite_iff, if_pos hcc.1, ev_ite_iff, if_pos hcc.2, ev_ite_iff, if_pos (by omega)]
    exact hr
noncomputable def patsB (R C : Int) (s f : ByteArray) : List ByteArray := if isFillB R C s f = true then (slotsB R C s).map (fun x => patB f (cellsB C x)) else []
theorem patsB_len (R C : Int) (s f : ByteArray) : (patsB R C s f).length ≤ 72 := by
  have := (slotsB_good R C s).2.2
  unfold patsB
  split <;> simp; omega
theorem impl_patterns_ev (R C : Int) (s f : ByteArray) : Ev (fun k => impl_patterns.f k R C s f) (patsB R C s f) := by
  unfold impl_patterns.f patsB
  rw [ev_bind_iff (impl_IsFill_ev R C s f), ev_ite_iff]
  split
  · rename_i hf
    obtain ⟨good, hnd, hlen⟩ := slotsB_good R C s
    obtain ⟨hg, hfs, _⟩ := isFillB_parts hf
    rw [ev_bind_iff (impl_layout_ev R C s)]
    have hll : ((slotsB R C s).map (cellsB C)).length = (slotsB R C s).length := List.length_map _
    refine ev_as (loop_collect (fun k a i => impl_patterns.l0 k f a ((slotsB R C s).map (cellsB C)) (((slotsB R C s).map (cellsB C)).length : Int) i) ((slotsB R C s).map (cellsB C)) (fun l => [patB f l]) 0 (fun a => ?_) (fun i hi a ha r hr => ?_)) (by rw [← List.map_eq_flatMap, List.map_map]; rfl)
    · rw [← ev_succ_iff]; simp only [impl_patterns.l0, Int.lt_irrefl, if_false]; exact ev_some _
    · have hb := flat_len_take (fun l : List Int => [patB f l]) 1 i ((slotsB R C s).map (cellsB C)) (fun _ _ => by simp)
      have hi' : i < (slotsB R C s).length := by omega
      have ok := good _ (List.getElem_mem hi')
      have hL : ((slotsB R C s).map (cellsB C))[i] = cellsB C (slotsB R C s)[i] := List.getElem_map _
      have hr1 := impl_readCells_ev f ((slotsB R C s).map (cellsB C))[i] (by rw [hL, cellsB_length]; have := ok.2.2.2.1; omega) (fun c hc => by rw [hL] at hc; have := cellsB_ok ok c hc; omega)
      rw [← ev_succ_iff]
      simp only [impl_patterns.l0, rdl_10 _ i hi, w_succ (i := i) (by omega)]
      rw [ev_ite_iff, if_pos (by omega), ev_ite_iff, if_pos (by omega), ev_ite_iff, if_pos (by omega), ev_bind_iff hr1, ev_ite_iff, if_pos (by omega)]
      exact hr
  · exact ev_some _
theorem spec_l11Open_ev (f : ByteArray) (hf : f.size < 4611686018427387904) : Ev (fun k => spec_l11Open.f k f) ((bytesOf f).any (fun c => c == 63)) := by
  refine loop_any (fun k i => spec_l11Open.l0 k f i) (bytesOf f) _ ?_ (fun i hi hp r hr => ?_) (fun i hi hp => ?_)
  · rw [← ev_succ_iff]; simp [spec_l11Open.l0, bytesOf_length, ev_some]
  · have hi' : i < f.size := by rw [bytesOf_length] at hi; exact hi
    rw [← ev_succ_iff]
    simp only [beq_eq_false_iff_ne] at hp
    simp only [spec_l11Open.l0, bt_nat f i hi', w_succ (i := i) (by omega)]
    rw [ev_ite_iff, if_pos (by omega), ev_ite_iff, if_pos (by omega), ev_ite_iff, if_neg hp]
    exact hr
  · have hi' : i < f.size := by rw [bytesOf_length] at hi; exact hi
    rw [← ev_succ_iff]
    simp only [beq_iff_eq] at hp
    simp only [spec_l11Open.l0, bt_nat f i hi', w_succ (i := i) (by omega)]
    rw [ev_ite_iff, if_pos (by omega), ev_ite_iff, if_pos (by omega), ev_ite_iff, if_pos hp]
    exact ev_some _
def opensB (f : ByteArray) : Int := ((bytesOf f).countP (fun c => c == 63) : Nat)
theorem opensB_zero (f : ByteArray) : (opensB f == 0) = !((bytesOf f).any (fun c => c == 63)) := by
  unfold opensB
  rw [Bool.eq_iff_iff]
  simp [List.countP_eq_zero]
theorem impl_openIn_ev (f : ByteArray) (hf : f.size < 4611686018427387904) : Ev (fun k => impl_openIn.f k f) (opensB f) := by
  have hbl := bytesOf_length f
  have := loop_up (σ := Nat) (fun k a i => impl_openIn.l0 k f (a : Int) (f.size : Int) i) (bytesOf f).length (fun i a => a ≤ i) (fun i a => ((a + ((bytesOf f).drop i).countP (fun c => c == 63) : Nat) : Int)) (fun a ha => ?_) (fun i a hi ha => ?_) 0 0 (Nat.zero_le _) (Nat.le_refl _)
  · unfold impl_openIn.f opensB
    simpa using this
  · rw [← ev_succ_iff]
    simp only [impl_openIn.l0, List.drop_length, List.countP_nil, Nat.add_zero]
    rw [ev_ite_iff, if_neg (by omega)]
    exact ev_some _
  · have hi' : i < f.size := by omega
    rw [List.drop_eq_getElem_cons hi, List.countP_cons]
    have ew : wrap64 ((a : Int) + 1) = ((a + 1 : Nat) : Int) := w_succ (by omega)
    by_cases h : (bytesOf f)[i] = 63
    · refine .inr ⟨a + 1, by omega, by simp [h]; omega, fun r hr => ?_⟩
      rw [← ev_succ_iff]
      simp only [impl_openIn.l0, bt_nat f i hi', w_succ (i := i) (by omega), ew]
      rw [ev_ite_iff, if_pos (by omega), ev_ite_iff, if_pos (by omega), ev_ite_iff, if_pos (by omega), ev_ite_iff, if_pos h]
      exact hr
    · refine .inr ⟨a, by omega, by simp [h], fun r hr => ?_⟩
      rw [← ev_succ_iff]
      simp only [impl_openIn.l0, bt_nat f i hi', w_succ (i := i) (by omega), ew]
      rw [ev_ite_iff, if_pos (by omega), ev_ite_iff, if_pos (by omega), ev_ite_iff, if_pos (by omega), ev_ite_iff, if_neg h]
      exact hr
def isFullB (R C : Int) (s f : ByteArray) : Bool := isFillB R C s f && !((bytesOf f).any (fun c => c == 63))
theorem isFillB_size {R C : Int} {s f : ByteArray} (h : isFillB R C s f = true) : 4 ≤ f.size ∧ f.size ≤ 36 := by
  obtain ⟨h1, h2, _⟩ := isFillB_parts h
  have := isGridB_size h1
  omega
theorem spec_IsFull_ev (R C : Int) (s f : ByteArray) : Ev (fun k => spec_IsFull.f k R C s f) (isFullB R C s f) := by
  unfold spec_IsFull.f isFullB
  rw [ev_bind_iff (spec_IsFill_ev R C s f), ev_ite_iff]
  by_cases h : isFillB R C s f = true
  · have := isFillB_size h
    rw [if_pos h, ev_bind_iff (spec_l11Open_ev f (by omega)), h, Bool.true_and]
    exact ev_some _
  · rw [if_neg h]
    exact ev_as (ev_some _) (by simp [h])
theorem impl_IsFull_ev (R C : Int) (s f : ByteArray) : Ev (fun k => impl_IsFull.f k R C s f) (isFullB R C s f) := by
  unfold impl_IsFull.f isFullB
  rw [ev_bind_iff (impl_IsFill_ev R C s f), ev_ite_iff]
  by_cases h : isFillB R C s f = true
  · have := isFillB_size h
    rw [if_pos h, ev_bind_iff (impl_openIn_ev f (by omega)), h, Bool.true_and, ← opensB_zero]
    exact ev_some _
  · rw [if_neg h]
    exact ev_as (ev_some _) (by simp [h])
theorem szGrid_ev (R C : Int) (s : ByteArray) (a : Int) : ∃ r, laws_szGrid.f R C s a = some r := by
  unfold laws_szGrid.f
  split
  · exact ⟨_, rfl⟩
  · exact ⟨_, rfl⟩
noncomputable def patsC (R C : Int) (s f : ByteArray) : List ByteArray := (slotsB R C s).map (fun x => patB f (cellsB C x))
def rightB (q : List Int) (salt : Int) (p : List ByteArray) : List Int := (List.range p.length).flatMap (fun (i : Nat) => if checksB q salt i (rdOf ByteArray.empty p i) = true then [(i : Int)] else [])
theorem rightB_length (q : List Int) (salt : Int) (p : List ByteArray) : (rightB q salt p).length ≤ p.length := by
  have := flat_len (fun (i : Nat) => if checksB q salt i (rdOf ByteArray.empty p i) = true then [(i : Int)] else []) 1 (List.range p.length) (fun x _ => by split <;> simp)
  rw [List.length_range] at this
  unfold rightB
  omega
theorem spec_RightSlots_ev (R C : Int) (s f : ByteArray) (q : List Int) (hq : q.length < 4611686018427387904) (salt : Int) : Ev (fun k => spec_RightSlots.f k R C s f q salt) (if isFillB R C s f = true then rightB q salt (patsC R C s f) else []) := by
  obtain ⟨good, hnd, hlen⟩ := slotsB_good R C s
  unfold spec_RightSlots.f
  rw [ev_bind_iff (spec_SlotsOf_ev R C s)]
  split
  · rename_i hfill
    have hpl : (patsC R C s f).length = (slotsB R C s).length := List.length_map _
    have hle : (List.range (patsC R C s f).length).length = (slotsB R C s).length := by rw [List.length_range, hpl]
    refine loop_collect (fun k a i => spec_RightSlots.l0 k f q salt a (slotsB R C s) i R C s) (List.range (patsC R C s f).length) (fun (i : Nat) => if checksB q salt i (rdOf ByteArray.empty (patsC R C s f) i) = true then [(i : Int)] else []) 0 (fun a => ?_) (fun i hi a ha r hr => ?_)
    · rw [hle, ← ev_succ_iff]
      simp only [spec_RightSlots.l0, Int.lt_irrefl, if_false]
      rw [← ev_succ_iff]
      simp only [spec_RightSlots.j1, Bool.false_eq_true, if_false]
      exact ev_some _
    · have hb := flat_len_take (fun (i : Nat) => if checksB q salt i (rdOf ByteArray.empty (patsC R C s f) i) = true then [(i : Int)] else []) 1 i (List.range (patsC R C s f).length) (fun x _ => by split <;> simp)
      have hi' : i < (slotsB R C s).length := by omega
      have hp : rdOf ByteArray.empty (patsC R C s f) (i : Int) = patB f (cellsB C (slotsB R C s)[i]) := by
        rw [rdOf_nat ByteArray.empty (patsC R C s f) i (by omega)]
        exact List.getElem_map _
      rw [List.getElem_range, hp] at hr
      rw [← ev_succ_iff]
      simp only [spec_RightSlots.l0]
      rw [ev_ite_iff, if_pos (by omega), ev_bind_iff (spec_IsFill_ev R C s f), hfill, ← ev_succ_iff]
      simp only [spec_RightSlots.j1, if_true, w_succ (i := i) (by omega)]
      rw [ev_bind_iff (spec_SlotPattern_ev hfill i hi'), ev_bind_iff (spec_ChecksAnswer_ev q hq _ _ _), ev_ite_iff]
      split
      · rename_i hc
        rw [if_pos hc] at hr
        rw [ev_ite_iff, if_pos (by omega)]
        exact hr
      · rename_i hc
        rw [if_neg hc, List.append_nil] at hr
        exact hr
  · rename_i hf
    rw [Bool.not_eq_true] at hf
    rw [← ev_succ_iff]
    simp only [spec_RightSlots.l0]
    have : Ev (fun k => spec_RightSlots.j1 k f q salt [] (slotsB R C s) 0 false R C s) [] := by
      rw [← ev_succ_iff]
      simp only [spec_RightSlots.j1, Bool.false_eq_true, if_false]
      exact ev_some _
    rw [ev_ite_iff]
    split
    · rw [ev_bind_iff (spec_IsFill_ev R C s f), hf]
      exact this
    · exact this
theorem impl_RightSlots_ev (R C : Int) (s f : ByteArray) (q : List Int) (hq : q.length < 4611686018427387904) (salt : Int) : Ev (fun k => impl_RightSlots.f k R C s f q salt) (if isFillB R C s f = true then rightB q salt (patsC R C s f) else []) := by
  unfold impl_RightSlots.f
  have hpl := patsB_len R C s f
  have hpe : (if isFillB R C s f = true then rightB q salt (patsC R C s f) else []) = rightB q salt (patsB R C s f) := by
    unfold patsB patsC
    split
    · rfl
    · simp [rightB]
  rw [ev_bind_iff (impl_patterns_ev R C s f), hpe]
  generalize patsB R C s f = p at hpl
  refine loop_collect (fun k a i => impl_RightSlots.l0 k q salt a p (p.length : Int) i) (List.range p.length) (fun (i : Nat) => if checksB q salt i (rdOf ByteArray.empty p i) = true then [(i : Int)] else []) 0 (fun a => ?_) (fun i hi a ha r hr => ?_)
  · rw [List.length_range, ← ev_succ_iff]
    simp only [impl_RightSlots.l0, Int.lt_irrefl, if_false]
    exact ev_some _
  · have hb := flat_len_take (fun (i : Nat) => if checksB q salt i (rdOf ByteArray.empty p i) = true then [(i : Int)] else []) 1 i (List.range p.length) (fun x _ => by split <;> simp)
    rw [List.length_range] at hi hb
    rw [List.getElem_range] at hr
    rw [← ev_succ_iff]
    simp only [impl_RightSlots.l0, w_succ (i := i) (by omega)]
    rw [ev_ite_iff, if_pos (by omega), ev_ite_iff, if_pos (by omega), ev_ite_iff, if_pos (by omega), ev_bind_iff (impl_ChecksAnswer_ev q hq _ _ _), ev_ite_iff]
    split
    · rename_i hc
      rw [if_pos hc] at hr
      rw [ev_ite_iff, if_pos (by omega)]
      exact hr
    · rename_i hc
      rw [if_neg hc, List.append_nil] at hr
      exact hr
theorem szGrid_le (R C : Int) (s : ByteArray) (a : Int) (hs : s.size ≤ 140737488351232) (h0 : 0 ≤ a) (h1 : a ≤ 1048576) : ∃ r, laws_szGrid.f R C s a = some r ∧ r ≤ 1048576 := by
  unfold laws_szGrid.f
  rw [w_in (by omega) (by omega)]
  split
  · exact ⟨_, rfl, by omega⟩
  · exact ⟨_, rfl, by omega⟩
theorem szClueS_ev (l : List S149) (hl : l.length < 4611686018427387904) (hs : ∀ x ∈ l, x.f1.length < 4611686018427387904 ∧ ∀ y ∈ x.f1, y.f1.size ≤ 140737488351232) (a : Int) (ha : 0 ≤ a) (ha' : a ≤ 1048576) : ∃ r, Ev (fun k => laws_szClueS.f k l a) r ∧ r ≤ 1048576 := by
  unfold laws_szClueS.f
  have w1 : wrap64 (a - (l.length : Int)) = a - l.length := w_in (by omega) (by omega)
  simp only [ev_ite_iff, ev_some_iff, w1]
  by_cases h : a - (l.length : Int) < 0
  · exact ⟨-1, by simp [h]⟩
  · simp only [h, if_false]
    refine loop_size (fun k b i => laws_szClueS.l0 k l b i) l 1048576 (fun b => ?_) (fun i hi b hb hb' => ?_) _ (by omega) (by omega)
    · rw [← ev_succ_iff]
      simp only [laws_szClueS.l0]
      rw [ev_ite_iff, if_neg (by omega)]
      exact ev_some _
    · have hsz := hs _ (List.getElem_mem hi)
      obtain ⟨r, hr, hrb⟩ := szClue_ev l[i].f0 l[i].f1 hsz.1 hsz.2 b hb hb'
      by_cases h2 : r < 0
      · refine .inl ?_
        rw [← ev_succ_iff]
        simp only [laws_szClueS.l0, rdt_149 l i hi]
        rw [ev_ite_iff, if_pos (by omega), ev_ite_iff, if_pos (by omega), ev_bind_iff hr, ev_ite_iff, if_pos h2]
        exact ev_some _
      · refine .inr ⟨r, by omega, hrb, fun q hq => ?_⟩
        rw [← ev_succ_iff]
        simp only [laws_szClueS.l0, rdt_149 l i hi, w_succ (i := i) (by omega)]
        rw [ev_ite_iff, if_pos (by omega), ev_ite_iff, if_pos (by omega), ev_bind_iff hr, ev_ite_iff, if_neg h2]
        exact hq
def toClueM (x : S149) : S116 := ⟨x.f0, x.f1.map toStep⟩
theorem toClueS_ev (l : List S149) (hl : l.length ≤ 8796093022208) (hs : ∀ x ∈ l, x.f1.length ≤ 3518437208883) : Ev (fun k => laws_toClueS.f k l) (l.map toClueM) := by
  unfold laws_toClueS.f
  rw [ev_ite_iff, if_pos (by omega), ev_ite_iff, if_pos (by omega)]
  refine loop_fill (fun k s i => laws_toClueS.l0 k l s i) l toClueM z116 (fun s hs => ?_) (fun i hi s hs' r hr => ?_)
  · rw [← ev_succ_iff]
    simp [laws_toClueS.l0, ev_some]
  · rw [← ev_succ_iff]
    simp only [laws_toClueS.l0, rdt_149 l i hi, w_succ (i := i) (by omega)]
    rw [ev_ite_iff, if_pos (by omega), ev_ite_iff, if_pos (by omega), ev_bind_iff (toClue_ev _ _ (hs _ (List.getElem_mem hi))), ev_ite_iff, if_pos (by omega)]
    exact hr
theorem eqClueS_ev (l : List S116) (hl : l.length < 4611686018427387904) (hs : ∀ x ∈ l, x.f1.length < 4611686018427387904) : Ev (fun k => laws_eqClueS.f k l l) true := by
  unfold laws_eqClueS.f
  rw [ev_ite_iff, if_pos rfl]
  refine ev_as (loop_all (fun k i => laws_eqClueS.l0 k l l i) l (fun _ => true) ?_ (fun i hi hp r hr => ?_) (fun i hi hp => by cases hp)) (by simp)
  · rw [← ev_succ_iff]; simp [laws_eqClueS.l0, ev_some]
  · rw [← ev_succ_iff]
    simp only [laws_eqClueS.l0, rdt_116 l i hi, w_succ (i := i) (by omega)]
    rw [ev_ite_iff, if_pos (by omega), ev_ite_iff, if_pos (by omega), ev_ite_iff, if_pos (by omega), ev_bind_iff (eqClue_ev _ _ (hs _ (List.getElem_mem hi))), ev_ite_iff, if_pos rfl]
    exact hr
theorem szIntS_le (l : List Int) (hl : l.length < 4611686018427387904) (a : Int) (h0 : 0 ≤ a) (h1 : a ≤ 1048576) : ∃ r, laws_szIntS.f l a = some r ∧ r ≤ 1048576 := by
  unfold laws_szIntS.f
  rw [w_in (by omega) (by omega)]
  split
  · exact ⟨_, rfl, by omega⟩
  · exact ⟨_, rfl, by omega⟩
theorem szPuzzle_ev (R C : Int) (s : ByteArray) (l : List S149) (q : List Int) (e : Int) (hs : s.size ≤ 140737488351232) (hl : l.length < 4611686018427387904) (hx : ∀ x ∈ l, x.f1.length < 4611686018427387904 ∧ ∀ y ∈ x.f1, y.f1.size ≤ 140737488351232) (hq : q.length < 4611686018427387904) (a : Int) (h0 : 0 ≤ a) (h1 : a ≤ 1048576) : ∃ r, Ev (fun k => laws_szPuzzle.f k R C s l q e a) r ∧ r ≤ 1048576 := by
  unfold laws_szPuzzle.f
  obtain ⟨g, hg, hgb⟩ := szGrid_le R C s a hs h0 h1
  simp only [hg, Option.bind_some]
  by_cases n1 : g < 0
  · exact ⟨-1, by rw [ev_ite_iff, if_pos n1]; exact ev_some _, by omega⟩
  obtain ⟨c, hc, hcb⟩ := szClueS_ev l hl hx g (by omega) hgb
  by_cases n2 : c < 0
  · exact ⟨-1, by rw [ev_ite_iff, if_neg n1, ev_bind_iff hc, ev_ite_iff, if_pos n2]; exact ev_some _, by omega⟩
  obtain ⟨i, hi, hib⟩ := szIntS_le q hq c (by omega) hcb
  by_cases n3 : i < 0
  · exact ⟨-1, by rw [ev_ite_iff, if_neg n1, ev_bind_iff hc, ev_ite_iff, if_neg n2]; simp only [hi, Option.bind_some, if_pos n3]; exact ev_some _, by omega⟩
  · exact ⟨i, by rw [ev_ite_iff, if_neg n1, ev_bind_iff hc, ev_ite_iff, if_neg n2]; simp only [hi, Option.bind_some, if_neg n3]; exact ev_some _, hib⟩
theorem toPuzzle_ev (R C : Int) (s : ByteArray) (l : List S149) (q : List Int) (e : Int) (hl : l.length ≤ 8796093022208) (hs : ∀ x ∈ l, x.f1.length ≤ 3518437208883) (hq : q.length ≤ 17592186044416) : Ev (fun k => laws_toPuzzle.f k R C s l q e) (R, C, s, l.map toClueM, q, e) := by
  unfold laws_toPuzzle.f
  simp only [laws_toGrid.f, Option.bind_some]
  rw [ev_bind_iff (toClueS_ev l hl hs), ev_bind_iff (toIntS_ev q hq)]
  exact ev_some _
theorem eqPuzzle_ev (R C : Int) (s : ByteArray) (l : List S116) (q : List Int) (e : Int) (hl : l.length < 4611686018427387904) (hs : ∀ x ∈ l, x.f1.length < 4611686018427387904) (hq : q.length < 4611686018427387904) : Ev (fun k => laws_eqPuzzle.f k R C s l q e R C s l q e) true := by
  unfold laws_eqPuzzle.f
  simp only [laws_eqGrid.f, if_true, Option.bind_some]
  rw [ev_bind_iff (eqClueS_ev l hl hs), ev_ite_iff, if_pos rfl, ev_bind_iff (eqIntS_ev q hq), ev_ite_iff, if_pos rfl]
  exact ev_some _
theorem sn_app (a b : List Int) : strOfNums (a ++ b) = strOfNums a ++ strOfNums b := by
  refine ByteArray.ext (Array.toList_inj.1 ?_)
  rw [ByteArray.data_append, Array.toList_append, strOfNums_data, strOfNums_data, strOfNums_data, List.map_append]
theorem extract1 (s : ByteArray) (i : Nat) (h : i < s.size) : s.extract i (i + 1) = strOfNums [(bytesOf s)[i]'(by rw [bytesOf_length]; exact h)] := by
  have hd : i < s.data.toList.length := by rw [Array.length_toList]; exact h
  refine ByteArray.ext (Array.toList_inj.1 ?_)
  rw [strOfNums_data, ByteArray.data_extract, Array.toList_extract, List.extract_eq_drop_take', List.drop_take, List.drop_eq_getElem_cons hd]
  simp [bytesOf]
def revB (s : ByteArray) : ByteArray := strOfNums (bytesOf s).reverse
theorem revB_size (s : ByteArray) : (revB s).size = s.size := by rw [revB, strOfNums_size, List.length_reverse, bytesOf_length]
theorem spec_Backwards_ev (s : ByteArray) (hs : s.size ≤ 100) : Ev (fun k => spec_Backwards.f k s) (revB s) := by
  unfold spec_Backwards.f
  refine loop_up (σ := ByteArray) (fun k a i => spec_Backwards.l0 k s a i) s.size (fun i a => a = strOfNums ((bytesOf s).take i).reverse) (fun _ _ => revB s) (fun a ha => ?_) (fun i a hi ha => ?_) 0 _ (Nat.zero_le _) rfl
  · rw [List.take_of_length_le (by rw [bytesOf_length]; exact Nat.le_refl _)] at ha
    rw [← ev_succ_iff]
    simp only [spec_Backwards.l0, Int.lt_irrefl, if_false, ha]
    exact ev_some _
  · have hb : i < (bytesOf s).length := by rw [bytesOf_length]; exact hi
    refine .inr ⟨strOfNums [(bytesOf s)[i]] ++ a, ?_, rfl, fun r hr => ?_⟩
    · rw [List.take_succ_eq_append_getElem hb, List.reverse_append, sn_app, ha]
      rfl
    · have h1 : (strOfNums [(bytesOf s)[i]]).size = 1 := by rw [strOfNums_size]; rfl
      have h2 : a.size ≤ 100 := by rw [ha, strOfNums_size, List.length_reverse, List.length_take]; omega
      rw [← ev_succ_iff]
      simp only [spec_Backwards.l0, w_succ (i := i) (by omega), Int.toNat_natCast, extract1 s i hi]
      rw [ev_ite_iff, if_pos (by omega), ev_ite_iff, if_pos (by omega), ev_ite_iff, if_pos (by omega), ev_ite_iff, if_pos (by omega), ev_ite_iff, if_pos (by omega), ev_ite_iff, if_pos (by omega)]
      exact hr
theorem impl_Backwards_eq (s : ByteArray) (hs : s.size ≤ 100) : impl_Backwards.f s = some (revB s) := by
  unfold impl_Backwards.f revB
  rw [if_pos hs]
def Nb (R C : Int) (i j : Nat) : Prop := ∃ r c r' c' : Int, (0 ≤ r ∧ r < R) ∧ (0 ≤ c ∧ c < C) ∧ (0 ≤ r' ∧ r' < R) ∧ (0 ≤ c' ∧ c' < C) ∧ (i : Int) = r * C + c ∧ (j : Int) = r' * C + c' ∧ ((r' = r - 1 ∧ c' = c) ∨ (r' = r + 1 ∧ c' = c) ∨ (r' = r ∧ c' = c - 1) ∨ (r' = r ∧ c' = c + 1))
def Wh (s : ByteArray) (i : Nat) : Prop := bt s (i : Int) = 46
inductive Conn (R C : Int) (s : ByteArray) (a : Nat) : Nat → Prop
  | refl : Conn R C s a a
  | step {x y : Nat} : Conn R C s a x → Nb R C x y → Wh s y → Conn R C s a y
theorem Conn.trans {R C : Int} {s : ByteArray} {a x y : Nat} (h1 : Conn R C s a x) (h2 : Conn R C s x y) : Conn R C s a y := by
  induction h2 with
  | refl => exact h1
  | step _ hn hw ih => exact .step ih hn hw
theorem cell_eq {C r c r' c' : Int} (hc : 0 ≤ c ∧ c < C) (hc' : 0 ≤ c' ∧ c' < C) (h : r * C + c = r' * C + c') : r = r' ∧ c = c' := by
  have h1 : (r * C + c) / C = r := by rw [Int.add_comm, Int.add_mul_ediv_right _ _ (by omega), Int.ediv_eq_zero_of_lt hc.1 hc.2]; omega
  have h2 : (r' * C + c') / C = r' := by rw [Int.add_comm, Int.add_mul_ediv_right _ _ (by omega), Int.ediv_eq_zero_of_lt hc'.1 hc'.2]; omega
  have h3 : r = r' := by rw [← h1, h, h2]
  subst h3
  exact ⟨rfl, by omega⟩
theorem cell_of (C : Int) (i : Nat) : (i : Int) = ((i : Int) / C) * C + (i : Int) % C := by
  have := Int.mul_ediv_add_emod (i : Int) C
  rw [Int.mul_comm]
  omega
theorem cell_in {R C : Int} {i : Nat} (hC : 0 < C) (hi : (i : Int) < R * C) : (0 ≤ (i : Int) / C ∧ (i : Int) / C < R) ∧ (0 ≤ (i : Int) % C ∧ (i : Int) % C < C) :=
  ⟨⟨Int.ediv_nonneg (by omega) (by omega), Int.ediv_lt_of_lt_mul hC hi⟩, Int.emod_nonneg _ (by omega), Int.emod_lt_of_pos _ hC⟩
theorem cell_lt {R C r c : Int} (hr : 0 ≤ r ∧ r < R) (hc : 0 ≤ c ∧ c < C) : 0 ≤ r * C + c ∧ r * C + c < R * C := by
  have h1 : 0 ≤ r * C := Int.mul_nonneg hr.1 (by omega)
  have h2 : (r + 1) * C ≤ R * C := Int.mul_le_mul_of_nonneg_right (by omega) (by omega)
  rw [Int.add_mul] at h2
  omega
theorem Nb.lt {R C : Int} {i j : Nat} (h : Nb R C i j) : (j : Int) < R * C := by
  obtain ⟨r, c, r', c', _, _, h3, h4, _, e, _⟩ := h
  have := cell_lt h3 h4
  omega
theorem Nb.symm {R C : Int} {i j : Nat} (h : Nb R C i j) : Nb R C j i := by
  obtain ⟨r, c, r', c', h1, h2, h3, h4, e1, e2, h5⟩ := h
  exact ⟨r', c', r, c, h3, h4, h1, h2, e2, e1, by omega⟩
def cnt (n : Nat) (d : Nat → Bool) : Nat := (List.range n).countP (fun j => !d j)
theorem cnt_mono {n : Nat} {d d' : Nat → Bool} (h : ∀ j, d j = true → d' j = true) : cnt n d' ≤ cnt n d := by
  refine List.countP_mono_left (fun j _ hj => ?_)
  have := h j
  revert hj this
  cases d j <;> cases d' j <;> simp
theorem cnt_lt {d d' : Nat → Bool} (h : ∀ j, d j = true → d' j = true) (i : Nat) (h0 : d i = false) (h1 : d' i = true) : ∀ n, i < n → cnt n d' < cnt n d := by
  intro n
  induction n with
  | zero => intro hi; omega
  | succ n ih =>
    intro hi
    unfold cnt at *
    rw [List.range_succ, List.countP_append, List.countP_append]
    by_cases e : i = n
    · subst e
      have := cnt_mono (n := i) h
      unfold cnt at this
      simp [h0, h1]
      omega
    · have h2 := ih (by omega)
      have h3 : List.countP (fun j => !d' j) [n] ≤ List.countP (fun j => !d j) [n] := by
        refine List.countP_mono_left (fun j _ hj => ?_)
        have := h j
        revert hj this
        cases d j <;> cases d' j <;> simp
      omega
theorem setget (d : Array Bool) (i j : Nat) (hi : i < d.size) : (d.setIfInBounds i true)[j]! = (decide (j = i) || d[j]!) := by
  simp only [getElem!_def, Array.getElem?_setIfInBounds]
  by_cases h : j = i
  · subst h; simp [hi]
  · rw [if_neg (by omega)]; simp [h]
def DfsP (R C : Int) (s : ByteArray) (d : Array Bool) (r c : Int) (d' : Array Bool) : Prop :=
  d'.size = d.size ∧ (∀ j : Nat, d[j]! = true → d'[j]! = true) ∧ (∀ i : Nat, (0 ≤ r ∧ r < R) → (0 ≤ c ∧ c < C) → (i : Int) = r * C + c → Wh s i → d'[i]! = true) ∧
  ∀ j : Nat, d'[j]! = true → d[j]! = false → (∃ i : Nat, (0 ≤ r ∧ r < R) ∧ (0 ≤ c ∧ c < C) ∧ (i : Int) = r * C + c ∧ Wh s i ∧ Conn R C s i j) ∧ ∀ y, Nb R C j y → Wh s y → d'[y]! = true
theorem DfsP.from {R C : Int} {s : ByteArray} {d d' : Array Bool} {r c r1 c1 : Int} {i : Nat} (hr : 0 ≤ r ∧ r < R) (hc : 0 ≤ c ∧ c < C) (hi : (i : Int) = r * C + c) (hn : (r1 = r - 1 ∧ c1 = c) ∨ (r1 = r + 1 ∧ c1 = c) ∨ (r1 = r ∧ c1 = c - 1) ∨ (r1 = r ∧ c1 = c + 1)) (h : DfsP R C s d r1 c1 d') :
    ∀ j : Nat, d'[j]! = true → d[j]! = false → Conn R C s i j ∧ ∀ y, Nb R C j y → Wh s y → d'[y]! = true := by
  intro j h1 h2
  obtain ⟨⟨i1, a1, a2, a3, a4, a5⟩, h3⟩ := h.2.2.2 j h1 h2
  exact ⟨(Conn.step .refl ⟨r, c, r1, c1, hr, hc, a1, a2, hi, a3, hn⟩ a4).trans a5, h3⟩
theorem dfs_ev {R C : Int} {s : ByteArray} (hs : (s.size : Int) = R * C) : ∀ (m : Nat) (d : Array Bool) (r c : Int), d.size = s.size → cnt s.size (fun j => d[j]!) < m → ∃ d', Ev (fun k => HandForm.dfs R C s k d r c) d' ∧ DfsP R C s d r c d' := by
  intro m
  induction m with
  | zero => intro d r c _ h; omega
  | succ m ih =>
    intro d r c hd hm
    by_cases hstop : HandForm.stopB R C s d r c = true
    · refine ⟨d, ?_, rfl, fun _ h => h, fun i hr hc hi hw => ?_, fun j h1 h2 => by rw [h1] at h2; cases h2⟩
      · rw [← ev_succ_iff]
        simp only [HandForm.dfs, hstop, if_true]
        exact ev_some _
      · unfold HandForm.stopB at hstop
        unfold Wh at hw
        rw [if_pos hr, if_pos hc, ← hi, hw] at hstop
        simpa using hstop
    · have hgo := hstop
      unfold HandForm.stopB at hgo
      have hr : 0 ≤ r ∧ r < R := Decidable.byContradiction fun h => hgo (by rw [if_neg h])
      rw [if_pos hr] at hgo
      have hc : 0 ≤ c ∧ c < C := Decidable.byContradiction fun h => hgo (by rw [if_neg h])
      rw [if_pos hc] at hgo
      have hlt := cell_lt hr hc
      obtain ⟨i, hi⟩ : ∃ i : Nat, (i : Int) = r * C + c := ⟨(r * C + c).toNat, by omega⟩
      rw [← hi] at hgo
      simp only [Int.toNat_natCast, Bool.or_eq_true, Bool.not_eq_true', beq_eq_false_iff_ne, not_or, Bool.not_eq_true, ne_eq, Decidable.not_not] at hgo
      obtain ⟨hdi, hwi⟩ := hgo
      have hid : i < d.size := by omega
      have hget := fun j => setget d i j hid
      have hd0 : (d.setIfInBounds i true).size = s.size := by rw [Array.size_setIfInBounds]; exact hd
      have hsub : ∀ j : Nat, d[j]! = true → (d.setIfInBounds i true)[j]! = true := fun j h => by rw [hget, h, Bool.or_true]
      have hc0 : cnt s.size (fun j => (d.setIfInBounds i true)[j]!) < m := by
        have := cnt_lt (d := fun j => d[j]!) (d' := fun j => (d.setIfInBounds i true)[j]!) hsub i hdi (by show (d.setIfInBounds i true)[i]! = true; rw [hget]; simp) s.size (by omega)
        omega
      obtain ⟨d1, e1, p1⟩ := ih (d.setIfInBounds i true) (r - 1) c hd0 hc0
      have c1 := Nat.lt_of_le_of_lt (cnt_mono (n := s.size) (d := fun j => (d.setIfInBounds i true)[j]!) (d' := fun j => d1[j]!) p1.2.1) hc0
      have z1 : d1.size = s.size := p1.1.trans hd0
      obtain ⟨d2, e2, p2⟩ := ih d1 (r + 1) c z1 c1
      have c2 := Nat.lt_of_le_of_lt (cnt_mono (n := s.size) (d := fun j => d1[j]!) (d' := fun j => d2[j]!) p2.2.1) c1
      have z2 : d2.size = s.size := p2.1.trans z1
      obtain ⟨d3, e3, p3⟩ := ih d2 r (c - 1) z2 c2
      have c3 := Nat.lt_of_le_of_lt (cnt_mono (n := s.size) (d := fun j => d2[j]!) (d' := fun j => d3[j]!) p3.2.1) c2
      have z3 : d3.size = s.size := p3.1.trans z2
      obtain ⟨d4, e4, p4⟩ := ih d3 r (c + 1) z3 c3
      have i4 : d4[i]! = true := p4.2.1 i (p3.2.1 i (p2.2.1 i (p1.2.1 i (by rw [hget]; simp))))
      have clI : ∀ y, Nb R C i y → Wh s y → d4[y]! = true := by
        rintro y ⟨r1, c1, r', c', b1, b2, b3, b4, q1, q2, q3⟩ hw
        obtain ⟨rfl, rfl⟩ := cell_eq b2 hc (q1.symm.trans hi)
        rcases q3 with ⟨rfl, rfl⟩ | ⟨rfl, rfl⟩ | ⟨rfl, rfl⟩ | ⟨rfl, rfl⟩
        · exact p4.2.1 y (p3.2.1 y (p2.2.1 y (p1.2.2.1 y b3 b4 q2 hw)))
        · exact p4.2.1 y (p3.2.1 y (p2.2.2.1 y b3 b4 q2 hw))
        · exact p4.2.1 y (p3.2.2.1 y b3 b4 q2 hw)
        · exact p4.2.2.1 y b3 b4 q2 hw
      refine ⟨d4, ?_, by rw [p4.1, z3, hd], fun j h => p4.2.1 j (p3.2.1 j (p2.2.1 j (p1.2.1 j (hsub j h)))), fun i' _ _ hi' _ => ?_, fun j h1 h2 => ?_⟩
      · rw [← ev_succ_iff]
        simp only [HandForm.dfs, hstop, Bool.false_eq_true, if_false, ← hi, Int.toNat_natCast]
        rw [ev_bind_iff e1, ev_bind_iff e2, ev_bind_iff e3]
        exact e4
      · rw [show i' = i by omega]; exact i4
      · have : Conn R C s i j ∧ ∀ y, Nb R C j y → Wh s y → d4[y]! = true := by
          cases h3 : d3[j]! with
          | false => exact p4.from hr hc hi (by omega) j h1 h3
          | true =>
            have up : (Conn R C s i j ∧ ∀ y, Nb R C j y → Wh s y → d3[y]! = true) → Conn R C s i j ∧ ∀ y, Nb R C j y → Wh s y → d4[y]! = true := fun q => ⟨q.1, fun y a b => p4.2.1 y (q.2 y a b)⟩
            cases h4 : d2[j]! with
            | false => exact up (p3.from hr hc hi (by omega) j h3 h4)
            | true =>
              have up2 : (Conn R C s i j ∧ ∀ y, Nb R C j y → Wh s y → d2[y]! = true) → Conn R C s i j ∧ ∀ y, Nb R C j y → Wh s y → d4[y]! = true := fun q => up ⟨q.1, fun y a b => p3.2.1 y (q.2 y a b)⟩
              cases h5 : d1[j]! with
              | false => exact up2 (p2.from hr hc hi (by omega) j h4 h5)
              | true =>
                cases h6 : (d.setIfInBounds i true)[j]! with
                | false =>
                  have q := p1.from hr hc hi (by omega) j h5 h6
                  exact up2 ⟨q.1, fun y a b => p2.2.1 y (q.2 y a b)⟩
                | true =>
                  rw [hget, h2, Bool.or_false] at h6
                  have := of_decide_eq_true h6
                  subst this
                  exact ⟨.refl, clI⟩
        exact ⟨⟨i, hr, hc, hi, hwi, this.1⟩, this.2⟩
/-- The cells that hang together with a white one before i. -/
def Met (R C : Int) (s : ByteArray) (i j : Nat) : Prop := ∃ a, a < i ∧ Wh s a ∧ Conn R C s a j
theorem Met.closed {R C : Int} {s : ByteArray} {i x y : Nat} (h : Met R C s i x) (hn : Nb R C x y) (hw : Wh s y) : Met R C s i y := by
  obtain ⟨a, h1, h2, h3⟩ := h
  exact ⟨a, h1, h2, .step h3 hn hw⟩
theorem Met.succ {R C : Int} {s : ByteArray} {i j : Nat} : Met R C s (i + 1) j ↔ Met R C s i j ∨ (Wh s i ∧ Conn R C s i j) := by
  constructor
  · rintro ⟨a, h1, h2, h3⟩
    by_cases e : a = i
    · subst e; exact .inr ⟨h2, h3⟩
    · exact .inl ⟨a, by omega, h2, h3⟩
  · rintro (⟨a, h1, h2, h3⟩ | ⟨h1, h2⟩)
    · exact ⟨a, by omega, h2, h3⟩
    · exact ⟨i, by omega, h1, h2⟩
theorem Met.same {R C : Int} {s : ByteArray} {i j : Nat} (h : Wh s i → Met R C s i i) : Met R C s (i + 1) j ↔ Met R C s i j := by
  rw [Met.succ]
  refine ⟨fun q => q.elim id (fun ⟨h1, h2⟩ => ?_), .inl⟩
  obtain ⟨a, a1, a2, a3⟩ := h h1
  exact ⟨a, a1, a2, a3.trans h2⟩
open Classical in
noncomputable def root (R C : Int) (s : ByteArray) (i : Nat) : Nat := if Wh s i ∧ ¬ Met R C s i i then 1 else 0
noncomputable def roots (R C : Int) (s : ByteArray) (i : Nat) : Nat := ((List.range' i (s.size - i)).map (root R C s)).sum
theorem roots_end (R C : Int) (s : ByteArray) : roots R C s s.size = 0 := by simp [roots]
theorem roots_step (R C : Int) (s : ByteArray) (i : Nat) (hi : i < s.size) : roots R C s i = root R C s i + roots R C s (i + 1) := by
  unfold roots
  rw [show s.size - i = (s.size - (i + 1)) + 1 by omega, List.range'_succ]
  simp
theorem root_yes {R C : Int} {s : ByteArray} {i : Nat} (h : Wh s i) (h' : ¬ Met R C s i i) : root R C s i = 1 := by unfold root; rw [if_pos ⟨h, h'⟩]
theorem root_no {R C : Int} {s : ByteArray} {i : Nat} (h : Wh s i → Met R C s i i) : root R C s i = 0 := by unfold root; rw [if_neg (fun q => q.2 (h q.1))]
theorem dfs_met {R C : Int} {s : ByteArray} (hs : (s.size : Int) = R * C) (hC : 0 < C) (d : Array Bool) (hd : d.size = s.size) (i : Nat) (hi : i < s.size) (hw : Wh s i) (hm : ∀ j : Nat, d[j]! = true ↔ Met R C s i j) :
    ∃ d', Ev (fun k => HandForm.dfs R C s k d ((i : Int) / C) ((i : Int) % C)) d' ∧ d'.size = s.size ∧ ∀ j : Nat, d'[j]! = true ↔ Met R C s (i + 1) j := by
  have hin := cell_in hC (show (i : Int) < R * C by omega)
  have hof := cell_of C i
  obtain ⟨d', e, p1, p2, p3, p4⟩ := dfs_ev hs _ d ((i : Int) / C) ((i : Int) % C) hd (Nat.lt_succ_self _)
  refine ⟨d', e, p1.trans hd, fun j => ?_⟩
  rw [Met.succ, ← hm]
  constructor
  · intro h
    cases h0 : d[j]! with
    | true => exact .inl rfl
    | false =>
      obtain ⟨⟨i', _, _, a3, _, a5⟩, _⟩ := p4 j h h0
      rw [show i' = i by omega] at a5
      exact .inr ⟨hw, a5⟩
  · rintro (h | ⟨_, h⟩)
    · exact p2 j h
    · induction h with
      | refl => exact p3 i hin.1 hin.2 hof hw
      | step hx hn hwy ih =>
        rename_i x y
        cases h0 : d[x]! with
        | true => exact p2 y ((hm y).2 (((hm x).1 h0).closed hn hwy))
        | false => exact (p4 x ih h0).2 y hn hwy
theorem parts_ev {R C : Int} {s : ByteArray} (hs : (s.size : Int) = R * C) (hC : 0 < C) : Ev (fun k => HandForm.parts R C s k (Array.replicate s.size false) 0 0) (roots R C s 0 : Int) := by
  have := loop_up (σ := Array Bool × Int) (fun k st i => HandForm.parts R C s k st.1 i st.2) s.size (fun i st => st.1.size = s.size ∧ ∀ j : Nat, st.1[j]! = true ↔ Met R C s i j) (fun i st => st.2 + (roots R C s i : Int)) (fun st hst => ?_) (fun i st hi hst => ?_) 0 (Array.replicate s.size false, 0) (Nat.zero_le _) ⟨by simp, fun j => ?_⟩
  · simpa using this
  · rw [roots_end, ← ev_succ_iff]
    simp only [HandForm.parts, Int.lt_irrefl, if_false]
    exact ev_as (ev_some _) (by simp)
  · obtain ⟨hd, hm⟩ := hst
    have hrs := roots_step R C s i hi
    by_cases hw : Wh s i
    · cases h0 : st.1[i]! with
      | true =>
        refine .inr ⟨st, ⟨hd, fun j => ?_⟩, ?_, fun r hr => ?_⟩
        · rw [hm, Met.same (fun _ => (hm i).1 h0)]
        · rw [hrs, root_no (fun _ => (hm i).1 h0)]; simp
        · rw [← ev_succ_iff]
          unfold Wh at hw
          simp only [HandForm.parts, Int.toNat_natCast, h0, if_true, hw]
          rw [ev_ite_iff, if_pos (by omega)]
          exact hr
      | false =>
        have hnm : ¬ Met R C s i i := fun q => by have := (hm i).2 q; rw [h0] at this; cases this
        obtain ⟨d', e, z, hm'⟩ := dfs_met hs hC st.1 hd i hi hw hm
        refine .inr ⟨(d', st.2 + 1), ⟨z, hm'⟩, ?_, fun r hr => ?_⟩
        · rw [hrs, root_yes hw hnm]; simp; omega
        · rw [← ev_succ_iff]
          unfold Wh at hw
          simp only [HandForm.parts, Int.toNat_natCast, h0, Bool.false_eq_true, if_false, if_true, hw]
          rw [ev_ite_iff, if_pos (by omega), ev_bind_iff e]
          exact hr
    · refine .inr ⟨st, ⟨hd, fun j => ?_⟩, ?_, fun r hr => ?_⟩
      · rw [hm, Met.same (fun h => absurd h hw)]
      · rw [hrs, root_no (fun h => absurd h hw)]; simp
      · rw [← ev_succ_iff]
        unfold Wh at hw
        simp only [HandForm.parts, hw, if_false]
        rw [ev_ite_iff, if_pos (by omega)]
        exact hr
  · constructor
    · intro h
      exfalso
      rw [getElem!_def, Array.getElem?_replicate] at h
      split at h <;> simp_all
    · rintro ⟨a, h, _⟩
      omega
noncomputable def partsB (R C : Int) (s : ByteArray) : Int := if isGridB R C s = true then (roots R C s 0 : Int) else 0
theorem roots_le (R C : Int) (s : ByteArray) : ∀ d i, i + d = s.size → roots R C s i ≤ d := by
  intro d
  induction d with
  | zero => intro i h; rw [show i = s.size by omega, roots_end]; exact Nat.le_refl _
  | succ d ih =>
    intro i h
    have := ih (i + 1) (by omega)
    rw [roots_step R C s i (by omega)]
    have : root R C s i ≤ 1 := by unfold root; split <;> omega
    omega
theorem impl_PartsOf_ev (R C : Int) (s : ByteArray) : Ev (fun k => impl_PartsOf.f k R C s) (partsB R C s) := by
  unfold impl_PartsOf.f partsB
  rw [ev_bind_iff (impl_IsGrid_ev R C s), ev_ite_iff]
  split
  · rename_i hg
    obtain ⟨_, h2, h3, _⟩ := isGridB_parts hg
    exact parts_ev h3 (by omega)
  · exact ev_some _
-- the reference's
theorem near_iff {R C : Int} {x : List Bool} (hC : 0 < C) (hx : (x.length : Int) = R * C) (y : Nat) (hy : y < x.length) : HandReach.nearB C x (y : Int) = true ↔ ∃ a : Nat, Nb R C a y ∧ x.getD a false = true := by
  have hin := cell_in hC (show (y : Int) < R * C by omega)
  have hof := cell_of C y
  unfold HandReach.nearB
  constructor
  · intro h
    simp only [Bool.or_eq_true, Bool.and_eq_true, decide_eq_true_eq] at h
    rcases h with ((⟨h1, h2⟩ | ⟨h1, h2⟩) | ⟨h1, h2⟩) | ⟨h1, h2⟩
    · have h0 : 0 ≤ ((y : Int) / C) * C := Int.mul_nonneg hin.1.1 (by omega)
      exact ⟨((y : Int) - 1).toNat, ⟨(y : Int) / C, (y : Int) % C - 1, (y : Int) / C, (y : Int) % C, hin.1, by omega, hin.1, hin.2, by omega, hof, by omega⟩, h2⟩
    · exact ⟨((y : Int) + 1).toNat, ⟨(y : Int) / C, (y : Int) % C + 1, (y : Int) / C, (y : Int) % C, hin.1, by omega, hin.1, hin.2, by omega, hof, by omega⟩, h2⟩
    · have h3 : 1 ≤ (y : Int) / C := by
        refine Decidable.byContradiction fun q => ?_
        rw [show (y : Int) / C = 0 by omega] at hof
        omega
      have h4 : ((y : Int) / C - 1) * C = (y : Int) / C * C - C := by rw [Int.sub_mul, Int.one_mul]
      exact ⟨((y : Int) - C).toNat, ⟨(y : Int) / C - 1, (y : Int) % C, (y : Int) / C, (y : Int) % C, by omega, hin.2, hin.1, hin.2, by omega, hof, by omega⟩, h2⟩
    · have h4 : ((y : Int) / C + 1) * C = (y : Int) / C * C + C := by rw [Int.add_mul, Int.one_mul]
      have h3 : (y : Int) / C + 1 < R := by
        refine Decidable.byContradiction fun q => ?_
        have : R * C ≤ ((y : Int) / C + 1) * C := Int.mul_le_mul_of_nonneg_right (by omega) (by omega)
        omega
      exact ⟨((y : Int) + C).toNat, ⟨(y : Int) / C + 1, (y : Int) % C, (y : Int) / C, (y : Int) % C, by omega, hin.2, hin.1, hin.2, by omega, hof, by omega⟩, h2⟩
  · rintro ⟨a, ⟨r, c, r', c', b1, b2, b3, b4, q1, q2, q3⟩, h2⟩
    obtain ⟨e1, e2⟩ := cell_eq b4 hin.2 (q2.symm.trans hof)
    subst e1 e2
    have hat : ∀ z : Int, z = a → rdOf false x z = true := fun z hz => by subst hz; exact h2
    simp only [Bool.or_eq_true, Bool.and_eq_true, decide_eq_true_eq]
    rcases q3 with ⟨e1, e2⟩ | ⟨e1, e2⟩ | ⟨e1, e2⟩ | ⟨e1, e2⟩
    · have h4 : r * C = (y : Int) / C * C + C := by rw [show r = (y : Int) / C + 1 by omega, Int.add_mul, Int.one_mul]
      have h5 := cell_lt b1 b2
      exact .inr ⟨by omega, hat _ (by omega)⟩
    · have h4 : r * C = (y : Int) / C * C - C := by rw [show r = (y : Int) / C - 1 by omega, Int.sub_mul, Int.one_mul]
      have h5 := cell_lt b1 b2
      exact .inl (.inr ⟨by omega, hat _ (by omega)⟩)
    · subst e1
      exact .inl (.inl (.inr ⟨by omega, hat _ (by omega)⟩))
    · subst e1
      exact .inl (.inl (.inl ⟨by omega, hat _ (by omega)⟩))
def ReachP (R C : Int) (s : ByteArray) (x x' : List Bool) : Prop :=
  x'.length = x.length ∧ (∀ j : Nat, x.getD j false = true → x'.getD j false = true) ∧ (∀ a y : Nat, x'.getD a false = true → Nb R C a y → Wh s y → x'.getD y false = true) ∧ ∀ j : Nat, x'.getD j false = true → ∃ a, x.getD a false = true ∧ Conn R C s a j
theorem getD_set (x : List Bool) (i j : Nat) (b : Bool) (hi : i < x.length) : (x.set i b).getD j false = if j = i then b else x.getD j false := by
  simp only [List.getD_eq_getElem?_getD, List.getElem?_set]
  by_cases h : j = i
  · subst h; simp [hi]
  · rw [if_neg (by omega), if_neg h]
theorem getD_lt {x : List Bool} {j : Nat} (h : x.getD j false = true) : j < x.length := by
  refine Decidable.byContradiction fun q => ?_
  rw [List.getD_eq_getElem?_getD, List.getElem?_eq_none (by omega)] at h
  cases h
theorem reach_ev {R C : Int} {s : ByteArray} (hs : (s.size : Int) = R * C) (hC : 0 < C) : ∀ (m : Nat) (x : List Bool), x.length = s.size → cnt s.size (fun j => x.getD j false) < m → ∃ x', Ev (fun k => HandReach.reach0 C s k x true) x' ∧ ReachP R C s x x' := by
  intro m
  induction m with
  | zero => intro x _ h; omega
  | succ m ih =>
    have inner : ∀ (d i : Nat) (x : List Bool) (g : Bool), i + d = s.size → x.length = s.size → (g = true → cnt s.size (fun j => x.getD j false) < m) → (g = false → cnt s.size (fun j => x.getD j false) < m + 1 ∧ ∀ j, j < i → x.getD j false = true ∨ ¬ Wh s j ∨ HandReach.nearB C x (j : Int) = false) →
        ∃ x', Ev (fun k => HandReach.reach1 C s k x g (i : Int)) x' ∧ ReachP R C s x x' := by
      intro d
      induction d with
      | zero =>
        intro i x g hi hx h1 h2
        have hi' : i = s.size := by omega
        subst hi'
        have hlast : ∀ x', Ev (fun k => HandReach.reach0 C s k x g) x' → Ev (fun k => HandReach.reach1 C s k x g (s.size : Int)) x' := by
          intro x' hx'
          rw [← ev_succ_iff]
          simp only [HandReach.reach1]
          rw [ev_ite_iff, if_neg (by omega)]
          exact hx'
        cases g with
        | true =>
          obtain ⟨x', e, p⟩ := ih x hx (h1 rfl)
          exact ⟨x', hlast x' e, p⟩
        | false =>
          refine ⟨x, hlast x ?_, rfl, fun _ h => h, fun a y ha hn hw => ?_, fun j h => ⟨j, h, .refl⟩⟩
          · rw [← ev_succ_iff]
            simp only [HandReach.reach0, Bool.false_eq_true, if_false]
            exact ev_some _
          · have hy : y < x.length := by have := hn.lt; omega
            rcases (h2 rfl).2 y (by omega) with h | h | h
            · exact h
            · exact absurd hw h
            · rw [(near_iff hC (by omega) y hy).2 ⟨a, hn, ha⟩] at h
              cases h
      | succ d ihd =>
        intro i x g hi hx h1 h2
        have hil : i < x.length := by omega
        have hri : rdOf false x (i : Int) = x.getD i false := rfl
        by_cases hb : x.getD i false = true ∨ ¬ Wh s i
        · obtain ⟨x', e, p⟩ := ihd (i + 1) x g (by omega) hx h1 (fun hg => ⟨(h2 hg).1, fun j hj => by
            by_cases hji : j = i
            · subst hji; exact hb.elim .inl (fun q => .inr (.inl q))
            · exact (h2 hg).2 j (by omega)⟩)
          refine ⟨x', ?_, p⟩
          rw [← ev_succ_iff]
          simp only [HandReach.reach1, hri]
          rw [ev_ite_iff, if_pos (by omega), ev_ite_iff, if_pos]
          · exact e
          · rcases hb with h | h
            · rw [h, Bool.true_or]
            · have : (bt s (i : Int) != 46) = true := bne_iff_ne.2 h
              rw [this, Bool.or_true]
        · have hb1 : x.getD i false = false := by simpa using fun q => hb (.inl q)
          have hb2 : Wh s i := Classical.byContradiction fun q => hb (.inr q)
          have hcond : (x.getD i false || (bt s (i : Int) != 46)) = false := by rw [hb1, show bt s (i : Int) = 46 from hb2]; rfl
          by_cases hn : HandReach.nearB C x (i : Int) = true
          · have hset := fun j => getD_set x i j true hil
            have hsub : ∀ j : Nat, x.getD j false = true → (x.set i true).getD j false = true := fun j h => by
              rw [hset]; split
              · rfl
              · exact h
            have hcl : cnt s.size (fun j => (x.set i true).getD j false) < m := by
              have h3 := cnt_lt (d := fun j => x.getD j false) (d' := fun j => (x.set i true).getD j false) hsub i hb1 (by show (x.set i true).getD i false = true; rw [hset, if_pos rfl]) s.size (by omega)
              cases g with
              | true => have := h1 rfl; omega
              | false => have := (h2 rfl).1; omega
            obtain ⟨x', e, p1, p2, p3, p4⟩ := ihd (i + 1) (x.set i true) true (by omega) (by rw [List.length_set]; exact hx) (fun _ => hcl) (fun h => by cases h)
            refine ⟨x', ?_, by rw [p1, List.length_set], fun j h => p2 j (hsub j h), p3, fun j h => ?_⟩
            · rw [← ev_succ_iff]
              simp only [HandReach.reach1, hri, hcond, Bool.false_eq_true, if_false, hn, if_true, Int.toNat_natCast]
              rw [ev_ite_iff, if_pos (by omega)]
              exact e
            · obtain ⟨a, ha, hc⟩ := p4 j h
              rw [hset] at ha
              by_cases hai : a = i
              · subst hai
                obtain ⟨b, hb1, hb3⟩ := (near_iff (R := R) hC (by omega) a hil).1 hn
                exact ⟨b, hb3, (Conn.step .refl hb1 hb2).trans hc⟩
              · rw [if_neg hai] at ha
                exact ⟨a, ha, hc⟩
          · rw [Bool.not_eq_true] at hn
            obtain ⟨x', e, p⟩ := ihd (i + 1) x g (by omega) hx h1 (fun hg => ⟨(h2 hg).1, fun j hj => by
              by_cases hji : j = i
              · subst hji; exact .inr (.inr hn)
              · exact (h2 hg).2 j (by omega)⟩)
            refine ⟨x', ?_, p⟩
            rw [← ev_succ_iff]
            simp only [HandReach.reach1, hri, hcond, Bool.false_eq_true, if_false, hn]
            rw [ev_ite_iff, if_pos (by omega)]
            exact e
    intro x hx hm
    obtain ⟨x', e, p⟩ := inner s.size 0 x false (by omega) hx (fun h => by cases h) (fun _ => ⟨hm, fun j hj => by omega⟩)
    refine ⟨x', ?_, p⟩
    rw [← ev_succ_iff]
    simp only [HandReach.reach0, if_true]
    exact e
theorem reach_conn {R C : Int} {s : ByteArray} (hg : isGridB R C s = true) (i : Nat) (hi : i < s.size) : ∃ x', Ev (fun k => spec_l10Reach.f k R C s (List.replicate s.size false) (i : Int)) x' ∧ x'.length = s.size ∧ ∀ j : Nat, x'.getD j false = true ↔ Conn R C s i j := by
  obtain ⟨hR, hC, hs, _⟩ := isGridB_parts hg
  have hl : (List.replicate s.size false).length = s.size := List.length_replicate
  have hset := fun j => getD_set (List.replicate s.size false) i j true (by omega)
  have hrep : ∀ j : Nat, (List.replicate s.size false).getD j false = false := fun j => by
    rw [List.getD_eq_getElem?_getD, List.getElem?_replicate]
    split <;> rfl
  obtain ⟨x', e, p1, p2, p3, p4⟩ := reach_ev hs (by omega) _ ((List.replicate s.size false).set i true) (by rw [List.length_set, hl]) (Nat.lt_succ_self _)
  refine ⟨x', ?_, by rw [p1, List.length_set, hl], fun j => ⟨fun h => ?_, fun h => ?_⟩⟩
  · unfold spec_l10Reach.f HandReach.reachF
    rw [ev_ite_iff, if_pos ⟨hR, hC, hs, by omega, by omega, by omega⟩, Int.toNat_natCast]
    exact e
  · obtain ⟨a, h1, h2⟩ := p4 j h
    rw [hset, hrep] at h1
    by_cases ha : a = i
    · subst ha; exact h2
    · rw [if_neg ha] at h1; cases h1
  · induction h with
    | refl => exact p2 i (by rw [hset, if_pos rfl])
    | step hx hn hw ih => exact p3 _ _ ih hn hw
theorem PartsOf_l3 {R C : Int} {s : ByteArray} (n : Int) (x one : List Bool) (hx : x.length = s.size) (ho : one.length = s.size) (hsz : s.size ≤ 36) (i : Nat) (r : Int)
    (hr : ∀ x' : List Bool, x'.length = s.size → (∀ j : Nat, x'.getD j false = true ↔ x.getD j false = true ∨ one.getD j false = true) → Ev (fun k => spec_PartsOf.l1 k n x' (wrap64 ((i : Int) + 1)) R C s) r) : Ev (fun k => spec_PartsOf.l3 k n x (i : Int) one 0 R C s) r := by
  refine loop_up (σ := List Bool) (fun k a j => spec_PartsOf.l3 k n a (i : Int) one j R C s) s.size (fun t a => a.length = s.size ∧ ∀ j : Nat, a.getD j false = true ↔ x.getD j false = true ∨ (j < t ∧ one.getD j false = true)) (fun _ _ => r) (fun a ha => ?_) (fun t a ht ha => ?_) 0 x (Nat.zero_le _) ⟨hx, fun j => by simp⟩
  · rw [← ev_succ_iff]
    simp only [spec_PartsOf.l3]
    rw [ev_ite_iff, if_neg (by omega)]
    refine hr a ha.1 (fun j => ?_)
    rw [ha.2]
    exact ⟨fun q => q.imp id (·.2), fun q => q.imp id (fun h => ⟨by have := getD_lt h; omega, h⟩)⟩
  · have htl : t < a.length := by omega
    have hra : rdOf false a (t : Int) = a.getD t false := rfl
    have hro : rdOf false one (t : Int) = one.getD t false := rfl
    refine .inr ⟨a.set t (a.getD t false || one.getD t false), ⟨by rw [List.length_set]; exact ha.1, fun j => ?_⟩, rfl, fun r' hr' => ?_⟩
    · rw [getD_set _ _ _ _ htl]
      by_cases hj : j = t
      · subst hj
        rw [if_pos rfl, Bool.or_eq_true, ha.2]
        constructor
        · rintro ((h | ⟨h, _⟩) | h)
          · exact .inl h
          · omega
          · exact .inr ⟨by omega, h⟩
        · rintro (h | ⟨_, h⟩)
          · exact .inl (.inl h)
          · exact .inr h
      · rw [if_neg hj, ha.2]
        exact ⟨fun q => q.imp id (fun h => ⟨by omega, h.2⟩), fun q => q.imp id (fun h => ⟨by omega, h.2⟩)⟩
    · rw [← ev_succ_iff]
      simp only [spec_PartsOf.l3, hra, hro, w_succ (i := t) (by omega), Int.toNat_natCast]
      rw [ev_ite_iff, if_pos (by omega), ev_ite_iff, if_pos (by omega), ev_ite_iff]
      by_cases h : a.getD t false = true
      · rw [if_pos h]
        rw [h, Bool.true_or] at hr'
        exact hr'
      · rw [Bool.not_eq_true] at h
        rw [h, Bool.false_or] at hr'
        rw [if_neg (by rw [h]; exact Bool.false_ne_true), ev_ite_iff, if_pos (by omega)]
        exact hr'
theorem PartsOf_l2 {R C : Int} {s : ByteArray} (n : Int) (x : List Bool) (hx : x.length = s.size) (hsz : s.size ≤ 36) (i : Nat) (one : List Bool) (r : Int) (ho : Ev (fun k => spec_l10Reach.f k R C s (List.replicate s.size false) (i : Int)) one)
    (hr : Ev (fun k => spec_PartsOf.l3 k n x (i : Int) one 0 R C s) r) : Ev (fun k => spec_PartsOf.l2 k n x (i : Int) [] 0 R C s) r := by
  refine loop_up (σ := List Bool) (fun k a j => spec_PartsOf.l2 k n x (i : Int) a j R C s) s.size (fun t a => a = List.replicate t false) (fun _ _ => r) (fun a ha => ?_) (fun t a ht ha => .inr ⟨a ++ [false], ?_, rfl, fun r' hr' => ?_⟩) 0 [] (Nat.zero_le _) rfl
  · subst ha
    rw [← ev_succ_iff]
    simp only [spec_PartsOf.l2]
    rw [ev_ite_iff, if_neg (by omega), ev_bind_iff ho]
    exact hr
  · rw [ha, List.replicate_succ']
  · have hal : a.length = t := by rw [ha, List.length_replicate]
    rw [← ev_succ_iff]
    simp only [spec_PartsOf.l2, w_succ (i := t) (by omega)]
    rw [ev_ite_iff, if_pos (by omega), ev_ite_iff, if_pos (by omega)]
    exact hr'
theorem PartsOf_l1 {R C : Int} {s : ByteArray} (hg : isGridB R C s = true) : Ev (fun k => spec_PartsOf.l1 k 0 (List.replicate s.size false) 0 R C s) (roots R C s 0 : Int) := by
  obtain ⟨hR, hC, hs, _⟩ := isGridB_parts hg
  have hsz := isGridB_size hg
  have := loop_up (σ := List Bool × Int) (fun k st i => spec_PartsOf.l1 k st.2 st.1 i R C s) s.size (fun i st => (st.1.length = s.size ∧ 0 ≤ st.2 ∧ st.2 ≤ i) ∧ ∀ j : Nat, st.1.getD j false = true ↔ Met R C s i j) (fun i st => st.2 + (roots R C s i : Int)) (fun st hst => ?_) (fun i st hi hst => ?_) 0 (List.replicate s.size false, 0) (Nat.zero_le _) ⟨⟨by simp, by simp, by simp⟩, fun j => ?_⟩
  · simpa using this
  · rw [roots_end, ← ev_succ_iff]
    simp only [spec_PartsOf.l1, Int.lt_irrefl, if_false]
    rw [← ev_succ_iff]
    simp only [spec_PartsOf.j2, Bool.false_eq_true, if_false]
    exact ev_as (ev_some _) (by simp)
  · obtain ⟨⟨hx, hn0, hni⟩, hm⟩ := hst
    have hrs := roots_step R C s i hi
    have hri : rdOf false st.1 (i : Int) = st.1.getD i false := rfl
    have start : ∀ b : Bool, (if bt s (i : Int) = 46 then (!(st.1.getD i false)) else false) = b → ∀ r, Ev (fun k => spec_PartsOf.j3 k st.2 st.1 (i : Int) b R C s) r → Ev (fun k => spec_PartsOf.l1 k st.2 st.1 (i : Int) R C s) r := by
      intro b hb r hr
      rw [← ev_succ_iff]
      simp only [spec_PartsOf.l1]
      rw [ev_ite_iff, if_pos (by omega), ev_bind_iff (spec_IsGrid_ev R C s), hg, ← ev_succ_iff]
      simp only [spec_PartsOf.j2, if_true, hri]
      rw [ev_ite_iff, if_pos (by omega), ev_ite_iff, if_pos (by omega), ev_ite_iff]
      by_cases hw : bt s (i : Int) = 46
      · rw [if_pos hw] at hb ⊢
        rw [ev_ite_iff, if_pos (by omega), hb]
        exact hr
      · rw [if_neg hw] at hb ⊢
        rw [hb]
        exact hr
    have skip : (Wh s i → Met R C s i i) → (if bt s (i : Int) = 46 then (!(st.1.getD i false)) else false) = false → ∃ s' : List Bool × Int, ((s'.1.length = s.size ∧ 0 ≤ s'.2 ∧ s'.2 ≤ ((i + 1 : Nat) : Int)) ∧ ∀ j : Nat, s'.1.getD j false = true ↔ Met R C s (i + 1) j) ∧ st.2 + (roots R C s i : Int) = s'.2 + (roots R C s (i + 1) : Int) ∧ ∀ r, Ev (fun k => spec_PartsOf.l1 k s'.2 s'.1 ((i + 1 : Nat) : Int) R C s) r → Ev (fun k => spec_PartsOf.l1 k st.2 st.1 (i : Int) R C s) r := by
      intro h hb
      refine ⟨st, ⟨⟨hx, hn0, by omega⟩, fun j => ?_⟩, ?_, fun r hr => start false hb r ?_⟩
      · rw [hm, Met.same h]
      · rw [hrs, root_no h]; simp
      · rw [← ev_succ_iff]
        simp only [spec_PartsOf.j3, Bool.false_eq_true, if_false, w_succ (i := i) (by omega)]
        exact hr
    by_cases hw : Wh s i
    · cases h0 : st.1.getD i false with
      | true => exact .inr (skip (fun _ => (hm i).1 h0) (by unfold Wh at hw; rw [if_pos hw, h0]; rfl))
      | false =>
        have hnm : ¬ Met R C s i i := fun q => by have := (hm i).2 q; rw [h0] at this; cases this
        obtain ⟨one, e, z, hone⟩ := reach_conn hg i hi
        obtain ⟨x', hx'⟩ : ∃ x' : List Bool, x'.length = s.size ∧ ∀ j : Nat, x'.getD j false = true ↔ st.1.getD j false = true ∨ one.getD j false = true := by
          refine ⟨(List.range s.size).map (fun j => st.1.getD j false || one.getD j false), by simp, fun j => ?_⟩
          by_cases hj : j < s.size
          · rw [List.getD_eq_getElem?_getD, List.getElem?_map, List.getElem?_range hj]
            simp
          · rw [List.getD_eq_getElem?_getD, List.getElem?_eq_none (by simp; omega)]
            constructor
            · intro q
              cases q
            · intro q
              rcases q with q | q
              · have := getD_lt q; omega
              · have := getD_lt q; omega
        have hsame : ∀ y : List Bool, y.length = s.size → (∀ j : Nat, y.getD j false = true ↔ st.1.getD j false = true ∨ one.getD j false = true) → y = x' := by
          intro y hy1 hy2
          refine List.ext_getElem (by omega) (fun j h1 h2 => ?_)
          have e1 : y.getD j false = y[j] := by simp [List.getD_eq_getElem?_getD, List.getElem?_eq_getElem h1]
          have e2 : x'.getD j false = x'[j] := by simp [List.getD_eq_getElem?_getD, List.getElem?_eq_getElem h2]
          rw [← e1, ← e2, Bool.eq_iff_iff, hy2, hx'.2]
        refine .inr ⟨(x', st.2 + 1), ⟨⟨hx'.1, by show 0 ≤ st.2 + 1; omega, by show st.2 + 1 ≤ _; omega⟩, fun j => ?_⟩, ?_, fun r hr => start true (by unfold Wh at hw; rw [if_pos hw, h0]; rfl) r ?_⟩
        · rw [hx'.2, hm, hone, Met.succ]
          exact ⟨fun q => q.imp id (fun h => ⟨hw, h⟩), fun q => q.imp id (·.2)⟩
        · rw [hrs, root_yes hw hnm]; simp; omega
        · have e1 : wrap64 (st.2 + 1) = st.2 + 1 := w_in (by omega) (by omega)
          rw [← ev_succ_iff]
          simp only [spec_PartsOf.j3, if_true, e1]
          refine PartsOf_l2 _ _ hx hsz.2 i one r e (PartsOf_l3 _ _ one hx z hsz.2 i r (fun y hy1 hy2 => ?_))
          rw [hsame y hy1 hy2, w_succ (i := i) (by omega)]
          exact hr
    · exact .inr (skip (fun h => absurd h hw) (by unfold Wh at hw; rw [if_neg hw]))
  · constructor
    · intro h
      exfalso
      rw [List.getD_eq_getElem?_getD, List.getElem?_replicate] at h
      split at h <;> simp at h
    · rintro ⟨a, h, _⟩
      omega
theorem PartsOf_l0 {R C : Int} {s : ByteArray} (hsz : s.size < 140737488355328) (r : Int) (hr : Ev (fun k => spec_PartsOf.l1 k 0 (List.replicate s.size false) 0 R C s) r) : Ev (fun k => spec_PartsOf.f k R C s) r := by
  unfold spec_PartsOf.f
  refine loop_up (σ := List Bool) (fun k a j => spec_PartsOf.l0 k 0 a j R C s) s.size (fun t a => a = List.replicate t false) (fun _ _ => r) (fun a ha => ?_) (fun t a ht ha => .inr ⟨a ++ [false], ?_, rfl, fun r' hr' => ?_⟩) 0 [] (Nat.zero_le _) rfl
  · subst ha
    rw [← ev_succ_iff]
    simp only [spec_PartsOf.l0, Int.lt_irrefl, if_false]
    exact hr
  · rw [ha, List.replicate_succ']
  · have hal : a.length = t := by rw [ha, List.length_replicate]
    rw [← ev_succ_iff]
    simp only [spec_PartsOf.l0, w_succ (i := t) (by omega)]
    rw [ev_ite_iff, if_pos (by omega), ev_ite_iff, if_pos (by omega)]
    exact hr'
theorem spec_PartsOf_ev (R C : Int) (s : ByteArray) (hsz : s.size < 140737488355328) : Ev (fun k => spec_PartsOf.f k R C s) (partsB R C s) := by
  unfold partsB
  split
  · rename_i hg
    exact PartsOf_l0 hsz _ (PartsOf_l1 hg)
  · rename_i hg
    rw [Bool.not_eq_true] at hg
    refine PartsOf_l0 hsz _ ?_
    have : Ev (fun k => spec_PartsOf.j2 k 0 (List.replicate s.size false) 0 false R C s) 0 := by
      rw [← ev_succ_iff]
      simp only [spec_PartsOf.j2, Bool.false_eq_true, if_false]
      exact ev_some _
    rw [← ev_succ_iff]
    simp only [spec_PartsOf.l1]
    rw [ev_ite_iff]
    split
    · rw [ev_bind_iff (spec_IsGrid_ev R C s), hg]
      exact this
    · exact this
def symB (R C : Int) (s : ByteArray) : Bool := isGridB R C s && decide (revB s = s)
theorem spec_TurnGrid_ev {R C : Int} {s : ByteArray} (hg : isGridB R C s = true) : Ev (fun k => spec_TurnGrid.f k R C s) (R, C, revB s) := by
  have := isGridB_size hg
  unfold spec_TurnGrid.f
  rw [ev_bind_iff (spec_IsGrid_ev R C s), ev_ite_iff, if_pos hg, ev_bind_iff (spec_Backwards_ev s (by omega))]
  exact ev_some _
theorem impl_TurnGrid_ev {R C : Int} {s : ByteArray} (hg : isGridB R C s = true) : Ev (fun k => impl_TurnGrid.f k R C s) (R, C, revB s) := by
  have := isGridB_size hg
  unfold impl_TurnGrid.f
  rw [ev_bind_iff (impl_IsGrid_ev R C s), ev_ite_iff, if_pos hg]
  simp only [impl_Backwards_eq s (by omega), Option.bind_some]
  exact ev_some _
theorem spec_IsSymmetric_ev (R C : Int) (s : ByteArray) : Ev (fun k => spec_IsSymmetric.f k R C s) (symB R C s) := by
  unfold spec_IsSymmetric.f symB
  rw [ev_bind_iff (spec_IsGrid_ev R C s), ev_ite_iff]
  split
  · rename_i hg
    rw [ev_bind_iff (spec_TurnGrid_ev hg)]
    exact ev_as (ev_some _) (by simp [hg, toList_beq])
  · rename_i hg
    exact ev_as (ev_some _) (by simp [hg])
theorem impl_IsSymmetric_ev (R C : Int) (s : ByteArray) : Ev (fun k => impl_IsSymmetric.f k R C s) (symB R C s) := by
  unfold impl_IsSymmetric.f symB
  rw [ev_bind_iff (impl_IsGrid_ev R C s), ev_ite_iff]
  split
  · rename_i hg
    rw [ev_bind_iff (impl_TurnGrid_ev hg)]
    exact ev_as (ev_some _) (by simp [hg, toList_beq, eq_comm])
  · rename_i hg
    exact ev_as (ev_some _) (by simp [hg])
theorem indexI_ev (l : List Int) (x : Int) (hl : l.length < 4611686018427387904) : Ev (fun k => slices_Index_int_int.f k l x) (match l.findIdx? (fun y => decide (y = x)) with | some i => (i : Int) | none => -1) := by
  refine loop_find (fun k i => slices_Index_int_int.l0 k l x (l.length : Int) i) l _ ?_ (fun i hi hp r hr => ?_) (fun i hi hp => ?_)
  · rw [← ev_succ_iff]; simp [slices_Index_int_int.l0, ev_some]
  · rw [← ev_succ_iff]
    simp only [slices_Index_int_int.l0, rd_nat l i hi, w_succ (i := i) (by omega)]
    rw [ev_ite_iff, if_pos (by omega), ev_ite_iff, if_pos (by omega), ev_ite_iff, if_pos (by omega), ev_ite_iff, if_neg (fun e => of_decide_eq_false hp e.symm)]
    exact hr
  · rw [← ev_succ_iff]
    simp only [slices_Index_int_int.l0, rd_nat l i hi]
    rw [ev_ite_iff, if_pos (by omega), ev_ite_iff, if_pos (by omega), ev_ite_iff, if_pos (by omega), ev_ite_iff, if_pos (of_decide_eq_true hp).symm]
    exact ev_some _
theorem find_geI {α : Type} (l : List α) (p : α → Bool) : decide ((match l.findIdx? p with | some i => (i : Int) | none => -1) ≥ 0) = l.any p := by
  cases h : l.findIdx? p with
  | none =>
    have := List.findIdx?_eq_none_iff.1 h
    simp
    intro x hx
    simpa using this x hx
  | some i =>
    obtain ⟨h1, h2, _⟩ := List.findIdx?_eq_some_iff_getElem.1 h
    simp
    exact ⟨l[i], List.getElem_mem h1, h2⟩
theorem containsI_ev (l : List Int) (x : Int) (hl : l.length < 4611686018427387904) : Ev (fun k => slices_Contains_int_int.f k l x) (l.any (fun y => decide (y = x))) := by
  unfold slices_Contains_int_int.f
  rw [ev_bind_iff (indexI_ev l x hl), find_geI]
  exact ev_some _
def hasC (C : Int) (c : Int) (x : S153) : Bool := (cellsB C x).any (fun y => decide (y = c))
noncomputable def slotsAtB (R C : Int) (s : ByteArray) (c : Int) : List Int := (List.range (slotsB R C s).length).flatMap (fun (i : Nat) => if ((slotsB R C s)[i]?).any (hasC C c) = true then [(i : Int)] else [])
theorem slotsAtB_take (R C : Int) (s : ByteArray) (c : Int) (i : Nat) : (((List.range (slotsB R C s).length).take i).flatMap (fun (i : Nat) => if ((slotsB R C s)[i]?).any (hasC C c) = true then [(i : Int)] else [])).length ≤ 72 := by
  have h1 := flat_len_take (fun i : Nat => if ((slotsB R C s)[i]?).any (hasC C c) = true then [(i : Int)] else []) 1 i (List.range (slotsB R C s).length) (fun x _ => by split <;> simp)
  have h2 := (slotsB_good R C s).2.2
  rw [List.length_range] at h1
  omega
theorem slotsAtB_nil (R C : Int) (s : ByteArray) (c : Int) : (((slotsAtB R C s c).length : Int) = 0) ↔ c ∉ ((slotsB R C s).map (cellsB C)).flatten := by
  have : ((slotsAtB R C s c).length : Int) = 0 ↔ slotsAtB R C s c = [] := by rw [← List.length_eq_zero_iff]; omega
  rw [this]
  unfold slotsAtB
  rw [List.flatMap_eq_nil_iff]
  simp only [List.mem_range, List.mem_flatten, List.mem_map]
  constructor
  · rintro h ⟨l, ⟨x, hx, rfl⟩, hc⟩
    obtain ⟨i, hi, rfl⟩ := List.getElem_of_mem hx
    have := h i hi
    rw [if_pos] at this
    · cases this
    · rw [List.getElem?_eq_getElem hi]
      show hasC C c (slotsB R C s)[i] = true
      exact List.any_eq_true.2 ⟨c, hc, decide_eq_true rfl⟩
  · intro h i hi
    rw [if_neg]
    rw [List.getElem?_eq_getElem hi]
    intro q
    obtain ⟨y, hy, e⟩ := List.any_eq_true.1 (show hasC C c (slotsB R C s)[i] = true from q)
    have := of_decide_eq_true e
    subst this
    exact h ⟨_, ⟨_, List.getElem_mem hi, rfl⟩, hy⟩
theorem spec_SlotsAt_ev (R C : Int) (s : ByteArray) (c : Int) : Ev (fun k => spec_SlotsAt.f k R C s c) (slotsAtB R C s c) := by
  have hlen := (slotsB_good R C s).2.2
  have hlr : (List.range (slotsB R C s).length).length = (slotsB R C s).length := List.length_range
  unfold spec_SlotsAt.f
  rw [ev_bind_iff (spec_SlotsOf_ev R C s)]
  refine loop_collect (fun k a i => spec_SlotsAt.l0 k c a (slotsB R C s) i R C s) (List.range (slotsB R C s).length) (fun (i : Nat) => if ((slotsB R C s)[i]?).any (hasC C c) = true then [(i : Int)] else []) 0 (fun a => ?_) (fun i hi a ha r hr => ?_)
  · rw [← ev_succ_iff]; simp only [spec_SlotsAt.l0, hlr, Int.lt_irrefl, if_false]; exact ev_some _
  · have hb := slotsAtB_take R C s c i
    have hi' : i < (slotsB R C s).length := by omega
    have hm := List.getElem_mem hi'
    have hcl : (cellsB C (slotsB R C s)[i]).length < 4611686018427387904 := by rw [cellsB_length]; have := ((slotsB_good R C s).1 _ hm).2.2.2.1; omega
    rw [List.getElem_range, List.getElem?_eq_getElem hi'] at hr
    rw [← ev_succ_iff]
    simp only [spec_SlotsAt.l0, rdt_153 _ i hi', w_succ (i := i) (by omega)]
    rw [ev_ite_iff, if_pos (by omega), ev_ite_iff, if_pos (by omega), ev_bind_iff (spec_CellsOf_ev _ hm), ev_bind_iff (spec_l8Has_ev _ c hcl), ev_ite_iff]
    by_cases h : (cellsB C (slotsB R C s)[i]).any (fun y => decide (y = c)) = true
    · rw [if_pos (show Option.any (hasC C c) (some (slotsB R C s)[i]) = true from h)] at hr
      rw [if_pos h, ev_ite_iff, if_pos (by omega)]
      exact hr
    · rw [if_neg (show ¬ Option.any (hasC C c) (some (slotsB R C s)[i]) = true from h), List.append_nil] at hr
      rw [if_neg h]
      exact hr
noncomputable def chkB (R C : Int) (s : ByteArray) (c : Int) : Bool := ((slotsAtB R C s c).length : Int) == 2
noncomputable def unchB (R C : Int) (s : ByteArray) (x : S153) : Int := (((cellsB C x).countP (fun c => !chkB R C s c) : Nat) : Int)
theorem spec_IsChecked_ev (R C : Int) (s : ByteArray) (c : Int) : Ev (fun k => spec_IsChecked.f k R C s c) (chkB R C s c) := by
  unfold spec_IsChecked.f
  rw [ev_bind_iff (spec_SlotsAt_ev R C s c)]
  exact ev_some _
theorem spec_UncheckedIn_ev (R C : Int) (s : ByteArray) (i : Nat) (hi : i < (slotsB R C s).length) : Ev (fun k => spec_UncheckedIn.f k R C s (i : Int)) (unchB R C s (slotsB R C s)[i]) := by
  have hlen := (slotsB_good R C s).2.2
  have hm := List.getElem_mem hi
  have ok := (slotsB_good R C s).1 _ hm
  have hcl := cellsB_length C (slotsB R C s)[i]
  have hok := ok.2.2.2.1
  have e : wrap64 (((slotsB R C s).length : Int) - 1) = (slotsB R C s).length - 1 := w_in (by omega) (by omega)
  unfold spec_UncheckedIn.f
  rw [ev_bind_iff (spec_SlotsOf_ev R C s)]
  simp only [l1In_eq, Option.bind_some, e, rdt_153 _ i hi]
  rw [ev_ite_iff, if_pos (by simp; omega), ev_ite_iff, if_pos (by omega), ev_ite_iff, if_pos (by omega), ev_bind_iff (spec_CellsOf_ev _ hm)]
  unfold unchB
  generalize cellsB C (slotsB R C s)[i] = l at hcl
  have := loop_up (σ := Nat) (fun k a j => spec_UncheckedIn.l0 k l (a : Int) j R C s) l.length (fun j a => a ≤ j) (fun j a => ((a + (l.drop j).countP (fun c => !chkB R C s c) : Nat) : Int)) (fun a ha => ?_) (fun j a hj ha => ?_) 0 0 (Nat.zero_le _) (Nat.le_refl _)
  · simpa using this
  · rw [← ev_succ_iff]
    simp only [spec_UncheckedIn.l0, List.drop_length, List.countP_nil, Nat.add_zero, Int.lt_irrefl, if_false]
    exact ev_some _
  · rw [List.drop_eq_getElem_cons hj, List.countP_cons]
    have ew : wrap64 ((a : Int) + 1) = ((a + 1 : Nat) : Int) := w_succ (by omega)
    by_cases h : chkB R C s l[j] = true
    · refine .inr ⟨a, by omega, by simp [h], fun r hr => ?_⟩
      rw [← ev_succ_iff]
      simp only [spec_UncheckedIn.l0, rd_nat l j hj, w_succ (i := j) (by omega), ew]
      rw [ev_ite_iff, if_pos (by omega), ev_ite_iff, if_pos (by omega), ev_bind_iff (spec_IsChecked_ev R C s l[j]), ev_ite_iff, if_pos h]
      exact hr
    · refine .inr ⟨a + 1, by omega, by simp [h]; omega, fun r hr => ?_⟩
      rw [← ev_succ_iff]
      simp only [spec_UncheckedIn.l0, rd_nat l j hj, w_succ (i := j) (by omega), ew]
      rw [ev_ite_iff, if_pos (by omega), ev_ite_iff, if_pos (by omega), ev_bind_iff (spec_IsChecked_ev R C s l[j]), ev_ite_iff, if_neg h]
      exact hr
theorem unchB_in (R C : Int) (s : ByteArray) (x : S153) (hx : x ∈ slotsB R C s) : 0 ≤ unchB R C s x ∧ unchB R C s x ≤ 6 := by
  have ok := (slotsB_good R C s).1 _ hx
  have h1 := cellsB_length C x
  have h2 := ok.2.2.2.1
  have h3 : (cellsB C x).countP (fun c => !chkB R C s c) ≤ (cellsB C x).length := List.countP_le_length
  unfold unchB
  omega
theorem impl_SlotsAt_ev (R C : Int) (s : ByteArray) (c : Int) : Ev (fun k => impl_SlotsAt.f k R C s c) (slotsAtB R C s c) := by
  have hlen := (slotsB_good R C s).2.2
  have hlr : (List.range (slotsB R C s).length).length = (slotsB R C s).length := List.length_range
  have hll : ((slotsB R C s).map (cellsB C)).length = (slotsB R C s).length := List.length_map _
  unfold impl_SlotsAt.f
  rw [ev_bind_iff (impl_layout_ev R C s)]
  refine loop_collect (fun k a i => impl_SlotsAt.l0 k c a ((slotsB R C s).map (cellsB C)) (((slotsB R C s).map (cellsB C)).length : Int) i) (List.range (slotsB R C s).length) (fun (i : Nat) => if ((slotsB R C s)[i]?).any (hasC C c) = true then [(i : Int)] else []) 0 (fun a => ?_) (fun i hi a ha r hr => ?_)
  · rw [← ev_succ_iff]; simp only [impl_SlotsAt.l0, hlr, hll, Int.lt_irrefl, if_false]; exact ev_some _
  · have hb := slotsAtB_take R C s c i
    have hi' : i < (slotsB R C s).length := by omega
    have hm := List.getElem_mem hi'
    have hcl : (cellsB C (slotsB R C s)[i]).length < 4611686018427387904 := by rw [cellsB_length]; have := ((slotsB_good R C s).1 _ hm).2.2.2.1; omega
    have hL : ((slotsB R C s).map (cellsB C))[i]'(by omega) = cellsB C (slotsB R C s)[i] := List.getElem_map _
    rw [List.getElem_range, List.getElem?_eq_getElem hi'] at hr
    rw [← ev_succ_iff]
    simp only [impl_SlotsAt.l0, rdl_10 ((slotsB R C s).map (cellsB C)) i (by omega), hL, w_succ (i := i) (by omega)]
    rw [ev_ite_iff, if_pos (by omega), ev_ite_iff, if_pos (by omega), ev_ite_iff, if_pos (by omega), ev_bind_iff (containsI_ev _ c hcl), ev_ite_iff]
    by_cases h : (cellsB C (slotsB R C s)[i]).any (fun y => decide (y = c)) = true
    · rw [if_pos (show Option.any (hasC C c) (some (slotsB R C s)[i]) = true from h)] at hr
      rw [if_pos h, ev_ite_iff, if_pos (by omega)]
      exact hr
    · rw [if_neg (show ¬ Option.any (hasC C c) (some (slotsB R C s)[i]) = true from h), List.append_nil] at hr
      rw [if_neg h]
      exact hr
theorem impl_IsChecked_ev (R C : Int) (s : ByteArray) (c : Int) : Ev (fun k => impl_IsChecked.f k R C s c) (chkB R C s c) := by
  unfold impl_IsChecked.f
  rw [ev_bind_iff (impl_SlotsAt_ev R C s c)]
  exact ev_some _
theorem impl_UncheckedIn_ev (R C : Int) (s : ByteArray) (i : Nat) (hi : i < (slotsB R C s).length) : Ev (fun k => impl_UncheckedIn.f k R C s (i : Int)) (unchB R C s (slotsB R C s)[i]) := by
  have hlen := (slotsB_good R C s).2.2
  have hm := List.getElem_mem hi
  have ok := (slotsB_good R C s).1 _ hm
  have hcl := cellsB_length C (slotsB R C s)[i]
  have hok := ok.2.2.2.1
  have hll : ((slotsB R C s).map (cellsB C)).length = (slotsB R C s).length := List.length_map _
  have hL : ((slotsB R C s).map (cellsB C))[i]'(by omega) = cellsB C (slotsB R C s)[i] := List.getElem_map _
  unfold impl_UncheckedIn.f
  rw [ev_bind_iff (impl_layout_ev R C s)]
  simp only [at_eq, Option.bind_some, rdl_10 ((slotsB R C s).map (cellsB C)) i (by omega), hL]
  rw [ev_ite_iff, if_pos (by simp; omega), ev_ite_iff, if_pos (by omega), ev_ite_iff, if_pos (by omega)]
  unfold unchB
  generalize cellsB C (slotsB R C s)[i] = l at hcl
  have := loop_up (σ := Nat) (fun k a j => impl_UncheckedIn.l0 k (a : Int) l (l.length : Int) j R C s) l.length (fun j a => a ≤ j) (fun j a => ((a + (l.drop j).countP (fun c => !chkB R C s c) : Nat) : Int)) (fun a ha => ?_) (fun j a hj ha => ?_) 0 0 (Nat.zero_le _) (Nat.le_refl _)
  · simpa using this
  · rw [← ev_succ_iff]
    simp only [impl_UncheckedIn.l0, List.drop_length, List.countP_nil, Nat.add_zero, Int.lt_irrefl, if_false]
    exact ev_some _
  · rw [List.drop_eq_getElem_cons hj, List.countP_cons]
    have ew : wrap64 ((a : Int) + 1) = ((a + 1 : Nat) : Int) := w_succ (by omega)
    by_cases h : chkB R C s l[j] = true
    · refine .inr ⟨a, by omega, by simp [h], fun r hr => ?_⟩
      rw [← ev_succ_iff]
      simp only [impl_UncheckedIn.l0, rd_nat l j hj, w_succ (i := j) (by omega), ew]
      rw [ev_ite_iff, if_pos (by omega), ev_ite_iff, if_pos (by omega), ev_ite_iff, if_pos (by omega), ev_bind_iff (impl_IsChecked_ev R C s l[j]), ev_ite_iff, if_pos h]
      exact hr
    · refine .inr ⟨a + 1, by omega, by simp [h]; omega, fun r hr => ?_⟩
      rw [← ev_succ_iff]
      simp only [impl_UncheckedIn.l0, rd_nat l j hj, w_succ (i := j) (by omega), ew]
      rw [ev_ite_iff, if_pos (by omega), ev_ite_iff, if_pos (by omega), ev_ite_iff, if_pos (by omega), ev_bind_iff (impl_IsChecked_ev R C s l[j]), ev_ite_iff, if_neg h]
      exact hr
noncomputable def shortB (R C : Int) (s : ByteArray) : Bool := (slotsB R C s).any (fun x => decide (x.f3 < 3))
noncomputable def looseB (R C : Int) (s : ByteArray) : Bool := (slotsB R C s).any (fun x => decide (2 * unchB R C s x > x.f3))
noncomputable def loneB (R C : Int) (s : ByteArray) (c : Nat) : Bool := decide (bt s (c : Int) = 46) && decide (((slotsAtB R C s c).length : Int) = 0)
noncomputable def formB (R C : Int) (s : ByteArray) : Int :=
  if isGridB R C s = true then (if symB R C s = true then (if (partsB R C s == 1) = true then (if shortB R C s = true then 4 else if (looseB R C s || (List.range s.size).any (loneB R C s)) = true then 5 else 0) else 3) else 2) else 1
theorem spec_IsWhite_ev {R C : Int} {s : ByteArray} (hg : isGridB R C s = true) (c : Nat) (hc : c < s.size) : Ev (fun k => spec_IsWhite.f k R C s (c : Int)) (bt s (c : Int) == 46) := by
  have := isGridB_size hg
  have e : wrap64 ((s.size : Int) - 1) = s.size - 1 := w_in (by omega) (by omega)
  unfold spec_IsWhite.f
  rw [ev_bind_iff (spec_IsGrid_ev R C s), ev_ite_iff, if_pos hg]
  simp only [l1In_eq, Option.bind_some, e]
  rw [ev_ite_iff, if_pos (by simp; omega), ev_ite_iff, if_pos (by omega), ev_ite_iff, if_pos (by omega)]
  exact ev_some _
theorem spec_l10Short_ev (R C : Int) (s : ByteArray) : Ev (fun k => spec_l10Short.f k R C s) (shortB R C s) := by
  have hlen := (slotsB_good R C s).2.2
  unfold spec_l10Short.f
  rw [ev_bind_iff (spec_SlotsOf_ev R C s)]
  refine loop_any (fun k i => spec_l10Short.l0 k (slotsB R C s) i) (slotsB R C s) (fun x => decide (x.f3 < 3)) ?_ (fun i hi hp r hr => ?_) (fun i hi hp => ?_)
  · rw [← ev_succ_iff]; simp [spec_l10Short.l0, ev_some]
  · rw [← ev_succ_iff]
    simp only [spec_l10Short.l0, rdt_153 _ i hi, w_succ (i := i) (by omega)]
    rw [ev_ite_iff, if_pos (by omega), ev_ite_iff, if_pos (by omega), ev_ite_iff, if_neg (of_decide_eq_false hp)]
    exact hr
  · rw [← ev_succ_iff]
    simp only [spec_l10Short.l0, rdt_153 _ i hi]
    rw [ev_ite_iff, if_pos (by omega), ev_ite_iff, if_pos (by omega), ev_ite_iff, if_pos (of_decide_eq_true hp)]
    exact ev_some _
theorem spec_l10Alone_l1 {R C : Int} {s : ByteArray} (hg : isGridB R C s = true) : Ev (fun k => spec_l10Alone.l1 k 0 R C s) ((List.range s.size).any (loneB R C s)) := by
  have hsz := isGridB_size hg
  have hlr : (List.range s.size).length = s.size := List.length_range
  refine loop_any (fun k i => spec_l10Alone.l1 k i R C s) (List.range s.size) (loneB R C s) ?_ (fun i hi hp r hr => ?_) (fun i hi hp => ?_)
  · rw [← ev_succ_iff]; simp [spec_l10Alone.l1, ev_some]
  · have hi' : i < s.size := by omega
    rw [List.getElem_range] at hp
    rw [← ev_succ_iff]
    simp only [spec_l10Alone.l1, w_succ (i := i) (by omega)]
    rw [ev_ite_iff, if_pos (by omega), ev_bind_iff (spec_IsWhite_ev hg i hi'), ev_ite_iff]
    unfold loneB at hp
    by_cases h : bt s (i : Int) = 46
    · rw [if_pos (by rw [h]; rfl), ev_bind_iff (spec_SlotsAt_ev R C s i), ev_ite_iff, if_neg]
      · exact hr
      · simpa [h] using hp
    · rw [if_neg (by simpa using h)]
      exact hr
  · have hi' : i < s.size := by omega
    rw [List.getElem_range] at hp
    rw [← ev_succ_iff]
    simp only [spec_l10Alone.l1, w_succ (i := i) (by omega)]
    unfold loneB at hp
    rw [Bool.and_eq_true, decide_eq_true_eq, decide_eq_true_eq] at hp
    rw [ev_ite_iff, if_pos (by omega), ev_bind_iff (spec_IsWhite_ev hg i hi'), ev_ite_iff, if_pos (by rw [hp.1]; rfl), ev_bind_iff (spec_SlotsAt_ev R C s i), ev_ite_iff, if_pos hp.2]
    exact ev_some _
theorem drop_any {α : Type} (l : List α) (p : α → Bool) (i : Nat) (h : i < l.length) : (l.drop i).any p = (p l[i] || (l.drop (i + 1)).any p) := by rw [List.drop_eq_getElem_cons h, List.any_cons]
theorem drop_all {α : Type} (l : List α) (p : α → Bool) (i : Nat) (h : i < l.length) : (l.drop i).all p = (p l[i] && (l.drop (i + 1)).all p) := by rw [List.drop_eq_getElem_cons h, List.all_cons]
theorem spec_l10Alone_ev {R C : Int} {s : ByteArray} (hg : isGridB R C s = true) : Ev (fun k => spec_l10Alone.f k R C s) (looseB R C s || (List.range s.size).any (loneB R C s)) := by
  have hlen := (slotsB_good R C s).2.2
  unfold spec_l10Alone.f
  rw [ev_bind_iff (spec_SlotsOf_ev R C s)]
  have := loop_up0 (fun k i => spec_l10Alone.l0 k (slotsB R C s) i R C s) (slotsB R C s).length (fun i => ((slotsB R C s).drop i).any (fun x => decide (2 * unchB R C s x > x.f3)) || (List.range s.size).any (loneB R C s)) ?_ (fun i hi => ?_) 0 (Nat.zero_le _)
  · simpa [looseB] using this
  · rw [← ev_succ_iff]
    simp only [spec_l10Alone.l0, Int.lt_irrefl, if_false, List.drop_length, List.any_nil, Bool.false_or]
    exact spec_l10Alone_l1 hg
  · have hu := unchB_in R C s _ (List.getElem_mem hi)
    have e2 : wrap64 (2 * unchB R C s (slotsB R C s)[i]) = 2 * unchB R C s (slotsB R C s)[i] := w_in (by omega) (by omega)
    rw [drop_any _ _ _ hi]
    by_cases h : 2 * unchB R C s (slotsB R C s)[i] > (slotsB R C s)[i].f3
    · refine .inl ?_
      rw [← ev_succ_iff]
      simp only [spec_l10Alone.l0, rdt_153 _ i hi]
      rw [ev_ite_iff, if_pos (by omega), ev_bind_iff (spec_UncheckedIn_ev R C s i hi), ev_ite_iff, if_pos (by omega), ev_ite_iff, if_pos (by rw [e2]; exact h)]
      exact ev_as (ev_some _) (by simp [h])
    · refine .inr ⟨by simp [h], fun r hr => ?_⟩
      rw [← ev_succ_iff]
      simp only [spec_l10Alone.l0, rdt_153 _ i hi, w_succ (i := i) (by omega)]
      rw [ev_ite_iff, if_pos (by omega), ev_bind_iff (spec_UncheckedIn_ev R C s i hi), ev_ite_iff, if_pos (by omega), ev_ite_iff, if_neg (by rw [e2]; exact h)]
      exact hr
theorem spec_FormOf_ev (R C : Int) (s : ByteArray) (hs : s.size < 140737488355328) : Ev (fun k => spec_FormOf.f k R C s) (formB R C s) := by
  unfold spec_FormOf.f formB
  rw [ev_bind_iff (spec_IsGrid_ev R C s), ev_ite_iff]
  split
  · rename_i hg
    rw [ev_bind_iff (spec_IsSymmetric_ev R C s), ev_ite_iff]
    split
    · have hcon : Ev (fun k => spec_IsConnected.f k R C s) (partsB R C s == 1) := by
        unfold spec_IsConnected.f
        rw [ev_bind_iff (spec_PartsOf_ev R C s hs)]
        exact ev_some _
      rw [ev_bind_iff hcon, ev_ite_iff]
      split
      · rw [ev_bind_iff (spec_l10Short_ev R C s), ev_ite_iff]
        split
        · exact ev_some _
        · rw [ev_bind_iff (spec_l10Alone_ev hg), ev_ite_iff]
          split <;> exact ev_some _
      · exact ev_some _
    · exact ev_some _
  · exact ev_some _
theorem impl_alone_ev {R C : Int} {s : ByteArray} (hg : isGridB R C s = true) : Ev (fun k => impl_alone.f k R C s s) ((List.range s.size).any (loneB R C s)) := by
  have hsz := isGridB_size hg
  obtain ⟨good, _, hlen⟩ := slotsB_good R C s
  have hlr : (List.range s.size).length = s.size := List.length_range
  have hcl : ∀ l ∈ (slotsB R C s).map (cellsB C), l.length ≤ 6 := by
    intro l hl
    obtain ⟨x, hx, rfl⟩ := List.mem_map.1 hl
    rw [cellsB_length]
    have := (good x hx).2.2.2.1
    omega
  have hfl : ((slotsB R C s).map (cellsB C)).flatten.length ≤ 6 * 72 := by
    have h1 := flat_len (fun l : List Int => l) 6 ((slotsB R C s).map (cellsB C)) hcl
    rw [List.length_map] at h1
    rw [List.flatMap_id'] at h1
    have : 6 * (slotsB R C s).length ≤ 6 * 72 := Nat.mul_le_mul_left 6 hlen
    omega
  have hcells : ∀ c ∈ ((slotsB R C s).map (cellsB C)).flatten, 0 ≤ c ∧ c < 1000000 := by
    intro c hc
    obtain ⟨l, hl, hcl⟩ := List.mem_flatten.1 hc
    obtain ⟨x, hx, rfl⟩ := List.mem_map.1 hl
    have := cellsB_ok (good x hx) c hcl
    omega
  unfold impl_alone.f
  rw [ev_bind_iff (impl_layout_ev R C s)]
  unfold HandAlone.aloneF
  rw [ev_ite_iff, if_pos ⟨by omega, by omega, by rw [List.length_map]; omega, hcells⟩]
  have hnil := fun c : Nat => slotsAtB_nil R C s (c : Int)
  generalize ((slotsB R C s).map (cellsB C)).flatten = S at hnil
  refine loop_any (fun k i => HandAlone.aloneL impl_isLetter.f S s s k i) (List.range s.size) (loneB R C s) ?_ (fun i hi hp r hr => ?_) (fun i hi hp => ?_)
  · rw [← ev_succ_iff]; simp [HandAlone.aloneL, ev_some]
  · rw [List.getElem_range] at hp
    rw [← ev_succ_iff]
    simp only [HandAlone.aloneL]
    unfold loneB at hp
    rw [ev_ite_iff, if_pos (by omega), ev_ite_iff]
    by_cases h : bt s (i : Int) = 46
    · rw [if_pos h, ev_ite_iff, if_pos]
      · exact hr
      · rw [h, decide_eq_true rfl, Bool.true_and, decide_eq_false_iff_not, hnil] at hp
        exact Classical.byContradiction hp
    · rw [if_neg h]
      exact hr
  · rw [List.getElem_range] at hp
    unfold loneB at hp
    rw [Bool.and_eq_true, decide_eq_true_eq, decide_eq_true_eq, hnil] at hp
    rw [← ev_succ_iff]
    simp only [HandAlone.aloneL]
    rw [ev_ite_iff, if_pos (by omega), ev_ite_iff, if_pos hp.1, ev_ite_iff, if_neg hp.2, ev_ite_iff, if_pos (by omega)]
    simp only [isLetter_eq, hp.1, Option.bind_some]
    exact ev_as (ev_some _) rfl
theorem impl_FormOf_l1 {R C : Int} {s : ByteArray} (hg : isGridB R C s = true) : Ev (fun k => impl_FormOf.l1 k (slotsB R C s) ((slotsB R C s).length : Int) 0 R C s) (if (looseB R C s || (List.range s.size).any (loneB R C s)) = true then 5 else 0) := by
  have hlen := (slotsB_good R C s).2.2
  have := loop_up0 (fun k i => impl_FormOf.l1 k (slotsB R C s) ((slotsB R C s).length : Int) i R C s) (slotsB R C s).length (fun i => if (((slotsB R C s).drop i).any (fun x => decide (2 * unchB R C s x > x.f3)) || (List.range s.size).any (loneB R C s)) = true then (5 : Int) else 0) ?_ (fun i hi => ?_) 0 (Nat.zero_le _)
  · exact this
  · rw [← ev_succ_iff]
    simp only [impl_FormOf.l1, Int.lt_irrefl, if_false, List.drop_length, List.any_nil, Bool.false_or]
    rw [ev_bind_iff (impl_alone_ev hg), ev_ite_iff]
    split <;> exact ev_some _
  · have hu := unchB_in R C s _ (List.getElem_mem hi)
    have e2 : wrap64 (2 * unchB R C s (slotsB R C s)[i]) = 2 * unchB R C s (slotsB R C s)[i] := w_in (by omega) (by omega)
    rw [drop_any _ _ _ hi]
    by_cases h : 2 * unchB R C s (slotsB R C s)[i] > (slotsB R C s)[i].f3
    · refine .inl ?_
      rw [← ev_succ_iff]
      simp only [impl_FormOf.l1, rdt_153 _ i hi]
      rw [ev_ite_iff, if_pos (by omega), ev_ite_iff, if_pos (by omega), ev_ite_iff, if_pos (by omega), ev_bind_iff (impl_UncheckedIn_ev R C s i hi), ev_ite_iff, if_pos (by rw [e2]; exact h)]
      exact ev_as (ev_some _) (by simp [h])
    · refine .inr ⟨by simp [h], fun r hr => ?_⟩
      rw [← ev_succ_iff]
      simp only [impl_FormOf.l1, rdt_153 _ i hi, w_succ (i := i) (by omega)]
      rw [ev_ite_iff, if_pos (by omega), ev_ite_iff, if_pos (by omega), ev_ite_iff, if_pos (by omega), ev_bind_iff (impl_UncheckedIn_ev R C s i hi), ev_ite_iff, if_neg (by rw [e2]; exact h)]
      exact hr
theorem impl_FormOf_l0 {R C : Int} {s : ByteArray} (hg : isGridB R C s = true) : Ev (fun k => impl_FormOf.l0 k (slotsB R C s) (slotsB R C s) ((slotsB R C s).length : Int) 0 R C s) (if shortB R C s = true then 4 else if (looseB R C s || (List.range s.size).any (loneB R C s)) = true then 5 else 0) := by
  have hlen := (slotsB_good R C s).2.2
  have := loop_up0 (fun k i => impl_FormOf.l0 k (slotsB R C s) (slotsB R C s) ((slotsB R C s).length : Int) i R C s) (slotsB R C s).length (fun i => if ((slotsB R C s).drop i).any (fun x => decide (x.f3 < 3)) = true then (4 : Int) else if (looseB R C s || (List.range s.size).any (loneB R C s)) = true then 5 else 0) ?_ (fun i hi => ?_) 0 (Nat.zero_le _)
  · exact this
  · rw [← ev_succ_iff]
    simp only [impl_FormOf.l0, Int.lt_irrefl, if_false, List.drop_length, List.any_nil, Bool.false_eq_true]
    exact impl_FormOf_l1 hg
  · rw [drop_any _ _ _ hi]
    by_cases h : (slotsB R C s)[i].f3 < 3
    · refine .inl ?_
      rw [← ev_succ_iff]
      simp only [impl_FormOf.l0, rdt_153 _ i hi]
      rw [ev_ite_iff, if_pos (by omega), ev_ite_iff, if_pos (by omega), ev_ite_iff, if_pos (by omega), ev_ite_iff, if_pos h]
      exact ev_as (ev_some _) (by simp [h])
    · refine .inr ⟨by simp [h], fun r hr => ?_⟩
      rw [← ev_succ_iff]
      simp only [impl_FormOf.l0, rdt_153 _ i hi, w_succ (i := i) (by omega)]
      rw [ev_ite_iff, if_pos (by omega), ev_ite_iff, if_pos (by omega), ev_ite_iff, if_pos (by omega), ev_ite_iff, if_neg h]
      exact hr
theorem impl_FormOf_ev (R C : Int) (s : ByteArray) : Ev (fun k => impl_FormOf.f k R C s) (formB R C s) := by
  unfold impl_FormOf.f formB
  rw [ev_bind_iff (impl_IsGrid_ev R C s), ev_ite_iff]
  split
  · rename_i hg
    rw [ev_bind_iff (impl_IsSymmetric_ev R C s), ev_ite_iff]
    split
    · have hcon : Ev (fun k => impl_IsConnected.f k R C s) (partsB R C s == 1) := by
        unfold impl_IsConnected.f
        rw [ev_bind_iff (impl_PartsOf_ev R C s)]
        exact ev_some _
      rw [ev_bind_iff hcon, ev_ite_iff]
      split
      · rw [ev_bind_iff (impl_SlotsOf_ev R C s)]
        exact impl_FormOf_l0 hg
      · exact ev_some _
    · exact ev_some _
  · exact ev_some _
noncomputable def puzzleB (R C : Int) (s : ByteArray) (l : List S116) (q : List Int) (e : Int) : Bool :=
  decide (formB R C s = 0) && (decide ((l.length : Int) = ((slotsB R C s).length : Int)) && (decide ((q.length : Int) = ((slotsB R C s).length : Int)) && (decide (1 ≤ e ∧ e ≤ 9999) && l.all (fun x => isClueB x.f0 x.f1))))
theorem puzzleB_parts {R C : Int} {s : ByteArray} {l : List S116} {q : List Int} {e : Int} (h : puzzleB R C s l q e = true) : formB R C s = 0 ∧ l.length = (slotsB R C s).length ∧ q.length = (slotsB R C s).length ∧ (1 ≤ e ∧ e ≤ 9999) ∧ ∀ x ∈ l, isClueB x.f0 x.f1 = true := by
  unfold puzzleB at h
  simp only [Bool.and_eq_true, decide_eq_true_eq, List.all_eq_true] at h
  exact ⟨h.1, by have := h.2.1; omega, by have := h.2.2.1; omega, h.2.2.2.1, h.2.2.2.2⟩
theorem formB_grid {R C : Int} {s : ByteArray} (h : formB R C s = 0) : isGridB R C s = true := by
  unfold formB at h
  split at h
  · assumption
  · cases h
theorem spec_IsPuzzle_ev (R C : Int) (s : ByteArray) (l : List S116) (q : List Int) (e : Int) (hs : s.size < 140737488355328) (hl : l.length < 4611686018427387904) (hx : ∀ x ∈ l, x.f1.length < 4611686018427387904) : Ev (fun k => spec_IsPuzzle.f k R C s l q e) (puzzleB R C s l q e) := by
  unfold spec_IsPuzzle.f
  have key : ∀ b : Bool, b = l.all (fun x => isClueB x.f0 x.f1) → Ev (fun k => spec_IsPuzzle.f k R C s l q e) (if b = true then (decide (formB R C s = 0) && (decide ((l.length : Int) = ((slotsB R C s).length : Int)) && (decide ((q.length : Int) = ((slotsB R C s).length : Int)) && decide (1 ≤ e ∧ e ≤ 9999)))) else false) := by
    intro b hb
    subst hb
    unfold spec_IsPuzzle.f
    have := loop_up0 (fun k i => spec_IsPuzzle.l0 k i R C s l q e) l.length (fun i => if (l.drop i).all (fun x => isClueB x.f0 x.f1) = true then (decide (formB R C s = 0) && (decide ((l.length : Int) = ((slotsB R C s).length : Int)) && (decide ((q.length : Int) = ((slotsB R C s).length : Int)) && decide (1 ≤ e ∧ e ≤ 9999)))) else false) ?_ (fun i hi => ?_) 0 (Nat.zero_le _)
    · exact this
    · rw [← ev_succ_iff]
      simp only [spec_IsPuzzle.l0, Int.lt_irrefl, if_false, List.drop_length, List.all_nil, if_true, l1In_eq, Option.bind_some]
      rw [ev_bind_iff (spec_SlotsOf_ev R C s), ev_bind_iff (spec_FormOf_ev R C s hs), ev_ite_iff]
      by_cases h1 : formB R C s = 0
      · rw [if_pos h1, ev_ite_iff]
        by_cases h2 : (l.length : Int) = ((slotsB R C s).length : Int)
        · rw [if_pos h2, ev_ite_iff]
          by_cases h3 : (q.length : Int) = ((slotsB R C s).length : Int)
          · rw [if_pos h3]
            exact ev_as (ev_some _) (by rw [decide_eq_true h1, decide_eq_true h2, decide_eq_true h3]; rfl)
          · rw [if_neg h3]
            exact ev_as (ev_some _) (by rw [decide_eq_false h3, Bool.false_and, Bool.and_false, Bool.and_false])
        · rw [if_neg h2]
          exact ev_as (ev_some _) (by rw [decide_eq_false h2, Bool.false_and, Bool.and_false])
      · rw [if_neg h1]
        exact ev_as (ev_some _) (by rw [decide_eq_false h1, Bool.false_and])
    · have hc := spec_IsClue_ev l[i].f0 l[i].f1 (hx _ (List.getElem_mem hi))
      rw [drop_all _ _ _ hi]
      by_cases h : isClueB l[i].f0 l[i].f1 = true
      · refine .inr ⟨by simp only [h, Bool.true_and], fun r hr => ?_⟩
        rw [← ev_succ_iff]
        simp only [spec_IsPuzzle.l0, rdt_116 _ i hi, w_succ (i := i) (by omega)]
        rw [ev_ite_iff, if_pos (by omega), ev_ite_iff, if_pos (by omega), ev_bind_iff hc, ev_ite_iff, if_pos h]
        exact hr
      · refine .inl ?_
        rw [← ev_succ_iff]
        simp only [spec_IsPuzzle.l0, rdt_116 _ i hi]
        rw [ev_ite_iff, if_pos (by omega), ev_ite_iff, if_pos (by omega), ev_bind_iff hc, ev_ite_iff, if_neg h]
        exact ev_as (ev_some _) (by simp only [h, Bool.false_and, Bool.false_eq_true, if_false])
  refine ev_as (key _ rfl) ?_
  unfold puzzleB
  cases l.all (fun x => isClueB x.f0 x.f1) <;> simp
theorem notClues_ev (l : List S116) (x : ByteArray) (hl : l.length < 4611686018427387904) (hx : ∀ x ∈ l, x.f1.length < 4611686018427387904) : Ev (fun k => impl_Clue_92.f k l x) (l.any (fun x => !isClueB x.f0 x.f1)) := by
  have hi : Ev (fun k => impl_Clue_144.f k l x) (match l.findIdx? (fun x => !isClueB x.f0 x.f1) with | some i => (i : Int) | none => -1) := by
    have h1 : ∀ i (hi : i < l.length), Ev (fun k => impl_IsPuzzle_1.f k l[i].f0 l[i].f1) (!isClueB l[i].f0 l[i].f1) := by
      intro i hi
      unfold impl_IsPuzzle_1.f
      rw [ev_bind_iff (impl_IsClue_ev _ _ (hx _ (List.getElem_mem hi)))]
      exact ev_some _
    refine loop_find (fun k i => impl_Clue_144.l0 k l (l.length : Int) i) l _ ?_ (fun i hi hp r hr => ?_) (fun i hi hp => ?_)
    · rw [← ev_succ_iff]; simp [impl_Clue_144.l0, ev_some]
    · rw [← ev_succ_iff]
      simp only [impl_Clue_144.l0, rdt_116 _ i hi, w_succ (i := i) (by omega)]
      rw [ev_ite_iff, if_pos (by omega), ev_ite_iff, if_pos (by omega), ev_ite_iff, if_pos (by omega), ev_bind_iff (h1 i hi), ev_ite_iff, if_neg (by rw [hp]; exact Bool.false_ne_true)]
      exact hr
    · rw [← ev_succ_iff]
      simp only [impl_Clue_144.l0, rdt_116 _ i hi]
      rw [ev_ite_iff, if_pos (by omega), ev_ite_iff, if_pos (by omega), ev_ite_iff, if_pos (by omega), ev_bind_iff (h1 i hi), ev_ite_iff, if_pos hp]
      exact ev_some _
  unfold impl_Clue_92.f
  rw [ev_bind_iff hi, find_geI]
  exact ev_some _
theorem impl_IsPuzzle_ev (R C : Int) (s : ByteArray) (l : List S116) (q : List Int) (e : Int) (hl : l.length < 4611686018427387904) (hx : ∀ x ∈ l, x.f1.length < 4611686018427387904) : Ev (fun k => impl_IsPuzzle.f k R C s l q e) (puzzleB R C s l q e) := by
  unfold impl_IsPuzzle.f puzzleB
  rw [ev_bind_iff (impl_FormOf_ev R C s), ev_ite_iff]
  by_cases h1 : formB R C s = 0
  · rw [if_pos h1, ev_bind_iff (impl_SlotsOf_ev R C s), ev_ite_iff, decide_eq_true h1, Bool.true_and]
    by_cases h2 : (l.length : Int) = ((slotsB R C s).length : Int)
    · rw [if_pos h2, ev_ite_iff, decide_eq_true h2, Bool.true_and]
      by_cases h3 : (q.length : Int) = ((slotsB R C s).length : Int)
      · rw [if_pos h3, decide_eq_true h3, Bool.true_and]
        simp only [InRange_eq, Option.bind_some]
        rw [ev_ite_iff]
        by_cases h4 : 1 ≤ e ∧ e ≤ 9999
        · rw [if_pos (by simpa using h4), ev_bind_iff (notClues_ev l _ hl hx), decide_eq_true h4, Bool.true_and]
          exact ev_as (ev_some _) (by rw [List.not_any_eq_all_not]; simp)
        · rw [if_neg (by simpa using h4), decide_eq_false h4, Bool.false_and]
          exact ev_some _
      · rw [if_neg h3, decide_eq_false h3, Bool.false_and]
        exact ev_some _
    · rw [if_neg h2, decide_eq_false h2, Bool.false_and]
      exact ev_some _
  · rw [if_neg h1, decide_eq_false h1, Bool.false_and]
    exact ev_some _
noncomputable def solvedB (R C : Int) (s : ByteArray) (l : List S116) (q : List Int) (e : Int) (f : ByteArray) : Bool :=
  if puzzleB R C s l q e = true then (if isFullB R C s f = true then (((if isFillB R C s f = true then rightB q e (patsC R C s f) else []).length : Int) == (l.length : Int)) else false) else false
theorem spec_IsSolved_ev (R C : Int) (s : ByteArray) (l : List S116) (q : List Int) (e : Int) (f : ByteArray) (hs : s.size < 140737488355328) (hl : l.length < 4611686018427387904) (hx : ∀ x ∈ l, x.f1.length < 4611686018427387904) (hq : q.length < 4611686018427387904) : Ev (fun k => spec_IsSolved.f k R C s l q e f) (solvedB R C s l q e f) := by
  unfold spec_IsSolved.f solvedB
  rw [ev_bind_iff (spec_IsPuzzle_ev R C s l q e hs hl hx), ev_ite_iff]
  split
  · rw [ev_bind_iff (spec_IsFull_ev R C s f), ev_ite_iff]
    split
    · rw [ev_bind_iff (spec_RightSlots_ev R C s f q hq e)]
      exact ev_some _
    · exact ev_some _
  · exact ev_some _
theorem impl_IsSolved_ev (R C : Int) (s : ByteArray) (l : List S116) (q : List Int) (e : Int) (f : ByteArray) (hl : l.length < 4611686018427387904) (hx : ∀ x ∈ l, x.f1.length < 4611686018427387904) (hq : q.length < 4611686018427387904) : Ev (fun k => impl_IsSolved.f k R C s l q e f) (solvedB R C s l q e f) := by
  unfold impl_IsSolved.f solvedB
  rw [ev_bind_iff (impl_IsPuzzle_ev R C s l q e hl hx), ev_ite_iff]
  split
  · rename_i hp
    obtain ⟨_, p1, p2, _⟩ := puzzleB_parts hp
    rw [ev_bind_iff (impl_IsFull_ev R C s f), ev_ite_iff]
    split
    · rw [ev_bind_iff (impl_RightSlots_ev R C s f q hq e)]
      exact ev_as (ev_some _) (by rw [p1, p2])
    · exact ev_some _
  · exact ev_some _
theorem FnExactIsSolved : laws_FnExactIsSolved.Pure := by
  intro y f ⟨⟨_, _, h0⟩, ⟨h1, h2, h3⟩, ⟨h4, h5, _⟩, _⟩ _
  refine Ev.rounds ?_
  unfold laws_FnExactIsSolved.f
  rw [ev_ite_iff]
  split
  · exact ev_some _
  have hx : ∀ x ∈ y.f1, x.f1.length ≤ 3518437208883 := fun x hx => by have := (h3 x hx).2.1; omega
  obtain ⟨a, ha, hab⟩ := szPuzzle_ev y.f0.f0 y.f0.f1 y.f0.f2 y.f1 y.f2 y.f3 h0 (by omega) (fun x hx => ⟨by have := (h3 x hx).2.1; omega, fun t ht => ((h3 x hx).2.2.2 t ht).2.1⟩) (by omega) 1048576 (by omega) (by omega)
  rw [ev_bind_iff ha, ev_ite_iff]
  split
  · exact ev_some _
  have t1 := toPuzzle_ev y.f0.f0 y.f0.f1 y.f0.f2 y.f1 y.f2 y.f3 (by omega) hx (by omega)
  have l1 : (y.f1.map toClueM).length = y.f1.length := List.length_map _
  have hx' : ∀ x ∈ y.f1.map toClueM, x.f1.length < 4611686018427387904 := by
    intro x hm
    obtain ⟨u, hu, rfl⟩ := List.mem_map.1 hm
    have := hx u hu
    simp only [toClueM, List.length_map]
    omega
  have s := spec_IsSolved_ev y.f0.f0 y.f0.f1 y.f0.f2 (y.f1.map toClueM) y.f2 y.f3 f (by omega) (by omega) hx' (by omega)
  have i := impl_IsSolved_ev y.f0.f0 y.f0.f1 y.f0.f2 (y.f1.map toClueM) y.f2 y.f3 f (by omega) hx' (by omega)
  have e1 := eqPuzzle_ev y.f0.f0 y.f0.f1 y.f0.f2 (y.f1.map toClueM) y.f2 y.f3 (by omega) hx' (by omega)
  simp only [ev_bind_iff t1, ev_bind_iff s, ev_bind_iff i, ev_bind_iff e1, ev_ite_iff, bne_self_eq_false, Bool.false_eq_true, if_false, if_true]
  exact ev_some _
end Go.Proofs.Ythjcicmmbmagbaa.Pure
