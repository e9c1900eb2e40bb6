/- The program's ChecksAnswer returns what the reference's returns, for every argument; no further condition. -/
import Derived.Test.YtfnpmkmdpbgjkaaQFnExactChecksAnswer
import Derived.Test.YtfnpmkmdpbgjkaaEv
namespace Go.Proofs.Ytfnpmkmdpbgjkaa.Pure
open Go.RowKit Go.Proofs.Ytfnpmkmdpbgjkaa.PFnExactChecksAnswer Go.Proofs.YtfnpmkmdpbgjkaaW.PrintWords Go.Proofs.YtfnpmkmdpbgjkaaW.PrintLast Go.Proofs.YtfnpmkmdpbgjkaaW.PrintMore Go.Proofs.Ytfnpmkmdpbgjkaa.Sem
set_option linter.unusedVariables false
set_option linter.unusedSimpArgs false
theorem l1In_eq (a b c : Int) : spec_l1In.f a b c = some (decide (b ≤ a ∧ a ≤ c)) := by
  unfold spec_l1In.f
  by_cases h : b ≤ a <;> simp [h]
theorem InRange_eq (a b c : Int) : impl_InRange.f a b c = some (decide (b ≤ a ∧ a ≤ c)) := by
  unfold impl_InRange.f
  by_cases h : b ≤ a <;> simp [h]
theorem at_eq (a b : Int) : impl_at.f a b = some (decide (0 ≤ a ∧ a < b)) := by
  unfold impl_at.f
  by_cases h : 0 ≤ a <;> simp [h]
theorem isLetter_eq (a : Int) : impl_isLetter.f a = some (decide (97 ≤ a ∧ a ≤ 122)) := by
  unfold impl_isLetter.f
  by_cases h : 97 ≤ a <;> simp [h]
theorem eqIntS_ev (l : List Int) (hl : l.length < 4611686018427387904) : Ev (fun k => laws_eqIntS.f k l l) true := by
  unfold laws_eqIntS.f
  rw [ev_ite_iff, if_pos rfl]
  refine ev_as (loop_all (fun k i => laws_eqIntS.l0 k l l i) l (fun _ => true) ?_ (fun i hi hp r hr => ?_) (fun i hi hp => by cases hp)) (by simp)
  · rw [← ev_succ_iff]; simp [laws_eqIntS.l0, ev_some]
  · rw [← ev_succ_iff]
    simp only [laws_eqIntS.l0, w_succ (i := i) (by omega)]
    simp [ev_ite_iff, hi]
    exact hr
theorem toIntS_ev (l : List Int) (hl : l.length ≤ 17592186044416) : Ev (fun k => laws_toIntS.f k l) l := by
  unfold laws_toIntS.f
  rw [ev_ite_iff, if_pos (by omega), ev_ite_iff, if_pos (by omega)]
  refine ev_as (loop_fill (fun k s i => laws_toIntS.l0 k l s i) l id 0 (fun s hs => ?_) (fun i hi s hs r hr => ?_)) (by simp)
  · rw [← ev_succ_iff]
    simp [laws_toIntS.l0, ev_some]
  · rw [← ev_succ_iff]
    simp only [laws_toIntS.l0, rd_nat l i hi, w_succ (i := i) (by omega)]
    simp [ev_ite_iff, hi, hs]
    exact hr
def letterB (c : Int) : Bool := decide (97 ≤ c ∧ c ≤ 122)
def isWordB (s : ByteArray) : Bool := decide (1 ≤ s.size ∧ s.size ≤ 8) && (bytesOf s).all letterB
theorem isWordB_size {s : ByteArray} (h : isWordB s = true) : 1 ≤ s.size ∧ s.size ≤ 8 := by
  simp [isWordB] at h
  exact h.1
theorem isWordB_letter {s : ByteArray} (h : isWordB s = true) : ∀ c ∈ bytesOf s, 97 ≤ c ∧ c ≤ 122 := by
  simp [isWordB, letterB] at h
  exact h.2
theorem spec_IsWord_ev (s : ByteArray) : Ev (fun k => spec_IsWord.f k s) (isWordB s) := by
  simp only [spec_IsWord.f, l1In_eq, Option.bind_some, ev_ite_iff, decide_eq_true_eq, isWordB]
  by_cases h : (1 : Int) ≤ s.size ∧ (s.size : Int) ≤ 8
  · rw [if_pos h]
    have h' : 1 ≤ s.size ∧ s.size ≤ 8 := by omega
    simp only [h', decide_true, Bool.true_and, and_self]
    refine loop_all (fun k i => spec_IsWord.l0 k s i) (bytesOf s) letterB ?_ (fun i hi hp r hr => ?_) (fun i hi hp => ?_)
    · rw [← ev_succ_iff]; simp [spec_IsWord.l0, bytesOf_length, ev_some]
    · have hi' : i < s.size := by rw [bytesOf_length] at hi; exact hi
      rw [← ev_succ_iff]
      simp [letterB] at hp
      simp only [spec_IsWord.l0, bt_nat s i hi', w_succ (i := i) (by omega)]
      rw [ev_ite_iff, if_pos (by omega), ev_ite_iff, if_pos (by omega), ev_ite_iff, if_neg (by omega), ev_ite_iff, if_neg (by omega)]
      exact hr
    · have hi' : i < s.size := by rw [bytesOf_length] at hi; exact hi
      rw [← ev_succ_iff]
      simp [letterB] at hp
      simp only [spec_IsWord.l0, bt_nat s i hi', w_succ (i := i) (by omega)]
      rw [ev_ite_iff, if_pos (by omega), ev_ite_iff, if_pos (by omega), ev_ite_iff]
      by_cases h1 : (bytesOf s)[i] < 97
      · rw [if_pos h1]; exact ev_some _
      · rw [if_neg h1, ev_ite_iff, if_pos (by omega)]; exact ev_some _
  · rw [if_neg h]
    have h' : ¬ (1 ≤ s.size ∧ s.size ≤ 8) := by omega
    simp [h', ev_some]
theorem impl_IsWord_ev (s : ByteArray) : Ev (fun k => impl_IsWord.f k s) (isWordB s) := by
  simp only [impl_IsWord.f, InRange_eq, Option.bind_some, ev_ite_iff, decide_eq_true_eq, isWordB]
  by_cases h : (1 : Int) ≤ s.size ∧ (s.size : Int) ≤ 8
  · rw [if_pos h]
    have h' : 1 ≤ s.size ∧ s.size ≤ 8 := by omega
    simp only [h', decide_true, Bool.true_and, and_self]
    refine loop_all (fun k i => impl_IsWord.l0 k s (s.size : Int) i) (bytesOf s) letterB ?_ (fun i hi hp r hr => ?_) (fun i hi hp => ?_)
    · rw [← ev_succ_iff]; simp [impl_IsWord.l0, bytesOf_length, ev_some]
    · have hi' : i < s.size := by rw [bytesOf_length] at hi; exact hi
      rw [← ev_succ_iff]
      simp [letterB] at hp
      simp only [impl_IsWord.l0, bt_nat s i hi', w_succ (i := i) (by omega), isLetter_eq, Option.bind_some]
      rw [ev_ite_iff, if_pos (by omega), ev_ite_iff, if_pos (by omega), ev_ite_iff, if_pos (by omega), ev_ite_iff, if_pos (by simpa using hp)]
      exact hr
    · have hi' : i < s.size := by rw [bytesOf_length] at hi; exact hi
      rw [← ev_succ_iff]
      simp only [letterB] at hp
      simp only [impl_IsWord.l0, bt_nat s i hi', w_succ (i := i) (by omega), isLetter_eq, Option.bind_some]
      rw [ev_ite_iff, if_pos (by omega), ev_ite_iff, if_pos (by omega), ev_ite_iff, if_pos (by omega), ev_ite_iff, if_neg (by rw [hp]; decide)]
      exact ev_some _
  · rw [if_neg h]
    have h' : ¬ (1 ≤ s.size ∧ s.size ≤ 8) := by omega
    simp [h', ev_some]
theorem wrap_byte {c : Int} (h : 0 ≤ c ∧ c ≤ 255) : wrap64 c = c := w_in (by omega) (by omega)
theorem flat_one {α : Type} (l : List α) : l.flatMap (fun c => [c]) = l := by induction l <;> simp_all
theorem flat_take {α : Type} (l : List α) (i : Nat) : ((l.take i).flatMap (fun c => [c])).length ≤ i := by rw [flat_one, List.length_take]; omega
theorem spec_LettersOf_ev (s : ByteArray) (hs : s.size ≤ 17592186044416) : Ev (fun k => spec_LettersOf.f k s) (bytesOf s) := by
  refine ev_as (loop_collect (fun k x i => spec_LettersOf.l0 k s x i) (bytesOf s) (fun c => [c]) 0 (fun x => ?_) (fun i hi x hx r hr => ?_)) (flat_one _)
  · rw [← ev_succ_iff]; simp [spec_LettersOf.l0, bytesOf_length, ev_some]
  · have hi' : i < s.size := by rw [bytesOf_length] at hi; exact hi
    have hx' := flat_take (bytesOf s) i
    have hw := wrap_byte (bytes_range s _ (List.getElem_mem hi))
    rw [← ev_succ_iff]
    simp only [spec_LettersOf.l0, bt_nat s i hi', w_succ (i := i) (by omega), hw]
    rw [ev_ite_iff, if_pos (by omega), ev_ite_iff, if_pos (by omega), ev_ite_iff, if_pos (by omega)]
    exact hr
theorem impl_LettersOf_ev (s : ByteArray) (hs : s.size ≤ 17592186044416) : Ev (fun k => impl_LettersOf.f k s) (bytesOf s) := by
  refine ev_as (loop_collect (fun k x i => impl_LettersOf.l0 k s x (s.size : Int) i) (bytesOf s) (fun c => [c]) 0 (fun x => ?_) (fun i hi x hx r hr => ?_)) (flat_one _)
  · rw [← ev_succ_iff]; simp [impl_LettersOf.l0, bytesOf_length, ev_some]
  · have hi' : i < s.size := by rw [bytesOf_length] at hi; exact hi
    have hx' := flat_take (bytesOf s) i
    have hw := wrap_byte (bytes_range s _ (List.getElem_mem hi))
    rw [← ev_succ_iff]
    simp only [impl_LettersOf.l0, bt_nat s i hi', w_succ (i := i) (by omega), hw]
    rw [ev_ite_iff, if_pos (by omega), ev_ite_iff, if_pos (by omega), ev_ite_iff, if_pos (by omega), ev_ite_iff, if_pos (by omega)]
    exact hr
def mdP (a : Int) : Int := Int.tmod (wrap64 ((Int.tmod a 2147483647) + 2147483647)) 2147483647
def hstep (d v : Int) : Int := Int.tmod (wrap64 ((wrap64 ((wrap64 (d * 1000003)) + mdP v)) + 13)) 2147483647
def hashL (l : List Int) : Int := l.foldl hstep 11
theorem spec_Mod_eq (a : Int) : spec_Mod.f a 2147483647 = some (mdP a) := by
  simp [spec_Mod.f, l1In_eq, mdP]
theorem foldl_drop {α β : Type} (f : β → α → β) (l : List α) (i : Nat) (h : i < l.length) (s : β) : (l.drop i).foldl f s = (l.drop (i + 1)).foldl f (f s l[i]) := by
  rw [List.drop_eq_getElem_cons h]; rfl
theorem spec_Hash_ev (l : List Int) (hl : l.length < 4611686018427387904) : Ev (fun k => spec_Hash.f k l) (hashL l) := by
  have := loop_up (fun k s i => spec_Hash.l0 k l s i) l.length (fun _ _ => True) (fun i s => (l.drop i).foldl hstep s) (fun s _ => ?_) (fun i s hi _ => .inr ⟨hstep s l[i], trivial, foldl_drop _ _ _ hi _, fun r hr => ?_⟩) 0 11 (Nat.zero_le _) trivial
  · simpa [spec_Hash.f, hashL] using this
  · rw [← ev_succ_iff]; simp [spec_Hash.l0, ev_some]
  · rw [← ev_succ_iff]
    simp only [spec_Hash.l0, rd_nat l i hi, spec_Mod_eq, Option.bind_some, w_succ (i := i) (by omega)]
    rw [ev_ite_iff, if_pos (by omega), ev_ite_iff, if_pos (by omega)]
    exact hr
theorem impl_Mod_eq (a : Int) : impl_Mod.f a 2147483647 = some (mdP a) := by
  simp [impl_Mod.f, InRange_eq, mdP]
theorem impl_Hash_ev (l : List Int) (hl : l.length < 4611686018427387904) : Ev (fun k => impl_Hash.f k l) (hashL l) := by
  have := loop_up (fun k s i => impl_Hash.l0 k s l (l.length : Int) i) l.length (fun _ _ => True) (fun i s => (l.drop i).foldl hstep s) (fun s _ => ?_) (fun i s hi _ => .inr ⟨hstep s l[i], trivial, foldl_drop _ _ _ hi _, fun r hr => ?_⟩) 0 11 (Nat.zero_le _) trivial
  · simpa [impl_Hash.f, hashL] using this
  · rw [← ev_succ_iff]; simp [impl_Hash.l0, ev_some]
  · rw [← ev_succ_iff]
    simp only [impl_Hash.l0, rd_nat l i hi, impl_Mod_eq, Option.bind_some, w_succ (i := i) (by omega)]
    rw [ev_ite_iff, if_pos (by omega), ev_ite_iff, if_pos (by omega), ev_ite_iff, if_pos (by omega)]
    exact hr
def sealB (salt slot : Int) (w : ByteArray) : Int := if isWordB w = true then hashL ([salt, slot, (w.size : Int)] ++ bytesOf w) else 0
theorem spec_SealAnswer_ev (a b : Int) (w : ByteArray) : Ev (fun k => spec_SealAnswer.f k a b w) (sealB a b w) := by
  unfold spec_SealAnswer.f
  rw [ev_bind_iff (spec_IsWord_ev w), ev_ite_iff]
  unfold sealB
  split
  · rename_i h
    have hs := isWordB_size h
    have hl := bytesOf_length w
    simp only [Option.bind_some]
    rw [ev_bind_iff (spec_LettersOf_ev w (by omega)), ev_ite_iff, if_pos (by simp; omega)]
    rw [ev_bind_iff (spec_Hash_ev _ (by simp; omega))]
    exact ev_some _
  · exact ev_some _
theorem impl_SealAnswer_ev (a b : Int) (w : ByteArray) : Ev (fun k => impl_SealAnswer.f k a b w) (sealB a b w) := by
  unfold impl_SealAnswer.f
  rw [ev_bind_iff (impl_IsWord_ev w), ev_ite_iff]
  unfold sealB
  split
  · rename_i h
    have hs := isWordB_size h
    have hl := bytesOf_length w
    simp only [Option.bind_some]
    rw [ev_bind_iff (impl_LettersOf_ev w (by omega)), ev_ite_iff, if_pos (by simp; omega)]
    rw [ev_bind_iff (impl_Hash_ev _ (by simp; omega))]
    exact ev_some _
  · exact ev_some _
def checksB (l : List Int) (salt slot : Int) (w : ByteArray) : Bool := decide (0 ≤ slot ∧ slot < l.length) && (isWordB w && (sealB salt slot w == rd l slot))
theorem spec_ChecksAnswer_ev (l : List Int) (hl : l.length < 4611686018427387904) (a b : Int) (w : ByteArray) : Ev (fun k => spec_ChecksAnswer.f k l a b w) (checksB l a b w) := by
  have e : wrap64 ((l.length : Int) - 1) = l.length - 1 := w_in (by omega) (by omega)
  simp only [spec_ChecksAnswer.f, l1In_eq, Option.bind_some, e, ev_ite_iff, decide_eq_true_eq, checksB]
  by_cases h : 0 ≤ b ∧ b ≤ (l.length : Int) - 1
  · have h' : 0 ≤ b ∧ b < (l.length : Int) := by omega
    rw [if_pos h, ev_bind_iff (spec_IsWord_ev w), ev_ite_iff]
    simp only [h', and_self, decide_true, Bool.true_and]
    cases hw : isWordB w
    · simp [ev_some]
    · simp only [if_true, Bool.true_and]
      rw [ev_bind_iff (spec_SealAnswer_ev a b w)]
      exact ev_some _
  · have h' : ¬ (0 ≤ b ∧ b < (l.length : Int)) := by omega
    rw [if_neg h]
    simp [h', ev_some]
theorem impl_ChecksAnswer_ev (l : List Int) (hl : l.length < 4611686018427387904) (a b : Int) (w : ByteArray) : Ev (fun k => impl_ChecksAnswer.f k l a b w) (checksB l a b w) := by
  simp only [impl_ChecksAnswer.f, at_eq, Option.bind_some, ev_ite_iff, decide_eq_true_eq, checksB]
  by_cases h' : 0 ≤ b ∧ b < (l.length : Int)
  · rw [if_pos h', ev_bind_iff (impl_IsWord_ev w), ev_ite_iff]
    simp only [h', and_self, decide_true, Bool.true_and]
    cases hw : isWordB w
    · simp [ev_some]
    · simp only [if_true, Bool.true_and]
      rw [ev_bind_iff (impl_SealAnswer_ev a b w)]
      exact ev_some _
  · rw [if_neg h']
    simp [h', ev_some]
theorem FnExactChecksAnswer : laws_FnExactChecksAnswer.Pure := by
  intro l a b w h1 h2 h3 ha hb hw
  refine Ev.rounds ?_
  unfold laws_FnExactChecksAnswer.f
  rw [ev_ite_iff]
  split
  · exact ev_some _
  rw [ev_ite_iff]
  split
  · exact ev_some _
  have t := toIntS_ev l (by omega)
  have s := spec_ChecksAnswer_ev l (by omega) a b w
  have i := impl_ChecksAnswer_ev l (by omega) a b w
  have e := eqIntS_ev l (by omega)
  rw [ev_bind_iff t, ev_bind_iff s, ev_bind_iff t, ev_bind_iff i, ev_ite_iff, if_neg (by simp), ev_bind_iff t, ev_bind_iff e, ev_ite_iff, if_pos rfl]
  exact ev_some _
end Go.Proofs.Ytfnpmkmdpbgjkaa.Pure
