/- The program's RightSlots returns what the reference's returns, for every argument; no further condition. -/
import Derived.Test.YtddacmgigolcbaaZRightSlotsQ
import Derived.Test.YtddacmgigolcbaaZRightSlotsEv
namespace Go.Proofs.Ytddacmgigolcbaa.Pure
open Go.RowKit Go.Proofs.Ytddacmgigolcbaa.PFnExactRightSlots Go.Proofs.YtddacmgigolcbaaW.PrintWords Go.Proofs.YtddacmgigolcbaaW.PrintLast Go.Proofs.YtddacmgigolcbaaW.PrintMore Go.Proofs.Ytddacmgigolcbaa.Sem
set_option linter.unusedVariables false
set_option linter.unusedSimpArgs false
theorem rdt_125 (xs : List S125) (i : Nat) (h : i < xs.length) : rd_T125 xs (i : Int) = xs[i] := by
  simp [rd_T125, List.getD_eq_getElem?_getD, List.getElem?_eq_getElem h]
theorem rdts_125 (xs : List S125) (i : Nat) (x : S125) (h : i < xs.length) : rd_T125 (xs.set i x) (i : Int) = x := by
  rw [rdt_125 _ i (by rw [List.length_set]; exact h), List.getElem_set_self]
theorem rdl_3 (xs : List (List Int)) (i : Nat) (h : i < xs.length) : rd_L3 xs (i : Int) = xs[i] := by
  simp [rd_L3, List.getD_eq_getElem?_getD, List.getElem?_eq_getElem h]
theorem l1In_eq (a b c : Int) : spec_l1In.f a b c = some (decide (b ≤ a ∧ a ≤ c)) := by
  unfold spec_l1In.f
  by_cases h : b ≤ a <;> simp [h]
theorem InRange_eq (a b c : Int) : impl_InRange.f a b c = some (decide (b ≤ a ∧ a ≤ c)) := by
  unfold impl_InRange.f
  by_cases h : b ≤ a <;> simp [h]
theorem at_eq (a b : Int) : impl_at.f a b = some (decide (0 ≤ a ∧ a < b)) := by
  unfold impl_at.f
  by_cases h : 0 ≤ a <;> simp [h]
theorem isLetter_eq (a : Int) : impl_isLetter.f a = some (decide (97 ≤ a ∧ a ≤ 122)) := by
  unfold impl_isLetter.f
  by_cases h : 97 ≤ a <;> simp [h]
theorem eqIntS_ev (l : List Int) (hl : l.length < 4611686018427387904) : Ev (fun k => laws_eqIntS.f k l l) true := by
  unfold laws_eqIntS.f
  rw [ev_ite_iff, if_pos rfl]
  refine ev_as (loop_all (fun k i => laws_eqIntS.l0 k l l i) l (fun _ => true) ?_ (fun i hi hp r hr => ?_) (fun i hi hp => by cases hp)) (by simp)
  · rw [← ev_succ_iff]; simp [laws_eqIntS.l0, ev_some]
  · rw [← ev_succ_iff]
    simp only [laws_eqIntS.l0, w_succ (i := i) (by omega)]
    simp [ev_ite_iff, hi]
    exact hr
theorem markIntS_ev (l : List Int) (c : Int) (h0 : 0 ≤ c) (hc : c + l.length < 4611686018427387904) : Ev (fun k => laws_markIntS.f k l c) (c + l.length, markd (fun _ b => b) (fun _ => 1) l c) := by
  have hw : wsum (fun _ => 1) l = l.length := by rw [wsum_one]; omega
  have := loop_mark (fun k s b i => laws_markIntS.l0 k s b i) l (fun _ => 1) (fun _ b => b) c (fun s b hs => ?_) (fun i hi s b hs hsi hb hb' r hr => ?_)
  · rw [hw] at this
    exact this
  · rw [← ev_succ_iff]
    simp only [laws_markIntS.l0]
    simp [hs, ev_some]
  · rw [← ev_succ_iff]
    rw [hw] at hb'
    have e : wrap64 (b + 1) = b + 1 := w_in (by omega) (by omega)
    simp only [laws_markIntS.l0, w_succ (i := i) (by omega), e]
    simp [ev_ite_iff, hi, hs]
    exact hr
theorem heldIntS_ev (l : List Int) (c : Int) (h0 : 0 ≤ c) (hc : c + l.length < 4611686018427387904) : Ev (fun k => laws_heldIntS.f k (markd (fun _ b => b) (fun _ => 1) l c) c) (c + l.length) := by
  have hw : wsum (fun _ => 1) l = l.length := by rw [wsum_one]; omega
  have := loop_held (fun k b i => laws_heldIntS.l0 k (markd (fun _ b => b) (fun _ => 1) l c) b i) l (fun _ => 1) c (fun b => ?_) (fun i hi b hb hb' r hr => ?_)
  · rw [hw] at this
    exact this
  · rw [← ev_succ_iff]
    simp only [laws_heldIntS.l0]
    simp [markd_length, ev_some]
  · rw [← ev_succ_iff]
    rw [hw] at hb'
    have e : wrap64 (b + 1) = b + 1 := w_in (by omega) (by omega)
    have hr' := rd_nat (markd (fun _ b => b) (fun _ => 1) l c) i (by rw [markd_length]; exact hi)
    rw [markd_get _ _ _ _ _ hi] at hr'
    simp only [laws_heldIntS.l0, w_succ (i := i) (by omega), e, hr', ← hb]
    simp [ev_ite_iff, hi, markd_length]
    exact hr
theorem toIntS_ev (l : List Int) (hl : l.length ≤ 17592186044416) : Ev (fun k => laws_toIntS.f k l) l := by
  unfold laws_toIntS.f
  rw [ev_ite_iff, if_pos (by omega), ev_ite_iff, if_pos (by omega)]
  refine ev_as (loop_fill (fun k s i => laws_toIntS.l0 k l s i) l id 0 (fun s hs => ?_) (fun i hi s hs r hr => ?_)) (by simp)
  · rw [← ev_succ_iff]
    simp [laws_toIntS.l0, ev_some]
  · rw [← ev_succ_iff]
    simp only [laws_toIntS.l0, rd_nat l i hi, w_succ (i := i) (by omega)]
    simp [ev_ite_iff, hi, hs]
    exact hr
def letterB (c : Int) : Bool := decide (97 ≤ c ∧ c ≤ 122)
def isWordB (s : ByteArray) : Bool := decide (1 ≤ s.size ∧ s.size ≤ 8) && (bytesOf s).all letterB
theorem isWordB_size {s : ByteArray} (h : isWordB s = true) : 1 ≤ s.size ∧ s.size ≤ 8 := by
  simp [isWordB] at h
  exact h.1
theorem isWordB_letter {s : ByteArray} (h : isWordB s = true) : ∀ c ∈ bytesOf s, 97 ≤ c ∧ c ≤ 122 := by
  simp [isWordB, letterB] at h
  exact h.2
theorem spec_IsWord_ev (s : ByteArray) : Ev (fun k => spec_IsWord.f k s) (isWordB s) := by
  simp only [spec_IsWord.f, l1In_eq, Option.bind_some, ev_ite_iff, decide_eq_true_eq, isWordB]
  by_cases h : (1 : Int) ≤ s.size ∧ (s.size : Int) ≤ 8
  · rw [if_pos h]
    have h' : 1 ≤ s.size ∧ s.size ≤ 8 := by omega
    simp only [h', decide_true, Bool.true_and, and_self]
    refine loop_all (fun k i => spec_IsWord.l0 k s i) (bytesOf s) letterB ?_ (fun i hi hp r hr => ?_) (fun i hi hp => ?_)
    · rw [← ev_succ_iff]; simp [spec_IsWord.l0, bytesOf_length, ev_some]
    · have hi' : i < s.size := by rw [bytesOf_length] at hi; exact hi
      rw [← ev_succ_iff]
      simp [letterB] at hp
      simp only [spec_IsWord.l0, bt_nat s i hi', w_succ (i := i) (by omega)]
      rw [ev_ite_iff, if_pos (by omega), ev_ite_iff, if_pos (by omega), ev_ite_iff, if_neg (by omega), ev_ite_iff, if_neg (by omega)]
      exact hr
    · have hi' : i < s.size := by rw [bytesOf_length] at hi; exact hi
      rw [← ev_succ_iff]
      simp [letterB] at hp
      simp only [spec_IsWord.l0, bt_nat s i hi', w_succ (i := i) (by omega)]
      rw [ev_ite_iff, if_pos (by omega), ev_ite_iff, if_pos (by omega), ev_ite_iff]
      by_cases h1 : (bytesOf s)[i] < 97
      · rw [if_pos h1]; exact ev_some _
      · rw [if_neg h1, ev_ite_iff, if_pos (by omega)]; exact ev_some _
  · rw [if_neg h]
    have h' : ¬ (1 ≤ s.size ∧ s.size ≤ 8) := by omega
    simp [h', ev_some]
theorem impl_IsWord_ev (s : ByteArray) : Ev (fun k => impl_IsWord.f k s) (isWordB s) := by
  simp only [impl_IsWord.f, InRange_eq, Option.bind_some, ev_ite_iff, decide_eq_true_eq, isWordB]
  by_cases h : (1 : Int) ≤ s.size ∧ (s.size : Int) ≤ 8
  · rw [if_pos h]
    have h' : 1 ≤ s.size ∧ s.size ≤ 8 := by omega
    simp only [h', decide_true, Bool.true_and, and_self]
    refine loop_all (fun k i => impl_IsWord.l0 k s (s.size : Int) i) (bytesOf s) letterB ?_ (fun i hi hp r hr => ?_) (fun i hi hp => ?_)
    · rw [← ev_succ_iff]; simp [impl_IsWord.l0, bytesOf_length, ev_some]
    · have hi' : i < s.size := by rw [bytesOf_length] at hi; exact hi
      rw [← ev_succ_iff]
      simp [letterB] at hp
      simp only [impl_IsWord.l0, bt_nat s i hi', w_succ (i := i) (by omega), isLetter_eq, Option.bind_some]
      rw [ev_ite_iff, if_pos (by omega), ev_ite_iff, if_pos (by omega), ev_ite_iff, if_pos (by omega), ev_ite_iff, if_pos (by simpa using hp)]
      exact hr
    · have hi' : i < s.size := by rw [bytesOf_length] at hi; exact hi
      rw [← ev_succ_iff]
      simp only [letterB] at hp
      simp only [impl_IsWord.l0, bt_nat s i hi', w_succ (i := i) (by omega), isLetter_eq, Option.bind_some]
      rw [ev_ite_iff, if_pos (by omega), ev_ite_iff, if_pos (by omega), ev_ite_iff, if_pos (by omega), ev_ite_iff, if_neg (by rw [hp]; decide)]
      exact ev_some _
  · rw [if_neg h]
    have h' : ¬ (1 ≤ s.size ∧ s.size ≤ 8) := by omega
    simp [h', ev_some]
theorem wrap_byte {c : Int} (h : 0 ≤ c ∧ c ≤ 255) : wrap64 c = c := w_in (by omega) (by omega)
theorem flat_one {α : Type} (l : List α) : l.flatMap (fun c => [c]) = l := by induction l <;> simp_all
theorem flat_take {α : Type} (l : List α) (i : Nat) : ((l.take i).flatMap (fun c => [c])).length ≤ i := by rw [flat_one, List.length_take]; omega
theorem spec_LettersOf_ev (s : ByteArray) (hs : s.size ≤ 17592186044416) : Ev (fun k => spec_LettersOf.f k s) (bytesOf s) := by
  refine ev_as (loop_collect (fun k x i => spec_LettersOf.l0 k s x i) (bytesOf s) (fun c => [c]) 0 (fun x => ?_) (fun i hi x hx r hr => ?_)) (flat_one _)
  · rw [← ev_succ_iff]; simp [spec_LettersOf.l0, bytesOf_length, ev_some]
  · have hi' : i < s.size := by rw [bytesOf_length] at hi; exact hi
    have hx' := flat_take (bytesOf s) i
    have hw := wrap_byte (bytes_range s _ (List.getElem_mem hi))
    rw [← ev_succ_iff]
    simp only [spec_LettersOf.l0, bt_nat s i hi', w_succ (i := i) (by omega), hw]
    rw [ev_ite_iff, if_pos (by omega), ev_ite_iff, if_pos (by omega), ev_ite_iff, if_pos (by omega)]
    exact hr
theorem impl_LettersOf_ev (s : ByteArray) (hs : s.size ≤ 17592186044416) : Ev (fun k => impl_LettersOf.f k s) (bytesOf s) := by
  refine ev_as (loop_collect (fun k x i => impl_LettersOf.l0 k s x (s.size : Int) i) (bytesOf s) (fun c => [c]) 0 (fun x => ?_) (fun i hi x hx r hr => ?_)) (flat_one _)
  · rw [← ev_succ_iff]; simp [impl_LettersOf.l0, bytesOf_length, ev_some]
  · have hi' : i < s.size := by rw [bytesOf_length] at hi; exact hi
    have hx' := flat_take (bytesOf s) i
    have hw := wrap_byte (bytes_range s _ (List.getElem_mem hi))
    rw [← ev_succ_iff]
    simp only [impl_LettersOf.l0, bt_nat s i hi', w_succ (i := i) (by omega), hw]
    rw [ev_ite_iff, if_pos (by omega), ev_ite_iff, if_pos (by omega), ev_ite_iff, if_pos (by omega), ev_ite_iff, if_pos (by omega)]
    exact hr
def mdP (a : Int) : Int := Int.tmod (wrap64 ((Int.tmod a 2147483647) + 2147483647)) 2147483647
def hstep (d v : Int) : Int := Int.tmod (wrap64 ((wrap64 ((wrap64 (d * 1000003)) + mdP v)) + 13)) 2147483647
def hashL (l : List Int) : Int := l.foldl hstep 11
theorem spec_Mod_eq (a : Int) : spec_Mod.f a 2147483647 = some (mdP a) := by
  simp [spec_Mod.f, l1In_eq, mdP]
theorem foldl_drop {α β : Type} (f : β → α → β) (l : List α) (i : Nat) (h : i < l.length) (s : β) : (l.drop i).foldl f s = (l.drop (i + 1)).foldl f (f s l[i]) := by
  rw [List.drop_eq_getElem_cons h]; rfl
theorem spec_Hash_ev (l : List Int) (hl : l.length < 4611686018427387904) : Ev (fun k => spec_Hash.f k l) (hashL l) := by
  have := loop_up (fun k s i => spec_Hash.l0 k l s i) l.length (fun _ _ => True) (fun i s => (l.drop i).foldl hstep s) (fun s _ => ?_) (fun i s hi _ => .inr ⟨hstep s l[i], trivial, foldl_drop _ _ _ hi _, fun r hr => ?_⟩) 0 11 (Nat.zero_le _) trivial
  · simpa [spec_Hash.f, hashL] using this
  · rw [← ev_succ_iff]; simp [spec_Hash.l0, ev_some]
  · rw [← ev_succ_iff]
    simp only [spec_Hash.l0, rd_nat l i hi, spec_Mod_eq, Option.bind_some, w_succ (i := i) (by omega)]
    rw [ev_ite_iff, if_pos (by omega), ev_ite_iff, if_pos (by omega)]
    exact hr
theorem impl_Mod_eq (a : Int) : impl_Mod.f a 2147483647 = some (mdP a) := by
  simp [impl_Mod.f, InRange_eq, mdP]
theorem impl_Hash_ev (l : List Int) (hl : l.length < 4611686018427387904) : Ev (fun k => impl_Hash.f k l) (hashL l) := by
  have := loop_up (fun k s i => impl_Hash.l0 k s l (l.length : Int) i) l.length (fun _ _ => True) (fun i s => (l.drop i).foldl hstep s) (fun s _ => ?_) (fun i s hi _ => .inr ⟨hstep s l[i], trivial, foldl_drop _ _ _ hi _, fun r hr => ?_⟩) 0 11 (Nat.zero_le _) trivial
  · simpa [impl_Hash.f, hashL] using this
  · rw [← ev_succ_iff]; simp [impl_Hash.l0, ev_some]
  · rw [← ev_succ_iff]
    simp only [impl_Hash.l0, rd_nat l i hi, impl_Mod_eq, Option.bind_some, w_succ (i := i) (by omega)]
    rw [ev_ite_iff, if_pos (by omega), ev_ite_iff, if_pos (by omega), ev_ite_iff, if_pos (by omega)]
    exact hr
def sealB (salt slot : Int) (w : ByteArray) : Int := if isWordB w = true then hashL ([salt, slot, (w.size : Int)] ++ bytesOf w) else 0
theorem spec_SealAnswer_ev (a b : Int) (w : ByteArray) : Ev (fun k => spec_SealAnswer.f k a b w) (sealB a b w) := by
  unfold spec_SealAnswer.f
  rw [ev_bind_iff (spec_IsWord_ev w), ev_ite_iff]
  unfold sealB
  split
  · rename_i h
    have hs := isWordB_size h
    have hl := bytesOf_length w
    simp only [Option.bind_some]
    rw [ev_bind_iff (spec_LettersOf_ev w (by omega)), ev_ite_iff, if_pos (by simp; omega)]
    rw [ev_bind_iff (spec_Hash_ev _ (by simp; omega))]
    exact ev_some _
  · exact ev_some _
theorem impl_SealAnswer_ev (a b : Int) (w : ByteArray) : Ev (fun k => impl_SealAnswer.f k a b w) (sealB a b w) := by
  unfold impl_SealAnswer.f
  rw [ev_bind_iff (impl_IsWord_ev w), ev_ite_iff]
  unfold sealB
  split
  · rename_i h
    have hs := isWordB_size h
    have hl := bytesOf_length w
    simp only [Option.bind_some]
    rw [ev_bind_iff (impl_LettersOf_ev w (by omega)), ev_ite_iff, if_pos (by simp; omega)]
    rw [ev_bind_iff (impl_Hash_ev _ (by simp; omega))]
    exact ev_some _
  · exact ev_some _
def checksB (l : List Int) (salt slot : Int) (w : ByteArray) : Bool := decide (0 ≤ slot ∧ slot < l.length) && (isWordB w && (sealB salt slot w == rd l slot))
theorem spec_ChecksAnswer_ev (l : List Int) (hl : l.length < 4611686018427387904) (a b : Int) (w : ByteArray) : Ev (fun k => spec_ChecksAnswer.f k l a b w) (checksB l a b w) := by
  have e : wrap64 ((l.length : Int) - 1) = l.length - 1 := w_in (by omega) (by omega)
  simp only [spec_ChecksAnswer.f, l1In_eq, Option.bind_some, e, ev_ite_iff, decide_eq_true_eq, checksB]
  by_cases h : 0 ≤ b ∧ b ≤ (l.length : Int) - 1
  · have h' : 0 ≤ b ∧ b < (l.length : Int) := by omega
    rw [if_pos h, ev_bind_iff (spec_IsWord_ev w), ev_ite_iff]
    simp only [h', and_self, decide_true, Bool.true_and]
    cases hw : isWordB w
    · simp [ev_some]
    · simp only [if_true, Bool.true_and]
      rw [ev_bind_iff (spec_SealAnswer_ev a b w)]
      exact ev_some _
  · have h' : ¬ (0 ≤ b ∧ b < (l.length : Int)) := by omega
    rw [if_neg h]
    simp [h', ev_some]
theorem impl_ChecksAnswer_ev (l : List Int) (hl : l.length < 4611686018427387904) (a b : Int) (w : ByteArray) : Ev (fun k => impl_ChecksAnswer.f k l a b w) (checksB l a b w) := by
  simp only [impl_ChecksAnswer.f, at_eq, Option.bind_some, ev_ite_iff, decide_eq_true_eq, checksB]
  by_cases h' : 0 ≤ b ∧ b < (l.length : Int)
  · rw [if_pos h', ev_bind_iff (impl_IsWord_ev w), ev_ite_iff]
    simp only [h', and_self, decide_true, Bool.true_and]
    cases hw : isWordB w
    · simp [ev_some]
    · simp only [if_true, Bool.true_and]
      rw [ev_bind_iff (impl_SealAnswer_ev a b w)]
      exact ev_some _
  · rw [if_neg h']
    simp [h', ev_some]
def cellB (c : Int) : Bool := decide (c = 35 ∨ c = 46)
def isGridB (R C : Int) (s : ByteArray) : Bool := decide ((2 ≤ R ∧ R ≤ 6) ∧ (2 ≤ C ∧ C ≤ 6) ∧ (s.size : Int) = R * C) && (bytesOf s).all cellB
theorem isGridB_parts {R C : Int} {s : ByteArray} (h : isGridB R C s = true) : (2 ≤ R ∧ R ≤ 6) ∧ (2 ≤ C ∧ C ≤ 6) ∧ (s.size : Int) = R * C ∧ ∀ c ∈ bytesOf s, c = 35 ∨ c = 46 := by
  simp [isGridB, cellB] at h
  exact ⟨h.1.1, h.1.2.1, h.1.2.2, h.2⟩
theorem side_cases {C : Int} (hC : 2 ≤ C ∧ C ≤ 6) : C = 2 ∨ C = 3 ∨ C = 4 ∨ C = 5 ∨ C = 6 := by omega
theorem grid_mul {R C : Int} (hR : 2 ≤ R ∧ R ≤ 6) (hC : 2 ≤ C ∧ C ≤ 6) : 4 ≤ R * C ∧ R * C ≤ 36 := by
  rcases side_cases hC with rfl | rfl | rfl | rfl | rfl <;> omega
theorem isGridB_size {R C : Int} {s : ByteArray} (h : isGridB R C s = true) : 4 ≤ s.size ∧ s.size ≤ 36 := by
  obtain ⟨h1, h2, h3, _⟩ := isGridB_parts h
  have := grid_mul h1 h2
  omega
theorem spec_IsGrid_l (R C : Int) (s : ByteArray) (hs : s.size < 4611686018427387904) : Ev (fun k => spec_IsGrid.l0 k 0 R C s) ((bytesOf s).all cellB) := by
  refine loop_all (fun k i => spec_IsGrid.l0 k i R C s) (bytesOf s) cellB ?_ (fun i hi hp r hr => ?_) (fun i hi hp => ?_)
  · rw [← ev_succ_iff]; simp [spec_IsGrid.l0, bytesOf_length, ev_some]
  · have hi' : i < s.size := by rw [bytesOf_length] at hi; exact hi
    rw [← ev_succ_iff]
    simp only [cellB, decide_eq_true_eq] at hp
    simp only [spec_IsGrid.l0, bt_nat s i hi', w_succ (i := i) (by omega)]
    rw [ev_ite_iff, if_pos (by omega), ev_ite_iff, if_pos (by omega), ev_ite_iff]
    by_cases h : (bytesOf s)[i] = 35
    · rw [if_pos h]; exact hr
    · rw [if_neg h, ev_ite_iff, if_pos (by omega)]; exact hr
  · have hi' : i < s.size := by rw [bytesOf_length] at hi; exact hi
    rw [← ev_succ_iff]
    simp only [cellB, decide_eq_false_iff_not] at hp
    simp only [spec_IsGrid.l0, bt_nat s i hi', w_succ (i := i) (by omega)]
    rw [ev_ite_iff, if_pos (by omega), ev_ite_iff, if_pos (by omega), ev_ite_iff, if_neg (by omega), ev_ite_iff, if_neg (by omega)]
    exact ev_some _
theorem spec_IsGrid_ev (R C : Int) (s : ByteArray) : Ev (fun k => spec_IsGrid.f k R C s) (isGridB R C s) := by
  simp only [spec_IsGrid.f, l1In_eq, Option.bind_some, ev_ite_iff, decide_eq_true_eq]
  by_cases hR : 2 ≤ R ∧ R ≤ 6
  · rw [if_pos hR]
    by_cases hC : 2 ≤ C ∧ C ≤ 6
    · rw [if_pos hC]
      have hm := grid_mul hR hC
      have e : wrap64 (R * C) = R * C := w_in (by omega) (by omega)
      rw [e, ← ev_succ_iff]
      simp only [spec_IsGrid.j0, ev_ite_iff, bne_iff_ne, ne_eq]
      by_cases hs : (s.size : Int) = R * C
      · rw [if_neg (not_not_intro hs)]
        exact ev_as (spec_IsGrid_l R C s (by omega)) (by simp [isGridB, hR, hC, hs])
      · rw [if_pos hs]
        exact ev_as (ev_some _) (by simp [isGridB, hs])
    · rw [if_neg hC, ← ev_succ_iff]
      simp only [spec_IsGrid.j0, if_true]
      exact ev_as (ev_some _) (by simp [isGridB, hC])
  · rw [if_neg hR, ← ev_succ_iff]
    simp only [spec_IsGrid.j0, if_true]
    exact ev_as (ev_some _) (by simp [isGridB, hR])
theorem impl_IsGrid_l (R C : Int) (s : ByteArray) (hs : s.size < 4611686018427387904) : Ev (fun k => impl_IsGrid.l0 k (s.size : Int) 0 R C s) ((bytesOf s).all cellB) := by
  refine loop_all (fun k i => impl_IsGrid.l0 k (s.size : Int) i R C s) (bytesOf s) cellB ?_ (fun i hi hp r hr => ?_) (fun i hi hp => ?_)
  · rw [← ev_succ_iff]; simp [impl_IsGrid.l0, bytesOf_length, ev_some]
  · have hi' : i < s.size := by rw [bytesOf_length] at hi; exact hi
    rw [← ev_succ_iff]
    simp only [cellB, decide_eq_true_eq] at hp
    simp only [impl_IsGrid.l0, bt_nat s i hi', w_succ (i := i) (by omega)]
    rw [ev_ite_iff, if_pos (by omega), ev_ite_iff, if_pos (by omega), ev_ite_iff, if_pos (by omega), ev_ite_iff]
    by_cases h : (bytesOf s)[i] = 35
    · rw [if_pos h]; exact hr
    · rw [if_neg h, ev_ite_iff, if_pos (by omega)]; exact hr
  · have hi' : i < s.size := by rw [bytesOf_length] at hi; exact hi
    rw [← ev_succ_iff]
    simp only [cellB, decide_eq_false_iff_not] at hp
    simp only [impl_IsGrid.l0, bt_nat s i hi', w_succ (i := i) (by omega)]
    rw [ev_ite_iff, if_pos (by omega), ev_ite_iff, if_pos (by omega), ev_ite_iff, if_pos (by omega), ev_ite_iff, if_neg (by omega), ev_ite_iff, if_neg (by omega)]
    exact ev_some _
theorem impl_IsGrid_ev (R C : Int) (s : ByteArray) : Ev (fun k => impl_IsGrid.f k R C s) (isGridB R C s) := by
  simp only [impl_IsGrid.f, InRange_eq, Option.bind_some, ev_ite_iff, decide_eq_true_eq]
  by_cases hR : 2 ≤ R ∧ R ≤ 6
  · rw [if_pos hR]
    by_cases hC : 2 ≤ C ∧ C ≤ 6
    · rw [if_pos hC]
      have hm := grid_mul hR hC
      have e : wrap64 (R * C) = R * C := w_in (by omega) (by omega)
      rw [e, ← ev_succ_iff]
      simp only [impl_IsGrid.j0, ev_ite_iff, bne_iff_ne, ne_eq]
      by_cases hs : (s.size : Int) = R * C
      · rw [if_neg (not_not_intro hs)]
        exact ev_as (impl_IsGrid_l R C s (by omega)) (by simp [isGridB, hR, hC, hs])
      · rw [if_pos hs]
        exact ev_as (ev_some _) (by simp [isGridB, hs])
    · rw [if_neg hC, ← ev_succ_iff]
      simp only [impl_IsGrid.j0, if_true]
      exact ev_as (ev_some _) (by simp [isGridB, hC])
  · rw [if_neg hR, ← ev_succ_iff]
    simp only [impl_IsGrid.j0, if_true]
    exact ev_as (ev_some _) (by simp [isGridB, hR])
theorem mul_small {j st : Int} (hj : 0 ≤ j ∧ j ≤ 6) (hs : 1 ≤ st ∧ st ≤ 6) : 0 ≤ j * st ∧ j * st ≤ 36 := by
  have : st = 1 ∨ st = 2 ∨ st = 3 ∨ st = 4 ∨ st = 5 ∨ st = 6 := by omega
  rcases this with rfl | rfl | rfl | rfl | rfl | rfl <;> omega
theorem l8_loop (R C : Int) (s : ByteArray) (i st p n : Int) (hp : 0 ≤ p ∧ p ≤ 36) (hn : n ≤ 6) (hi : 0 ≤ i ∧ i ≤ 36) (hst : 1 ≤ st ∧ st ≤ 6) (hin : ∀ j, 0 ≤ j → p + j < n → 0 ≤ i + j * st ∧ i + j * st < (s.size : Int)) :
    ∀ (d : Nat) (j : Int), (n - p - j).toNat ≤ d → 0 ≤ j → j ≤ 6 → (∀ j', 0 ≤ j' → j' < j → p + j' < n ∧ bt s (i + j' * st) = 46) →
    ∃ r, Ev (fun k => spec_l8From.l0 k i st p n j R C s) r ∧ 0 ≤ r ∧ r ≤ 6 ∧ ∀ j', 0 ≤ j' → j' < r → p + j' < n ∧ bt s (i + j' * st) = 46 := by
  intro d
  induction d with
  | zero =>
    intro j hd h0 h6 hb
    have e1 : wrap64 (p + j) = p + j := w_in (by omega) (by omega)
    refine ⟨j, ?_, h0, h6, hb⟩
    rw [← ev_succ_iff]
    simp only [spec_l8From.l0, e1]
    rw [ev_ite_iff, if_neg (by omega)]
    exact ev_some _
  | succ d ih =>
    intro j hd h0 h6 hb
    have e1 : wrap64 (p + j) = p + j := w_in (by omega) (by omega)
    by_cases hc : p + j < n
    · have hm := mul_small (j := j) (st := st) ⟨h0, h6⟩ hst
      have hj := hin j h0 hc
      have e2 : wrap64 (j * st) = j * st := w_in (by omega) (by omega)
      have e3 : wrap64 (i + j * st) = i + j * st := w_in (by omega) (by omega)
      have e4 : wrap64 (j + 1) = j + 1 := w_in (by omega) (by omega)
      by_cases h46 : bt s (i + j * st) = 46
      · obtain ⟨r, hr, h⟩ := ih (j + 1) (by omega) (by omega) (by omega) (fun j' h1 h2 => by
          by_cases hh : j' = j
          · rw [hh]; exact ⟨hc, h46⟩
          · exact hb j' h1 (by omega))
        refine ⟨r, ?_, h⟩
        rw [← ev_succ_iff]
        simp only [spec_l8From.l0, e1, e2, e3, e4]
        rw [ev_ite_iff, if_pos hc, ev_ite_iff, if_pos hj.1, ev_ite_iff, if_pos hj.2, ev_ite_iff, if_pos h46]
        exact hr
      · refine ⟨j, ?_, h0, h6, hb⟩
        rw [← ev_succ_iff]
        simp only [spec_l8From.l0, e1, e2, e3, e4]
        rw [ev_ite_iff, if_pos hc, ev_ite_iff, if_pos hj.1, ev_ite_iff, if_pos hj.2, ev_ite_iff, if_neg h46]
        exact ev_some _
    · refine ⟨j, ?_, h0, h6, hb⟩
      rw [← ev_succ_iff]
      simp only [spec_l8From.l0, e1]
      rw [ev_ite_iff, if_neg hc]
      exact ev_some _
theorem l8_j0 (R C : Int) (s : ByteArray) (i st p n : Int) (hp : 0 ≤ p ∧ p ≤ 36) (hn : n ≤ 6) (hi : 0 ≤ i ∧ i ≤ 36) (his : i < (s.size : Int)) (hst : 1 ≤ st ∧ st ≤ 6) (hb : 0 < p → 0 ≤ i - st) (hin : ∀ j, 0 ≤ j → p + j < n → 0 ≤ i + j * st ∧ i + j * st < (s.size : Int)) :
    ∃ r, Ev (fun k => spec_l8From.j0 k i st p n R C s) r ∧ 0 ≤ r ∧ r ≤ 6 ∧ ∀ j', 0 ≤ j' → j' < r → p + j' < n ∧ bt s (i + j' * st) = 46 := by
  have hj1 : ∀ b : Bool, ∃ r, Ev (fun k => spec_l8From.j1 k i st p n b R C s) r ∧ 0 ≤ r ∧ r ≤ 6 ∧ ∀ j', 0 ≤ j' → j' < r → p + j' < n ∧ bt s (i + j' * st) = 46 := by
    intro b
    cases b with
    | true =>
      refine ⟨0, ?_, by omega, by omega, fun _ _ _ => by omega⟩
      rw [← ev_succ_iff]
      simp only [spec_l8From.j1, if_true]
      exact ev_some _
    | false =>
      obtain ⟨r, hr, h⟩ := l8_loop R C s i st p n hp hn hi hst hin _ 0 (Nat.le_refl _) (by omega) (by omega) (fun _ _ _ => by omega)
      refine ⟨r, ?_, h⟩
      rw [← ev_succ_iff]
      simp only [spec_l8From.j1, Bool.false_eq_true, if_false]
      exact hr
  have e1 : wrap64 (i - st) = i - st := w_in (by omega) (by omega)
  by_cases h46 : bt s i = 46
  · by_cases hp0 : p > 0
    · obtain ⟨r, hr, h⟩ := hj1 (bt s (i - st) == 46)
      have := hb hp0
      refine ⟨r, ?_, h⟩
      rw [← ev_succ_iff]
      simp only [spec_l8From.j0, e1]
      rw [ev_ite_iff, if_pos hi.1, ev_ite_iff, if_pos his, ev_ite_iff, if_pos h46, ev_ite_iff, if_pos hp0, ev_ite_iff, if_pos this, ev_ite_iff, if_pos (by omega)]
      exact hr
    · obtain ⟨r, hr, h⟩ := hj1 false
      refine ⟨r, ?_, h⟩
      rw [← ev_succ_iff]
      simp only [spec_l8From.j0, e1]
      rw [ev_ite_iff, if_pos hi.1, ev_ite_iff, if_pos his, ev_ite_iff, if_pos h46, ev_ite_iff, if_neg hp0]
      exact hr
  · obtain ⟨r, hr, h⟩ := hj1 true
    refine ⟨r, ?_, h⟩
    rw [← ev_succ_iff]
    simp only [spec_l8From.j0, e1]
    rw [ev_ite_iff, if_pos hi.1, ev_ite_iff, if_pos his, ev_ite_iff, if_neg h46]
    exact hr
/-- A cell's part of white cells: its length, and that its cells lie in the grid. -/
theorem l8_ex {R C : Int} {s : ByteArray} (hg : isGridB R C s = true) (i : Nat) (hi : i < s.size) (b : Bool) :
    ∃ r, Ev (fun k => spec_l8From.f k R C s i b) r ∧ 0 ≤ r ∧ r ≤ 6 ∧ ∀ j, 0 ≤ j → j < r → 0 ≤ (i : Int) + j * (if b = true then C else 1) ∧ (i : Int) + j * (if b = true then C else 1) < s.size ∧ bt s ((i : Int) + j * (if b = true then C else 1)) = 46 := by
  obtain ⟨hR, hC, hs, _⟩ := isGridB_parts hg
  have hm := grid_mul hR hC
  have e1 : Int.tdiv (i : Int) C = (i : Int) / C := Int.tdiv_eq_ediv_of_nonneg (by omega)
  have e2 : Int.tmod (i : Int) C = (i : Int) % C := Int.tmod_eq_emod_of_nonneg (by omega)
  have hi2 : (i : Int) < R * C := by omega
  have hdiv : 0 ≤ (i : Int) / C ∧ (i : Int) / C ≤ 36 ∧ 0 ≤ (i : Int) % C ∧ (i : Int) % C ≤ 36 ∧ (0 < (i : Int) / C → 0 ≤ (i : Int) - C) ∧ (0 < (i : Int) % C → 0 ≤ (i : Int) - 1)
      ∧ (∀ j, 0 ≤ j → (i : Int) / C + j < R → 0 ≤ (i : Int) + j * C ∧ (i : Int) + j * C < R * C) ∧ (∀ j, 0 ≤ j → (i : Int) % C + j < C → 0 ≤ (i : Int) + j * 1 ∧ (i : Int) + j * 1 < R * C) := by
    rcases side_cases hC with rfl | rfl | rfl | rfl | rfl <;> exact ⟨by omega, by omega, by omega, by omega, by omega, by omega, fun j h1 h2 => by omega, fun j h1 h2 => by omega⟩
  obtain ⟨d1, d2, d3, d4, d5, d6, d7, d8⟩ := hdiv
  have e3 : wrap64 ((i : Int) / C) = (i : Int) / C := w_in (by omega) (by omega)
  have hc0 : ¬ C = 0 := by omega
  cases b with
  | true =>
    obtain ⟨r, hr, h0, h6, h⟩ := l8_j0 R C s i C ((i : Int) / C) R ⟨d1, d2⟩ hR.2 (by omega) (by omega) (by omega) d5 (fun j h1 h2 => by rw [hs]; exact d7 j h1 h2)
    refine ⟨r, ?_, h0, h6, fun j h1 h2 => ?_⟩
    · simp only [spec_l8From.f, e1, e3]
      rw [ev_ite_iff, if_neg hc0, ev_ite_iff, if_pos trivial]
      exact hr
    · have := h j h1 h2
      have := d7 j h1 this.1
      simp only [if_true]
      omega
  | false =>
    obtain ⟨r, hr, h0, h6, h⟩ := l8_j0 R C s i 1 ((i : Int) % C) C ⟨d3, d4⟩ hC.2 (by omega) (by omega) (by omega) d6 (fun j h1 h2 => by rw [hs]; exact d8 j h1 h2)
    refine ⟨r, ?_, h0, h6, fun j h1 h2 => ?_⟩
    · simp only [spec_l8From.f, e2]
      rw [ev_ite_iff, if_neg hc0, ev_ite_iff, if_neg (by simp)]
      exact hr
    · have := h j h1 h2
      have := d8 j h1 this.1
      simp only [Bool.false_eq_true, if_false]
      omega
noncomputable def run8 (R C : Int) (s : ByteArray) (i : Int) (b : Bool) : Int := open Classical in if h : ∃ r, Ev (fun k => spec_l8From.f k R C s i b) r then h.choose else 0
theorem run8_ev {R C : Int} {s : ByteArray} (hg : isGridB R C s = true) (i : Nat) (hi : i < s.size) (b : Bool) : Ev (fun k => spec_l8From.f k R C s i b) (run8 R C s i b) := by
  obtain ⟨r, hr, _⟩ := l8_ex hg i hi b
  have hx : ∃ r, Ev (fun k => spec_l8From.f k R C s i b) r := ⟨r, hr⟩
  unfold run8
  rw [dif_pos hx]
  exact hx.choose_spec
theorem run8_in {R C : Int} {s : ByteArray} (hg : isGridB R C s = true) (i : Nat) (hi : i < s.size) (b : Bool) : 0 ≤ run8 R C s i b ∧ run8 R C s i b ≤ 6 ∧ ∀ j, 0 ≤ j → j < run8 R C s i b → 0 ≤ (i : Int) + j * (if b = true then C else 1) ∧ (i : Int) + j * (if b = true then C else 1) < s.size ∧ bt s ((i : Int) + j * (if b = true then C else 1)) = 46 := by
  obtain ⟨r, hr, h⟩ := l8_ex hg i hi b
  rw [ev_unique (run8_ev hg i hi b) hr]
  exact h
theorem run_same : ∀ k, (∀ a b c d e f g, impl_run.j0 k a b c d e f g = spec_l8From.j0 k a b c d e f g) ∧ (∀ a b c d x e f g, impl_run.j1 k a b c d x e f g = spec_l8From.j1 k a b c d x e f g) ∧ ∀ a b c d x e f g, impl_run.l0 k a b c d x e f g = spec_l8From.l0 k a b c d x e f g := by
  intro k
  induction k with
  | zero => exact ⟨fun _ _ _ _ _ _ _ => rfl, fun _ _ _ _ _ _ _ _ => rfl, fun _ _ _ _ _ _ _ _ => rfl⟩
  | succ k ih =>
    obtain ⟨h1, h2, h3⟩ := ih
    refine ⟨fun a b c d e f g => ?_, fun a b c d x e f g => ?_, fun a b c d x e f g => ?_⟩
    · simp only [impl_run.j0, spec_l8From.j0, h2]
    · simp only [impl_run.j1, spec_l8From.j1, h3]
    · simp only [impl_run.l0, spec_l8From.l0, h3]
theorem run_eq (k : Nat) (R C : Int) (s : ByteArray) (i : Int) (b : Bool) : impl_run.f k R C s i b = spec_l8From.f k R C s i b := by
  simp only [impl_run.f, spec_l8From.f, (run_same k).1]
def slA (n i a : Int) : List S125 := if a ≥ 2 then [⟨n, false, i, a⟩] else []
def slD (n i d : Int) : List S125 := if d ≥ 2 then [⟨n, true, i, d⟩] else []
def slNum (a d n : Int) : Int := if a ≥ 2 ∨ d ≥ 2 then n + 1 else n
def slNext (a d : Int) (i : Nat) (st : List S125 × Int) : List S125 × Int := ((st.1 ++ slA (slNum a d st.2) i a) ++ slD (slNum a d st.2) i d, slNum a d st.2)
noncomputable def slStep (R C : Int) (s : ByteArray) (st : List S125 × Int) (i : Nat) : List S125 × Int := slNext (run8 R C s i false) (run8 R C s i true) i st
noncomputable def slW (R C : Int) (s : ByteArray) (i : Nat) (st : List S125 × Int) : List S125 × Int := (List.range' i (s.size - i)).foldl (slStep R C s) st
noncomputable def slotsB (R C : Int) (s : ByteArray) : List S125 := if isGridB R C s = true then (slW R C s 0 ([], 0)).1 else []
theorem slW_end (R C : Int) (s : ByteArray) (st : List S125 × Int) : slW R C s s.size st = st := by simp [slW]
theorem slW_step (R C : Int) (s : ByteArray) (i : Nat) (hi : i < s.size) (st : List S125 × Int) : slW R C s i st = slW R C s (i + 1) (slStep R C s st i) := by
  unfold slW
  rw [show s.size - i = (s.size - (i + 1)) + 1 by omega, List.range'_succ]
  rfl
theorem slNum_in (a d n : Int) : n ≤ slNum a d n ∧ slNum a d n ≤ n + 1 := by unfold slNum; split <;> omega
theorem slNext_len (a d : Int) (i : Nat) (st : List S125 × Int) : (slNext a d i st).1.length ≤ st.1.length + 2 := by
  have h1 : (slA (slNum a d st.2) i a).length ≤ 1 := by unfold slA; split <;> simp
  have h2 : (slD (slNum a d st.2) i d).length ≤ 1 := by unfold slD; split <;> simp
  simp only [slNext, List.length_append]
  omega
def slInv (i : Nat) (st : List S125 × Int) : Prop := st.1.length ≤ 2 * i ∧ 0 ≤ st.2 ∧ st.2 ≤ i
theorem slInv_next (R C : Int) (s : ByteArray) (i : Nat) (st : List S125 × Int) (h : slInv i st) : slInv (i + 1) (slStep R C s st i) := by
  obtain ⟨h1, h2, h3⟩ := h
  have := slNext_len (run8 R C s i false) (run8 R C s i true) i st
  have := slNum_in (run8 R C s i false) (run8 R C s i true) st.2
  refine ⟨?_, ?_, ?_⟩
  · unfold slStep; omega
  · unfold slStep slNext; dsimp only; omega
  · unfold slStep slNext; dsimp only; omega
theorem spec_SlotsOf_j3 {R C : Int} {s : ByteArray} (a d : Int) (i : Nat) (hi : i < 36) (l : List S125) (n : Int) (hl : l.length ≤ 72) (r : List S125)
    (hr : Ev (fun k => spec_SlotsOf.l0 k ((l ++ slA n i a) ++ slD n i d) n ((i + 1 : Nat) : Int) R C s) r) : Ev (fun k => spec_SlotsOf.j3 k l n i a d R C s) r := by
  rw [← ev_succ_iff]
  simp only [spec_SlotsOf.j3, w_succ (i := i) (by omega), Option.bind_some, ev_ite_iff]
  by_cases a2 : a ≥ 2 <;> by_cases d2 : d ≥ 2 <;> simp only [slA, slD, a2, d2, if_true, if_false, List.append_nil] at hr ⊢
  · rw [if_pos (by omega), if_pos (by rw [List.length_append]; simp; omega)]
    exact hr
  · rw [if_pos (by omega)]
    exact hr
  · rw [if_pos (by omega)]
    exact hr
  · exact hr
theorem spec_SlotsOf_l {R C : Int} {s : ByteArray} (hg : isGridB R C s = true) : Ev (fun k => spec_SlotsOf.l0 k [] 0 0 R C s) (slW R C s 0 ([], 0)).1 := by
  have hsz := isGridB_size hg
  refine loop_up (σ := List S125 × Int) (fun k st i => spec_SlotsOf.l0 k st.1 st.2 i R C s) s.size slInv (fun i st => (slW R C s i st).1) (fun st hst => ?_) (fun i st hi hst => .inr ⟨slStep R C s st i, slInv_next R C s i st hst, ?_, fun r hr => ?_⟩) 0 ([], 0) (Nat.zero_le _) ⟨by simp, by simp, by simp⟩
  · rw [slW_end, ← ev_succ_iff]
    simp only [spec_SlotsOf.l0, Int.lt_irrefl, if_false]
    rw [← ev_succ_iff]
    simp only [spec_SlotsOf.j1, Bool.false_eq_true, if_false]
    exact ev_some _
  · rw [slW_step R C s i hi]
  · obtain ⟨h1, h2, h3⟩ := hst
    have ha := run8_ev hg i hi false
    have hd := run8_ev hg i hi true
    unfold slStep slNext at hr
    generalize run8 R C s i false = a at ha hr
    generalize run8 R C s i true = d at hd hr
    have hn1 : wrap64 (st.2 + 1) = st.2 + 1 := w_in (by omega) (by omega)
    rw [← ev_succ_iff]
    simp only [spec_SlotsOf.l0]
    rw [ev_ite_iff, if_pos (by omega), ev_bind_iff (spec_IsGrid_ev R C s), hg, ← ev_succ_iff]
    simp only [spec_SlotsOf.j1, if_true]
    rw [ev_bind_iff ha, ev_bind_iff hd, ev_ite_iff]
    have hj2 : ∀ b : Bool, b = decide (a ≥ 2 ∨ d ≥ 2) → Ev (fun k => spec_SlotsOf.j2 k st.1 st.2 i a d b R C s) r := by
      intro b hb
      rw [← ev_succ_iff]
      simp only [spec_SlotsOf.j2, hn1]
      rw [ev_ite_iff]
      by_cases h : a ≥ 2 ∨ d ≥ 2
      · rw [if_pos (by rw [hb]; simpa using h)]
        simp only [slNum, if_pos h] at hr
        exact spec_SlotsOf_j3 a d i (by omega) st.1 _ (by omega) r hr
      · rw [if_neg (by rw [hb]; simpa using h)]
        simp only [slNum, if_neg h] at hr
        exact spec_SlotsOf_j3 a d i (by omega) st.1 _ (by omega) r hr
    by_cases a2 : a ≥ 2
    · rw [if_pos a2]
      exact hj2 _ (by simp [a2])
    · rw [if_neg a2]
      exact hj2 _ (by simp only [a2, false_or])
theorem spec_SlotsOf_ev (R C : Int) (s : ByteArray) : Ev (fun k => spec_SlotsOf.f k R C s) (slotsB R C s) := by
  unfold slotsB
  split
  · rename_i hg
    exact spec_SlotsOf_l hg
  · rename_i hg
    simp only [spec_SlotsOf.f]
    rw [← ev_succ_iff]
    simp only [spec_SlotsOf.l0]
    rw [Bool.not_eq_true] at hg
    have : Ev (fun k => spec_SlotsOf.j1 k [] 0 0 false R C s) [] := by
      rw [← ev_succ_iff]
      simp only [spec_SlotsOf.j1, Bool.false_eq_true, if_false]
      exact ev_some _
    rw [ev_ite_iff]
    split
    · rw [ev_bind_iff (spec_IsGrid_ev R C s), hg]
      exact this
    · exact this
theorem slA_mem {n i a : Int} {x : S125} (h : x ∈ slA n i a) : x = ⟨n, false, i, a⟩ ∧ a ≥ 2 := by
  unfold slA at h
  split at h
  · exact ⟨List.mem_singleton.1 h, ‹_›⟩
  · simp at h
theorem slD_mem {n i a : Int} {x : S125} (h : x ∈ slD n i a) : x = ⟨n, true, i, a⟩ ∧ a ≥ 2 := by
  unfold slD at h
  split at h
  · exact ⟨List.mem_singleton.1 h, ‹_›⟩
  · simp at h
def stepOf (C : Int) (x : S125) : Int := if x.f1 = true then C else 1
/-- A slot that fits the grid. -/
def slOk (C : Int) (s : ByteArray) (x : S125) : Prop := 0 ≤ x.f2 ∧ x.f2 < s.size ∧ 2 ≤ x.f3 ∧ x.f3 ≤ 6 ∧ ∀ j, 0 ≤ j → j < x.f3 → 0 ≤ x.f2 + j * stepOf C x ∧ x.f2 + j * stepOf C x < s.size ∧ bt s (x.f2 + j * stepOf C x) = 46
theorem slots_good {R C : Int} {s : ByteArray} (hg : isGridB R C s = true) : ∀ (n i : Nat) (st : List S125 × Int), i + n = s.size → slInv i st → (∀ x ∈ st.1, slOk C s x ∧ x.f2 < i) → st.1.Nodup →
    (∀ x ∈ (slW R C s i st).1, slOk C s x) ∧ (slW R C s i st).1.Nodup ∧ (slW R C s i st).1.length ≤ 72 := by
  have hsz := isGridB_size hg
  intro n
  induction n with
  | zero =>
    intro i st hi hv hx hnd
    have : i = s.size := by omega
    subst this
    rw [slW_end]
    exact ⟨fun x h => (hx x h).1, hnd, by have := hv.1; omega⟩
  | succ n ih =>
    intro i st hi hv hx hnd
    rw [slW_step R C s i (by omega)]
    have ia := run8_in hg i (by omega) false
    have id := run8_in hg i (by omega) true
    refine ih (i + 1) _ (by omega) (slInv_next R C s i st hv) ?_ ?_
    · intro x h
      unfold slStep slNext at h
      simp only [List.mem_append] at h
      rcases h with (h | h) | h
      · have := hx x h
        exact ⟨this.1, by omega⟩
      · obtain ⟨rfl, h2⟩ := slA_mem h
        refine ⟨⟨by show (0 : Int) ≤ (i : Int); omega, by show (i : Int) < (s.size : Int); omega, h2, ia.2.1, fun j h1 h3 => ?_⟩, by show (i : Int) < ((i + 1 : Nat) : Int); omega⟩
        have := ia.2.2 j h1 h3
        simpa [stepOf] using this
      · obtain ⟨rfl, h2⟩ := slD_mem h
        refine ⟨⟨by show (0 : Int) ≤ (i : Int); omega, by show (i : Int) < (s.size : Int); omega, h2, id.2.1, fun j h1 h3 => ?_⟩, by show (i : Int) < ((i + 1 : Nat) : Int); omega⟩
        have := id.2.2 j h1 h3
        simpa [stepOf] using this
    · unfold slStep slNext
      dsimp only
      rw [List.nodup_append, List.nodup_append]
      refine ⟨⟨hnd, ?_, ?_⟩, ?_, ?_⟩
      · unfold slA; split <;> simp
      · intro x h1 y h2 he
        obtain ⟨rfl, _⟩ := slA_mem h2
        have := (hx x h1).2
        rw [he] at this
        simp at this
      · unfold slD; split <;> simp
      · intro x h1 y h2 he
        obtain ⟨rfl, _⟩ := slD_mem h2
        rcases List.mem_append.1 h1 with h1 | h1
        · have := (hx x h1).2
          rw [he] at this
          simp at this
        · obtain ⟨rfl, _⟩ := slA_mem h1
          simp at he
theorem slotsB_good (R C : Int) (s : ByteArray) : (∀ x ∈ slotsB R C s, slOk C s x) ∧ (slotsB R C s).Nodup ∧ (slotsB R C s).length ≤ 72 := by
  unfold slotsB
  split
  · rename_i hg
    exact slots_good hg s.size 0 ([], 0) (by omega) ⟨by simp, by simp, by simp⟩ (by simp) (by simp)
  · simp
theorem slotsB_grid {R C : Int} {s : ByteArray} {x : S125} (h : x ∈ slotsB R C s) : isGridB R C s = true := by
  unfold slotsB at h
  split at h
  · assumption
  · simp at h
theorem impl_SlotsOf_j2 {R C : Int} {s : ByteArray} (a d : Int) (i : Nat) (hi : i < 36) (l : List S125) (n : Int) (hl : l.length ≤ 72) (r : List S125)
    (hr : Ev (fun k => impl_SlotsOf.l0 k ((l ++ slA n i a) ++ slD n i d) n (s.size : Int) ((i + 1 : Nat) : Int) R C s) r) : Ev (fun k => impl_SlotsOf.j2 k l n i a d (s.size : Int) i R C s) r := by
  rw [← ev_succ_iff]
  simp only [impl_SlotsOf.j2, w_succ (i := i) (by omega), Option.bind_some, ev_ite_iff]
  by_cases a2 : a ≥ 2 <;> by_cases d2 : d ≥ 2 <;> simp only [slA, slD, a2, d2, if_true, if_false, List.append_nil] at hr ⊢
  · rw [if_pos (by omega), if_pos (by rw [List.length_append]; simp; omega)]
    exact hr
  · rw [if_pos (by omega)]
    exact hr
  · rw [if_pos (by omega)]
    exact hr
  · exact hr
theorem impl_SlotsOf_l {R C : Int} {s : ByteArray} (hg : isGridB R C s = true) : Ev (fun k => impl_SlotsOf.l0 k [] 0 (s.size : Int) 0 R C s) (slW R C s 0 ([], 0)).1 := by
  have hsz := isGridB_size hg
  refine loop_up (σ := List S125 × Int) (fun k st i => impl_SlotsOf.l0 k st.1 st.2 (s.size : Int) i R C s) s.size slInv (fun i st => (slW R C s i st).1) (fun st hst => ?_) (fun i st hi hst => .inr ⟨slStep R C s st i, slInv_next R C s i st hst, ?_, fun r hr => ?_⟩) 0 ([], 0) (Nat.zero_le _) ⟨by simp, by simp, by simp⟩
  · rw [slW_end, ← ev_succ_iff]
    simp only [impl_SlotsOf.l0, Int.lt_irrefl, if_false]
    exact ev_some _
  · rw [slW_step R C s i hi]
  · obtain ⟨h1, h2, h3⟩ := hst
    have ha := run8_ev hg i hi false
    have hd := run8_ev hg i hi true
    unfold slStep slNext at hr
    generalize run8 R C s i false = a at ha hr
    generalize run8 R C s i true = d at hd hr
    have hn1 : wrap64 (st.2 + 1) = st.2 + 1 := w_in (by omega) (by omega)
    rw [← ev_succ_iff]
    simp only [impl_SlotsOf.l0, run_eq]
    rw [ev_ite_iff, if_pos (by omega), ev_bind_iff ha, ev_bind_iff hd, ev_ite_iff]
    have hj2 : ∀ b : Bool, b = decide (a ≥ 2 ∨ d ≥ 2) → Ev (fun k => impl_SlotsOf.j1 k st.1 st.2 i a d (s.size : Int) i b R C s) r := by
      intro b hb
      rw [← ev_succ_iff]
      simp only [impl_SlotsOf.j1, hn1]
      rw [ev_ite_iff]
      by_cases h : a ≥ 2 ∨ d ≥ 2
      · rw [if_pos (by rw [hb]; simpa using h)]
        simp only [slNum, if_pos h] at hr
        exact impl_SlotsOf_j2 a d i (by omega) st.1 _ (by omega) r hr
      · rw [if_neg (by rw [hb]; simpa using h)]
        simp only [slNum, if_neg h] at hr
        exact impl_SlotsOf_j2 a d i (by omega) st.1 _ (by omega) r hr
    by_cases a2 : a ≥ 2
    · rw [if_pos a2]
      exact hj2 _ (by simp [a2])
    · rw [if_neg a2]
      exact hj2 _ (by simp only [a2, false_or])
theorem impl_SlotsOf_ev (R C : Int) (s : ByteArray) : Ev (fun k => impl_SlotsOf.f k R C s) (slotsB R C s) := by
  unfold slotsB impl_SlotsOf.f
  rw [ev_bind_iff (impl_IsGrid_ev R C s), ev_ite_iff]
  split
  · rename_i hg
    exact impl_SlotsOf_l hg
  · exact ev_some _
def cellsB (C : Int) (x : S125) : List Int := (List.range x.f3.toNat).map (fun (j : Nat) => x.f2 + (j : Int) * stepOf C x)
theorem cellsB_length (C : Int) (x : S125) : (cellsB C x).length = x.f3.toNat := by simp [cellsB]
theorem cellsB_get (C : Int) (x : S125) (j : Nat) (h : j < (cellsB C x).length) : (cellsB C x)[j] = x.f2 + (j : Int) * stepOf C x := by simp [cellsB]
theorem cellsB_ok {C : Int} {s : ByteArray} {x : S125} (h : slOk C s x) : ∀ c ∈ cellsB C x, 0 ≤ c ∧ c < s.size ∧ bt s c = 46 := by
  intro c hc
  obtain ⟨j, hj, rfl⟩ := List.mem_map.1 hc
  have := List.mem_range.1 hj
  exact h.2.2.2.2 j (by omega) (by omega)
theorem stepOf_in {C : Int} (hC : 2 ≤ C ∧ C ≤ 6) (x : S125) : 1 ≤ stepOf C x ∧ stepOf C x ≤ 6 := by unfold stepOf; split <;> omega
/-- The cells of one slot, put behind a list. -/
theorem spec_CellsOf_in {R C : Int} {s : ByteArray} (hC : 2 ≤ C ∧ C ≤ 6) (x : S125) (hx : 0 ≤ x.f2 ∧ x.f2 ≤ 36 ∧ 0 ≤ x.f3 ∧ x.f3 ≤ 6) (l : List S125) (i : Nat) (hi : i < 4611686018427387903) (acc : List Int) (hacc : acc.length ≤ 100000) (r : List Int)
    (hr : Ev (fun k => spec_CellsOf.l0 k (acc ++ cellsB C x) l ((i + 1 : Nat) : Int) R C s x.f0 x.f1 x.f2 x.f3) r) : Ev (fun k => spec_CellsOf.l1 k acc l i 0 R C s x.f0 x.f1 x.f2 x.f3) r := by
  have hl := cellsB_length C x
  have hst := stepOf_in hC x
  refine loop_up (σ := List Int) (fun k a j => spec_CellsOf.l1 k a l i j R C s x.f0 x.f1 x.f2 x.f3) (cellsB C x).length (fun j a => a = acc ++ (cellsB C x).take j) (fun _ _ => r) (fun a ha => ?_) (fun j a hj ha => .inr ⟨a ++ [(cellsB C x)[j]], ?_, rfl, fun r' hr' => ?_⟩) 0 acc (Nat.zero_le _) (by simp)
  · rw [List.take_length] at ha
    subst ha
    rw [← ev_succ_iff]
    simp only [spec_CellsOf.l1, w_succ (i := i) (by omega)]
    rw [ev_ite_iff, if_neg (by omega)]
    exact hr
  · rw [ha, List.take_succ_eq_append_getElem hj, List.append_assoc]
  · have hal : a.length ≤ 200000 := by rw [ha, List.length_append, List.length_take]; omega
    have hm := mul_small (j := (j : Int)) (st := stepOf C x) (by omega) hst
    rw [cellsB_get] at hr'
    rw [← ev_succ_iff]
    simp only [spec_CellsOf.l1, w_succ (i := j) (by omega)]
    rw [ev_ite_iff, if_pos (by omega), ev_ite_iff]
    unfold stepOf at hm hr'
    by_cases hd : x.f1 = true
    · simp only [hd, if_true] at hm hr' ⊢
      have e1 : wrap64 ((j : Int) * C) = j * C := w_in (by omega) (by omega)
      have e2 : wrap64 (x.f2 + (j : Int) * C) = x.f2 + j * C := w_in (by omega) (by omega)
      rw [e1, e2, ev_ite_iff, if_pos (by omega)]
      exact hr'
    · rw [Bool.not_eq_true] at hd
      simp only [hd, Bool.false_eq_true, if_false, Int.mul_one] at hm hr' ⊢
      have e2 : wrap64 (x.f2 + (j : Int)) = x.f2 + j := w_in (by omega) (by omega)
      rw [e2, ev_ite_iff, if_pos (by omega)]
      exact hr'
theorem flat_none {α β : Type} [DecidableEq α] (l : List α) (x : α) (c : List β) (h : x ∉ l) : l.flatMap (fun y => if y = x then c else []) = [] := by
  rw [List.flatMap_eq_nil_iff]
  intro y hy
  rw [if_neg]
  rintro rfl
  exact h hy
theorem flat_once {α β : Type} [DecidableEq α] (x : α) (c : List β) : ∀ l : List α, l.Nodup → x ∈ l → l.flatMap (fun y => if y = x then c else []) = c
  | [], _, h => by cases h
  | y :: l, hn, h => by
    rw [List.nodup_cons] at hn
    rw [List.flatMap_cons]
    by_cases he : y = x
    · subst he
      rw [if_pos rfl, flat_none l y c hn.1, List.append_nil]
    · rw [if_neg he, List.nil_append]
      refine flat_once x c l hn.2 ?_
      rcases List.mem_cons.1 h with h | h
      · exact absurd h.symm he
      · exact h
theorem flat_len {α β : Type} (f : α → List β) (n : Nat) : ∀ l : List α, (∀ x ∈ l, (f x).length ≤ n) → (l.flatMap f).length ≤ n * l.length
  | [], _ => by simp
  | x :: l, h => by
    have h1 := flat_len f n l (fun y hy => h y (List.mem_cons_of_mem _ hy))
    have h2 := h x List.mem_cons_self
    rw [List.flatMap_cons, List.length_append, List.length_cons, Nat.mul_succ]
    omega
theorem flat_len_take {α β : Type} (f : α → List β) (n i : Nat) (l : List α) (h : ∀ x ∈ l, (f x).length ≤ n) : ((l.take i).flatMap f).length ≤ n * l.length := by
  have h1 := flat_len f n (l.take i) (fun x hx => h x (List.mem_of_mem_take hx))
  have h2 : (l.take i).length ≤ l.length := by rw [List.length_take]; omega
  exact Nat.le_trans h1 (Nat.mul_le_mul_left n h2)
theorem spec_CellsOf_ev {R C : Int} {s : ByteArray} (x : S125) (hx : x ∈ slotsB R C s) : Ev (fun k => spec_CellsOf.f k R C s x.f0 x.f1 x.f2 x.f3) (cellsB C x) := by
  obtain ⟨good, hnd, hlen⟩ := slotsB_good R C s
  have hg := slotsB_grid hx
  have hC := (isGridB_parts hg).2.1
  have hsz := isGridB_size hg
  have ok := good x hx
  unfold spec_CellsOf.f
  rw [ev_bind_iff (spec_SlotsOf_ev R C s)]
  generalize slotsB R C s = l at hx hnd hlen
  letI : DecidableEq S125 := fun _ _ => Classical.propDecidable _
  have hfl : ∀ y ∈ l, (if y = x then cellsB C x else []).length ≤ 6 := by
    intro y _
    split
    · rw [cellsB_length]; have := ok.2.2.2.1; omega
    · simp
  refine ev_as (loop_collect (fun k a i => spec_CellsOf.l0 k a l i R C s x.f0 x.f1 x.f2 x.f3) l (fun y => if y = x then cellsB C x else []) 0 (fun a => ?_) (fun i hi a ha r hr => ?_)) (flat_once x _ l hnd hx)
  · rw [← ev_succ_iff]; simp only [spec_CellsOf.l0, Int.lt_irrefl, if_false]; exact ev_some _
  · have hb := flat_len_take _ 6 i l hfl
    rw [← ev_succ_iff]
    simp only [spec_CellsOf.l0, rdt_125 l i hi, w_succ (i := i) (by omega)]
    rw [ev_ite_iff, if_pos (by omega), ev_ite_iff, if_pos (by omega), ev_ite_iff]
    by_cases he : l[i] = x
    · simp only [he, if_true] at hr ⊢
      rw [if_neg (by simp)]
      exact spec_CellsOf_in hC x ⟨ok.1, by have := ok.2.1; omega, by have := ok.2.2.1; omega, ok.2.2.2.1⟩ l i (by omega) a (by omega) r hr
    · simp only [he, if_false, List.append_nil] at hr
      rw [if_pos]
      · exact hr
      · generalize l[i] = y at he
        obtain ⟨y0, y1, y2, y3⟩ := y
        obtain ⟨x0, x1, x2, x3⟩ := x
        simp only [S125.mk.injEq, not_and] at he
        simp only [Bool.or_eq_true, Bool.not_eq_true', beq_eq_false_iff_ne, ne_eq]
        by_cases h0 : y0 = x0
        · by_cases h1 : y1 = x1
          · by_cases h2 : y2 = x2
            · exact .inr (.inr (.inr (he h0 h1 h2)))
            · exact .inr (.inr (.inl h2))
          · exact .inr (.inl h1)
        · exact .inl h0
theorem impl_cells_ev {R C : Int} {s : ByteArray} (x : S125) (hx : x ∈ slotsB R C s) : Ev (fun k => impl_cells.f k R C s x.f0 x.f1 x.f2 x.f3) (cellsB C x) := by
  obtain ⟨good, hnd, hlen⟩ := slotsB_good R C s
  have hg := slotsB_grid hx
  have hC := (isGridB_parts hg).2.1
  have hsz := isGridB_size hg
  have ok := good x hx
  have hl := cellsB_length C x
  have hst := stepOf_in hC x
  have q1 := ok.1
  have q2 := ok.2.1
  have q3 := ok.2.2.1
  have q4 := ok.2.2.2.1
  have key : Ev (fun k => impl_cells.j0 k (stepOf C x) x.f0 x.f1 x.f2 x.f3) (cellsB C x) := by
    rw [← ev_succ_iff]
    simp only [impl_cells.j0]
    refine loop_up (σ := List Int) (fun k a j => impl_cells.l0 k (stepOf C x) a x.f3 j x.f0 x.f1 x.f2 x.f3) (cellsB C x).length (fun j a => a = (cellsB C x).take j) (fun _ _ => cellsB C x) (fun a ha => ?_) (fun j a hj ha => .inr ⟨a ++ [(cellsB C x)[j]], ?_, rfl, fun r' hr' => ?_⟩) 0 [] (Nat.zero_le _) (by simp)
    · rw [List.take_length] at ha
      subst ha
      rw [← ev_succ_iff]
      simp only [impl_cells.l0]
      rw [ev_ite_iff, if_neg (by omega)]
      exact ev_some _
    · rw [ha, List.take_succ_eq_append_getElem hj]
    · have hal : a.length ≤ 6 := by rw [ha, List.length_take]; omega
      have hm := mul_small (j := (j : Int)) (st := stepOf C x) (by omega) hst
      rw [cellsB_get] at hr'
      have e1 : wrap64 ((j : Int) * stepOf C x) = j * stepOf C x := w_in (by omega) (by omega)
      have e2 : wrap64 (x.f2 + (j : Int) * stepOf C x) = x.f2 + j * stepOf C x := w_in (by omega) (by omega)
      rw [← ev_succ_iff]
      simp only [impl_cells.l0, w_succ (i := j) (by omega), e1, e2]
      rw [ev_ite_iff, if_pos (by omega), ev_ite_iff, if_pos (by omega)]
      exact hr'
  unfold impl_cells.f
  unfold stepOf at key
  rw [ev_ite_iff]
  by_cases hd : x.f1 = true
  · rw [if_pos hd] at key ⊢
    exact key
  · rw [if_neg hd] at key ⊢
    exact key
theorem impl_layout_ev (R C : Int) (s : ByteArray) : Ev (fun k => impl_layout.f k R C s) ((slotsB R C s).map (cellsB C)) := by
  obtain ⟨good, hnd, hlen⟩ := slotsB_good R C s
  unfold impl_layout.f
  rw [ev_bind_iff (impl_SlotsOf_ev R C s)]
  refine ev_as (loop_collect (fun k a i => impl_layout.l0 k a (slotsB R C s) ((slotsB R C s).length : Int) i R C s) (slotsB R C s) (fun x => [cellsB C x]) 0 (fun a => ?_) (fun i hi a ha r hr => ?_)) List.map_eq_flatMap.symm
  · rw [← ev_succ_iff]; simp only [impl_layout.l0, Int.lt_irrefl, if_false]; exact ev_some _
  · have hb := flat_len_take (fun x : S125 => [cellsB C x]) 1 i (slotsB R C s) (fun _ _ => by simp)
    rw [← ev_succ_iff]
    simp only [impl_layout.l0, rdt_125 _ i hi, w_succ (i := i) (by omega)]
    rw [ev_ite_iff, if_pos (by omega), ev_ite_iff, if_pos (by omega), ev_ite_iff, if_pos (by omega), ev_bind_iff (impl_cells_ev _ (List.getElem_mem hi)), ev_ite_iff, if_pos (by omega)]
    exact hr
def fillOk (c f : Int) : Bool := decide ((c = 35 ↔ f = 35) ∧ (f = 35 ∨ f = 63 ∨ (97 ≤ f ∧ f ≤ 122)))
def isFillB (R C : Int) (s f : ByteArray) : Bool := isGridB R C s && (decide (f.size = s.size) && (List.range f.size).all (fun i => fillOk (bt s i) (bt f i)))
theorem isFillB_parts {R C : Int} {s f : ByteArray} (h : isFillB R C s f = true) : isGridB R C s = true ∧ f.size = s.size ∧ ∀ i : Nat, i < f.size → fillOk (bt s i) (bt f i) = true := by
  simpa [isFillB] using h
theorem grid_bt {R C : Int} {s : ByteArray} (hg : isGridB R C s = true) (i : Nat) (hi : i < s.size) : bt s (i : Int) = 35 ∨ bt s (i : Int) = 46 := by
  rw [bt_nat s i hi]
  exact (isGridB_parts hg).2.2.2 _ (List.getElem_mem _)
theorem spec_IsFill_step {R C : Int} {s f : ByteArray} (k i : Nat) (hi : i < f.size) (hs : i < s.size) (h36 : i < 1000) (hc : bt s (i : Int) = 35 ∨ bt s (i : Int) = 46) :
    spec_IsFill.l0 (k + 1) f i R C s = if fillOk (bt s i) (bt f i) = true then spec_IsFill.l0 k f ((i + 1 : Nat) : Int) R C s else some false := by
  have h1 : (i : Int) < (f.size : Int) := by omega
  have h2 : (0 : Int) ≤ (i : Int) := by omega
  have h3 : (i : Int) < (s.size : Int) := by omega
  simp only [spec_IsFill.l0, w_succ (i := i) (by omega), h1, h2, h3, if_true]
  generalize spec_IsFill.l0 k f ((i + 1 : Nat) : Int) R C s = Y
  generalize bt s (i : Int) = c at hc ⊢
  generalize bt f (i : Int) = x
  simp only [fillOk, decide_eq_true_eq]
  repeat' split
  all_goals first | rfl | (exfalso; omega)
theorem spec_IsFill_l {R C : Int} {s f : ByteArray} (hg : isGridB R C s = true) (hf : f.size = s.size) : Ev (fun k => spec_IsFill.l0 k f 0 R C s) ((List.range f.size).all (fun i => fillOk (bt s i) (bt f i))) := by
  have hsz := isGridB_size hg
  refine loop_all (fun k i => spec_IsFill.l0 k f i R C s) (List.range f.size) (fun i => fillOk (bt s i) (bt f i)) ?_ (fun i hi hp r hr => ?_) (fun i hi hp => ?_)
  · rw [← ev_succ_iff]; simp [spec_IsFill.l0, ev_some]
  · rw [List.length_range] at hi
    rw [List.getElem_range] at hp
    rw [← ev_succ_iff]
    simp only [spec_IsFill_step _ i hi (by omega) (by omega) (grid_bt hg i (by omega)), hp, if_true]
    exact hr
  · rw [List.length_range] at hi
    rw [List.getElem_range] at hp
    rw [← ev_succ_iff]
    simp only [spec_IsFill_step _ i hi (by omega) (by omega) (grid_bt hg i (by omega)), hp, Bool.false_eq_true, if_false]
    exact ev_some _
theorem spec_IsFill_ev (R C : Int) (s f : ByteArray) : Ev (fun k => spec_IsFill.f k R C s f) (isFillB R C s f) := by
  unfold spec_IsFill.f
  rw [ev_bind_iff (spec_IsGrid_ev R C s), ev_ite_iff]
  by_cases hg : isGridB R C s = true
  · rw [if_pos hg, ← ev_succ_iff]
    simp only [spec_IsFill.j0, ev_ite_iff, bne_iff_ne, ne_eq]
    by_cases hf : f.size = s.size
    · rw [if_neg (by omega)]
      exact ev_as (spec_IsFill_l hg hf) (by simp [isFillB, hg, hf])
    · rw [if_pos (by omega)]
      exact ev_as (ev_some _) (by simp [isFillB, hf])
  · rw [if_neg hg, ← ev_succ_iff]
    simp only [spec_IsFill.j0, if_true]
    exact ev_as (ev_some _) (by simp [isFillB, hg])
theorem impl_IsFill_step {R C : Int} {s f : ByteArray} (k i : Nat) (hi : i < f.size) (hs : i < s.size) (h36 : i < 1000) :
    impl_IsFill.l0 (k + 1) f (f.size : Int) i R C s = if fillOk (bt s i) (bt f i) = true then impl_IsFill.l0 k f (f.size : Int) ((i + 1 : Nat) : Int) R C s else some false := by
  have h1 : (i : Int) < (f.size : Int) := by omega
  have h2 : (0 : Int) ≤ (i : Int) := by omega
  have h3 : (i : Int) < (s.size : Int) := by omega
  simp only [impl_IsFill.l0, w_succ (i := i) (by omega), h1, h2, h3, if_true, isLetter_eq, Option.bind_some, decide_eq_true_eq]
  generalize impl_IsFill.l0 k f (f.size : Int) ((i + 1 : Nat) : Int) R C s = Y
  generalize bt s (i : Int) = c
  generalize bt f (i : Int) = x
  by_cases he : (c = 35 ↔ x = 35)
  · have e : ((c == 35) != (x == 35)) = false := by rw [bne_eq_false_iff_eq, Bool.eq_iff_iff, beq_iff_eq, beq_iff_eq]; exact he
    rw [e]
    simp only [fillOk, decide_eq_true_eq, Bool.false_eq_true, if_false]
    repeat' split
    all_goals first | rfl | (exfalso; omega)
  · have e : ((c == 35) != (x == 35)) = true := by
      rw [bne_iff_ne]
      intro q
      rw [Bool.eq_iff_iff, beq_iff_eq, beq_iff_eq] at q
      exact he q
    rw [e, if_pos rfl, if_neg]
    simp only [fillOk, decide_eq_true_eq]
    exact fun q => he q.1
theorem impl_IsFill_l {R C : Int} {s f : ByteArray} (hg : isGridB R C s = true) (hf : f.size = s.size) : Ev (fun k => impl_IsFill.l0 k f (f.size : Int) 0 R C s) ((List.range f.size).all (fun i => fillOk (bt s i) (bt f i))) := by
  have hsz := isGridB_size hg
  refine loop_all (fun k i => impl_IsFill.l0 k f (f.size : Int) i R C s) (List.range f.size) (fun i => fillOk (bt s i) (bt f i)) ?_ (fun i hi hp r hr => ?_) (fun i hi hp => ?_)
  · rw [← ev_succ_iff]; simp [impl_IsFill.l0, ev_some]
  · rw [List.length_range] at hi
    rw [List.getElem_range] at hp
    rw [← ev_succ_iff]
    simp only [impl_IsFill_step (R := R) (C := C) (s := s) (f := f) _ i hi (by omega) (by omega), hp, if_true]
    exact hr
  · rw [List.length_range] at hi
    rw [List.getElem_range] at hp
    rw [← ev_succ_iff]
    simp only [impl_IsFill_step (R := R) (C := C) (s := s) (f := f) _ i hi (by omega) (by omega), hp, Bool.false_eq_true, if_false]
    exact ev_some _
theorem impl_IsFill_ev (R C : Int) (s f : ByteArray) : Ev (fun k => impl_IsFill.f k R C s f) (isFillB R C s f) := by
  unfold impl_IsFill.f
  rw [ev_bind_iff (impl_IsGrid_ev R C s), ev_ite_iff]
  by_cases hg : isGridB R C s = true
  · rw [if_pos hg, ← ev_succ_iff]
    simp only [impl_IsFill.j0, ev_ite_iff, bne_iff_ne, ne_eq]
    by_cases hf : f.size = s.size
    · rw [if_neg (by omega)]
      exact ev_as (impl_IsFill_l hg hf) (by simp [isFillB, hg, hf])
    · rw [if_pos (by omega)]
      exact ev_as (ev_some _) (by simp [isFillB, hf])
  · rw [if_neg hg, ← ev_succ_iff]
    simp only [impl_IsFill.j0, if_true]
    exact ev_as (ev_some _) (by simp [isFillB, hg])
def patB (f : ByteArray) (l : List Int) : ByteArray := strOfNums (l.map (bt f))
theorem strOfNums_append (a b : List Int) : strOfNums (a ++ b) = strOfNums a ++ strOfNums b := by
  refine ByteArray.ext (Array.toList_inj.1 ?_)
  rw [ByteArray.data_append, Array.toList_append, strOfNums_data, strOfNums_data, strOfNums_data, List.map_append]
theorem extract_one (f : ByteArray) (hf : f.size ≤ 1000000) (c : Int) (h0 : 0 ≤ c) (h1 : c < f.size) : f.extract c.toNat (wrap64 (c + 1)).toNat = strOfNums [bt f c] := by
  have e : wrap64 (c + 1) = c + 1 := by unfold wrap64; omega
  have hc : c.toNat < f.size := by omega
  have hd : c.toNat < f.data.toList.length := by rw [Array.length_toList]; exact hc
  refine ByteArray.ext (Array.toList_inj.1 ?_)
  rw [e, show (c + 1).toNat = c.toNat + 1 by omega, strOfNums_data, ByteArray.data_extract, Array.toList_extract]
  have hb : bt f c = ((f.data.toList[c.toNat]).toNat : Int) := by
    unfold bt
    rw [dif_pos hc]
    rfl
  rw [List.extract_eq_drop_take', List.drop_take, List.drop_eq_getElem_cons hd]
  simp [hb]
theorem patB_size (f : ByteArray) (l : List Int) : (patB f l).size = l.length := by rw [patB, strOfNums_size, List.length_map]
theorem patB_snoc (f : ByteArray) (l : List Int) (c : Int) : patB f (l ++ [c]) = patB f l ++ strOfNums [bt f c] := by
  rw [patB, List.map_append, strOfNums_append]; rfl
theorem spec_SlotPattern_l (f : ByteArray) (l : List Int) (hl : l.length ≤ 100000) (hf : f.size ≤ 1000000) (hc : ∀ c ∈ l, 0 ≤ c ∧ c < f.size) : Ev (fun k => spec_SlotPattern.l0 k f (⟨#[]⟩ : ByteArray) l 0) (patB f l) := by
  refine loop_up (σ := ByteArray) (fun k a i => spec_SlotPattern.l0 k f a l i) l.length (fun i a => a = patB f (l.take i)) (fun _ _ => patB f l) (fun a ha => ?_) (fun i a hi ha => .inr ⟨a ++ strOfNums [bt f l[i]], ?_, rfl, fun r hr => ?_⟩) 0 _ (Nat.zero_le _) rfl
  · rw [List.take_length] at ha
    rw [← ev_succ_iff]
    simp only [spec_SlotPattern.l0, Int.lt_irrefl, if_false, ha]
    exact ev_some _
  · rw [ha, List.take_succ_eq_append_getElem hi, patB_snoc]
  · have hcc := hc _ (List.getElem_mem hi)
    have hx := extract_one f hf l[i] hcc.1 hcc.2
    have ew : wrap64 (l[i] + 1) = l[i] + 1 := by unfold wrap64; omega
    have hz : (strOfNums [bt f l[i]]).size = 1 := by rw [strOfNums_size]; rfl
    have has : a.size ≤ 100000 := by rw [ha, patB_size, List.length_take]; omega
    rw [← ev_succ_iff]
    simp only [spec_SlotPattern.l0, rd_nat l i hi, w_succ (i := i) (by omega), hx]
    rw [ev_ite_iff, if_pos (by omega), ev_ite_iff, if_pos (by omega), ev_ite_iff, if_pos hcc.1, ev_ite_iff, if_pos (by omega), ev_ite_iff, if_pos (by omega), ev_ite_iff, if_pos (by omega)]
    exact hr
theorem spec_SlotPattern_ev {R C : Int} {s f : ByteArray} (hf : isFillB R C s f = true) (i : Nat) (hi : i < (slotsB R C s).length) : Ev (fun k => spec_SlotPattern.f k R C s f i) (patB f (cellsB C (slotsB R C s)[i])) := by
  obtain ⟨good, hnd, hlen⟩ := slotsB_good R C s
  obtain ⟨hg, hfs, _⟩ := isFillB_parts hf
  have hsz := isGridB_size hg
  have hm := List.getElem_mem hi
  have ok := good _ hm
  have e : wrap64 (((slotsB R C s).length : Int) - 1) = (slotsB R C s).length - 1 := w_in (by omega) (by omega)
  unfold spec_SlotPattern.f
  rw [ev_bind_iff (spec_SlotsOf_ev R C s), ev_bind_iff (spec_IsFill_ev R C s f), ev_ite_iff, if_pos hf]
  simp only [l1In_eq, Option.bind_some, e]
  rw [← ev_succ_iff]
  simp only [spec_SlotPattern.j0, rdt_125 _ i hi]
  rw [ev_ite_iff, if_neg (by simp; omega), ev_ite_iff, if_pos (by omega), ev_ite_iff, if_pos (by omega), ev_bind_iff (spec_CellsOf_ev _ hm)]
  exact spec_SlotPattern_l f _ (by rw [cellsB_length]; have := ok.2.2.2.1; omega) (by omega) (fun c hc => by have := cellsB_ok ok c hc; omega)
theorem impl_readCells_ev (f : ByteArray) (l : List Int) (hl : l.length ≤ 100000) (hc : ∀ c ∈ l, 0 ≤ c ∧ c < f.size) : Ev (fun k => impl_readCells.f k f l) (patB f l) := by
  unfold impl_readCells.f
  refine loop_up (σ := List Int) (fun k a i => impl_readCells.l0 k f a l (l.length : Int) i) l.length (fun i a => a = (l.take i).map (bt f)) (fun _ _ => patB f l) (fun a ha => ?_) (fun i a hi ha => .inr ⟨a ++ [bt f l[i]], ?_, rfl, fun r hr => ?_⟩) 0 _ (Nat.zero_le _) rfl
  · rw [List.take_length] at ha
    rw [← ev_succ_iff]
    simp only [impl_readCells.l0, Int.lt_irrefl, if_false, ha]
    exact ev_some _
  · rw [ha, List.take_succ_eq_append_getElem hi, List.map_append]; rfl
  · have hcc := hc _ (List.getElem_mem hi)
    have has : a.length ≤ 100000 := by rw [ha, List.length_map, List.length_take]; omega
    rw [← ev_succ_iff]
    simp only [impl_readCells.l0, rd_nat l i hi, w_succ (i := i) (by omega)]
    rw [ev_ite_iff, if_pos (by omega), ev_ite_iff, if_pos (by omega), ev_ite_iff, if_pos (by omega), ev_ite_iff, if_pos hcc.1, ev_ite_iff, if_pos hcc.2, ev_ite_iff, if_pos (by omega)]
    exact hr
noncomputable def patsB (R C : Int) (s f : ByteArray) : List ByteArray := if isFillB R C s f = true then (slotsB R C s).map (fun x => patB f (cellsB C x)) else []
theorem patsB_len (R C : Int) (s f : ByteArray) : (patsB R C s f).length ≤ 72 := by
  have := (slotsB_good R C s).2.2
  unfold patsB
  split <;> simp; omega
theorem impl_patterns_ev (R C : Int) (s f : ByteArray) : Ev (fun k => impl_patterns.f k R C s f) (patsB R C s f) := by
  unfold impl_patterns.f patsB
  rw [ev_bind_iff (impl_IsFill_ev R C s f), ev_ite_iff]
  split
  · rename_i hf
    obtain ⟨good, hnd, hlen⟩ := slotsB_good R C s
    obtain ⟨hg, hfs, _⟩ := isFillB_parts hf
    rw [ev_bind_iff (impl_layout_ev R C s)]
    have hll : ((slotsB R C s).map (cellsB C)).length = (slotsB R C s).length := List.length_map _
    refine ev_as (loop_collect (fun k a i => impl_patterns.l0 k f a ((slotsB R C s).map (cellsB C)) (((slotsB R C s).map (cellsB C)).length : Int) i) ((slotsB R C s).map (cellsB C)) (fun l => [patB f l]) 0 (fun a => ?_) (fun i hi a ha r hr => ?_)) (by rw [← List.map_eq_flatMap, List.map_map]; rfl)
    · rw [← ev_succ_iff]; simp only [impl_patterns.l0, Int.lt_irrefl, if_false]; exact ev_some _
    · have hb := flat_len_take (fun l : List Int => [patB f l]) 1 i ((slotsB R C s).map (cellsB C)) (fun _ _ => by simp)
      have hi' : i < (slotsB R C s).length := by omega
      have ok := good _ (List.getElem_mem hi')
      have hL : ((slotsB R C s).map (cellsB C))[i] = cellsB C (slotsB R C s)[i] := List.getElem_map _
      have hr1 := impl_readCells_ev f ((slotsB R C s).map (cellsB C))[i] (by rw [hL, cellsB_length]; have := ok.2.2.2.1; omega) (fun c hc => by rw [hL] at hc; have := cellsB_ok ok c hc; omega)
      rw [← ev_succ_iff]
      simp only [impl_patterns.l0, rdl_3 _ i hi, w_succ (i := i) (by omega)]
      rw [ev_ite_iff, if_pos (by omega), ev_ite_iff, if_pos (by omega), ev_ite_iff, if_pos (by omega), ev_bind_iff hr1, ev_ite_iff, if_pos (by omega)]
      exact hr
  · exact ev_some _
theorem szGrid_ev (R C : Int) (s : ByteArray) (a : Int) : ∃ r, laws_szGrid.f R C s a = some r := by
  unfold laws_szGrid.f
  split
  · exact ⟨_, rfl⟩
  · exact ⟨_, rfl⟩
noncomputable def patsC (R C : Int) (s f : ByteArray) : List ByteArray := (slotsB R C s).map (fun x => patB f (cellsB C x))
def rightB (q : List Int) (salt : Int) (p : List ByteArray) : List Int := (List.range p.length).flatMap (fun (i : Nat) => if checksB q salt i (rdOf ByteArray.empty p i) = true then [(i : Int)] else [])
theorem rightB_length (q : List Int) (salt : Int) (p : List ByteArray) : (rightB q salt p).length ≤ p.length := by
  have := flat_len (fun (i : Nat) => if checksB q salt i (rdOf ByteArray.empty p i) = true then [(i : Int)] else []) 1 (List.range p.length) (fun x _ => by split <;> simp)
  rw [List.length_range] at this
  unfold rightB
  omega
theorem spec_RightSlots_ev (R C : Int) (s f : ByteArray) (q : List Int) (hq : q.length < 4611686018427387904) (salt : Int) : Ev (fun k => spec_RightSlots.f k R C s f q salt) (if isFillB R C s f = true then rightB q salt (patsC R C s f) else []) := by
  obtain ⟨good, hnd, hlen⟩ := slotsB_good R C s
  unfold spec_RightSlots.f
  rw [ev_bind_iff (spec_SlotsOf_ev R C s)]
  split
  · rename_i hfill
    have hpl : (patsC R C s f).length = (slotsB R C s).length := List.length_map _
    have hle : (List.range (patsC R C s f).length).length = (slotsB R C s).length := by rw [List.length_range, hpl]
    refine loop_collect (fun k a i => spec_RightSlots.l0 k f q salt a (slotsB R C s) i R C s) (List.range (patsC R C s f).length) (fun (i : Nat) => if checksB q salt i (rdOf ByteArray.empty (patsC R C s f) i) = true then [(i : Int)] else []) 0 (fun a => ?_) (fun i hi a ha r hr => ?_)
    · rw [hle, ← ev_succ_iff]
      simp only [spec_RightSlots.l0, Int.lt_irrefl, if_false]
      rw [← ev_succ_iff]
      simp only [spec_RightSlots.j1, Bool.false_eq_true, if_false]
      exact ev_some _
    · have hb := flat_len_take (fun (i : Nat) => if checksB q salt i (rdOf ByteArray.empty (patsC R C s f) i) = true then [(i : Int)] else []) 1 i (List.range (patsC R C s f).length) (fun x _ => by split <;> simp)
      have hi' : i < (slotsB R C s).length := by omega
      have hp : rdOf ByteArray.empty (patsC R C s f) (i : Int) = patB f (cellsB C (slotsB R C s)[i]) := by
        rw [rdOf_nat ByteArray.empty (patsC R C s f) i (by omega)]
        exact List.getElem_map _
      rw [List.getElem_range, hp] at hr
      rw [← ev_succ_iff]
      simp only [spec_RightSlots.l0]
      rw [ev_ite_iff, if_pos (by omega), ev_bind_iff (spec_IsFill_ev R C s f), hfill, ← ev_succ_iff]
      simp only [spec_RightSlots.j1, if_true, w_succ (i := i) (by omega)]
      rw [ev_bind_iff (spec_SlotPattern_ev hfill i hi'), ev_bind_iff (spec_ChecksAnswer_ev q hq _ _ _), ev_ite_iff]
      split
      · rename_i hc
        rw [if_pos hc] at hr
        rw [ev_ite_iff, if_pos (by omega)]
        exact hr
      · rename_i hc
        rw [if_neg hc, List.append_nil] at hr
        exact hr
  · rename_i hf
    rw [Bool.not_eq_true] at hf
    rw [← ev_succ_iff]
    simp only [spec_RightSlots.l0]
    have : Ev (fun k => spec_RightSlots.j1 k f q salt [] (slotsB R C s) 0 false R C s) [] := by
      rw [← ev_succ_iff]
      simp only [spec_RightSlots.j1, Bool.false_eq_true, if_false]
      exact ev_some _
    rw [ev_ite_iff]
    split
    · rw [ev_bind_iff (spec_IsFill_ev R C s f), hf]
      exact this
    · exact this
theorem impl_RightSlots_ev (R C : Int) (s f : ByteArray) (q : List Int) (hq : q.length < 4611686018427387904) (salt : Int) : Ev (fun k => impl_RightSlots.f k R C s f q salt) (if isFillB R C s f = true then rightB q salt (patsC R C s f) else []) := by
  unfold impl_RightSlots.f
  have hpl := patsB_len R C s f
  have hpe : (if isFillB R C s f = true then rightB q salt (patsC R C s f) else []) = rightB q salt (patsB R C s f) := by
    unfold patsB patsC
    split
    · rfl
    · simp [rightB]
  rw [ev_bind_iff (impl_patterns_ev R C s f), hpe]
  generalize patsB R C s f = p at hpl
  refine loop_collect (fun k a i => impl_RightSlots.l0 k q salt a p (p.length : Int) i) (List.range p.length) (fun (i : Nat) => if checksB q salt i (rdOf ByteArray.empty p i) = true then [(i : Int)] else []) 0 (fun a => ?_) (fun i hi a ha r hr => ?_)
  · rw [List.length_range, ← ev_succ_iff]
    simp only [impl_RightSlots.l0, Int.lt_irrefl, if_false]
    exact ev_some _
  · have hb := flat_len_take (fun (i : Nat) => if checksB q salt i (rdOf ByteArray.empty p i) = true then [(i : Int)] else []) 1 i (List.range p.length) (fun x _ => by split <;> simp)
    rw [List.length_range] at hi hb
    rw [List.getElem_range] at hr
    rw [← ev_succ_iff]
    simp only [impl_RightSlots.l0, w_succ (i := i) (by omega)]
    rw [ev_ite_iff, if_pos (by omega), ev_ite_iff, if_pos (by omega), ev_ite_iff, if_pos (by omega), ev_bind_iff (impl_ChecksAnswer_ev q hq _ _ _), ev_ite_iff]
    split
    · rename_i hc
      rw [if_pos hc] at hr
      rw [ev_ite_iff, if_pos (by omega)]
      exact hr
    · rename_i hc
      rw [if_neg hc, List.append_nil] at hr
      exact hr
theorem FnExactRightSlots : laws_FnExactRightSlots.Pure := by
  intro g f q salt hg hf ⟨h1, h2, h3⟩ hs
  refine Ev.rounds ?_
  unfold laws_FnExactRightSlots.f
  rw [ev_ite_iff]
  split
  · exact ev_some _
  rw [ev_ite_iff]
  split
  · exact ev_some _
  obtain ⟨z, hz⟩ := szGrid_ev g.f0 g.f1 g.f2 1048576
  simp only [hz, laws_toGrid.f, Option.bind_some]
  rw [ev_ite_iff]
  split
  · exact ev_some _
  have hq : q.length < 4611686018427387904 := by omega
  have t := toIntS_ev q (by omega)
  have s := spec_RightSlots_ev g.f0 g.f1 g.f2 f q hq salt
  have i := impl_RightSlots_ev g.f0 g.f1 g.f2 f q hq salt
  have hl : (if isFillB g.f0 g.f1 g.f2 f = true then rightB q salt (patsC g.f0 g.f1 g.f2 f) else []).length ≤ 72 := by
    split
    · have := rightB_length q salt (patsC g.f0 g.f1 g.f2 f)
      have := (slotsB_good g.f0 g.f1 g.f2).2.2
      rw [patsC, List.length_map] at *
      omega
    · simp
  generalize (if isFillB g.f0 g.f1 g.f2 f = true then rightB q salt (patsC g.f0 g.f1 g.f2 f) else []) = l at s i hl
  have e1 := eqIntS_ev l (by omega)
  have e2 := eqIntS_ev q hq
  have m1 := markIntS_ev l 1 (by omega) (by omega)
  have m2 := markIntS_ev q 1 (by omega) (by omega)
  have d1 := heldIntS_ev l 1 (by omega) (by omega)
  have hj : Ev (fun k => laws_FnExactRightSlots.j0 k f q salt l l false g.f0 g.f1 g.f2) true := by
    rw [← ev_succ_iff]
    simp only [laws_FnExactRightSlots.j0, laws_toGrid.f, Option.bind_some, Bool.false_eq_true, if_false]
    simp only [ev_bind_iff t, ev_bind_iff i, ev_bind_iff e1, ev_bind_iff m1, ev_bind_iff d1, if_true, ev_ite_iff]
    rw [if_neg (by omega), if_neg (by omega)]
    exact ev_some _
  simp only [ev_bind_iff t, ev_bind_iff s, ev_bind_iff i, ev_bind_iff e1, ev_bind_iff e2, ev_bind_iff m2, if_true, ev_ite_iff]
  rw [if_neg (by omega)]
  simpa using hj
end Go.Proofs.Ytddacmgigolcbaa.Pure
