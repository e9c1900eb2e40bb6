/- The program's ClueText returns what the reference's returns, for every argument; no further condition. -/
import Derived.Test.YtddacmgigolcbaaDoorZClueTextQ
import Derived.Test.YtddacmgigolcbaaDoorZClueTextEv
namespace Go.Proofs.YtddacmgigolcbaaDoor.Pure
open Go.RowKit Go.Proofs.YtddacmgigolcbaaDoor.PFnExactClueText Go.Proofs.YtddacmgigolcbaaDoorW.PrintWords Go.Proofs.YtddacmgigolcbaaDoorW.PrintLast Go.Proofs.YtddacmgigolcbaaDoorW.PrintMore Go.Proofs.YtddacmgigolcbaaDoor.Sem
set_option linter.unusedVariables false
set_option linter.unusedSimpArgs false
theorem rdt_50 (xs : List S50) (i : Nat) (h : i < xs.length) : rd_T50 xs (i : Int) = xs[i] := by
  simp [rd_T50, List.getD_eq_getElem?_getD, List.getElem?_eq_getElem h]
theorem rdts_50 (xs : List S50) (i : Nat) (x : S50) (h : i < xs.length) : rd_T50 (xs.set i x) (i : Int) = x := by
  rw [rdt_50 _ i (by rw [List.length_set]; exact h), List.getElem_set_self]
theorem rdt_45 (xs : List S45) (i : Nat) (h : i < xs.length) : rd_T45 xs (i : Int) = xs[i] := by
  simp [rd_T45, List.getD_eq_getElem?_getD, List.getElem?_eq_getElem h]
theorem rdts_45 (xs : List S45) (i : Nat) (x : S45) (h : i < xs.length) : rd_T45 (xs.set i x) (i : Int) = x := by
  rw [rdt_45 _ i (by rw [List.length_set]; exact h), List.getElem_set_self]
theorem l1In_eq (a b c : Int) : spec_l1In.f a b c = some (decide (b ≤ a ∧ a ≤ c)) := by
  unfold spec_l1In.f
  by_cases h : b ≤ a <;> simp [h]
theorem InRange_eq (a b c : Int) : impl_InRange.f a b c = some (decide (b ≤ a ∧ a ≤ c)) := by
  unfold impl_InRange.f
  by_cases h : b ≤ a <;> simp [h]
theorem at_eq (a b : Int) : impl_at.f a b = some (decide (0 ≤ a ∧ a < b)) := by
  unfold impl_at.f
  by_cases h : 0 ≤ a <;> simp [h]
theorem isLetter_eq (a : Int) : impl_isLetter.f a = some (decide (97 ≤ a ∧ a ≤ 122)) := by
  unfold impl_isLetter.f
  by_cases h : 97 ≤ a <;> simp [h]
def letterB (c : Int) : Bool := decide (97 ≤ c ∧ c ≤ 122)
def isWordB (s : ByteArray) : Bool := decide (1 ≤ s.size ∧ s.size ≤ 8) && (bytesOf s).all letterB
theorem isWordB_size {s : ByteArray} (h : isWordB s = true) : 1 ≤ s.size ∧ s.size ≤ 8 := by
  simp [isWordB] at h
  exact h.1
theorem isWordB_letter {s : ByteArray} (h : isWordB s = true) : ∀ c ∈ bytesOf s, 97 ≤ c ∧ c ≤ 122 := by
  simp [isWordB, letterB] at h
  exact h.2
theorem spec_IsWord_ev (s : ByteArray) : Ev (fun k => spec_IsWord.f k s) (isWordB s) := by
  simp only [spec_IsWord.f, l1In_eq, Option.bind_some, ev_ite_iff, decide_eq_true_eq, isWordB]
  by_cases h : (1 : Int) ≤ s.size ∧ (s.size : Int) ≤ 8
  · rw [if_pos h]
    have h' : 1 ≤ s.size ∧ s.size ≤ 8 := by omega
    simp only [h', decide_true, Bool.true_and, and_self]
    refine loop_all (fun k i => spec_IsWord.l0 k s i) (bytesOf s) letterB ?_ (fun i hi hp r hr => ?_) (fun i hi hp => ?_)
    · rw [← ev_succ_iff]; simp [spec_IsWord.l0, bytesOf_length, ev_some]
    · have hi' : i < s.size := by rw [bytesOf_length] at hi; exact hi
      rw [← ev_succ_iff]
      simp [letterB] at hp
      simp only [spec_IsWord.l0, bt_nat s i hi', w_succ (i := i) (by omega)]
      rw [ev_ite_iff, if_pos (by omega), ev_ite_iff, if_pos (by omega), ev_ite_iff, if_neg (by omega), ev_ite_iff, if_neg (by omega)]
      exact hr
    · have hi' : i < s.size := by rw [bytesOf_length] at hi; exact hi
      rw [← ev_succ_iff]
      simp [letterB] at hp
      simp only [spec_IsWord.l0, bt_nat s i hi', w_succ (i := i) (by omega)]
      rw [ev_ite_iff, if_pos (by omega), ev_ite_iff, if_pos (by omega), ev_ite_iff]
      by_cases h1 : (bytesOf s)[i] < 97
      · rw [if_pos h1]; exact ev_some _
      · rw [if_neg h1, ev_ite_iff, if_pos (by omega)]; exact ev_some _
  · rw [if_neg h]
    have h' : ¬ (1 ≤ s.size ∧ s.size ≤ 8) := by omega
    simp [h', ev_some]
theorem impl_IsWord_ev (s : ByteArray) : Ev (fun k => impl_IsWord.f k s) (isWordB s) := by
  simp only [impl_IsWord.f, InRange_eq, Option.bind_some, ev_ite_iff, decide_eq_true_eq, isWordB]
  by_cases h : (1 : Int) ≤ s.size ∧ (s.size : Int) ≤ 8
  · rw [if_pos h]
    have h' : 1 ≤ s.size ∧ s.size ≤ 8 := by omega
    simp only [h', decide_true, Bool.true_and, and_self]
    refine loop_all (fun k i => impl_IsWord.l0 k s (s.size : Int) i) (bytesOf s) letterB ?_ (fun i hi hp r hr => ?_) (fun i hi hp => ?_)
    · rw [← ev_succ_iff]; simp [impl_IsWord.l0, bytesOf_length, ev_some]
    · have hi' : i < s.size := by rw [bytesOf_length] at hi; exact hi
      rw [← ev_succ_iff]
      simp [letterB] at hp
      simp only [impl_IsWord.l0, bt_nat s i hi', w_succ (i := i) (by omega), isLetter_eq, Option.bind_some]
      rw [ev_ite_iff, if_pos (by omega), ev_ite_iff, if_pos (by omega), ev_ite_iff, if_pos (by omega), ev_ite_iff, if_pos (by simpa using hp)]
      exact hr
    · have hi' : i < s.size := by rw [bytesOf_length] at hi; exact hi
      rw [← ev_succ_iff]
      simp only [letterB] at hp
      simp only [impl_IsWord.l0, bt_nat s i hi', w_succ (i := i) (by omega), isLetter_eq, Option.bind_some]
      rw [ev_ite_iff, if_pos (by omega), ev_ite_iff, if_pos (by omega), ev_ite_iff, if_pos (by omega), ev_ite_iff, if_neg (by rw [hp]; decide)]
      exact ev_some _
  · rw [if_neg h]
    have h' : ¬ (1 ≤ s.size ∧ s.size ≤ 8) := by omega
    simp [h', ev_some]
theorem szStepS_ev (l : List S50) (hl : l.length < 4611686018427387904) (hs : ∀ x ∈ l, x.f1.size ≤ 140737488351232) (a : Int) (ha : 0 ≤ a) (ha' : a ≤ 1048576) : ∃ r, Ev (fun k => laws_szStepS.f k l a) r ∧ r ≤ 1048576 := by
  unfold laws_szStepS.f
  have w1 : wrap64 (a - (l.length : Int)) = a - l.length := w_in (by omega) (by omega)
  simp only [ev_ite_iff, ev_some_iff, w1]
  by_cases h : a - (l.length : Int) < 0
  · exact ⟨-1, by simp [h]⟩
  · simp only [h, if_false]
    refine loop_size (fun k b i => laws_szStepS.l0 k l b i) l 1048576 (fun b => ?_) (fun i hi b hb hb' => ?_) _ (by omega) (by omega)
    · rw [← ev_succ_iff]
      simp only [laws_szStepS.l0]
      rw [ev_ite_iff, if_neg (by omega)]
      exact ev_some _
    · have hsz := hs _ (List.getElem_mem hi)
      have w3 : wrap64 (b - (l[i].f1.size : Int)) = b - l[i].f1.size := w_in (by omega) (by omega)
      by_cases h2 : b - (l[i].f1.size : Int) < 0
      · refine .inl ?_
        rw [← ev_succ_iff]
        simp only [laws_szStepS.l0, laws_szStep.f, rdt_50 l i hi, w_succ (i := i) (by omega), w3, if_pos h2, Option.bind_some]
        simp [ev_ite_iff, ev_some_iff, hi]
      · refine .inr ⟨b - l[i].f1.size, by omega, by omega, fun r hr => ?_⟩
        rw [← ev_succ_iff]
        simp only [laws_szStepS.l0, laws_szStep.f, rdt_50 l i hi, w_succ (i := i) (by omega), w3, if_neg h2, Option.bind_some]
        rw [ev_ite_iff, if_pos (by omega), ev_ite_iff, if_pos (by omega)]
        exact hr
def toStep (x : S50) : S45 := ⟨x.f0, x.f1, x.f2, x.f3⟩
theorem toStepS_ev (l : List S50) (hl : l.length ≤ 3518437208883) : Ev (fun k => laws_toStepS.f k l) (l.map toStep) := by
  unfold laws_toStepS.f
  rw [ev_ite_iff, if_pos (by omega), ev_ite_iff, if_pos (by omega)]
  refine loop_fill (fun k s i => laws_toStepS.l0 k l s i) l toStep z45 (fun s hs => ?_) (fun i hi s hs r hr => ?_)
  · rw [← ev_succ_iff]
    simp [laws_toStepS.l0, ev_some]
  · rw [← ev_succ_iff]
    simp only [laws_toStepS.l0, laws_toStep.f, rdt_50 l i hi, w_succ (i := i) (by omega), Option.bind_some]
    simp [ev_ite_iff, hi, hs]
    exact hr
theorem eqStepS_ev (l : List S45) (hl : l.length < 4611686018427387904) : Ev (fun k => laws_eqStepS.f k l l) true := by
  unfold laws_eqStepS.f
  rw [ev_ite_iff, if_pos rfl]
  refine ev_as (loop_all (fun k i => laws_eqStepS.l0 k l l i) l (fun _ => true) ?_ (fun i hi hp r hr => ?_) (fun i hi hp => by cases hp)) (by simp)
  · rw [← ev_succ_iff]; simp [laws_eqStepS.l0, ev_some]
  · rw [← ev_succ_iff]
    simp only [laws_eqStepS.l0, laws_eqStep.f, w_succ (i := i) (by omega)]
    simp [ev_ite_iff, hi]
    exact hr
theorem szClue_ev (a0 : Int) (l : List S50) (hl : l.length < 4611686018427387904) (hs : ∀ x ∈ l, x.f1.size ≤ 140737488351232) (a : Int) (ha : 0 ≤ a) (ha' : a ≤ 1048576) : ∃ r, Ev (fun k => laws_szClue.f k a0 l a) r ∧ r ≤ 1048576 := by
  obtain ⟨r, hr, hb⟩ := szStepS_ev l hl hs a ha ha'
  unfold laws_szClue.f
  by_cases h : r < 0
  · exact ⟨-1, by rw [ev_bind_iff hr, ev_ite_iff, if_pos h]; exact ev_some _, by omega⟩
  · exact ⟨r, by rw [ev_bind_iff hr, ev_ite_iff, if_neg h]; exact ev_some _, hb⟩
theorem toClue_ev (a0 : Int) (l : List S50) (hl : l.length ≤ 3518437208883) : Ev (fun k => laws_toClue.f k a0 l) (a0, l.map toStep) := by
  unfold laws_toClue.f
  rw [ev_bind_iff (toStepS_ev l hl)]
  exact ev_some _
theorem eqClue_ev (a0 : Int) (l : List S45) (hl : l.length < 4611686018427387904) : Ev (fun k => laws_eqClue.f k a0 l a0 l) true := by
  unfold laws_eqClue.f
  rw [ev_ite_iff, if_pos rfl, ev_bind_iff (eqStepS_ev l hl), ev_ite_iff, if_pos rfl]
  exact ev_some _
def okTail (l : List S45) (i : Nat) (two : Bool) (kind A B : Int) : Bool :=
  if kind = 1 then decide (A = 0 ∧ B = 0) else decide (0 ≤ A ∧ A < i) && (if two = true then decide (0 ≤ B ∧ B < i) else decide (B = 0) && (decide (kind = 2) || decide ((rd_T45 l A).f0 = 1)))
def okStep (l : List S45) (i : Nat) : Bool :=
  decide (1 ≤ (rd_T45 l i).f0 ∧ (rd_T45 l i).f0 ≤ 9) && ((if (rd_T45 l i).f0 = 1 then isWordB (rd_T45 l i).f1 else decide ((rd_T45 l i).f1.size = 0)) && okTail l i (decide ((rd_T45 l i).f0 = 4 ∨ (rd_T45 l i).f0 = 5)) (rd_T45 l i).f0 (rd_T45 l i).f2 (rd_T45 l i).f3)
theorem l15Ok_j1 (l : List S45) (i : Nat) (hi : i < l.length) (hl : l.length < 4611686018427387904) (two : Bool) (kind : Int) (word : ByteArray) (A B : Int) : Ev (fun k => spec_l15Ok.j1 k l (i : Int) two kind word A B) (okTail l i two kind A B) := by
  have e : wrap64 ((i : Int) - 1) = i - 1 := w_in (by omega) (by omega)
  rw [← ev_succ_iff]
  simp only [spec_l15Ok.j1, l1In_eq, Option.bind_some, e, okTail, ev_ite_iff]
  by_cases h1 : kind = 1
  · by_cases h2 : A = 0 <;> simp [h1, h2, ev_some_iff] <;> rfl
  · rw [if_neg h1, if_neg h1]
    by_cases h2 : 0 ≤ A ∧ A < (i : Int)
    · have h2' : 0 ≤ A ∧ A ≤ (i : Int) - 1 := by omega
      simp only [h2, h2', and_self, decide_true, if_true, Bool.true_and]
      cases two
      · simp only [Bool.false_eq_true, if_false]
        by_cases h3 : B = 0
        · by_cases h4 : kind = 2
          · simp [h3, h4, ev_some_iff]
          · simp only [h3, h4, if_true, if_false, decide_true, decide_false, Bool.true_and, Bool.false_or]
            rw [if_pos (by omega), ev_some_iff]
            rfl
        · simp [h3, ev_some_iff]
      · simp only [if_true]
        by_cases h3 : 0 ≤ B ∧ B < (i : Int)
        · have h3' : 0 ≤ B ∧ B ≤ (i : Int) - 1 := by omega
          simp [h3, h3', ev_some_iff]
        · have h3' : ¬ (0 ≤ B ∧ B ≤ (i : Int) - 1) := by omega
          simp [h3, h3', ev_some_iff]
    · have h2' : ¬ (0 ≤ A ∧ A ≤ (i : Int) - 1) := by omega
      simp [h2, h2', ev_some_iff]
theorem l15Ok_j0 (l : List S45) (i : Nat) (hi : i < l.length) (hl : l.length < 4611686018427387904) (b : Bool) (kind : Int) (word : ByteArray) (A B : Int) : Ev (fun k => spec_l15Ok.j0 k l (i : Int) b kind word A B) (!b && okTail l i (decide (kind = 4 ∨ kind = 5)) kind A B) := by
  rw [← ev_succ_iff]
  simp only [spec_l15Ok.j0, ev_ite_iff]
  cases b
  · simp only [Bool.false_eq_true, if_false, Bool.not_false, Bool.true_and]
    by_cases h : kind = 4
    · simp only [h, if_true, true_or, decide_true]
      exact l15Ok_j1 l i hi hl _ _ _ _ _
    · simp only [h, if_false, false_or]
      have := l15Ok_j1 l i hi hl (kind == 5) kind word A B
      exact this
  · simp [ev_some_iff]
theorem spec_l15Ok_ev (l : List S45) (i : Nat) (hi : i < l.length) (hl : l.length < 4611686018427387904) : Ev (fun k => spec_l15Ok.f k l (i : Int)) (okStep l i) := by
  unfold spec_l15Ok.f
  rw [ev_ite_iff, if_pos (by omega), ev_ite_iff, if_pos (by omega)]
  simp only [l1In_eq, Option.bind_some, decide_eq_true_eq]
  unfold okStep
  generalize rd_T45 l (i : Int) = s
  rw [ev_ite_iff]
  by_cases h1 : 1 ≤ s.f0 ∧ s.f0 ≤ 9
  · rw [if_pos h1, ev_bind_iff (spec_IsWord_ev s.f1), ev_ite_iff]
    simp only [h1, and_self, decide_true, Bool.true_and]
    by_cases h2 : s.f0 = 1
    · simp only [h2, beq_self_eq_true, if_true, ev_ite_iff]
      cases hw : isWordB s.f1
      · simp only [Bool.true_bne, Bool.not_false, if_true]
        exact ev_as (l15Ok_j0 l i hi hl _ _ _ _ _) (by simp)
      · simp only [Bool.true_bne, Bool.not_true, Bool.false_eq_true, if_false]
        exact ev_as (l15Ok_j0 l i hi hl _ _ _ _ _) (by simp)
    · have h2' : (s.f0 == 1) = false := by simpa using h2
      simp only [h2, h2', if_false, ev_ite_iff, Bool.false_bne]
      cases hw : isWordB s.f1
      · simp only [Bool.false_eq_true, if_false]
        refine ev_as (l15Ok_j0 l i hi hl _ _ _ _ _) ?_
        congr 1
        rw [Bool.eq_iff_iff]
        simp [bne, toList_nil]
      · have hz : ¬ s.f1.size = 0 := by have := isWordB_size hw; omega
        simp only [if_true]
        exact ev_as (l15Ok_j0 l i hi hl _ _ _ _ _) (by simp [hz])
  · rw [if_neg h1]
    simp only [h1, decide_false, Bool.false_and]
    exact ev_as (l15Ok_j0 l i hi hl _ _ _ _ _) (by simp)
def isPlayB (l : List S45) : Bool := decide (1 ≤ l.length ∧ l.length ≤ 9) && (List.range l.length).all (okStep l)
theorem isPlayB_len {l : List S45} (h : isPlayB l = true) : 1 ≤ l.length ∧ l.length ≤ 9 := by
  simp [isPlayB] at h
  exact h.1
theorem isPlayB_step {l : List S45} (h : isPlayB l = true) (i : Nat) (hi : i < l.length) : okStep l i = true := by
  simp [isPlayB] at h
  exact h.2 i hi
theorem spec_IsPlay_ev (l : List S45) (hl : l.length < 4611686018427387904) : Ev (fun k => spec_IsPlay.f k l) (isPlayB l) := by
  unfold spec_IsPlay.f
  have hend : ∀ i : Nat, Ev (fun k => spec_IsPlay.j1 k l (i : Int) false) (decide (1 ≤ l.length ∧ l.length ≤ 9)) := by
    intro i
    rw [← ev_succ_iff]
    simp only [spec_IsPlay.j1, l1In_eq, Option.bind_some, Bool.false_eq_true, if_false, ev_some_iff]
    rw [Bool.eq_iff_iff]
    simp
    omega
  have := loop_up0 (fun k i => spec_IsPlay.l0 k l i) l.length (fun i => decide (1 ≤ l.length ∧ l.length ≤ 9) && ((List.range l.length).drop i).all (okStep l)) ?_ (fun i hi => ?_) 0 (Nat.zero_le _)
  · simpa [isPlayB] using this
  · rw [← ev_succ_iff]
    simp only [spec_IsPlay.l0]
    rw [ev_ite_iff, if_neg (by omega), List.drop_eq_nil_of_le (by simp)]
    simpa using hend l.length
  · have hd : (List.range l.length).drop i = i :: (List.range l.length).drop (i + 1) := by rw [List.drop_eq_getElem_cons (by simpa using hi)]; simp
    by_cases h9 : l.length ≤ 9
    · have hu : ∀ r, Ev (fun k => spec_IsPlay.l0 k l (i : Int)) r ↔ if okStep l i = true then Ev (fun k => spec_IsPlay.l0 k l ((i + 1 : Nat) : Int)) r else Ev (fun _ => some false) r := by
        intro r
        have h9' : decide ((l.length : Int) ≤ 9) = true := by simp; omega
        rw [← ev_succ_iff]
        simp only [spec_IsPlay.l0, h9']
        rw [ev_ite_iff, if_pos (by omega), ← ev_succ_iff]
        simp only [spec_IsPlay.j1, if_true, w_succ (i := i) (by omega)]
        rw [ev_bind_iff (spec_l15Ok_ev l i hi hl), ev_ite_iff]
      rw [hd, List.all_cons]
      by_cases ho : okStep l i = true
      · refine .inr ⟨by simp [ho], fun r hr => ?_⟩
        rw [hu, if_pos ho]
        exact hr
      · refine .inl ?_
        rw [hu, if_neg ho, ev_some_iff]
        simp [ho]
    · refine .inl ?_
      have h9' : decide ((l.length : Int) ≤ 9) = false := by simp; omega
      rw [← ev_succ_iff]
      simp only [spec_IsPlay.l0, h9']
      rw [ev_ite_iff, if_pos (by omega)]
      exact ev_as (hend i) (by simp [h9])
theorem isPair_eq (a : Int) : impl_isPair.f a = some (decide (a = 4 ∨ a = 5)) := by
  unfold impl_isPair.f
  by_cases h : a = 4
  · simp [h]
  · simp [h]; rfl
theorem needsWord_eq (a : Int) : impl_needsWord.f a = some (decide (a = 3 ∨ a ≥ 6)) := by
  unfold impl_needsWord.f
  by_cases h : a = 3 <;> simp [h]
theorem impl_IsPlay_j1 (l : List S45) (i : Nat) (hi : i < l.length) (hl : l.length < 4611686018427387904) (b : Bool) (kind : Int) (word : ByteArray) (A B : Int) (r : Bool) :
    Ev (fun k => impl_IsPlay.j1 k l (i : Int) l (l.length : Int) (i : Int) b kind word A B) r ↔ if (!b && (if kind = 4 ∨ kind = 5 then decide (0 ≤ B ∧ B < i) else decide (B = 0))) = true then Ev (fun k => impl_IsPlay.l0 k l l (l.length : Int) ((i + 1 : Nat) : Int)) r else Ev (fun _ => some false) r := by
  rw [← ev_succ_iff]
  simp only [impl_IsPlay.j1, isPair_eq, at_eq, Option.bind_some, w_succ (i := i) (by omega), ev_ite_iff, decide_eq_true_eq]
  cases b
  · by_cases h : kind = 4 ∨ kind = 5
    · by_cases h2 : 0 ≤ B ∧ B < (i : Int) <;> simp [h, h2]
    · by_cases h2 : B = 0 <;> simp [h, h2]
  · simp
theorem okStep_impl (l : List S45) (i : Nat) : okStep l i = (decide (1 ≤ (rd_T45 l i).f0 ∧ (rd_T45 l i).f0 ≤ 9) && (if (rd_T45 l i).f0 = 1 then isWordB (rd_T45 l i).f1 && decide ((rd_T45 l i).f2 = 0 ∧ (rd_T45 l i).f3 = 0)
    else decide ((rd_T45 l i).f1.size = 0) && (decide (0 ≤ (rd_T45 l i).f2 ∧ (rd_T45 l i).f2 < i) && (!(decide ((rd_T45 l i).f0 = 3 ∨ (rd_T45 l i).f0 ≥ 6) && decide (¬ (rd_T45 l (rd_T45 l i).f2).f0 = 1)) && (if (rd_T45 l i).f0 = 4 ∨ (rd_T45 l i).f0 = 5 then decide (0 ≤ (rd_T45 l i).f3 ∧ (rd_T45 l i).f3 < i) else decide ((rd_T45 l i).f3 = 0)))))) := by
  unfold okStep okTail
  generalize rd_T45 l (i : Int) = s
  generalize (rd_T45 l s.f2).f0 = a
  by_cases h1 : 1 ≤ s.f0 ∧ s.f0 ≤ 9
  · by_cases h2 : s.f0 = 1
    · simp [h2]
    · simp only [h1, h2, and_self, decide_true, Bool.true_and, if_false]
      by_cases h3 : s.f0 = 4 ∨ s.f0 = 5
      · have h4 : ¬ (s.f0 = 3 ∨ s.f0 ≥ 6) := by omega
        simp [h3, h4]
      · simp only [h3, decide_false, Bool.false_eq_true, if_false]
        by_cases h4 : s.f0 = 2
        · have h5 : ¬ (s.f0 = 3 ∨ s.f0 ≥ 6) := by omega
          simp [h4]
        · have h5 : s.f0 = 3 ∨ s.f0 ≥ 6 := by omega
          by_cases h6 : a = 1 <;> simp [h4, h5, h6]
  · simp [h1]
theorem impl_IsPlay_ev (l : List S45) (hl : l.length < 4611686018427387904) : Ev (fun k => impl_IsPlay.f k l) (isPlayB l) := by
  unfold impl_IsPlay.f
  simp only [InRange_eq, Option.bind_some, decide_eq_true_eq]
  unfold isPlayB
  rw [ev_ite_iff]
  by_cases hlen : 1 ≤ l.length ∧ l.length ≤ 9
  · rw [if_pos (by omega)]
    simp only [hlen, and_self, decide_true, Bool.true_and]
    have := loop_up0 (fun k i => impl_IsPlay.l0 k l l (l.length : Int) i) l.length (fun i => ((List.range l.length).drop i).all (okStep l)) ?_ (fun i hi => ?_) 0 (Nat.zero_le _)
    · simpa using this
    · rw [← ev_succ_iff]
      simp only [impl_IsPlay.l0]
      rw [ev_ite_iff, if_neg (by omega), ev_some_iff, List.drop_eq_nil_of_le (by simp)]
      simp
    · have hd : (List.range l.length).drop i = i :: (List.range l.length).drop (i + 1) := by rw [List.drop_eq_getElem_cons (by simpa using hi)]; simp
      have hu : ∀ r, Ev (fun k => impl_IsPlay.l0 k l l (l.length : Int) (i : Int)) r ↔ if okStep l i = true then Ev (fun k => impl_IsPlay.l0 k l l (l.length : Int) ((i + 1 : Nat) : Int)) r else Ev (fun _ => some false) r := by
        intro r
        rw [← ev_succ_iff]
        simp only [impl_IsPlay.l0, w_succ (i := i) (by omega), InRange_eq, needsWord_eq, at_eq, Option.bind_some, okStep_impl]
        generalize rd_T45 l (i : Int) = s
        simp only [ev_ite_iff, decide_eq_true_eq, ev_bind_iff (impl_IsWord_ev s.f1), impl_IsPlay_j1 l i hi hl, toList_nil]
        rw [if_pos (by omega), if_pos (by omega), if_pos (by omega)]
        by_cases h1 : 1 ≤ s.f0 ∧ s.f0 ≤ 9
        · by_cases h2 : s.f0 = 1
          · simp only [h2]
            cases hw : isWordB s.f1
            · simp
            · by_cases h3 : s.f2 = 0
              · by_cases h4 : s.f3 = 0 <;> simp [h3, h4]
              · simp [h3]
          · simp only [h1, h2, and_self, decide_true, Bool.true_and, if_true, if_false]
            by_cases h3 : s.f1.size = 0
            · by_cases h4 : 0 ≤ s.f2 ∧ s.f2 < (i : Int)
              · have h4' : s.f2 < (l.length : Int) := by omega
                by_cases h5 : s.f0 = 3 ∨ s.f0 ≥ 6
                · simp only [h3, h4, h4', h5, and_self, decide_true, if_true, Bool.true_and]
                  cases hb : ((rd_T45 l s.f2).f0 != 1)
                  · have hb' : (rd_T45 l s.f2).f0 = 1 := by simpa using hb
                    simp [hb']
                  · have hb' : ¬ (rd_T45 l s.f2).f0 = 1 := by simpa using hb
                    simp [hb']
                · simp [h3, h4, h5]
              · simp [h3, h4]
            · simp [h3]
        · simp [h1]
      rw [hd, List.all_cons]
      by_cases ho : okStep l i = true
      · refine .inr ⟨by simp [ho], fun r hr => ?_⟩
        rw [hu, if_pos ho]
        exact hr
      · refine .inl ?_
        rw [hu, if_neg ho, ev_some_iff]
        simp [ho]
  · rw [if_neg (by omega)]
    simp [hlen, ev_some_iff]
def isClueB (a : Int) (l : List S45) : Bool := decide (1 ≤ a ∧ a ≤ 99) && isPlayB l
theorem spec_IsClue_ev (a : Int) (l : List S45) (hl : l.length < 4611686018427387904) : Ev (fun k => spec_IsClue.f k a l) (isClueB a l) := by
  unfold spec_IsClue.f isClueB
  simp only [l1In_eq, Option.bind_some, ev_ite_iff, ev_bind_iff (spec_IsPlay_ev l hl), decide_eq_true_eq]
  by_cases h : 1 ≤ a ∧ a ≤ 99 <;> simp [h, ev_some_iff]
theorem impl_IsClue_ev (a : Int) (l : List S45) (hl : l.length < 4611686018427387904) : Ev (fun k => impl_IsClue.f k a l) (isClueB a l) := by
  unfold impl_IsClue.f isClueB
  simp only [InRange_eq, Option.bind_some, ev_ite_iff, ev_bind_iff (impl_IsPlay_ev l hl), decide_eq_true_eq]
  by_cases h : 1 ≤ a ∧ a ≤ 99 <;> simp [h, ev_some_iff]
/-- What is made step by step, each out of what was made before it. -/
def build {β : Type} (f : List β → S45 → β) : List β → List S45 → List β
  | acc, [] => acc
  | acc, s :: l => build f (acc ++ [f acc s]) l
def built {β : Type} (f : List β → S45 → β) (l : List S45) : List β := build f [] l
theorem build_append {β : Type} (f : List β → S45 → β) : ∀ (l m : List S45) (acc : List β), build f acc (l ++ m) = build f (build f acc l) m
  | [], m, acc => rfl
  | s :: l, m, acc => by simp only [List.cons_append, build]; exact build_append f l m _
theorem build_length {β : Type} (f : List β → S45 → β) : ∀ (l : List S45) (acc : List β), (build f acc l).length = acc.length + l.length
  | [], acc => by simp [build]
  | s :: l, acc => by simp only [build]; rw [build_length f l]; simp; omega
theorem built_length {β : Type} (f : List β → S45 → β) (l : List S45) : (built f l).length = l.length := by
  unfold built; rw [build_length]; simp
theorem build_mono {β : Type} (f : List β → S45 → β) : ∀ (l : List S45) (acc : List β) (j : Nat), j < acc.length → (build f acc l)[j]? = acc[j]?
  | [], acc, j, h => rfl
  | s :: l, acc, j, h => by
    simp only [build]
    rw [build_mono f l _ j (by simp; omega), List.getElem?_append_left h]
theorem built_succ {β : Type} (f : List β → S45 → β) (l : List S45) (i : Nat) (h : i < l.length) : built f (l.take (i + 1)) = built f (l.take i) ++ [f (built f (l.take i)) l[i]] := by
  rw [List.take_succ_eq_append_getElem h]
  unfold built
  rw [build_append]
  rfl
theorem built_take {β : Type} (f : List β → S45 → β) (l : List S45) (i j : Nat) (hj : j < i) (hi : i ≤ l.length) : (built f (l.take i))[j]? = (built f l)[j]? := by
  have e : built f l = build f (built f (l.take i)) (l.drop i) := by
    unfold built
    rw [← build_append, List.take_append_drop]
  rw [e, build_mono f _ _ _ (by rw [built_length, List.length_take]; omega)]
theorem built_get {β : Type} (f : List β → S45 → β) (l : List S45) (i : Nat) (h : i < l.length) : (built f l)[i]? = some (f (built f (l.take i)) l[i]) := by
  rw [← built_take f l (i + 1) i (by omega) (by omega), built_succ f l i h, List.getElem?_append_right (by rw [built_length, List.length_take]; omega)]
  rw [built_length, List.length_take, Nat.min_eq_left (by omega), Nat.sub_self]
  rfl
theorem okStep_parts {l : List S45} {i : Nat} (hi : i < l.length) (h : okStep l i = true) : (1 ≤ l[i].f0 ∧ l[i].f0 ≤ 9) ∧ (l[i].f0 = 1 → isWordB l[i].f1 = true) ∧ (¬ l[i].f0 = 1 → 0 ≤ l[i].f2 ∧ l[i].f2 < i) ∧ (l[i].f0 = 4 ∨ l[i].f0 = 5 → 0 ≤ l[i].f3 ∧ l[i].f3 < i) ∧ (¬ l[i].f0 = 1 → ¬ (l[i].f0 = 4 ∨ l[i].f0 = 5) → l[i].f3 = 0) ∧
    (l[i].f0 = 3 ∨ l[i].f0 ≥ 6 → (rd_T45 l l[i].f2).f0 = 1) ∧ (¬ l[i].f0 = 1 → l[i].f1.size = 0) ∧ (l[i].f0 = 1 → l[i].f2 = 0 ∧ l[i].f3 = 0) := by
  rw [okStep_impl, rdt_45 l i hi] at h
  simp only [Bool.and_eq_true, decide_eq_true_eq] at h
  obtain ⟨h1, h2⟩ := h
  refine ⟨h1, fun e => ?_, fun e => ?_, fun e => ?_, fun e e' => ?_, fun e => ?_, fun e => ?_, fun e => ?_⟩
  · rw [if_pos e] at h2; simp at h2; exact h2.1
  · rw [if_neg e] at h2; simp at h2; exact h2.2.1
  · have e' : ¬ l[i].f0 = 1 := by omega
    rw [if_neg e', if_pos e] at h2; simp at h2; exact h2.2.2.2
  · rw [if_neg e, if_neg e'] at h2; simp at h2; exact h2.2.2.2
  · have e' : ¬ l[i].f0 = 1 := by omega
    rw [if_neg e'] at h2; simp at h2
    have h3 := h2.2.2.1
    rcases h3 with h3 | h3
    · omega
    · exact h3
  · rw [if_neg e] at h2; simp at h2; rw [h2.1]; rfl
  · rw [if_pos e] at h2; simp at h2; exact h2.2
def letA (k : Int) : ByteArray := (⟨#[63, 63, 98, 109, 106, 105, 104, 110, 116, 100]⟩ : ByteArray).extract k.toNat (wrap64 (k + 1)).toNat
def letS (k : Int) : ByteArray := (⟨#[32, 32, 98, 109, 106, 105, 104, 110, 116, 100]⟩ : ByteArray).extract k.toNat (wrap64 (k + 1)).toNat
theorem letS_eq {k : Int} (h : 2 ≤ k ∧ k ≤ 9) : letS k = letA k := by
  obtain rfl | rfl | rfl | rfl | rfl | rfl | rfl | rfl : k = 2 ∨ k = 3 ∨ k = 4 ∨ k = 5 ∨ k = 6 ∨ k = 7 ∨ k = 8 ∨ k = 9 := by omega
  all_goals decide +kernel
theorem letA_size {k : Int} (h : 2 ≤ k ∧ k ≤ 9) : (letA k).size = 1 := by
  obtain rfl | rfl | rfl | rfl | rfl | rfl | rfl | rfl : k = 2 ∨ k = 3 ∨ k = 4 ∨ k = 5 ∨ k = 6 ∨ k = 7 ∨ k = 8 ∨ k = 9 := by omega
  all_goals decide +kernel
def rdB (acc : List ByteArray) (i : Int) : ByteArray := acc.getD i.toNat ByteArray.empty
def tstep (acc : List ByteArray) (s : S45) : ByteArray :=
  if s.f0 = 1 then s.f1 else if s.f0 = 4 ∨ s.f0 = 5 then (((letA s.f0 ++ ⟨#[40]⟩) ++ rdB acc s.f2) ++ (⟨#[44]⟩ ++ rdB acc s.f3)) ++ ⟨#[41]⟩ else ((letA s.f0 ++ ⟨#[40]⟩) ++ rdB acc s.f2) ++ ⟨#[41]⟩
theorem tstep_def (acc : List ByteArray) (s : S45) : tstep acc s = if s.f0 = 1 then s.f1 else if s.f0 = 4 ∨ s.f0 = 5 then (((letA s.f0 ++ ⟨#[40]⟩) ++ rdB acc s.f2) ++ (⟨#[44]⟩ ++ rdB acc s.f3)) ++ ⟨#[41]⟩ else ((letA s.f0 ++ ⟨#[40]⟩) ++ rdB acc s.f2) ++ ⟨#[41]⟩ := rfl
def textB (l : List S45) (i : Int) : ByteArray := rdB (built tstep l) i
theorem one_size (c : UInt8) : (⟨#[c]⟩ : ByteArray).size = 1 := rfl
theorem textB_at (l : List S45) (i : Nat) (hi : i < l.length) : textB l (i : Int) = tstep (built tstep (l.take i)) l[i] := by
  unfold textB rdB
  rw [List.getD_eq_getElem?_getD, Int.toNat_natCast, built_get tstep l i hi]
  rfl
theorem textB_take (l : List S45) (i : Nat) (hi : i ≤ l.length) (a : Int) (h0 : 0 ≤ a) (h1 : a < i) : rdB (built tstep (l.take i)) a = textB l a := by
  unfold textB rdB
  rw [List.getD_eq_getElem?_getD, List.getD_eq_getElem?_getD, built_take tstep l i a.toNat (by omega) hi]
/-- A step's text out of the texts of its parts. -/
theorem textB_step {l : List S45} (hp : isPlayB l = true) (i : Nat) (hi : i < l.length) : textB l (i : Int) = if l[i].f0 = 1 then l[i].f1 else if l[i].f0 = 4 ∨ l[i].f0 = 5 then (((letA l[i].f0 ++ ⟨#[40]⟩) ++ textB l l[i].f2) ++ (⟨#[44]⟩ ++ textB l l[i].f3)) ++ ⟨#[41]⟩ else ((letA l[i].f0 ++ ⟨#[40]⟩) ++ textB l l[i].f2) ++ ⟨#[41]⟩ := by
  obtain ⟨p1, p2, p3, p4, _⟩ := okStep_parts hi (isPlayB_step hp i hi)
  rw [textB_at l i hi]
  rw [tstep_def]
  by_cases h1 : l[i].f0 = 1
  · simp [h1]
  · have q3 := p3 h1
    rw [textB_take l i (by omega) _ q3.1 q3.2]
    by_cases h4 : l[i].f0 = 4 ∨ l[i].f0 = 5
    · have q4 := p4 h4
      rw [textB_take l i (by omega) _ q4.1 q4.2]
    · simp only [h1, h4, if_false]
theorem textB_bound {l : List S45} (hp : isPlayB l = true) : ∀ (n i : Nat), i < n → i < l.length → (textB l (i : Int)).size + 4 ≤ 2 ^ (i + 4) := by
  intro n
  induction n with
  | zero => intro i h; omega
  | succ n ih =>
    intro i hin hi
    obtain ⟨p1, p2, p3, p4, _⟩ := okStep_parts hi (isPlayB_step hp i hi)
    have hpos : 2 ^ 4 ≤ 2 ^ (i + 4) := Nat.pow_le_pow_right (by omega) (by omega)
    rw [textB_step hp i hi]
    by_cases h1 : l[i].f0 = 1
    · have := isWordB_size (p2 h1)
      rw [if_pos h1]
      omega
    · have q3 := p3 h1
      obtain ⟨a, ha⟩ := Int.eq_ofNat_of_zero_le q3.1
      have ea := ih a (by omega) (by omega)
      have la : 2 ^ (a + 4) ≤ 2 ^ (i + 3) := Nat.pow_le_pow_right (by omega) (by omega)
      have l2 : 2 ^ (i + 4) = 2 * 2 ^ (i + 3) := by rw [Nat.pow_succ]; omega
      have hz := letA_size (k := l[i].f0) (by omega)
      rw [if_neg h1, ha]
      by_cases h4 : l[i].f0 = 4 ∨ l[i].f0 = 5
      · have q4 := p4 h4
        obtain ⟨b, hb⟩ := Int.eq_ofNat_of_zero_le q4.1
        have eb := ih b (by omega) (by omega)
        have lb : 2 ^ (b + 4) ≤ 2 ^ (i + 3) := Nat.pow_le_pow_right (by omega) (by omega)
        rw [if_pos h4, hb]
        simp only [ByteArray.size_append, hz, one_size]
        omega
      · rw [if_neg h4]
        simp only [ByteArray.size_append, hz, one_size]
        omega
theorem textB_small {l : List S45} (hp : isPlayB l = true) (i : Nat) (hi : i < l.length) : (textB l (i : Int)).size ≤ 4096 := by
  have := textB_bound hp (i + 1) i (by omega) hi
  have hlen := isPlayB_len hp
  have : 2 ^ (i + 4) ≤ 2 ^ 12 := Nat.pow_le_pow_right (by omega) (by omega)
  omega
theorem spec_l16Text_ev {l : List S45} (hp : isPlayB l = true) : ∀ (n i : Nat), i < n → (hi : i < l.length) → Ev (fun k => spec_l16Text.f k l (i : Int)) (textB l (i : Int)) := by
  intro n
  induction n with
  | zero => intro i h; omega
  | succ n ih =>
    intro i hin hi
    obtain ⟨p1, p2, p3, p4, _⟩ := okStep_parts hi (isPlayB_step hp i hi)
    rw [textB_step hp i hi, ← ev_succ_iff]
    simp only [spec_l16Text.f, rdt_45 l i hi, ev_ite_iff]
    rw [if_pos (by omega), if_pos (by omega)]
    by_cases h1 : l[i].f0 = 1
    · simp [h1, ev_some_iff]
    · have q3 := p3 h1
      obtain ⟨a, ha⟩ := Int.eq_ofNat_of_zero_le q3.1
      have ea := ih a (by omega) (by omega)
      have sa := textB_small hp a (by omega)
      rw [← ha] at ea sa
      have hL : (⟨#[32, 32, 98, 109, 106, 105, 104, 110, 116, 100]⟩ : ByteArray).extract (l[i].f0).toNat (wrap64 (l[i].f0 + 1)).toNat = letA l[i].f0 := letS_eq (k := l[i].f0) (by omega)
      have hz := letA_size (k := l[i].f0) (by omega)
      have hw : wrap64 (l[i].f0 + 1) = l[i].f0 + 1 := w_in (by omega) (by omega)
      simp only [hL]
      rw [if_neg h1, if_neg h1, if_pos (by omega), if_pos (by omega), if_pos (by omega), if_pos (by omega), ev_bind_iff ea, ev_ite_iff, if_pos (by simp only [ByteArray.size_append, hz, one_size]; omega)]
      by_cases h4 : l[i].f0 = 4 ∨ l[i].f0 = 5
      · have q4 := p4 h4
        obtain ⟨b, hb⟩ := Int.eq_ofNat_of_zero_le q4.1
        have eb := ih b (by omega) (by omega)
        have sb := textB_small hp b (by omega)
        rw [← hb] at eb sb
        have fin : ∀ r : ByteArray, (((letA l[i].f0 ++ ⟨#[40]⟩) ++ textB l l[i].f2) ++ (⟨#[44]⟩ ++ textB l l[i].f3)) ++ ⟨#[41]⟩ = ((((letA l[i].f0 ++ ⟨#[40]⟩) ++ textB l l[i].f2) ++ ⟨#[44]⟩) ++ textB l l[i].f3) ++ ⟨#[41]⟩ := fun _ => by simp only [ByteArray.append_assoc]
        rw [if_pos h4, fin ByteArray.empty]
        rcases h4 with h4 | h4
        · rw [ev_ite_iff, if_pos h4, ev_ite_iff, if_pos (by simp only [ByteArray.size_append, hz, one_size]; omega), ev_bind_iff eb, ev_ite_iff, if_pos (by simp only [ByteArray.size_append, hz, one_size]; omega), ev_ite_iff, if_pos (by simp only [ByteArray.size_append, hz, one_size]; omega)]
          exact ev_some _
        · rw [ev_ite_iff, if_neg (by omega), ev_ite_iff, if_pos h4, ev_ite_iff, if_pos (by simp only [ByteArray.size_append, hz, one_size]; omega), ev_bind_iff eb, ev_ite_iff, if_pos (by simp only [ByteArray.size_append, hz, one_size]; omega), ev_ite_iff, if_pos (by simp only [ByteArray.size_append, hz, one_size]; omega)]
          exact ev_some _
      · rw [if_neg h4, ev_ite_iff, if_neg (by omega), ev_ite_iff, if_neg (by omega), ev_ite_iff, if_pos (by simp only [ByteArray.size_append, hz, one_size]; omega)]
        exact ev_some _
theorem impl_playText_ev {l : List S45} (hp : isPlayB l = true) : ∀ (n i : Nat), i < n → (hi : i < l.length) → Ev (fun k => impl_playText.f k l (i : Int)) (textB l (i : Int)) := by
  intro n
  induction n with
  | zero => intro i h; omega
  | succ n ih =>
    intro i hin hi
    obtain ⟨p1, p2, p3, p4, _⟩ := okStep_parts hi (isPlayB_step hp i hi)
    rw [textB_step hp i hi, ← ev_succ_iff]
    simp only [impl_playText.f, rdt_45 l i hi, isPair_eq, Option.bind_some, ev_ite_iff]
    rw [if_pos (by omega), if_pos (by omega)]
    by_cases h1 : l[i].f0 = 1
    · simp [h1, ev_some_iff]
    · have q3 := p3 h1
      obtain ⟨a, ha⟩ := Int.eq_ofNat_of_zero_le q3.1
      have ea := ih a (by omega) (by omega)
      have sa := textB_small hp a (by omega)
      rw [← ha] at ea sa
      have hL : (⟨#[63, 63, 98, 109, 106, 105, 104, 110, 116, 100]⟩ : ByteArray).extract (l[i].f0).toNat (wrap64 (l[i].f0 + 1)).toNat = letA l[i].f0 := rfl
      have hz := letA_size (k := l[i].f0) (by omega)
      have hw : wrap64 (l[i].f0 + 1) = l[i].f0 + 1 := w_in (by omega) (by omega)
      simp only [hL]
      rw [if_neg h1, if_neg h1, if_pos (by omega), if_pos (by omega), if_pos (by omega), if_pos (by omega), ev_bind_iff ea, ev_ite_iff, if_pos (by simp only [ByteArray.size_append, hz, one_size]; omega), ev_ite_iff]
      by_cases h4 : l[i].f0 = 4 ∨ l[i].f0 = 5
      · have q4 := p4 h4
        obtain ⟨b, hb⟩ := Int.eq_ofNat_of_zero_le q4.1
        have eb := ih b (by omega) (by omega)
        have sb := textB_small hp b (by omega)
        rw [← hb] at eb sb
        rw [if_pos h4, if_pos (by simpa using h4), ev_bind_iff eb, ev_ite_iff, if_pos (by omega), ev_ite_iff, if_pos (by simp only [ByteArray.size_append, hz, one_size]; omega), ev_ite_iff, if_pos (by simp only [ByteArray.size_append, hz, one_size]; omega)]
        exact ev_some _
      · rw [if_neg h4, if_neg (by simpa using h4), ev_ite_iff, if_pos (by simp only [ByteArray.size_append, hz, one_size]; omega)]
        exact ev_some _
theorem spec_Min_eq (a b : Int) : spec_Min.f a b = some (mn a b) := by
  unfold spec_Min.f mn
  split <;> rfl
def sstep (acc : List Int) (s : S45) : Int :=
  if s.f0 = 1 then (s.f1.size : Int) else if s.f0 = 4 ∨ s.f0 = 5 then mn 999 (wrap64 (wrap64 (rd acc s.f2 + rd acc s.f3) + 4)) else mn 999 (wrap64 (rd acc s.f2 + 3))
theorem sstep_def (acc : List Int) (s : S45) : sstep acc s = if s.f0 = 1 then (s.f1.size : Int) else if s.f0 = 4 ∨ s.f0 = 5 then mn 999 (wrap64 (wrap64 (rd acc s.f2 + rd acc s.f3) + 4)) else mn 999 (wrap64 (rd acc s.f2 + 3)) := rfl
theorem sizes_text {l : List S45} (hp : isPlayB l = true) : ∀ (n i : Nat), i < n → (hi : i < l.length) → rd (built sstep l) (i : Int) = mn 999 ((textB l (i : Int)).size : Int) := by
  intro n
  induction n with
  | zero => intro i h; omega
  | succ n ih =>
    intro i hin hi
    obtain ⟨p1, p2, p3, p4, _⟩ := okStep_parts hi (isPlayB_step hp i hi)
    have hb : rd (built sstep l) (i : Int) = sstep (built sstep (l.take i)) l[i] := by
      have := built_get sstep l i hi
      unfold rd
      rw [List.getD_eq_getElem?_getD, Int.toNat_natCast, this]
      rfl
    have hr : ∀ a : Int, 0 ≤ a → a < i → rd (built sstep (l.take i)) a = rd (built sstep l) a := by
      intro a h0 h1
      unfold rd
      rw [List.getD_eq_getElem?_getD, List.getD_eq_getElem?_getD, built_take sstep l i a.toNat (by omega) (by omega)]
    rw [hb, textB_step hp i hi]
    rw [sstep_def]
    by_cases h1 : l[i].f0 = 1
    · have := isWordB_size (p2 h1)
      simp only [h1, if_true, mn]
      rw [if_pos (by omega)]
    · have q3 := p3 h1
      obtain ⟨a, ha⟩ := Int.eq_ofNat_of_zero_le q3.1
      have ea := ih a (by omega) (by omega)
      have sa := textB_small hp a (by omega)
      rw [← ha] at ea sa
      have hz := letA_size (k := l[i].f0) (by omega)
      simp only [h1, if_false]
      rw [hr _ q3.1 q3.2, ea]
      by_cases h4 : l[i].f0 = 4 ∨ l[i].f0 = 5
      · have q4 := p4 h4
        obtain ⟨b, hb⟩ := Int.eq_ofNat_of_zero_le q4.1
        have eb := ih b (by omega) (by omega)
        have sb := textB_small hp b (by omega)
        rw [← hb] at eb sb
        simp only [h4, if_true]
        rw [hr _ q4.1 q4.2, eb]
        simp only [ByteArray.size_append, hz, one_size]
        unfold mn wrap64
        omega
      · simp only [h4, if_false]
        simp only [ByteArray.size_append, hz, one_size]
        unfold mn wrap64
        omega
theorem spec_l16Size_ev {l : List S45} (hp : isPlayB l = true) : Ev (fun k => spec_l16Size.f k l) (rd (built sstep l) ((l.length : Int) - 1)) := by
  have hlen := isPlayB_len hp
  have := loop_up (fun k s i => spec_l16Size.l0 k l s i) l.length (fun i s => s = built sstep (l.take i)) (fun _ _ => rd (built sstep l) ((l.length : Int) - 1)) (fun s hs => ?_) (fun i s hi hs => .inr ⟨s ++ [sstep s l[i]], ?_, rfl, fun r hr => ?_⟩) 0 [] (Nat.zero_le _) rfl
  · exact this
  · subst hs
    rw [← ev_succ_iff]
    have hbl := built_length sstep l
    have e : wrap64 ((((built sstep l).length : Nat) : Int) - 1) = (l.length : Int) - 1 := by rw [hbl]; exact w_in (by omega) (by omega)
    simp only [spec_l16Size.l0, List.take_length, e]
    rw [ev_ite_iff, if_neg (by omega), ev_ite_iff, if_pos (by omega), ev_ite_iff, if_pos (by omega)]
    exact ev_some _
  · rw [hs, built_succ sstep l i hi]
  · obtain ⟨p1, p2, p3, p4, _⟩ := okStep_parts hi (isPlayB_step hp i hi)
    have hsl : s.length = i := by rw [hs, built_length, List.length_take]; omega
    have hx : s.length < 17592186044416 := by omega
    rw [← ev_succ_iff]
    simp only [spec_l16Size.l0, rdt_45 l i hi, w_succ (i := i) (by omega), ev_ite_iff]
    rw [if_pos (by omega), if_pos (by omega)]
    rw [sstep_def] at hr
    by_cases h1 : l[i].f0 = 1
    · simp only [h1, if_true] at hr ⊢
      rw [if_pos hx]
      exact hr
    · have q3 := p3 h1
      simp only [h1, if_false] at hr ⊢
      have hj : ∀ b : Bool, b = decide (l[i].f0 = 4 ∨ l[i].f0 = 5) → Ev (fun k => spec_l16Size.j1 k l s (i : Int) b l[i].f0 l[i].f1 l[i].f2 l[i].f3) r := by
        intro b hb
        rw [← ev_succ_iff]
        simp only [spec_l16Size.j1, w_succ (i := i) (by omega), spec_Min_eq, Option.bind_some, ev_ite_iff, hb, decide_eq_true_eq]
        by_cases h4 : l[i].f0 = 4 ∨ l[i].f0 = 5
        · have q4 := p4 h4
          simp only [h4, if_true] at hr ⊢
          rw [if_pos q3.1, if_pos (by omega), if_pos q4.1, if_pos (by omega), if_pos hx]
          exact hr
        · simp only [h4, if_false] at hr ⊢
          rw [if_pos q3.1, if_pos (by omega), if_pos hx]
          exact hr
      by_cases h4 : l[i].f0 = 4
      · rw [if_pos h4]
        exact hj _ (by simp [h4])
      · rw [if_neg h4]
        refine hj _ ?_
        rw [Bool.eq_iff_iff]
        simp [h4]
def playTextB (l : List S45) : ByteArray := if isPlayB l = true then (if ((textB l ((l.length - 1 : Nat) : Int)).size : Int) > 80 then (⟨#[]⟩ : ByteArray) else textB l ((l.length - 1 : Nat) : Int)) else (⟨#[]⟩ : ByteArray)
theorem spec_PlayText_ev (l : List S45) (hl : l.length < 4611686018427387904) : Ev (fun k => spec_PlayText.f k l) (playTextB l) := by
  unfold spec_PlayText.f playTextB
  rw [ev_bind_iff (spec_IsPlay_ev l hl), ev_ite_iff]
  split
  · rename_i hp
    have hlen := isPlayB_len hp
    have e : wrap64 ((l.length : Int) - 1) = ((l.length - 1 : Nat) : Int) := by rw [w_in (by omega) (by omega)]; omega
    have hz := spec_l16Size_ev hp
    rw [show (l.length : Int) - 1 = ((l.length - 1 : Nat) : Int) by omega, sizes_text hp l.length (l.length - 1) (by omega) (by omega)] at hz
    have ht := spec_l16Text_ev hp l.length (l.length - 1) (by omega) (by omega)
    rw [e]
    generalize textB l ((l.length - 1 : Nat) : Int) = T at hz ht ⊢
    have hm : mn 999 (T.size : Int) > 80 ↔ (T.size : Int) > 80 := by unfold mn; split <;> omega
    rw [ev_bind_iff hz, ev_ite_iff, ev_bind_iff ht]
    simp only [hm]
    split
    · exact ev_some _
    · exact ev_some _
  · exact ev_some _
theorem impl_PlayText_ev (l : List S45) (hl : l.length < 4611686018427387904) : Ev (fun k => impl_PlayText.f k l) (playTextB l) := by
  unfold impl_PlayText.f playTextB
  rw [ev_bind_iff (impl_IsPlay_ev l hl), ev_ite_iff]
  split
  · rename_i hp
    have hlen := isPlayB_len hp
    have e : wrap64 ((l.length : Int) - 1) = ((l.length - 1 : Nat) : Int) := by rw [w_in (by omega) (by omega)]; omega
    rw [e, ev_bind_iff (impl_playText_ev hp l.length (l.length - 1) (by omega) (by omega)), ev_ite_iff]
    split
    · exact ev_some _
    · exact ev_some _
  · exact ev_some _
def fmtB (n : Int) : ByteArray := ⟨(Go.Lib.decDigits n.toNat).toArray⟩
theorem digit_nat (c : Nat) (h : c < 10) : strOfNums [(wrap64 (48 + (c : Int))) % 256] = (⟨[UInt8.ofNat (48 + c)].toArray⟩ : ByteArray) := by
  have e : wrap64 (48 + (c : Int)) % 256 = ((48 + c : Nat) : Int) := by rw [w_in (by omega) (by omega)]; omega
  rw [e]
  rfl
theorem spec_FormatInt_ev (n : Nat) (h : n < 100) : Ev (fun k => spec_FormatInt.f k (n : Int)) (fmtB n) := by
  have hend : ∀ (x : Int) (s : ByteArray), ¬ x < 0 → Ev (fun k => spec_FormatInt.l0 k x s 0) s := by
    intro x s hx
    rw [← ev_succ_iff]
    simp only [spec_FormatInt.l0, if_true]
    rw [ev_ite_iff, if_neg hx]
    exact ev_some _
  have hround : ∀ (x : Int) (s r : ByteArray) (m : Nat), 0 < m → m < 100 → s.size < 100 → Ev (fun k => spec_FormatInt.l0 k x ((⟨[UInt8.ofNat (48 + m % 10)].toArray⟩ : ByteArray) ++ s) ((m / 10 : Nat) : Int)) r → Ev (fun k => spec_FormatInt.l0 k x s (m : Int)) r := by
    intro x s r m h0 h1 hs hr
    have t1 : Int.tmod (m : Int) 10 = ((m % 10 : Nat) : Int) := by rw [Int.tmod_eq_emod_of_nonneg (by omega)]; omega
    have t2 : wrap64 (Int.tdiv (m : Int) 10) = ((m / 10 : Nat) : Int) := by rw [Int.tdiv_eq_ediv_of_nonneg (by omega), w_in (by omega) (by omega)]; omega
    rw [← ev_succ_iff]
    simp only [spec_FormatInt.l0, t1, t2, digit_nat (m % 10) (by omega), Option.bind_some]
    rw [ev_ite_iff, if_neg (by omega), ev_ite_iff, if_neg (by omega), ev_ite_iff, if_pos (by show 1 + s.size ≤ _; omega)]
    exact hr
  unfold spec_FormatInt.f fmtB
  rw [ev_ite_iff]
  split
  · rename_i h0
    have : n = 0 := by omega
    subst this
    exact ev_some_iff.2 (by rw [show ((0 : Nat) : Int).toNat = 0 from rfl, Go.Lib.decDigits_one (by omega)]; rfl)
  · rename_i h0
    have hn : 0 < n := by omega
    by_cases h1 : n < 10
    · refine hround _ _ _ n hn h (by show 0 < 100; omega) ?_
      rw [show n / 10 = 0 by omega, show n % 10 = n by omega]
      refine ev_as (hend _ _ (by omega)) ?_
      rw [Int.toNat_natCast, Go.Lib.decDigits_one h1]
      rfl
    · refine hround _ _ _ n hn h (by show 0 < 100; omega) (hround _ _ _ (n / 10) (by omega) (by omega) (by show 1 + 0 < 100; omega) ?_)
      rw [show n / 10 / 10 = 0 by omega, show n / 10 % 10 = n / 10 by omega]
      refine ev_as (hend _ _ (by omega)) ?_
      rw [Int.toNat_natCast, Go.Lib.decDigits_two h1 h]
      rfl
theorem fmtB_size (n : Nat) (h : n < 100) : (fmtB n).size ≤ 2 := by
  unfold fmtB
  rw [Int.toNat_natCast]
  by_cases h1 : n < 10
  · rw [Go.Lib.decDigits_one h1]; show 1 ≤ 2; omega
  · rw [Go.Lib.decDigits_two h1 h]; show 2 ≤ 2; omega
theorem impl_FormatInt_eq (n : Nat) (h : n < 100) : impl_FormatInt.f (n : Int) = some (fmtB n) := by
  unfold impl_FormatInt.f strconv_Itoa.f fmtB
  rw [if_pos (by omega), if_pos (by omega)]
  rfl
def clueTextB (a : Int) (l : List S45) : ByteArray := if isClueB a l = true then (if (playTextB l).toList = ([] : List UInt8) then (⟨#[]⟩ : ByteArray) else ((fmtB a ++ (⟨#[58]⟩ : ByteArray)) ++ playTextB l)) else (⟨#[]⟩ : ByteArray)
theorem isClueB_range {a : Int} {l : List S45} (h : isClueB a l = true) : 1 ≤ a ∧ a ≤ 99 := by
  unfold isClueB at h
  rw [Bool.and_eq_true] at h
  exact of_decide_eq_true h.1
theorem isClueB_play {a : Int} {l : List S45} (h : isClueB a l = true) : isPlayB l = true := by
  unfold isClueB at h
  rw [Bool.and_eq_true] at h
  exact h.2
theorem playTextB_size (l : List S45) : (playTextB l).size ≤ 80 := by
  unfold playTextB
  split
  · split
    · show 0 ≤ 80; omega
    · omega
  · show 0 ≤ 80; omega
theorem spec_ClueText_ev (a : Int) (l : List S45) (hl : l.length < 4611686018427387904) : Ev (fun k => spec_ClueText.f k a l) (clueTextB a l) := by
  unfold spec_ClueText.f clueTextB
  rw [ev_bind_iff (spec_PlayText_ev l hl), ev_bind_iff (spec_IsClue_ev a l hl), ev_ite_iff]
  split
  · rename_i h
    have hr := isClueB_range h
    rw [ev_ite_iff]
    split
    · exact ev_some _
    · obtain ⟨m, rfl⟩ : ∃ m : Nat, a = (m : Int) := ⟨a.toNat, by omega⟩
      have h1 := fmtB_size m (by omega)
      have h2 := playTextB_size l
      rw [ev_bind_iff (spec_FormatInt_ev m (by omega)), ev_ite_iff, if_pos (by omega), ev_ite_iff, if_pos (by rw [ByteArray.size_append]; have e1 : (⟨#[58]⟩ : ByteArray).size = 1 := rfl; omega)]
      exact ev_some _
  · exact ev_some _
theorem impl_ClueText_ev (a : Int) (l : List S45) (hl : l.length < 4611686018427387904) : Ev (fun k => impl_ClueText.f k a l) (clueTextB a l) := by
  unfold impl_ClueText.f clueTextB
  rw [ev_bind_iff (impl_PlayText_ev l hl), ev_bind_iff (impl_IsClue_ev a l hl), ev_ite_iff]
  split
  · rename_i h
    have hr := isClueB_range h
    rw [ev_ite_iff]
    split
    · exact ev_some _
    · obtain ⟨m, rfl⟩ : ∃ m : Nat, a = (m : Int) := ⟨a.toNat, by omega⟩
      have h1 := fmtB_size m (by omega)
      have h2 := playTextB_size l
      rw [impl_FormatInt_eq m (by omega), Option.bind_some, ev_ite_iff, if_pos (by omega), ev_ite_iff, if_pos (by rw [ByteArray.size_append]; have e1 : (⟨#[58]⟩ : ByteArray).size = 1 := rfl; omega)]
      exact ev_some _
  · exact ev_some _
theorem FnExactClueText : laws_FnExactClueText.Pure := by
  intro y ⟨h0, h1, h2, h3⟩
  refine Ev.rounds ?_
  unfold laws_FnExactClueText.f
  obtain ⟨r, hr, _⟩ := szClue_ev y.f0 y.f1 (by omega) (fun x hx => (h3 x hx).2.1) 1048576 (by omega) (by omega)
  rw [ev_bind_iff hr, ev_ite_iff]
  split
  · exact ev_some _
  have hto := toClue_ev y.f0 y.f1 (by omega)
  have hl : (y.f1.map toStep).length = y.f1.length := List.length_map _
  have s := spec_ClueText_ev y.f0 (y.f1.map toStep) (by omega)
  have i := impl_ClueText_ev y.f0 (y.f1.map toStep) (by omega)
  have e' := eqClue_ev y.f0 (y.f1.map toStep) (by omega)
  simp only [ev_bind_iff hto, ev_bind_iff s, ev_bind_iff i, ev_bind_iff e', ev_ite_iff, if_true]
  exact ev_some _
end Go.Proofs.YtddacmgigolcbaaDoor.Pure
