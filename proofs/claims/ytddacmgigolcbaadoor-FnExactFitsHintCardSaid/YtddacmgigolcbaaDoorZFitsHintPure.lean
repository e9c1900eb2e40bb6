/- The program's FitsHint returns what the reference's returns, for every argument; no further condition. -/
import Derived.Test.YtddacmgigolcbaaDoorZFitsHintQ
import Derived.Test.YtddacmgigolcbaaDoorZFitsHintEv
namespace Go.Proofs.YtddacmgigolcbaaDoor.Pure
open Go.RowKit Go.Proofs.YtddacmgigolcbaaDoor.PFnExactFitsHint Go.Proofs.YtddacmgigolcbaaDoorW.PrintWords Go.Proofs.YtddacmgigolcbaaDoorW.PrintLast Go.Proofs.YtddacmgigolcbaaDoorW.PrintMore Go.Proofs.YtddacmgigolcbaaDoor.Sem
set_option linter.unusedVariables false
set_option linter.unusedSimpArgs false
theorem rdt_50 (xs : List S50) (i : Nat) (h : i < xs.length) : rd_T50 xs (i : Int) = xs[i] := by
  simp [rd_T50, List.getD_eq_getElem?_getD, List.getElem?_eq_getElem h]
theorem rdts_50 (xs : List S50) (i : Nat) (x : S50) (h : i < xs.length) : rd_T50 (xs.set i x) (i : Int) = x := by
  rw [rdt_50 _ i (by rw [List.length_set]; exact h), List.getElem_set_self]
theorem rdt_45 (xs : List S45) (i : Nat) (h : i < xs.length) : rd_T45 xs (i : Int) = xs[i] := by
  simp [rd_T45, List.getD_eq_getElem?_getD, List.getElem?_eq_getElem h]
theorem rdts_45 (xs : List S45) (i : Nat) (x : S45) (h : i < xs.length) : rd_T45 (xs.set i x) (i : Int) = x := by
  rw [rdt_45 _ i (by rw [List.length_set]; exact h), List.getElem_set_self]
theorem l1In_eq (a b c : Int) : spec_l1In.f a b c = some (decide (b ≤ a ∧ a ≤ c)) := by
  unfold spec_l1In.f
  by_cases h : b ≤ a <;> simp [h]
theorem InRange_eq (a b c : Int) : impl_InRange.f a b c = some (decide (b ≤ a ∧ a ≤ c)) := by
  unfold impl_InRange.f
  by_cases h : b ≤ a <;> simp [h]
theorem at_eq (a b : Int) : impl_at.f a b = some (decide (0 ≤ a ∧ a < b)) := by
  unfold impl_at.f
  by_cases h : 0 ≤ a <;> simp [h]
theorem isLetter_eq (a : Int) : impl_isLetter.f a = some (decide (97 ≤ a ∧ a ≤ 122)) := by
  unfold impl_isLetter.f
  by_cases h : 97 ≤ a <;> simp [h]
def letterB (c : Int) : Bool := decide (97 ≤ c ∧ c ≤ 122)
def isWordB (s : ByteArray) : Bool := decide (1 ≤ s.size ∧ s.size ≤ 8) && (bytesOf s).all letterB
theorem isWordB_size {s : ByteArray} (h : isWordB s = true) : 1 ≤ s.size ∧ s.size ≤ 8 := by
  simp [isWordB] at h
  exact h.1
theorem isWordB_letter {s : ByteArray} (h : isWordB s = true) : ∀ c ∈ bytesOf s, 97 ≤ c ∧ c ≤ 122 := by
  simp [isWordB, letterB] at h
  exact h.2
theorem spec_IsWord_ev (s : ByteArray) : Ev (fun k => spec_IsWord.f k s) (isWordB s) := by
  simp only [spec_IsWord.f, l1In_eq, Option.bind_some, ev_ite_iff, decide_eq_true_eq, isWordB]
  by_cases h : (1 : Int) ≤ s.size ∧ (s.size : Int) ≤ 8
  · rw [if_pos h]
    have h' : 1 ≤ s.size ∧ s.size ≤ 8 := by omega
    simp only [h', decide_true, Bool.true_and, and_self]
    refine loop_all (fun k i => spec_IsWord.l0 k s i) (bytesOf s) letterB ?_ (fun i hi hp r hr => ?_) (fun i hi hp => ?_)
    · rw [← ev_succ_iff]; simp [spec_IsWord.l0, bytesOf_length, ev_some]
    · have hi' : i < s.size := by rw [bytesOf_length] at hi; exact hi
      rw [← ev_succ_iff]
      simp [letterB] at hp
      simp only [spec_IsWord.l0, bt_nat s i hi', w_succ (i := i) (by omega)]
      rw [ev_ite_iff, if_pos (by omega), ev_ite_iff, if_pos (by omega), ev_ite_iff, if_neg (by omega), ev_ite_iff, if_neg (by omega)]
      exact hr
    · have hi' : i < s.size := by rw [bytesOf_length] at hi; exact hi
      rw [← ev_succ_iff]
      simp [letterB] at hp
      simp only [spec_IsWord.l0, bt_nat s i hi', w_succ (i := i) (by omega)]
      rw [ev_ite_iff, if_pos (by omega), ev_ite_iff, if_pos (by omega), ev_ite_iff]
      by_cases h1 : (bytesOf s)[i] < 97
      · rw [if_pos h1]; exact ev_some _
      · rw [if_neg h1, ev_ite_iff, if_pos (by omega)]; exact ev_some _
  · rw [if_neg h]
    have h' : ¬ (1 ≤ s.size ∧ s.size ≤ 8) := by omega
    simp [h', ev_some]
theorem impl_IsWord_ev (s : ByteArray) : Ev (fun k => impl_IsWord.f k s) (isWordB s) := by
  simp only [impl_IsWord.f, InRange_eq, Option.bind_some, ev_ite_iff, decide_eq_true_eq, isWordB]
  by_cases h : (1 : Int) ≤ s.size ∧ (s.size : Int) ≤ 8
  · rw [if_pos h]
    have h' : 1 ≤ s.size ∧ s.size ≤ 8 := by omega
    simp only [h', decide_true, Bool.true_and, and_self]
    refine loop_all (fun k i => impl_IsWord.l0 k s (s.size : Int) i) (bytesOf s) letterB ?_ (fun i hi hp r hr => ?_) (fun i hi hp => ?_)
    · rw [← ev_succ_iff]; simp [impl_IsWord.l0, bytesOf_length, ev_some]
    · have hi' : i < s.size := by rw [bytesOf_length] at hi; exact hi
      rw [← ev_succ_iff]
      simp [letterB] at hp
      simp only [impl_IsWord.l0, bt_nat s i hi', w_succ (i := i) (by omega), isLetter_eq, Option.bind_some]
      rw [ev_ite_iff, if_pos (by omega), ev_ite_iff, if_pos (by omega), ev_ite_iff, if_pos (by omega), ev_ite_iff, if_pos (by simpa using hp)]
      exact hr
    · have hi' : i < s.size := by rw [bytesOf_length] at hi; exact hi
      rw [← ev_succ_iff]
      simp only [letterB] at hp
      simp only [impl_IsWord.l0, bt_nat s i hi', w_succ (i := i) (by omega), isLetter_eq, Option.bind_some]
      rw [ev_ite_iff, if_pos (by omega), ev_ite_iff, if_pos (by omega), ev_ite_iff, if_pos (by omega), ev_ite_iff, if_neg (by rw [hp]; decide)]
      exact ev_some _
  · rw [if_neg h]
    have h' : ¬ (1 ≤ s.size ∧ s.size ≤ 8) := by omega
    simp [h', ev_some]
theorem szStepS_ev (l : List S50) (hl : l.length < 4611686018427387904) (hs : ∀ x ∈ l, x.f1.size ≤ 140737488351232) (a : Int) (ha : 0 ≤ a) (ha' : a ≤ 1048576) : ∃ r, Ev (fun k => laws_szStepS.f k l a) r ∧ r ≤ 1048576 := by
  unfold laws_szStepS.f
  have w1 : wrap64 (a - (l.length : Int)) = a - l.length := w_in (by omega) (by omega)
  simp only [ev_ite_iff, ev_some_iff, w1]
  by_cases h : a - (l.length : Int) < 0
  · exact ⟨-1, by simp [h]⟩
  · simp only [h, if_false]
    refine loop_size (fun k b i => laws_szStepS.l0 k l b i) l 1048576 (fun b => ?_) (fun i hi b hb hb' => ?_) _ (by omega) (by omega)
    · rw [← ev_succ_iff]
      simp only [laws_szStepS.l0]
      rw [ev_ite_iff, if_neg (by omega)]
      exact ev_some _
    · have hsz := hs _ (List.getElem_mem hi)
      have w3 : wrap64 (b - (l[i].f1.size : Int)) = b - l[i].f1.size := w_in (by omega) (by omega)
      by_cases h2 : b - (l[i].f1.size : Int) < 0
      · refine .inl ?_
        rw [← ev_succ_iff]
        simp only [laws_szStepS.l0, laws_szStep.f, rdt_50 l i hi, w_succ (i := i) (by omega), w3, if_pos h2, Option.bind_some]
        simp [ev_ite_iff, ev_some_iff, hi]
      · refine .inr ⟨b - l[i].f1.size, by omega, by omega, fun r hr => ?_⟩
        rw [← ev_succ_iff]
        simp only [laws_szStepS.l0, laws_szStep.f, rdt_50 l i hi, w_succ (i := i) (by omega), w3, if_neg h2, Option.bind_some]
        rw [ev_ite_iff, if_pos (by omega), ev_ite_iff, if_pos (by omega)]
        exact hr
def toStep (x : S50) : S45 := ⟨x.f0, x.f1, x.f2, x.f3⟩
theorem toStepS_ev (l : List S50) (hl : l.length ≤ 3518437208883) : Ev (fun k => laws_toStepS.f k l) (l.map toStep) := by
  unfold laws_toStepS.f
  rw [ev_ite_iff, if_pos (by omega), ev_ite_iff, if_pos (by omega)]
  refine loop_fill (fun k s i => laws_toStepS.l0 k l s i) l toStep z45 (fun s hs => ?_) (fun i hi s hs r hr => ?_)
  · rw [← ev_succ_iff]
    simp [laws_toStepS.l0, ev_some]
  · rw [← ev_succ_iff]
    simp only [laws_toStepS.l0, laws_toStep.f, rdt_50 l i hi, w_succ (i := i) (by omega), Option.bind_some]
    simp [ev_ite_iff, hi, hs]
    exact hr
theorem eqStepS_ev (l : List S45) (hl : l.length < 4611686018427387904) : Ev (fun k => laws_eqStepS.f k l l) true := by
  unfold laws_eqStepS.f
  rw [ev_ite_iff, if_pos rfl]
  refine ev_as (loop_all (fun k i => laws_eqStepS.l0 k l l i) l (fun _ => true) ?_ (fun i hi hp r hr => ?_) (fun i hi hp => by cases hp)) (by simp)
  · rw [← ev_succ_iff]; simp [laws_eqStepS.l0, ev_some]
  · rw [← ev_succ_iff]
    simp only [laws_eqStepS.l0, laws_eqStep.f, w_succ (i := i) (by omega)]
    simp [ev_ite_iff, hi]
    exact hr
theorem szClue_ev (a0 : Int) (l : List S50) (hl : l.length < 4611686018427387904) (hs : ∀ x ∈ l, x.f1.size ≤ 140737488351232) (a : Int) (ha : 0 ≤ a) (ha' : a ≤ 1048576) : ∃ r, Ev (fun k => laws_szClue.f k a0 l a) r ∧ r ≤ 1048576 := by
  obtain ⟨r, hr, hb⟩ := szStepS_ev l hl hs a ha ha'
  unfold laws_szClue.f
  by_cases h : r < 0
  · exact ⟨-1, by rw [ev_bind_iff hr, ev_ite_iff, if_pos h]; exact ev_some _, by omega⟩
  · exact ⟨r, by rw [ev_bind_iff hr, ev_ite_iff, if_neg h]; exact ev_some _, hb⟩
theorem toClue_ev (a0 : Int) (l : List S50) (hl : l.length ≤ 3518437208883) : Ev (fun k => laws_toClue.f k a0 l) (a0, l.map toStep) := by
  unfold laws_toClue.f
  rw [ev_bind_iff (toStepS_ev l hl)]
  exact ev_some _
theorem eqClue_ev (a0 : Int) (l : List S45) (hl : l.length < 4611686018427387904) : Ev (fun k => laws_eqClue.f k a0 l a0 l) true := by
  unfold laws_eqClue.f
  rw [ev_ite_iff, if_pos rfl, ev_bind_iff (eqStepS_ev l hl), ev_ite_iff, if_pos rfl]
  exact ev_some _
def okTail (l : List S45) (i : Nat) (two : Bool) (kind A B : Int) : Bool :=
  if kind = 1 then decide (A = 0 ∧ B = 0) else decide (0 ≤ A ∧ A < i) && (if two = true then decide (0 ≤ B ∧ B < i) else decide (B = 0) && (decide (kind = 2) || decide ((rd_T45 l A).f0 = 1)))
def okStep (l : List S45) (i : Nat) : Bool :=
  decide (1 ≤ (rd_T45 l i).f0 ∧ (rd_T45 l i).f0 ≤ 9) && ((if (rd_T45 l i).f0 = 1 then isWordB (rd_T45 l i).f1 else decide ((rd_T45 l i).f1.size = 0)) && okTail l i (decide ((rd_T45 l i).f0 = 4 ∨ (rd_T45 l i).f0 = 5)) (rd_T45 l i).f0 (rd_T45 l i).f2 (rd_T45 l i).f3)
theorem l15Ok_j1 (l : List S45) (i : Nat) (hi : i < l.length) (hl : l.length < 4611686018427387904) (two : Bool) (kind : Int) (word : ByteArray) (A B : Int) : Ev (fun k => spec_l15Ok.j1 k l (i : Int) two kind word A B) (okTail l i two kind A B) := by
  have e : wrap64 ((i : Int) - 1) = i - 1 := w_in (by omega) (by omega)
  rw [← ev_succ_iff]
  simp only [spec_l15Ok.j1, l1In_eq, Option.bind_some, e, okTail, ev_ite_iff]
  by_cases h1 : kind = 1
  · by_cases h2 : A = 0 <;> simp [h1, h2, ev_some_iff] <;> rfl
  · rw [if_neg h1, if_neg h1]
    by_cases h2 : 0 ≤ A ∧ A < (i : Int)
    · have h2' : 0 ≤ A ∧ A ≤ (i : Int) - 1 := by omega
      simp only [h2, h2', and_self, decide_true, if_true, Bool.true_and]
      cases two
      · simp only [Bool.false_eq_true, if_false]
        by_cases h3 : B = 0
        · by_cases h4 : kind = 2
          · simp [h3, h4, ev_some_iff]
          · simp only [h3, h4, if_true, if_false, decide_true, decide_false, Bool.true_and, Bool.false_or]
            rw [if_pos (by omega), ev_some_iff]
            rfl
        · simp [h3, ev_some_iff]
      · simp only [if_true]
        by_cases h3 : 0 ≤ B ∧ B < (i : Int)
        · have h3' : 0 ≤ B ∧ B ≤ (i : Int) - 1 := by omega
          simp [h3, h3', ev_some_iff]
        · have h3' : ¬ (0 ≤ B ∧ B ≤ (i : Int) - 1) := by omega
          simp [h3, h3', ev_some_iff]
    · have h2' : ¬ (0 ≤ A ∧ A ≤ (i : Int) - 1) := by omega
      simp [h2, h2', ev_some_iff]
theorem l15Ok_j0 (l : List S45) (i : Nat) (hi : i < l.length) (hl : l.length < 4611686018427387904) (b : Bool) (kind : Int) (word : ByteArray) (A B : Int) : Ev (fun k => spec_l15Ok.j0 k l (i : Int) b kind word A B) (!b && okTail l i (decide (kind = 4 ∨ kind = 5)) kind A B) := by
  rw [← ev_succ_iff]
  simp only [spec_l15Ok.j0, ev_ite_iff]
  cases b
  · simp only [Bool.false_eq_true, if_false, Bool.not_false, Bool.true_and]
    by_cases h : kind = 4
    · simp only [h, if_true, true_or, decide_true]
      exact l15Ok_j1 l i hi hl _ _ _ _ _
    · simp only [h, if_false, false_or]
      have := l15Ok_j1 l i hi hl (kind == 5) kind word A B
      exact this
  · simp [ev_some_iff]
theorem spec_l15Ok_ev (l : List S45) (i : Nat) (hi : i < l.length) (hl : l.length < 4611686018427387904) : Ev (fun k => spec_l15Ok.f k l (i : Int)) (okStep l i) := by
  unfold spec_l15Ok.f
  rw [ev_ite_iff, if_pos (by omega), ev_ite_iff, if_pos (by omega)]
  simp only [l1In_eq, Option.bind_some, decide_eq_true_eq]
  unfold okStep
  generalize rd_T45 l (i : Int) = s
  rw [ev_ite_iff]
  by_cases h1 : 1 ≤ s.f0 ∧ s.f0 ≤ 9
  · rw [if_pos h1, ev_bind_iff (spec_IsWord_ev s.f1), ev_ite_iff]
    simp only [h1, and_self, decide_true, Bool.true_and]
    by_cases h2 : s.f0 = 1
    · simp only [h2, beq_self_eq_true, if_true, ev_ite_iff]
      cases hw : isWordB s.f1
      · simp only [Bool.true_bne, Bool.not_false, if_true]
        exact ev_as (l15Ok_j0 l i hi hl _ _ _ _ _) (by simp)
      · simp only [Bool.true_bne, Bool.not_true, Bool.false_eq_true, if_false]
        exact ev_as (l15Ok_j0 l i hi hl _ _ _ _ _) (by simp)
    · have h2' : (s.f0 == 1) = false := by simpa using h2
      simp only [h2, h2', if_false, ev_ite_iff, Bool.false_bne]
      cases hw : isWordB s.f1
      · simp only [Bool.false_eq_true, if_false]
        refine ev_as (l15Ok_j0 l i hi hl _ _ _ _ _) ?_
        congr 1
        rw [Bool.eq_iff_iff]
        simp [bne, toList_nil]
      · have hz : ¬ s.f1.size = 0 := by have := isWordB_size hw; omega
        simp only [if_true]
        exact ev_as (l15Ok_j0 l i hi hl _ _ _ _ _) (by simp [hz])
  · rw [if_neg h1]
    simp only [h1, decide_false, Bool.false_and]
    exact ev_as (l15Ok_j0 l i hi hl _ _ _ _ _) (by simp)
def isPlayB (l : List S45) : Bool := decide (1 ≤ l.length ∧ l.length ≤ 9) && (List.range l.length).all (okStep l)
theorem isPlayB_len {l : List S45} (h : isPlayB l = true) : 1 ≤ l.length ∧ l.length ≤ 9 := by
  simp [isPlayB] at h
  exact h.1
theorem isPlayB_step {l : List S45} (h : isPlayB l = true) (i : Nat) (hi : i < l.length) : okStep l i = true := by
  simp [isPlayB] at h
  exact h.2 i hi
theorem spec_IsPlay_ev (l : List S45) (hl : l.length < 4611686018427387904) : Ev (fun k => spec_IsPlay.f k l) (isPlayB l) := by
  unfold spec_IsPlay.f
  have hend : ∀ i : Nat, Ev (fun k => spec_IsPlay.j1 k l (i : Int) false) (decide (1 ≤ l.length ∧ l.length ≤ 9)) := by
    intro i
    rw [← ev_succ_iff]
    simp only [spec_IsPlay.j1, l1In_eq, Option.bind_some, Bool.false_eq_true, if_false, ev_some_iff]
    rw [Bool.eq_iff_iff]
    simp
    omega
  have := loop_up0 (fun k i => spec_IsPlay.l0 k l i) l.length (fun i => decide (1 ≤ l.length ∧ l.length ≤ 9) && ((List.range l.length).drop i).all (okStep l)) ?_ (fun i hi => ?_) 0 (Nat.zero_le _)
  · simpa [isPlayB] using this
  · rw [← ev_succ_iff]
    simp only [spec_IsPlay.l0]
    rw [ev_ite_iff, if_neg (by omega), List.drop_eq_nil_of_le (by simp)]
    simpa using hend l.length
  · have hd : (List.range l.length).drop i = i :: (List.range l.length).drop (i + 1) := by rw [List.drop_eq_getElem_cons (by simpa using hi)]; simp
    by_cases h9 : l.length ≤ 9
    · have hu : ∀ r, Ev (fun k => spec_IsPlay.l0 k l (i : Int)) r ↔ if okStep l i = true then Ev (fun k => spec_IsPlay.l0 k l ((i + 1 : Nat) : Int)) r else Ev (fun _ => some false) r := by
        intro r
        have h9' : decide ((l.length : Int) ≤ 9) = true := by simp; omega
        rw [← ev_succ_iff]
        simp only [spec_IsPlay.l0, h9']
        rw [ev_ite_iff, if_pos (by omega), ← ev_succ_iff]
        simp only [spec_IsPlay.j1, if_true, w_succ (i := i) (by omega)]
        rw [ev_bind_iff (spec_l15Ok_ev l i hi hl), ev_ite_iff]
      rw [hd, List.all_cons]
      by_cases ho : okStep l i = true
      · refine .inr ⟨by simp [ho], fun r hr => ?_⟩
        rw [hu, if_pos ho]
        exact hr
      · refine .inl ?_
        rw [hu, if_neg ho, ev_some_iff]
        simp [ho]
    · refine .inl ?_
      have h9' : decide ((l.length : Int) ≤ 9) = false := by simp; omega
      rw [← ev_succ_iff]
      simp only [spec_IsPlay.l0, h9']
      rw [ev_ite_iff, if_pos (by omega)]
      exact ev_as (hend i) (by simp [h9])
theorem isPair_eq (a : Int) : impl_isPair.f a = some (decide (a = 4 ∨ a = 5)) := by
  unfold impl_isPair.f
  by_cases h : a = 4
  · simp [h]
  · simp [h]; rfl
theorem needsWord_eq (a : Int) : impl_needsWord.f a = some (decide (a = 3 ∨ a ≥ 6)) := by
  unfold impl_needsWord.f
  by_cases h : a = 3 <;> simp [h]
theorem impl_IsPlay_j1 (l : List S45) (i : Nat) (hi : i < l.length) (hl : l.length < 4611686018427387904) (b : Bool) (kind : Int) (word : ByteArray) (A B : Int) (r : Bool) :
    Ev (fun k => impl_IsPlay.j1 k l (i : Int) l (l.length : Int) (i : Int) b kind word A B) r ↔ if (!b && (if kind = 4 ∨ kind = 5 then decide (0 ≤ B ∧ B < i) else decide (B = 0))) = true then Ev (fun k => impl_IsPlay.l0 k l l (l.length : Int) ((i + 1 : Nat) : Int)) r else Ev (fun _ => some false) r := by
  rw [← ev_succ_iff]
  simp only [impl_IsPlay.j1, isPair_eq, at_eq, Option.bind_some, w_succ (i := i) (by omega), ev_ite_iff, decide_eq_true_eq]
  cases b
  · by_cases h : kind = 4 ∨ kind = 5
    · by_cases h2 : 0 ≤ B ∧ B < (i : Int) <;> simp [h, h2]
    · by_cases h2 : B = 0 <;> simp [h, h2]
  · simp
theorem okStep_impl (l : List S45) (i : Nat) : okStep l i = (decide (1 ≤ (rd_T45 l i).f0 ∧ (rd_T45 l i).f0 ≤ 9) && (if (rd_T45 l i).f0 = 1 then isWordB (rd_T45 l i).f1 && decide ((rd_T45 l i).f2 = 0 ∧ (rd_T45 l i).f3 = 0)
    else decide ((rd_T45 l i).f1.size = 0) && (decide (0 ≤ (rd_T45 l i).f2 ∧ (rd_T45 l i).f2 < i) && (!(decide ((rd_T45 l i).f0 = 3 ∨ (rd_T45 l i).f0 ≥ 6) && decide (¬ (rd_T45 l (rd_T45 l i).f2).f0 = 1)) && (if (rd_T45 l i).f0 = 4 ∨ (rd_T45 l i).f0 = 5 then decide (0 ≤ (rd_T45 l i).f3 ∧ (rd_T45 l i).f3 < i) else decide ((rd_T45 l i).f3 = 0)))))) := by
  unfold okStep okTail
  generalize rd_T45 l (i : Int) = s
  generalize (rd_T45 l s.f2).f0 = a
  by_cases h1 : 1 ≤ s.f0 ∧ s.f0 ≤ 9
  · by_cases h2 : s.f0 = 1
    · simp [h2]
    · simp only [h1, h2, and_self, decide_true, Bool.true_and, if_false]
      by_cases h3 : s.f0 = 4 ∨ s.f0 = 5
      · have h4 : ¬ (s.f0 = 3 ∨ s.f0 ≥ 6) := by omega
        simp [h3, h4]
      · simp only [h3, decide_false, Bool.false_eq_true, if_false]
        by_cases h4 : s.f0 = 2
        · have h5 : ¬ (s.f0 = 3 ∨ s.f0 ≥ 6) := by omega
          simp [h4]
        · have h5 : s.f0 = 3 ∨ s.f0 ≥ 6 := by omega
          by_cases h6 : a = 1 <;> simp [h4, h5, h6]
  · simp [h1]
theorem impl_IsPlay_ev (l : List S45) (hl : l.length < 4611686018427387904) : Ev (fun k => impl_IsPlay.f k l) (isPlayB l) := by
  unfold impl_IsPlay.f
  simp only [InRange_eq, Option.bind_some, decide_eq_true_eq]
  unfold isPlayB
  rw [ev_ite_iff]
  by_cases hlen : 1 ≤ l.length ∧ l.length ≤ 9
  · rw [if_pos (by omega)]
    simp only [hlen, and_self, decide_true, Bool.true_and]
    have := loop_up0 (fun k i => impl_IsPlay.l0 k l l (l.length : Int) i) l.length (fun i => ((List.range l.length).drop i).all (okStep l)) ?_ (fun i hi => ?_) 0 (Nat.zero_le _)
    · simpa using this
    · rw [← ev_succ_iff]
      simp only [impl_IsPlay.l0]
      rw [ev_ite_iff, if_neg (by omega), ev_some_iff, List.drop_eq_nil_of_le (by simp)]
      simp
    · have hd : (List.range l.length).drop i = i :: (List.range l.length).drop (i + 1) := by rw [List.drop_eq_getElem_cons (by simpa using hi)]; simp
      have hu : ∀ r, Ev (fun k => impl_IsPlay.l0 k l l (l.length : Int) (i : Int)) r ↔ if okStep l i = true then Ev (fun k => impl_IsPlay.l0 k l l (l.length : Int) ((i + 1 : Nat) : Int)) r else Ev (fun _ => some false) r := by
        intro r
        rw [← ev_succ_iff]
        simp only [impl_IsPlay.l0, w_succ (i := i) (by omega), InRange_eq, needsWord_eq, at_eq, Option.bind_some, okStep_impl]
        generalize rd_T45 l (i : Int) = s
        simp only [ev_ite_iff, decide_eq_true_eq, ev_bind_iff (impl_IsWord_ev s.f1), impl_IsPlay_j1 l i hi hl, toList_nil]
        rw [if_pos (by omega), if_pos (by omega), if_pos (by omega)]
        by_cases h1 : 1 ≤ s.f0 ∧ s.f0 ≤ 9
        · by_cases h2 : s.f0 = 1
          · simp only [h2]
            cases hw : isWordB s.f1
            · simp
            · by_cases h3 : s.f2 = 0
              · by_cases h4 : s.f3 = 0 <;> simp [h3, h4]
              · simp [h3]
          · simp only [h1, h2, and_self, decide_true, Bool.true_and, if_true, if_false]
            by_cases h3 : s.f1.size = 0
            · by_cases h4 : 0 ≤ s.f2 ∧ s.f2 < (i : Int)
              · have h4' : s.f2 < (l.length : Int) := by omega
                by_cases h5 : s.f0 = 3 ∨ s.f0 ≥ 6
                · simp only [h3, h4, h4', h5, and_self, decide_true, if_true, Bool.true_and]
                  cases hb : ((rd_T45 l s.f2).f0 != 1)
                  · have hb' : (rd_T45 l s.f2).f0 = 1 := by simpa using hb
                    simp [hb']
                  · have hb' : ¬ (rd_T45 l s.f2).f0 = 1 := by simpa using hb
                    simp [hb']
                · simp [h3, h4, h5]
              · simp [h3, h4]
            · simp [h3]
        · simp [h1]
      rw [hd, List.all_cons]
      by_cases ho : okStep l i = true
      · refine .inr ⟨by simp [ho], fun r hr => ?_⟩
        rw [hu, if_pos ho]
        exact hr
      · refine .inl ?_
        rw [hu, if_neg ho, ev_some_iff]
        simp [ho]
  · rw [if_neg (by omega)]
    simp [hlen, ev_some_iff]
def isClueB (a : Int) (l : List S45) : Bool := decide (1 ≤ a ∧ a ≤ 99) && isPlayB l
theorem spec_IsClue_ev (a : Int) (l : List S45) (hl : l.length < 4611686018427387904) : Ev (fun k => spec_IsClue.f k a l) (isClueB a l) := by
  unfold spec_IsClue.f isClueB
  simp only [l1In_eq, Option.bind_some, ev_ite_iff, ev_bind_iff (spec_IsPlay_ev l hl), decide_eq_true_eq]
  by_cases h : 1 ≤ a ∧ a ≤ 99 <;> simp [h, ev_some_iff]
theorem impl_IsClue_ev (a : Int) (l : List S45) (hl : l.length < 4611686018427387904) : Ev (fun k => impl_IsClue.f k a l) (isClueB a l) := by
  unfold impl_IsClue.f isClueB
  simp only [InRange_eq, Option.bind_some, ev_ite_iff, ev_bind_iff (impl_IsPlay_ev l hl), decide_eq_true_eq]
  by_cases h : 1 ≤ a ∧ a ≤ 99 <;> simp [h, ev_some_iff]
/-- What is made step by step, each out of what was made before it. -/
def build {β : Type} (f : List β → S45 → β) : List β → List S45 → List β
  | acc, [] => acc
  | acc, s :: l => build f (acc ++ [f acc s]) l
def built {β : Type} (f : List β → S45 → β) (l : List S45) : List β := build f [] l
theorem build_append {β : Type} (f : List β → S45 → β) : ∀ (l m : List S45) (acc : List β), build f acc (l ++ m) = build f (build f acc l) m
  | [], m, acc => rfl
  | s :: l, m, acc => by simp only [List.cons_append, build]; exact build_append f l m _
theorem build_length {β : Type} (f : List β → S45 → β) : ∀ (l : List S45) (acc : List β), (build f acc l).length = acc.length + l.length
  | [], acc => by simp [build]
  | s :: l, acc => by simp only [build]; rw [build_length f l]; simp; omega
theorem built_length {β : Type} (f : List β → S45 → β) (l : List S45) : (built f l).length = l.length := by
  unfold built; rw [build_length]; simp
theorem build_mono {β : Type} (f : List β → S45 → β) : ∀ (l : List S45) (acc : List β) (j : Nat), j < acc.length → (build f acc l)[j]? = acc[j]?
  | [], acc, j, h => rfl
  | s :: l, acc, j, h => by
    simp only [build]
    rw [build_mono f l _ j (by simp; omega), List.getElem?_append_left h]
theorem built_succ {β : Type} (f : List β → S45 → β) (l : List S45) (i : Nat) (h : i < l.length) : built f (l.take (i + 1)) = built f (l.take i) ++ [f (built f (l.take i)) l[i]] := by
  rw [List.take_succ_eq_append_getElem h]
  unfold built
  rw [build_append]
  rfl
theorem built_take {β : Type} (f : List β → S45 → β) (l : List S45) (i j : Nat) (hj : j < i) (hi : i ≤ l.length) : (built f (l.take i))[j]? = (built f l)[j]? := by
  have e : built f l = build f (built f (l.take i)) (l.drop i) := by
    unfold built
    rw [← build_append, List.take_append_drop]
  rw [e, build_mono f _ _ _ (by rw [built_length, List.length_take]; omega)]
theorem built_get {β : Type} (f : List β → S45 → β) (l : List S45) (i : Nat) (h : i < l.length) : (built f l)[i]? = some (f (built f (l.take i)) l[i]) := by
  rw [← built_take f l (i + 1) i (by omega) (by omega), built_succ f l i h, List.getElem?_append_right (by rw [built_length, List.length_take]; omega)]
  rw [built_length, List.length_take, Nat.min_eq_left (by omega), Nat.sub_self]
  rfl
theorem okStep_parts {l : List S45} {i : Nat} (hi : i < l.length) (h : okStep l i = true) : (1 ≤ l[i].f0 ∧ l[i].f0 ≤ 9) ∧ (l[i].f0 = 1 → isWordB l[i].f1 = true) ∧ (¬ l[i].f0 = 1 → 0 ≤ l[i].f2 ∧ l[i].f2 < i) ∧ (l[i].f0 = 4 ∨ l[i].f0 = 5 → 0 ≤ l[i].f3 ∧ l[i].f3 < i) ∧ (¬ l[i].f0 = 1 → ¬ (l[i].f0 = 4 ∨ l[i].f0 = 5) → l[i].f3 = 0) ∧
    (l[i].f0 = 3 ∨ l[i].f0 ≥ 6 → (rd_T45 l l[i].f2).f0 = 1) ∧ (¬ l[i].f0 = 1 → l[i].f1.size = 0) ∧ (l[i].f0 = 1 → l[i].f2 = 0 ∧ l[i].f3 = 0) := by
  rw [okStep_impl, rdt_45 l i hi] at h
  simp only [Bool.and_eq_true, decide_eq_true_eq] at h
  obtain ⟨h1, h2⟩ := h
  refine ⟨h1, fun e => ?_, fun e => ?_, fun e => ?_, fun e e' => ?_, fun e => ?_, fun e => ?_, fun e => ?_⟩
  · rw [if_pos e] at h2; simp at h2; exact h2.1
  · rw [if_neg e] at h2; simp at h2; exact h2.2.1
  · have e' : ¬ l[i].f0 = 1 := by omega
    rw [if_neg e', if_pos e] at h2; simp at h2; exact h2.2.2.2
  · rw [if_neg e, if_neg e'] at h2; simp at h2; exact h2.2.2.2
  · have e' : ¬ l[i].f0 = 1 := by omega
    rw [if_neg e'] at h2; simp at h2
    have h3 := h2.2.2.1
    rcases h3 with h3 | h3
    · omega
    · exact h3
  · rw [if_neg e] at h2; simp at h2; rw [h2.1]; rfl
  · rw [if_pos e] at h2; simp at h2; exact h2.2
theorem spec_l8Has_ev (l : List Int) (x : Int) (hl : l.length < 4611686018427387904) : Ev (fun k => spec_l8Has.f k l x) (l.any (fun y => decide (y = x))) := by
  refine loop_any (fun k i => spec_l8Has.l0 k l x i) l _ ?_ (fun i hi hp r hr => ?_) (fun i hi hp => ?_)
  · rw [← ev_succ_iff]; simp [spec_l8Has.l0, ev_some]
  · rw [← ev_succ_iff]
    simp only [spec_l8Has.l0, rd_nat l i hi, w_succ (i := i) (by omega)]
    simp at hp
    simp [ev_ite_iff, hi, hp]
    exact hr
  · rw [← ev_succ_iff]
    simp only [spec_l8Has.l0, rd_nat l i hi, w_succ (i := i) (by omega)]
    simp at hp
    simp [ev_ite_iff, hi, hp, ev_some]
def putL (l : List Int) (n : Int) : List Int := if (l.dropWhile (· < n)).head? = some n then l else l.takeWhile (· < n) ++ n :: l.dropWhile (· < n)
theorem take_tw (l : List Int) (p : Int → Bool) : l.take (l.takeWhile p).length = l.takeWhile p ∧ l.drop (l.takeWhile p).length = l.dropWhile p := by
  have h := List.takeWhile_append_dropWhile (p := p) (l := l)
  constructor
  · conv => lhs; arg 2; rw [← h]
    exact List.take_left
  · conv => lhs; arg 2; rw [← h]
    exact List.drop_left
theorem tw_le (l : List Int) (p : Int → Bool) : (l.takeWhile p).length ≤ l.length := by
  have h := congrArg List.length (List.takeWhile_append_dropWhile (p := p) (l := l))
  rw [List.length_append] at h
  omega
theorem tw_get (l : List Int) (p : Int → Bool) (i : Nat) (h : i < (l.takeWhile p).length) : p (l[i]'(by have := tw_le l p; omega)) = true := by
  have e : l[i]'(by have := tw_le l p; omega) = (l.takeWhile p)[i] := by
    have h1 := (take_tw l p).1
    have h2 : (l.takeWhile p)[i]? = (l.take (l.takeWhile p).length)[i]? := by rw [h1]
    rw [List.getElem?_take, if_pos h, List.getElem?_eq_getElem h, List.getElem?_eq_getElem (by have := tw_le l p; omega)] at h2
    exact (Option.some.inj h2).symm
  rw [e]
  exact (List.all_eq_true.1 (List.all_takeWhile (p := p) (l := l))) _ (List.getElem_mem h)
theorem dw_head (p : Int → Bool) : ∀ (l : List Int) (x : Int) (xs : List Int), l.dropWhile p = x :: xs → p x = false
  | [], x, xs, h => by simp at h
  | y :: l, x, xs, h => by
    rw [List.dropWhile_cons] at h
    split at h
    · exact dw_head p l x xs h
    · rename_i hp
      rw [← (List.cons.inj h).1]
      simpa using hp
theorem spec_l9Put_ev (l : List Int) (n : Int) (hl : l.length < 8796093022208) : Ev (fun k => spec_l9Put.f k l n) (putL l n) := by
  have hle := tw_le l (· < n)
  have := loop_up0 (fun k i => spec_l9Put.l0 k l n i) (l.takeWhile (· < n)).length (fun _ => putL l n) ?_ (fun i hi => .inr ⟨rfl, fun r hr => ?_⟩) 0 (Nat.zero_le _)
  · exact this
  · obtain ⟨ht, hd⟩ := take_tw l (· < n)
    generalize htl : (l.takeWhile (· < n)).length = t at ht hd hle
    rw [← ev_succ_iff]
    simp only [spec_l9Put.l0, Option.bind_some, List.nil_append, List.length_nil, Nat.zero_add, Int.toNat_natCast, ev_ite_iff, List.length_append, List.length_cons, List.length_take, List.length_drop]
    unfold putL
    by_cases h : t < l.length
    · have hdc : l.dropWhile (· < n) = l[t] :: l.drop (t + 1) := by rw [← hd, List.drop_eq_getElem_cons h]
      have hnl : ¬ l[t] < n := by
        have h2 := dw_head (fun x => decide (x < n)) l _ _ hdc
        simpa using h2
      rw [if_pos (by omega), if_pos (by omega), rd_nat l t h, if_neg hnl, hdc]
      by_cases he : l[t] = n
      · rw [if_pos he, if_pos (by omega), if_pos (show (l[t] :: List.drop (t + 1) l).head? = some n by simp [he])]
        exact ev_some _
      · rw [if_neg (show ¬ (l[t] :: List.drop (t + 1) l).head? = some n from fun h => he (Option.some.inj h)), if_neg he, if_pos (by omega), if_pos (by omega), if_pos (by omega), if_pos (by omega), ev_some_iff, ht, hd, hdc]
        simp
    · have htl' : t = l.length := by omega
      have hdn : l.dropWhile (· < n) = [] := by rw [← hd, List.drop_eq_nil_of_le (by omega)]
      rw [if_neg (by omega), if_pos (by omega), if_pos (by omega), if_pos (by omega), if_pos (by omega), if_pos (by omega), ev_some_iff, ht, hd, hdn]
      simp
  · have hp := tw_get l (· < n) i hi
    have hp' : l[i]'(by omega) < n := by simpa using hp
    rw [← ev_succ_iff]
    simp only [spec_l9Put.l0, rd_nat l i (by omega), w_succ (i := i) (by omega)]
    rw [ev_ite_iff, if_pos (by omega), ev_ite_iff, if_pos (by omega), ev_ite_iff, if_pos hp']
    exact hr
theorem put_filter (p : Nat → Bool) (a : Nat) : ∀ xs : List Nat, xs.Pairwise (· < ·) → a ∈ xs → putL ((xs.filter p).map (fun j : Nat => (j : Int))) a = (xs.filter (fun j => p j || decide (j = a))).map (fun j : Nat => (j : Int))
  | [], _, h => by cases h
  | x :: xs, hs, h => by
    obtain ⟨h1, h2⟩ := List.pairwise_cons.1 hs
    by_cases hx : x = a
    · subst hx
      have hne : ∀ y ∈ xs, (p y || decide (y = x)) = p y := by
        intro y hy
        have := h1 y hy
        have : ¬ y = x := by omega
        simp [this]
      have hgt : ∀ y ∈ (xs.filter p).map (fun j : Nat => (j : Int)), ¬ y < (x : Int) ∧ ¬ y = (x : Int) := by
        intro y hy
        obtain ⟨z, hz, rfl⟩ := List.mem_map.1 hy
        have := h1 z (List.mem_filter.1 hz).1
        omega
      rw [List.filter_cons, List.filter_cons, List.filter_congr hne]
      simp only [decide_true, Bool.or_true, if_true, List.map_cons]
      cases hp : p x
      · simp only [Bool.false_eq_true, if_false]
        unfold putL
        cases hF : (xs.filter p).map (fun j : Nat => (j : Int)) with
        | nil => simp
        | cons y ys =>
          rw [hF] at hgt
          have hy := hgt y (List.mem_cons_self ..)
          simp [List.dropWhile_cons, List.takeWhile_cons, hy.1, hy.2]
      · simp only [if_true, List.map_cons]
        unfold putL
        simp [List.dropWhile_cons]
    · have ha : a ∈ xs := by
        rcases List.mem_cons.1 h with h | h
        · exact absurd h.symm hx
        · exact h
      have hlt : (x : Int) < (a : Int) := by have := h1 a ha; omega
      have ih := put_filter p a xs h2 ha
      rw [List.filter_cons, List.filter_cons]
      simp only [hx, decide_false, Bool.or_false]
      cases hp : p x
      · simpa using ih
      · simp only [if_true, List.map_cons]
        rw [← ih]
        unfold putL
        simp only [List.dropWhile_cons, List.takeWhile_cons, hlt, decide_true, if_true]
        split
        · rfl
        · rfl
def idx (u : List Bool) : List Int := ((List.range u.length).filter (fun j => u.getD j false)).map (fun j : Nat => (j : Int))
def ustep (l : List S45) (i : Nat) (u : List Bool) : List Bool :=
  if u.getD i false = true ∧ ¬ (rd_T45 l i).f0 = 1 then (if (rd_T45 l i).f0 = 4 ∨ (rd_T45 l i).f0 = 5 then (u.set (rd_T45 l i).f2.toNat true).set (rd_T45 l i).f3.toNat true else u.set (rd_T45 l i).f2.toNat true) else u
def uloop (l : List S45) : Nat → List Bool → List Bool
  | 0, u => u
  | i + 1, u => uloop l i (ustep l i u)
theorem ustep_length (l : List S45) (i : Nat) (u : List Bool) : (ustep l i u).length = u.length := by
  unfold ustep
  split
  · split <;> simp
  · rfl
theorem uloop_length (l : List S45) : ∀ (i : Nat) (u : List Bool), (uloop l i u).length = u.length
  | 0, u => rfl
  | i + 1, u => by simp only [uloop]; rw [uloop_length l i, ustep_length]
def usedB (l : List S45) : List Bool := uloop l l.length ((List.replicate l.length false).set (l.length - 1) true)
def stepsB (l : List S45) : List Int := if isPlayB l = true then idx (usedB l) else []
theorem getD_set {u : List Bool} {a j : Nat} (h : a < u.length) : (u.set a true).getD j false = (u.getD j false || decide (j = a)) := by
  rw [List.getD_eq_getElem?_getD, List.getD_eq_getElem?_getD, List.getElem?_set]
  by_cases e : a = j
  · subst e; simp [h]
  · have e' : ¬ j = a := fun x => e x.symm
    simp [e, e']
theorem put_idx (u : List Bool) (a : Nat) (h : a < u.length) : putL (idx u) (a : Int) = idx (u.set a true) := by
  unfold idx
  rw [put_filter _ _ _ List.pairwise_lt_range (List.mem_range.2 h), List.length_set]
  congr 1
  exact List.filter_congr (fun j _ => (getD_set h).symm)
theorem idx_length (u : List Bool) : (idx u).length ≤ u.length := by
  unfold idx
  rw [List.length_map]
  exact Nat.le_trans (List.length_filter_le _ _) (by simp)
theorem idx_any (u : List Bool) (i : Nat) (h : i < u.length) : (idx u).any (fun y => decide (y = (i : Int))) = u.getD i false := by
  unfold idx
  rw [Bool.eq_iff_iff]
  simp only [List.any_map, List.any_filter, List.any_eq_true, List.mem_range, Function.comp, Bool.and_eq_true, decide_eq_true_eq]
  constructor
  · rintro ⟨x, _, hx, e⟩
    have : x = i := by omega
    rw [← this]
    exact hx
  · intro hu
    exact ⟨i, h, hu, rfl⟩
theorem idx_start (n : Nat) (h : 0 < n) : idx ((List.replicate n false).set (n - 1) true) = [((n - 1 : Nat) : Int)] := by
  have e : ((List.range n).filter (fun j => ((List.replicate n false).set (n - 1) true).getD j false)) = [n - 1] := by
    have h1 : ∀ j, j < n → ((List.replicate n false).set (n - 1) true).getD j false = decide (j = n - 1) := by
      intro j hj
      rw [getD_set (by simp; omega)]
      simp [List.getD_eq_getElem?_getD, List.getElem?_replicate, hj]
    obtain ⟨m, rfl⟩ : ∃ m, n = m + 1 := ⟨n - 1, by omega⟩
    rw [List.filter_congr (q := fun j => decide (j = m)) (fun j hj => by rw [h1 j (List.mem_range.1 hj)]; simp), List.range_succ, List.filter_append]
    have h2 : (List.range m).filter (fun j => decide (j = m)) = [] := by
      rw [List.filter_eq_nil_iff]
      intro j hj
      have := List.mem_range.1 hj
      simp
      omega
    rw [h2]
    simp
  unfold idx
  rw [List.length_set, List.length_replicate, e]
  rfl
theorem spec_StepsUsed_loop (l : List S45) (hp : isPlayB l = true) : ∀ (i : Nat) (u : List Bool), i ≤ l.length → u.length = l.length → Ev (fun k => spec_StepsUsed.l0 k l (idx u) ((i : Int) - 1)) (idx (uloop l i u))
  | 0, u, _, _ => by
    rw [← ev_succ_iff]
    simp only [spec_StepsUsed.l0]
    rw [ev_ite_iff, if_neg (by omega)]
    exact ev_some _
  | i + 1, u, hi, hu => by
    have hlen := isPlayB_len hp
    obtain ⟨p1, p2, p3, p4, _⟩ := okStep_parts (show i < l.length by omega) (isPlayB_step hp i (by omega))
    have e : ((i + 1 : Nat) : Int) - 1 = (i : Int) := by omega
    have e' : wrap64 ((i : Int) - 1) = (i : Int) - 1 := w_in (by omega) (by omega)
    have hil := idx_length u
    have hr := rdt_45 l i (by omega)
    have next := fun v (hv : v.length = l.length) => spec_StepsUsed_loop l hp i v (by omega) hv
    have hskip : Ev (fun k => spec_StepsUsed.j1 k l (idx u) (i : Int) true) (idx (uloop l i u)) := by
      rw [← ev_succ_iff]
      simp only [spec_StepsUsed.j1, if_true, e']
      exact next u hu
    rw [e, ← ev_succ_iff]
    simp only [spec_StepsUsed.l0, uloop]
    rw [ev_ite_iff, if_pos (by omega), ev_bind_iff (spec_l8Has_ev (idx u) i (by omega)), idx_any u i (by omega), ev_ite_iff, hr]
    unfold ustep
    rw [hr]
    cases hui : u.getD i false
    · simp only [Bool.false_eq_true, if_false, false_and]
      exact hskip
    · simp only [if_true, true_and]
      rw [ev_ite_iff, if_pos (by omega), ev_ite_iff, if_pos (by omega)]
      by_cases h1 : l[i].f0 = 1
      · simp only [h1, beq_self_eq_true, not_true_eq_false, if_false]
        exact hskip
      · have h1' : (l[i].f0 == 1) = false := by simpa using h1
        have q3 := p3 h1
        simp only [h1, h1', not_false_eq_true, if_true]
        rw [← ev_succ_iff]
        simp only [spec_StepsUsed.j1, Bool.false_eq_true, if_false, hr, e']
        have hA : ((l[i].f2.toNat : Nat) : Int) = l[i].f2 := by omega
        have hput := spec_l9Put_ev (idx u) l[i].f2 (by omega)
        rw [← hA, put_idx u _ (by omega), hA] at hput
        rw [ev_ite_iff, if_pos (by omega), ev_ite_iff, if_pos (by omega), ev_bind_iff hput]
        have hu1 : (u.set l[i].f2.toNat true).length = l.length := by rw [List.length_set]; exact hu
        by_cases h4 : l[i].f0 = 4 ∨ l[i].f0 = 5
        · have q4 := p4 h4
          have hB : ((l[i].f3.toNat : Nat) : Int) = l[i].f3 := by omega
          have hil1 := idx_length (u.set l[i].f2.toNat true)
          have hput2 := spec_l9Put_ev (idx (u.set l[i].f2.toNat true)) l[i].f3 (by omega)
          rw [← hB, put_idx _ _ (by omega), hB] at hput2
          have fin := next ((u.set l[i].f2.toNat true).set l[i].f3.toNat true) (by rw [List.length_set]; exact hu1)
          simp only [h4, if_true, ev_ite_iff, ev_bind_iff hput2]
          rcases h4 with h4 | h4
          · rw [if_pos h4]; exact fin
          · rw [if_neg (by omega), if_pos h4]; exact fin
        · have fin := next (u.set l[i].f2.toNat true) hu1
          simp only [h4, if_false, ev_ite_iff]
          rw [if_neg (by omega), if_neg (by omega)]
          exact fin
theorem spec_StepsUsed_ev (l : List S45) (hl : l.length < 4611686018427387904) : Ev (fun k => spec_StepsUsed.f k l) (stepsB l) := by
  unfold spec_StepsUsed.f stepsB
  simp only [Option.bind_some, List.length_nil, List.nil_append]
  rw [ev_bind_iff (spec_IsPlay_ev l hl), ev_ite_iff]
  split
  · rename_i hp
    have hlen := isPlayB_len hp
    have e : wrap64 ((l.length : Int) - 1) = (l.length : Int) - 1 := w_in (by omega) (by omega)
    have hs := idx_start l.length (by omega)
    have e2 : ((l.length - 1 : Nat) : Int) = (l.length : Int) - 1 := by omega
    rw [e2] at hs
    rw [ev_ite_iff, if_pos (by omega), e, ← hs]
    exact spec_StepsUsed_loop l hp l.length _ (Nat.le_refl _) (by simp)
  · exact ev_some _
theorem idx_flat (u : List Bool) : idx u = (List.range u.length).flatMap (fun j => if u.getD j false = true then [(j : Int)] else []) := by
  unfold idx
  generalize List.range u.length = xs
  induction xs with
  | nil => rfl
  | cons x xs ih =>
    rw [List.filter_cons, List.flatMap_cons, ← ih]
    split <;> simp
theorem impl_StepsUsed_l1 (u : List Bool) (hu : u.length < 8796093022208) : Ev (fun k => impl_StepsUsed.l1 k [] u (u.length : Int) 0) (idx u) := by
  rw [idx_flat]
  refine loop_collect (fun k s i => impl_StepsUsed.l1 k s u (u.length : Int) i) (List.range u.length) (fun j => if u.getD j false = true then [(j : Int)] else []) 0 (fun s => ?_) (fun i hi s hs r hr => ?_)
  · rw [← ev_succ_iff]; simp [impl_StepsUsed.l1, ev_some]
  · have hi' : i < u.length := by simpa using hi
    have hle : ((List.range u.length).take i).length ≤ i := by simp; omega
    have hs' : s.length ≤ i := by
      refine Nat.le_trans hs (Nat.le_trans ?_ hle)
      generalize (List.range u.length).take i = xs
      induction xs with
      | nil => simp
      | cons x xs ih => simp only [List.flatMap_cons, List.length_append, List.length_cons]; split <;> simp only [List.length_cons, List.length_nil] <;> omega
    have hg : (List.range u.length)[i] = i := by simp
    rw [hg] at hr
    have hrd : rdOf false u (i : Int) = u.getD i false := by simp [rdOf]
    rw [← ev_succ_iff]
    simp only [impl_StepsUsed.l1, w_succ (i := i) (by omega), hrd]
    rw [ev_ite_iff, if_pos (by omega), ev_ite_iff, if_pos (by omega), ev_ite_iff, if_pos (by omega), ev_ite_iff]
    by_cases h : u.getD i false = true
    · rw [if_pos h] at hr ⊢
      rw [ev_ite_iff, if_pos (by omega)]
      exact hr
    · rw [if_neg h, List.append_nil] at hr
      rw [if_neg h]
      exact hr
theorem impl_StepsUsed_loop (l : List S45) (hp : isPlayB l = true) : ∀ (i : Nat) (u : List Bool), i ≤ l.length → u.length = l.length → Ev (fun k => impl_StepsUsed.l0 k l u ((i : Int) - 1)) (idx (uloop l i u))
  | 0, u, _, hu => by
    have hlen := isPlayB_len hp
    rw [← ev_succ_iff]
    simp only [impl_StepsUsed.l0]
    rw [ev_ite_iff, if_neg (by omega)]
    exact impl_StepsUsed_l1 u (by omega)
  | i + 1, u, hi, hu => by
    have hlen := isPlayB_len hp
    obtain ⟨p1, p2, p3, p4, _⟩ := okStep_parts (show i < l.length by omega) (isPlayB_step hp i (by omega))
    have e : ((i + 1 : Nat) : Int) - 1 = (i : Int) := by omega
    have e' : wrap64 ((i : Int) - 1) = (i : Int) - 1 := w_in (by omega) (by omega)
    have hr := rdt_45 l i (by omega)
    have hrd : rdOf false u (i : Int) = u.getD i false := by simp [rdOf]
    have next := fun v (hv : v.length = l.length) => impl_StepsUsed_loop l hp i v (by omega) hv
    have hskip : ∀ a b c d, Ev (fun k => impl_StepsUsed.j1 k l u (i : Int) false a b c d) (idx (uloop l i u)) := by
      intro a b c d
      rw [← ev_succ_iff]
      simp only [impl_StepsUsed.j1, Bool.false_eq_true, if_false, e']
      exact next u hu
    rw [e, ← ev_succ_iff]
    simp only [impl_StepsUsed.l0, uloop, hrd]
    rw [ev_ite_iff, if_pos (by omega), ev_ite_iff, if_pos (by omega), ev_ite_iff, if_pos (by omega), ev_ite_iff, if_pos (by omega), ev_ite_iff, hr]
    unfold ustep
    rw [hr]
    cases hui : u.getD i false
    · simp only [Bool.false_eq_true, if_false, false_and]
      exact hskip _ _ _ _
    · simp only [if_true, true_and]
      by_cases h1 : l[i].f0 = 1
      · simp only [h1, bne_self_eq_false, not_true_eq_false, if_false]
        exact hskip _ _ _ _
      · have h1' : (l[i].f0 != 1) = true := by simpa using h1
        have q3 := p3 h1
        simp only [h1, h1', not_false_eq_true, if_true]
        rw [← ev_succ_iff]
        simp only [impl_StepsUsed.j1, if_true, isPair_eq, Option.bind_some, ev_ite_iff, decide_eq_true_eq, e']
        have hu1 : (u.set l[i].f2.toNat true).length = l.length := by rw [List.length_set]; exact hu
        rw [if_pos (by omega), if_pos (by omega)]
        by_cases h4 : l[i].f0 = 4 ∨ l[i].f0 = 5
        · have q4 := p4 h4
          simp only [h4, if_true]
          rw [if_pos (by omega), if_pos (by omega)]
          exact next _ (by rw [List.length_set]; exact hu1)
        · simp only [h4, if_false]
          exact next _ hu1
theorem impl_StepsUsed_ev (l : List S45) (hl : l.length < 4611686018427387904) : Ev (fun k => impl_StepsUsed.f k l) (stepsB l) := by
  unfold impl_StepsUsed.f stepsB
  rw [ev_bind_iff (impl_IsPlay_ev l hl), ev_ite_iff]
  split
  · rename_i hp
    have hlen := isPlayB_len hp
    have e : wrap64 ((l.length : Int) - 1) = (l.length : Int) - 1 := w_in (by omega) (by omega)
    have e2 : ((l.length : Int) - 1).toNat = l.length - 1 := by omega
    simp only [Option.bind_some, ev_ite_iff, e, e2, Int.toNat_natCast, List.length_replicate]
    rw [if_pos (by omega), if_pos (by omega), if_pos (by omega), if_pos (by omega)]
    exact impl_StepsUsed_loop l hp l.length _ (Nat.le_refl _) (by simp)
  · exact ev_some _
def fmtB (n : Int) : ByteArray := ⟨(Go.Lib.decDigits n.toNat).toArray⟩
theorem digit_nat (c : Nat) (h : c < 10) : strOfNums [(wrap64 (48 + (c : Int))) % 256] = (⟨[UInt8.ofNat (48 + c)].toArray⟩ : ByteArray) := by
  have e : wrap64 (48 + (c : Int)) % 256 = ((48 + c : Nat) : Int) := by rw [w_in (by omega) (by omega)]; omega
  rw [e]
  rfl
theorem spec_FormatInt_ev (n : Nat) (h : n < 100) : Ev (fun k => spec_FormatInt.f k (n : Int)) (fmtB n) := by
  have hend : ∀ (x : Int) (s : ByteArray), ¬ x < 0 → Ev (fun k => spec_FormatInt.l0 k x s 0) s := by
    intro x s hx
    rw [← ev_succ_iff]
    simp only [spec_FormatInt.l0, if_true]
    rw [ev_ite_iff, if_neg hx]
    exact ev_some _
  have hround : ∀ (x : Int) (s r : ByteArray) (m : Nat), 0 < m → m < 100 → s.size < 100 → Ev (fun k => spec_FormatInt.l0 k x ((⟨[UInt8.ofNat (48 + m % 10)].toArray⟩ : ByteArray) ++ s) ((m / 10 : Nat) : Int)) r → Ev (fun k => spec_FormatInt.l0 k x s (m : Int)) r := by
    intro x s r m h0 h1 hs hr
    have t1 : Int.tmod (m : Int) 10 = ((m % 10 : Nat) : Int) := by rw [Int.tmod_eq_emod_of_nonneg (by omega)]; omega
    have t2 : wrap64 (Int.tdiv (m : Int) 10) = ((m / 10 : Nat) : Int) := by rw [Int.tdiv_eq_ediv_of_nonneg (by omega), w_in (by omega) (by omega)]; omega
    rw [← ev_succ_iff]
    simp only [spec_FormatInt.l0, t1, t2, digit_nat (m % 10) (by omega), Option.bind_some]
    rw [ev_ite_iff, if_neg (by omega), ev_ite_iff, if_neg (by omega), ev_ite_iff, if_pos (by show 1 + s.size ≤ _; omega)]
    exact hr
  unfold spec_FormatInt.f fmtB
  rw [ev_ite_iff]
  split
  · rename_i h0
    have : n = 0 := by omega
    subst this
    exact ev_some_iff.2 (by rw [show ((0 : Nat) : Int).toNat = 0 from rfl, Go.Lib.decDigits_one (by omega)]; rfl)
  · rename_i h0
    have hn : 0 < n := by omega
    by_cases h1 : n < 10
    · refine hround _ _ _ n hn h (by show 0 < 100; omega) ?_
      rw [show n / 10 = 0 by omega, show n % 10 = n by omega]
      refine ev_as (hend _ _ (by omega)) ?_
      rw [Int.toNat_natCast, Go.Lib.decDigits_one h1]
      rfl
    · refine hround _ _ _ n hn h (by show 0 < 100; omega) (hround _ _ _ (n / 10) (by omega) (by omega) (by show 1 + 0 < 100; omega) ?_)
      rw [show n / 10 / 10 = 0 by omega, show n / 10 % 10 = n / 10 by omega]
      refine ev_as (hend _ _ (by omega)) ?_
      rw [Int.toNat_natCast, Go.Lib.decDigits_two h1 h]
      rfl
theorem fmtB_size (n : Nat) (h : n < 100) : (fmtB n).size ≤ 2 := by
  unfold fmtB
  rw [Int.toNat_natCast]
  by_cases h1 : n < 10
  · rw [Go.Lib.decDigits_one h1]; show 1 ≤ 2; omega
  · rw [Go.Lib.decDigits_two h1 h]; show 2 ≤ 2; omega
theorem impl_FormatInt_eq (n : Nat) (h : n < 100) : impl_FormatInt.f (n : Int) = some (fmtB n) := by
  unfold impl_FormatInt.f strconv_Itoa.f fmtB
  rw [if_pos (by omega), if_pos (by omega)]
  rfl
def kindNames : List ByteArray := [(⟨#[]⟩ : ByteArray), (⟨#[119, 111, 114, 100]⟩ : ByteArray), (⟨#[98, 97, 99, 107]⟩ : ByteArray), (⟨#[109, 105, 120]⟩ : ByteArray), (⟨#[106, 111, 105, 110]⟩ : ByteArray), (⟨#[105, 110]⟩ : ByteArray), (⟨#[104, 101, 97, 100]⟩ : ByteArray), (⟨#[110, 111, 104, 101, 97, 100]⟩ : ByteArray), (⟨#[110, 111, 116, 97, 105, 108]⟩ : ByteArray), (⟨#[104, 105, 100, 100, 101, 110]⟩ : ByteArray)]
def kindB (a : Int) : ByteArray := if 1 ≤ a ∧ a ≤ 9 then rdOf ByteArray.empty kindNames a else (⟨#[]⟩ : ByteArray)
theorem spec_KindName_eq (a : Int) : spec_KindName.f a = some (kindB a) := by
  have hl : ((kindNames.length : Nat) : Int) = 10 := rfl
  unfold spec_KindName.f kindB
  simp only [l1In_eq, Option.bind_some, decide_eq_true_eq]
  by_cases h : 1 ≤ a ∧ a ≤ 9
  · rw [if_pos h, if_pos h, if_pos (by omega)]
    show (if a < ((kindNames.length : Nat) : Int) then (some (rdOf ByteArray.empty kindNames a)) else none) = _
    rw [if_pos (by omega)]
  · rw [if_neg h, if_neg h]
theorem impl_KindName_eq (a : Int) : impl_KindName.f a = some (kindB a) := by
  have hl : ((kindNames.length : Nat) : Int) = 10 := rfl
  unfold impl_KindName.f kindB
  simp only [at_eq, Option.bind_some, decide_eq_true_eq]
  show (if 0 ≤ a ∧ a < ((kindNames.length : Nat) : Int) then (if 0 ≤ a then (if a < ((kindNames.length : Nat) : Int) then some (rdOf ByteArray.empty kindNames a) else none) else none) else some (⟨#[]⟩ : ByteArray)) = _
  rw [hl]
  by_cases h : 1 ≤ a ∧ a ≤ 9
  · rw [if_pos h, if_pos (by omega), if_pos (by omega), if_pos (by omega)]
  · rw [if_neg h]
    by_cases h0 : a = 0
    · subst h0
      rfl
    · rw [if_neg (by omega)]
def headB (s : ByteArray) : ByteArray := if isWordB s = true then s.extract 0 1 else (⟨#[]⟩ : ByteArray)
theorem spec_HeadOf_ev (s : ByteArray) : Ev (fun k => spec_HeadOf.f k s) (headB s) := by
  unfold spec_HeadOf.f headB
  rw [ev_bind_iff (spec_IsWord_ev s), ev_ite_iff]
  split
  · rename_i h
    have := isWordB_size h
    rw [ev_ite_iff, if_pos (by omega), ev_ite_iff, if_pos (by omega)]
    exact ev_some _
  · exact ev_some _
theorem impl_HeadOf_ev (s : ByteArray) : Ev (fun k => impl_HeadOf.f k s) (headB s) := by
  unfold impl_HeadOf.f headB
  rw [ev_bind_iff (impl_IsWord_ev s), ev_ite_iff]
  split
  · rename_i h
    have := isWordB_size h
    rw [ev_ite_iff, if_pos (by omega), ev_ite_iff, if_pos (by omega)]
    exact ev_some _
  · exact ev_some _
theorem isClueB_play' {a : Int} {l : List S45} (h : isClueB a l = true) : isPlayB l = true := by
  unfold isClueB at h
  rw [Bool.and_eq_true] at h
  exact h.2
theorem stepsB_len (l : List S45) : (stepsB l).length ≤ l.length := by
  unfold stepsB
  split
  · refine Nat.le_trans (idx_length _) ?_
    unfold usedB
    rw [uloop_length]
    simp
  · simp
def hintB (a : Int) (l : List S45) (s : ByteArray) (v : Int) : ByteArray :=
  if isClueB a l = true ∧ isWordB s = true then (if v = 1 then kindB (rd_T45 l ((l.length : Int) - 1)).f0 else if v = 2 then fmtB ((stepsB l).length : Int) else if v = 3 then headB s else if v = 4 then s else (⟨#[]⟩ : ByteArray)) else (⟨#[]⟩ : ByteArray)
theorem spec_HintFor_ev (a : Int) (l : List S45) (s : ByteArray) (v : Int) (hl : l.length < 4611686018427387904) : Ev (fun k => spec_HintFor.f k a l s v) (hintB a l s v) := by
  unfold spec_HintFor.f hintB
  rw [ev_bind_iff (spec_IsClue_ev a l hl), ev_ite_iff]
  split
  · rename_i h
    rw [ev_bind_iff (spec_IsWord_ev s), ← ev_succ_iff]
    simp only [spec_HintFor.j0]
    have hp := isPlayB_len (isClueB_play' h)
    have e : wrap64 ((l.length : Int) - 1) = (l.length : Int) - 1 := w_in (by omega) (by omega)
    have hst := stepsB_len l
    rw [ev_ite_iff]
    by_cases hw : isWordB s = true
    · rw [if_neg (by rw [hw]; decide), if_pos (show isClueB a l = true ∧ isWordB s = true from ⟨h, hw⟩)]
      simp only [e, spec_KindName_eq, Option.bind_some]
      simp only [ev_ite_iff, ev_bind_iff (spec_StepsUsed_ev l hl), ev_bind_iff (spec_HeadOf_ev s), ev_bind_iff (spec_FormatInt_ev (stepsB l).length (by omega)), ev_some_iff]
      split
      · first
          | (rw [if_pos (by omega), if_pos (by omega)])
          | (rw [if_pos (by omega)])
      · split
        · rfl
        · split
          · rfl
          · split <;> rfl
    · rw [if_pos (by simpa using hw), if_neg (by simp [hw])]
      exact ev_some _
  · rename_i h
    rw [← ev_succ_iff]
    simp only [spec_HintFor.j0, if_true]
    rw [if_neg (fun x => h x.1)]
    exact ev_some _
theorem impl_HintFor_ev (a : Int) (l : List S45) (s : ByteArray) (v : Int) (hl : l.length < 4611686018427387904) : Ev (fun k => impl_HintFor.f k a l s v) (hintB a l s v) := by
  unfold impl_HintFor.f hintB
  rw [ev_bind_iff (impl_IsClue_ev a l hl), ev_ite_iff]
  split
  · rename_i h
    rw [ev_bind_iff (impl_IsWord_ev s), ← ev_succ_iff]
    simp only [impl_HintFor.j0]
    have hp := isPlayB_len (isClueB_play' h)
    have e : wrap64 ((l.length : Int) - 1) = (l.length : Int) - 1 := w_in (by omega) (by omega)
    have hst := stepsB_len l
    rw [ev_ite_iff]
    by_cases hw : isWordB s = true
    · rw [if_neg (by rw [hw]; decide), if_pos (show isClueB a l = true ∧ isWordB s = true from ⟨h, hw⟩)]
      simp only [e, impl_KindName_eq, Option.bind_some]
      simp only [ev_ite_iff, ev_bind_iff (impl_StepsUsed_ev l hl), ev_bind_iff (impl_HeadOf_ev s), impl_FormatInt_eq (stepsB l).length (by omega), Option.bind_some, ev_some_iff]
      split
      · first
          | (rw [if_pos (by omega), if_pos (by omega)])
          | (rw [if_pos (by omega)])
      · split
        · rfl
        · split
          · rfl
          · split <;> rfl
    · rw [if_pos (by simpa using hw), if_neg (by simp [hw])]
      exact ev_some _
  · rename_i h
    rw [← ev_succ_iff]
    simp only [impl_HintFor.j0, if_true]
    rw [if_neg (fun x => h x.1)]
    exact ev_some _
def fitsHintB (a : Int) (l : List S45) (s : ByteArray) (v : Int) (t : ByteArray) : Bool := if t.toList = ([] : List UInt8) then false else (hintB a l s v).toList == t.toList
theorem spec_FitsHint_ev (a : Int) (l : List S45) (s : ByteArray) (v : Int) (t : ByteArray) (hl : l.length < 4611686018427387904) : Ev (fun k => spec_FitsHint.f k a l s v t) (fitsHintB a l s v t) := by
  unfold spec_FitsHint.f fitsHintB
  simp only [ev_ite_iff, ev_bind_iff (spec_HintFor_ev a l s v hl), ev_some_iff]
  split <;> rfl
theorem impl_FitsHint_ev (a : Int) (l : List S45) (s : ByteArray) (v : Int) (t : ByteArray) (hl : l.length < 4611686018427387904) : Ev (fun k => impl_FitsHint.f k a l s v t) (fitsHintB a l s v t) := by
  unfold impl_FitsHint.f fitsHintB
  simp only [ev_ite_iff, ev_bind_iff (impl_HintFor_ev a l s v hl), ev_some_iff]
  split <;> rfl
theorem FnExactFitsHint : laws_FnExactFitsHint.Pure := by
  intro y s v t ⟨h0, h1, h2, h3⟩ hs hv ht
  refine Ev.rounds ?_
  unfold laws_FnExactFitsHint.f
  rw [ev_ite_iff]
  split
  · exact ev_some _
  rw [ev_ite_iff]
  split
  · exact ev_some _
  obtain ⟨r, hr, _⟩ := szClue_ev y.f0 y.f1 (by omega) (fun x hx => (h3 x hx).2.1) 1048576 (by omega) (by omega)
  rw [ev_bind_iff hr, ev_ite_iff]
  split
  · exact ev_some _
  have hto := toClue_ev y.f0 y.f1 (by omega)
  have hl : (y.f1.map toStep).length = y.f1.length := List.length_map _
  have sp := spec_FitsHint_ev y.f0 (y.f1.map toStep) s v t (by omega)
  have i := impl_FitsHint_ev y.f0 (y.f1.map toStep) s v t (by omega)
  have e' := eqClue_ev y.f0 (y.f1.map toStep) (by omega)
  simp only [ev_bind_iff hto, ev_bind_iff sp, ev_bind_iff i, ev_bind_iff e', ev_ite_iff, bne_self_eq_false, Bool.false_eq_true, if_false, if_true]
  exact ev_some _
end Go.Proofs.YtddacmgigolcbaaDoor.Pure
