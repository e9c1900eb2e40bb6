/- Dictionaries stay in order, and related words have a sense in common, for every code; no further condition. -/
import Derived.Test.YthjcicmmbmagbaaZFnSensesQ
import Derived.Test.YthjcicmmbmagbaaZFnSensesEv
namespace Go.Proofs.Ythjcicmmbmagbaa.Pure
open Go.RowKit Go.Proofs.Ythjcicmmbmagbaa.PFnSenses Go.Proofs.YthjcicmmbmagbaaW.PrintWords Go.Proofs.YthjcicmmbmagbaaW.PrintLast Go.Proofs.YthjcicmmbmagbaaW.PrintMore Go.Proofs.Ythjcicmmbmagbaa.Sem
set_option linter.unusedVariables false
set_option linter.unusedSimpArgs false
theorem iK (xs : List S31) (i : Nat) (h : i < xs.length) : aJ xs (i : Int) = xs[i] := by
 simp [aJ, List.getD_eq_getElem?_getD, List.getElem?_eq_getElem h]
theorem oW (a b c : Int) : fH.f a b c = some (decide (b ≤ a ∧ a ≤ c)) := by
 unfold fH.f
 by_cases h : b ≤ a <;> simp [h]
theorem lW (a b c : Int) : dL.f a b c = some (decide (b ≤ a ∧ a ≤ c)) := by
 unfold dL.f
 by_cases h : b ≤ a <;> simp [h]
theorem lg (a : Int) : gF.f a = some (decide (97 ≤ a ∧ a ≤ 122)) := by
 unfold gF.f
 by_cases h : 97 ≤ a <;> simp [h]
def jC (c : Int) : Bool := decide (97 ≤ c ∧ c ≤ 122)
def jg (s : ByteArray) : Bool := decide (1 ≤ s.size ∧ s.size ≤ 8) && (bytesOf s).all jC
theorem mh (s : ByteArray) : Ev (fun k => dN.f k s) (jg s) := by
 simp only [dN.f, oW, Option.bind_some, dR, decide_eq_true_eq, jg]
 by_cases h : (1 : Int) ≤ s.size ∧ (s.size : Int) ≤ 8
 ·rw [if_pos h]
  have h' : 1 ≤ s.size ∧ s.size ≤ 8 := by omega
  simp only [h', decide_true, Bool.true_and, and_self]
  refine mg (fun k i => dN.l0 k s i) (bytesOf s) jC ?_ (fun i hi hp r hr => ?_) (fun i hi hp => ?_)
  ·rw [← bN]; simp [dN.l0, bytesOf_length, dF]
  ·have hi' : i < s.size := by rw [bytesOf_length] at hi; exact hi
   rw [← bN]
   simp [jC] at hp
   simp only [dN.l0, ni s i hi', fV (i := i) (by omega)]
   rw [ep, ep, en, en]
   exact hr
  ·have hi' : i < s.size := by rw [bytesOf_length] at hi; exact hi
   rw [← bN]
   simp [jC] at hp
   simp only [dN.l0, ni s i hi', fV (i := i) (by omega)]
   rw [ep, ep, dR]
   by_cases h1 : (bytesOf s)[i] < 97
   ·rw [if_pos h1]; exact dF _
   ·rw [if_neg h1, ep]; exact dF _
 ·rw [if_neg h]
  have h' : ¬ (1 ≤ s.size ∧ s.size ≤ 8) := by omega
  simp [h', dF]
theorem jJ (s : ByteArray) : Ev (fun k => dh.f k s) (jg s) := by
 simp only [dh.f, lW, Option.bind_some, dR, decide_eq_true_eq, jg]
 by_cases h : (1 : Int) ≤ s.size ∧ (s.size : Int) ≤ 8
 ·rw [if_pos h]
  have h' : 1 ≤ s.size ∧ s.size ≤ 8 := by omega
  simp only [h', decide_true, Bool.true_and, and_self]
  refine mg (fun k i => dh.l0 k s (s.size : Int) i) (bytesOf s) jC ?_ (fun i hi hp r hr => ?_) (fun i hi hp => ?_)
  ·rw [← bN]; simp [dh.l0, bytesOf_length, dF]
  ·have hi' : i < s.size := by rw [bytesOf_length] at hi; exact hi
   rw [← bN]
   simp [jC] at hp
   simp only [dh.l0, ni s i hi', fV (i := i) (by omega), lg, Option.bind_some]
   rw [ep, ep, ep, ep (by simpa using hp)]
   exact hr
  ·have hi' : i < s.size := by rw [bytesOf_length] at hi; exact hi
   rw [← bN]
   simp only [jC] at hp
   simp only [dh.l0, ni s i hi', fV (i := i) (by omega), lg, Option.bind_some]
   rw [ep, ep, ep, en (by rw [hp]; decide)]
   exact dF _
 ·rw [if_neg h]
  have h' : ¬ (1 ≤ s.size ∧ s.size ≤ 8) := by omega
  simp [h', dF]
def oF (w : ByteArray) (s : Int) (x : S31) : Bool := decide (x.f0 = w ∧ x.f1 = s)
def hasB (l : List S31) (w : ByteArray) (s : Int) : Bool := l.any (oF w s)
theorem kP (l : List S31) (w : ByteArray) (s : Int) (hl : l.length < 4611686018427387904) : Ev (fun k => cZ.f k l w s) (hasB l w s) := by
 refine nV (fun k i => cZ.l0 k l w s i) l _ ?_ (fun i hi hp r hr => ?_) (fun i hi hp => ?_)
 ·rw [← bN]; simp [cZ.l0, dF]
 ·rw [← bN]
  simp only [cZ.l0, iK l i hi, fV (i := i) (by omega), toList_eq]
  simp [oF] at hp
  simp [dR, hi]
  split
  ·rw [if_neg (hp ‹_›)]; exact hr
  ·exact hr
 ·rw [← bN]
  simp only [cZ.l0, iK l i hi, fV (i := i) (by omega), toList_eq]
  simp [oF] at hp
  simp [dR, hi, hp, dF]
theorem pJ (l : List S31) (w : ByteArray) (s : Int) (hl : l.length < 4611686018427387904) : Ev (fun k => dB.f k l w s) (match l.findIdx? (oF w s) with | some i => (i : Int) | none => -1) := by
 refine kM (fun k i => dB.l0 k l (l.length : Int) i w s) l _ ?_ (fun i hi hp r hr => ?_) (fun i hi hp => ?_)
 ·rw [← bN]; simp [dB.l0, dF]
 ·rw [← bN]
  simp only [dB.l0, iK l i hi, fV (i := i) (by omega), mq]
  simp [oF] at hp
  simp [dR, hi]
  rw [if_neg (by intro h; exact hp h.1.symm h.2.symm)]
  exact hr
 ·rw [← bN]
  simp only [dB.l0, iK l i hi, fV (i := i) (by omega), mq]
  simp [oF] at hp
  simp [dR, hi, hp, dF]
theorem qV {α : Type} (l : List α) (p : α → Bool) : decide ((match l.findIdx? p with | some i => (i : Int) | none => -1) ≥ 0) = l.any p := by
 cases h : l.findIdx? p with
 | none =>
  have := List.findIdx?_eq_none_iff.1 h
  simp
  intro x hx
  simpa using this x hx
 | some i =>
  obtain ⟨h1, h2, _⟩ := List.findIdx?_eq_some_iff_getElem.1 h
  simp
  exact ⟨l[i], List.getElem_mem h1, h2⟩
theorem kr (l : List S31) (w : ByteArray) (s : Int) (hl : l.length < 4611686018427387904) : Ev (fun k => eF.f k l w s) (hasB l w s) := by
 unfold eF.f
 rw [bS (pJ l w s hl), qV]
 exact dF _
theorem gZ (l : List S31) (w : ByteArray) (s : Int) (hl : l.length < 4611686018427387904) : Ev (fun k => cO.f k l w s) (hasB l w s) := by
 unfold cO.f
 rw [bS (kr l w s hl)]
 exact dF _
def gY (w : ByteArray) (x : S31) : List Int := if x.f0 = w then [x.f1] else []
theorem jB {α β : Type} (f : α → List β) (h : ∀ x, (f x).length ≤ 1) (l : List α) : (l.flatMap f).length ≤ l.length := by
 induction l with
 | nil => simp
 | cons x l ih => have := h x; simp only [List.flatMap_cons, List.length_append, List.length_cons]; omega
theorem jO (w : ByteArray) (x : S31) : (gY w x).length ≤ 1 := by unfold gY; split <;> simp
theorem iH (l : List S31) (w : ByteArray) (hl : l.length ≤ 17592186044416) : Ev (fun k => cu.f k l w) (l.flatMap (gY w)) := by
 refine kE (fun k x i => cu.l0 k w x l (l.length : Int) i) l (gY w) 0 (fun x => ?_) (fun i hi x hx r hr => ?_)
 ·rw [← bN]; simp [cu.l0, dF]
 ·have hx' := jB _ (jO w) (l.take i)
  rw [List.length_take] at hx'
  rw [← bN]
  simp only [cu.l0, iK l i hi, fV (i := i) (by omega), toList_eq]
  rw [ep, ep, ep, dR]
  unfold gY at hr
  split
  ·rw [if_pos ‹_›] at hr
   rw [ep]
   exact hr
  ·rw [if_neg ‹_›, List.append_nil] at hr
   exact hr
def bwB (a b : ByteArray) : Bool := if (a.size : Int) = b.size then _root_.Go.Op.bytesLess a.toList b.toList else decide ((a.size : Int) < b.size)
theorem j3 (a b : ByteArray) : eY.f a b = some (bwB a b) := by
 unfold eY.f bwB
 split <;> rfl
theorem jr : ∀ l : List UInt8, _root_.Go.Op.bytesLess l l = false
 | [] => rfl
 | a :: l => by simp [_root_.Go.Op.bytesLess, jr l]
theorem oz (a : ByteArray) : bwB a a = false := by simp [bwB, jr]
theorem j4 (a b : ByteArray) : fM.f a b = some (bwB a b) := by
 unfold fM.f bwB
 split <;> rfl
def bmB (a : ByteArray) (m : Int) (b : ByteArray) (n : Int) : Bool := if a = b then decide (m < n) else bwB a b
theorem jy (a : ByteArray) (m : Int) (b : ByteArray) (n : Int) : dQ.f a m b n = some (bmB a m b n) := by
 simp only [dQ.f, j3, Option.bind_some, toList_eq, bmB]
 by_cases h : a = b
 ·subst h
  simp [oz]
 ·simp [h]
  cases bwB a b <;> rfl
theorem iI (a : ByteArray) (m : Int) (b : ByteArray) (n : Int) : dK.f a m b n = some (bmB a m b n) := by
 simp only [dK.f, j4, Option.bind_some, toList_eq, bmB]
 by_cases h : a = b <;> simp [h]
def okM (l : List S31) (i : Nat) : Bool := if h : i < l.length then jg l[i].f0 && (decide (1 ≤ l[i].f1 ∧ l[i].f1 ≤ 99) && (decide (i = 0) || bmB (l[i - 1]'(by omega)).f0 (l[i - 1]'(by omega)).f1 l[i].f0 l[i].f1)) else false
def jf (l : List S31) : Bool := decide (l.length ≤ 40) && (List.range l.length).all (okM l)
theorem qj {i : Nat} (h : i < 4611686018427387904) : wrap64 ((i + 1 : Nat) - 1 : Int) = (i : Int) := by unfold wrap64; omega
theorem jI (l : List S31) (hl : l.length < 4611686018427387904) : Ev (fun k => bC.f k l) (jf l) := by
 unfold bC.f
 have := jq (fun k i => bC.l0 k l i) l.length (fun i => decide (l.length ≤ 40) && ((List.range l.length).drop i).all (okM l)) ?_ (fun i hi => ?_) 0 (Nat.zero_le _)
 ·simpa [jf] using this
 ·rw [← bN]
  simp only [bC.l0]
  rw [en, iM, List.drop_eq_nil_of_le (by simp)]
  simp
  omega
 ·have hd : (List.range l.length).drop i = i :: (List.range l.length).drop (i + 1) := by rw [List.drop_eq_getElem_cons (by simpa using hi)]; simp
  have hu : ∀ r, Ev (fun k => bC.l0 k l (i : Int)) r ↔ if okM l i = true then Ev (fun k => bC.l0 k l ((i + 1 : Nat) : Int)) r else Ev (fun _ => some false) r := by
   intro r
   rw [← bN]
   simp only [bC.l0, iK l i hi, fV (i := i) (by omega), oW, Option.bind_some]
   rw [ep, ep, bS (mh _), dR, dR, dR]
   simp only [okM, hi, dif_pos, Bool.and_eq_true, Bool.or_eq_true]
   by_cases h1 : jg l[i].f0 = true
   ·simp only [h1, if_true, true_and]
    by_cases h2 : 1 ≤ l[i].f1 ∧ l[i].f1 ≤ 99
    ·simp only [h2, and_self, decide_true, if_true, true_and]
     cases i with
     | zero => simp
     | succ j =>
      rw [if_pos (by omega), qj (by omega), iK l j (by omega), ep, ep, jy]
      simp only [Option.bind_some, dR]
      simp
    ·simp [h2]
   ·simp [h1]
  rw [hd, List.all_cons]
  by_cases ho : okM l i = true
  ·refine .inr ⟨by simp [ho], fun r hr => ?_⟩
   rw [hu, if_pos ho]
   exact hr
  ·refine .inl ?_
   rw [hu, if_neg ho, iM]
   simp [ho]
theorem iN (l : List S31) (hl : l.length < 4611686018427387904) : Ev (fun k => bg.f k l) (jf l) := by
 unfold bg.f
 rw [dR]
 unfold jf
 split
 ·rw [iM]
  have : ¬ l.length ≤ 40 := by omega
  simp [this]
 have h40 : l.length ≤ 40 := by omega
 have := jq (fun k i => bg.l0 k l l (l.length : Int) i) l.length (fun i => ((List.range l.length).drop i).all (okM l)) ?_ (fun i hi => ?_) 0 (Nat.zero_le _)
 ·simpa [h40] using this
 ·rw [← bN]
  simp only [bg.l0]
  rw [en, iM, List.drop_eq_nil_of_le (by simp)]
  simp
 ·have hd : (List.range l.length).drop i = i :: (List.range l.length).drop (i + 1) := by rw [List.drop_eq_getElem_cons (by simpa using hi)]; simp
  have hu : ∀ r, Ev (fun k => bg.l0 k l l (l.length : Int) (i : Int)) r ↔ if okM l i = true then Ev (fun k => bg.l0 k l l (l.length : Int) ((i + 1 : Nat) : Int)) r else Ev (fun _ => some false) r := by
   intro r
   rw [← bN]
   simp only [bg.l0, iK l i hi, fV (i := i) (by omega), lW, iI, Option.bind_some]
   rw [ep, ep, ep, dR]
   simp only [okM, hi, dif_pos, Bool.and_eq_true, Bool.or_eq_true]
   cases i with
   | zero =>
    rw [if_neg (by simp), bS (jJ _), dR, dR]
    by_cases h1 : jg l[0].f0 = true
    ·by_cases h2 : 1 ≤ l[0].f1 ∧ l[0].f1 ≤ 99 <;> simp [h1, h2]
    ·simp [h1]
   | succ j =>
    rw [if_pos (by omega), qj (by omega), iK l j (by omega), ep, ep, dR]
    by_cases h3 : bmB l[j].f0 l[j].f1 l[j + 1].f0 l[j + 1].f1 = true
    ·rw [if_pos h3, bS (jJ _), dR, dR]
     by_cases h1 : jg l[j + 1].f0 = true
     ·by_cases h2 : 1 ≤ l[j + 1].f1 ∧ l[j + 1].f1 ≤ 99 <;> simp [h1, h2, h3]
     ·simp [h1]
    ·simp [h3]
  rw [hd, List.all_cons]
  by_cases ho : okM l i = true
  ·refine .inr ⟨by simp [ho], fun r hr => ?_⟩
   rw [hu, if_pos ho]
   exact hr
  ·refine .inl ?_
   rw [hu, if_neg ho, iM]
   simp [ho]
theorem nS {α : Type} (q : α → Bool) (l : List α) : l.flatMap (fun s => if q s = true then [s] else []) = l.filter q := by
 induction l with
 | nil => rfl
 | cons x l ih => rw [List.flatMap_cons, ih, List.filter_cons]; split <;> simp
theorem pG {α β : Type} (f : α → List β) (h : ∀ x, (f x).length ≤ 1) (l : List α) : (l.flatMap f).length ≤ l.length := by
 induction l with
 | nil => simp
 | cons x l ih => have := h x; simp only [List.flatMap_cons, List.length_append, List.length_cons]; omega
theorem mM (l : List ByteArray) (p : Nat → ByteArray → Option Bool) (q : ByteArray → Bool) (hl : l.length ≤ 8796093022208) (hp : ∀ s ∈ l, Ev (fun k => p k s) (q s)) : Ev (fun k => dW.f k l p) (l.filter q) := by
 rw [← nS]
 refine kE (fun k x i => dW.l0 k p x l (l.length : Int) i) l (fun s => if q s = true then [s] else []) 0 (fun x => ?_) (fun i hi x hx r hr => ?_)
 ·rw [← bN]; simp [dW.l0, dF]
 ·have hx' := pG (fun s => if q s = true then [s] else []) (fun x => by split <;> simp) (l.take i)
  rw [List.length_take] at hx'
  rw [← bN]
  simp only [dW.l0, iX ByteArray.empty l i hi, fV (i := i) (by omega)]
  rw [ep, ep, ep, bS (hp _ (List.getElem_mem hi)), dR]
  split
  ·rename_i hq
   rw [if_pos hq] at hr
   rw [ep]
   exact hr
  ·rename_i hq
   rw [if_neg hq, List.append_nil] at hr
   exact hr
theorem kU (d : List S31) (l : List ByteArray) (s : Int) (hd : d.length < 4611686018427387904) (hl : l.length ≤ 8796093022208) : Ev (fun k => fJ.f k d l s) (l.filter (fun w => hasB d w s)) :=
 mM l _ _ hl (fun w _ => gZ d w s hd)
theorem om (l : List Int) (p : Nat → Int → Option Bool) (q : Int → Bool) (hl : l.length < 4611686018427387904) (hp : ∀ s ∈ l, Ev (fun k => p k s) (q s)) : Ev (fun k => bQ.f k l p) (match l.findIdx? q with | some i => (i : Int) | none => -1) := by
 refine kM (fun k i => bQ.l0 k l p (l.length : Int) i) l q ?_ (fun i hi hq r hr => ?_) (fun i hi hq => ?_)
 ·rw [← bN]; simp [bQ.l0, dF]
 ·rw [← bN]
  simp only [bQ.l0, kT l i hi, fV (i := i) (by omega)]
  rw [ep, ep, ep, bS (hp _ (List.getElem_mem hi)), en (by rw [hq]; decide)]
  exact hr
 ·rw [← bN]
  simp only [bQ.l0, kT l i hi, fV (i := i) (by omega)]
  rw [ep, ep, ep, bS (hp _ (List.getElem_mem hi)), ep hq]
  exact dF _
theorem qb {α : Type} (l : List α) (p : α → Bool) : decide ((match l.findIdx? p with | some i => (i : Int) | none => -1) ≥ 0) = l.any p := by
 cases h : l.findIdx? p with
 | none =>
  have := List.findIdx?_eq_none_iff.1 h
  simp
  intro x hx
  simpa using this x hx
 | some i =>
  obtain ⟨h1, h2, _⟩ := List.findIdx?_eq_some_iff_getElem.1 h
  simp
  exact ⟨l[i], List.getElem_mem h1, h2⟩
theorem mJ (l : List Int) (p : Nat → Int → Option Bool) (q : Int → Bool) (hl : l.length < 4611686018427387904) (hp : ∀ s ∈ l, Ev (fun k => p k s) (q s)) : Ev (fun k => dY.f k l p) (l.any q) := by
 unfold dY.f
 rw [bS (om l p q hl hp), qb]
 exact dF _
def nP (d : List S31) (a b : ByteArray) : Bool := (d.flatMap (gY a)).any (fun n => hasB d b n)
theorem gN (d : List S31) (a b : ByteArray) (hd : d.length ≤ 17592186044416) : Ev (fun k => bL.f k d a b) (nP d a b) := by
 have hz := jB _ (jO a) d
 unfold bL.f nP
 rw [bS (iH d a hd)]
 exact mJ _ _ _ (by omega) (fun n _ => gZ d b n (by omega))
def mE (l : List ByteArray) (w : ByteArray) : Bool := l.any (fun x => decide (x = w))
theorem pW (l : List ByteArray) (w : ByteArray) (hl : l.length < 4611686018427387904) : Ev (fun k => bR.f k l w) (match l.findIdx? (fun x => decide (x = w)) with | some i => (i : Int) | none => -1) := by
 refine kM (fun k i => bR.l0 k l w (l.length : Int) i) l _ ?_ (fun i hi hp r hr => ?_) (fun i hi hp => ?_)
 ·rw [← bN]; simp [bR.l0, dF]
 ·rw [← bN]
  simp only [bR.l0, iX ByteArray.empty l i hi, fV (i := i) (by omega), toList_eq]
  rw [ep, ep, ep, en (fun e => of_decide_eq_false hp e.symm)]
  exact hr
 ·rw [← bN]
  simp only [bR.l0, iX ByteArray.empty l i hi, toList_eq]
  rw [ep, ep, ep, dR, if_pos (of_decide_eq_true hp).symm]
  exact dF _
theorem qA {α : Type} (l : List α) (p : α → Bool) : decide ((match l.findIdx? p with | some i => (i : Int) | none => -1) ≥ 0) = l.any p := by
 cases h : l.findIdx? p with
 | none =>
  have := List.findIdx?_eq_none_iff.1 h
  simp
  intro x hx
  simpa using this x hx
 | some i =>
  obtain ⟨h1, h2, _⟩ := List.findIdx?_eq_some_iff_getElem.1 h
  simp
  exact ⟨l[i], List.getElem_mem h1, h2⟩
theorem nA (l : List ByteArray) (w : ByteArray) (hl : l.length < 4611686018427387904) : Ev (fun k => dM.f k l w) (mE l w) := by
 unfold dM.f mE
 rw [bS (pW l w hl), qA]
 exact dF _
theorem evP {α : Type} {c : Prop} [Decidable c] {f g : Nat → Option α} {r : α} (h : c) : Ev (fun k => if c then f k else g k) r ↔ Ev f r := by rw [ep h]
theorem evN {α : Type} {c : Prop} [Decidable c] {f g : Nat → Option α} {r : α} (h : ¬ c) : Ev (fun k => if c then f k else g k) r ↔ Ev g r := by rw [en h]
theorem qh {α : Type} (p : α → Bool) : ∀ (xs : List α) (i : Nat) (h : i < (xs.takeWhile p).length) (h2 : i < xs.length), p xs[i] = true
 | [], i, h, h2 => by simp at h2
 | x :: xs, i, h, h2 => by
  by_cases hp : p x = true
  ·rw [List.takeWhile_cons_of_pos hp] at h
   cases i with
   | zero => exact hp
   | succ i => exact qh p xs i (by simpa using h) (by simpa using h2)
  ·rw [List.takeWhile_cons_of_neg hp] at h
   simp at h
theorem nD {α : Type} (p : α → Bool) : ∀ (xs : List α) (h : (xs.takeWhile p).length < xs.length), p xs[(xs.takeWhile p).length] = false
 | [], h => by simp at h
 | x :: xs, h => by
  by_cases hp : p x = true
  ·simp only [List.takeWhile_cons_of_pos hp, List.length_cons] at h ⊢
   exact nD p xs (by simpa using h)
  ·simp only [List.takeWhile_cons_of_neg hp, List.length_nil] at h ⊢
   simpa using hp
theorem rC {α : Type} (p : α → Bool) (xs : List α) : (xs.takeWhile p).length ≤ xs.length := (List.takeWhile_prefix p).length_le
theorem l8 {α ρ : Type} (L : Nat → Int → Option ρ) (xs : List α) (p : α → Bool) (r : ρ) (hstop : Ev (fun k => L k (((xs.takeWhile p).length : Nat) : Int)) r)
  (hyes : ∀ i (h : i < xs.length), p xs[i] = true → ∀ r, Ev (fun k => L k ((i + 1 : Nat) : Int)) r → Ev (fun k => L k (i : Int)) r) : Ev (fun k => L k 0) r := by
 have key : ∀ d i, i + d = (xs.takeWhile p).length → Ev (fun k => L k (i : Int)) r := by
  intro d
  induction d with
  | zero =>
   intro i hi
   have : i = (xs.takeWhile p).length := by omega
   subst this
   exact hstop
  | succ d ih =>
   intro i hi
   have hlt : i < xs.length := by have := rC p xs; omega
   exact hyes i hlt (qh p xs i (by omega) hlt) _ (ih (i + 1) (by omega))
 exact key (xs.takeWhile p).length 0 (by omega)
def plM (l : List S31) (w : ByteArray) (s : Int) : Nat := (l.takeWhile fun x => bmB x.f0 x.f1 w s).length
def jw (l : List S31) (w : ByteArray) (s : Int) : List S31 := l.take (plM l w s) ++ [⟨w, s⟩] ++ l.drop (plM l w s)
def jR (l : List S31) (w : ByteArray) (s : Int) : List S31 × Bool := if hasB l w s = true then (l, false) else if jf (jw l w s) = true then (jw l w s, true) else (l, false)
theorem oh (l : List S31) (w : ByteArray) (s : Int) : plM l w s ≤ l.length := rC _ _
theorem jc (l : List S31) (w : ByteArray) (s : Int) : (jw l w s).length = l.length + 1 := by
 have := oh l w s
 simp only [jw, List.length_append, List.length_take, List.length_drop, List.length_cons, List.length_nil]
 omega
theorem lu (l : List S31) (w : ByteArray) (s : Int) : (jR l w s).1.length ≤ l.length + 1 := by
 unfold jR
 split
 ·show l.length ≤ _; omega
 ·split
  ·show (jw l w s).length ≤ _; rw [jc]; omega
  ·show l.length ≤ _; omega
theorem iW (l : List S31) (w : ByteArray) (s : Int) (hl : l.length < 5864062014800) : Ev (fun k => bD.f k l w s) (jR l w s) := by
 unfold bD.f
 have hp := oh l w s
 have hj : Ev (fun k => bD.j1 k l ((plM l w s : Nat) : Int) w s) (jR l w s) := by
  rw [← bN]
  simp only [bD.j1, Option.bind_some]
  rw [evP (by omega), evP (by omega), evP (by simp only [List.length_nil, List.length_take]; omega), evP (by simp only [List.length_append, List.length_nil, List.length_take, List.length_cons]; omega),
   evP (by simp only [List.length_append, List.length_nil, List.length_take, List.length_cons, List.length_drop]; omega)]
  simp only [List.nil_append, Int.toNat_natCast]
  have e : l.take (plM l w s) ++ [(⟨w, s⟩ : S31)] ++ l.drop (plM l w s) = jw l w s := rfl
  rw [e, bS (kP l w s (by omega))]
  have hd := jI (jw l w s) (by rw [jc]; omega)
  unfold jR
  cases hasB l w s with
  | true =>
   simp only [if_true]
   rw [evP (by simp only [List.length_nil]; omega)]
   exact dF _
  | false =>
   simp only [Bool.false_eq_true, if_false]
   rw [bS hd]
   cases jf (jw l w s) with
   | true => exact dF _
   | false =>
    simp only [Bool.false_eq_true, if_false]
    rw [evP (by simp only [List.length_nil]; omega)]
    exact dF _
 refine l8 (fun k i => bD.l0 k l i w s) l (fun x => bmB x.f0 x.f1 w s) _ ?_ ?_
 ·rw [← bN]
  simp only [bD.l0]
  have hpl : (l.takeWhile fun x => bmB x.f0 x.f1 w s).length = plM l w s := rfl
  by_cases h : plM l w s < l.length
  ·have hf := nD (fun x : S31 => bmB x.f0 x.f1 w s) l h
   simp only [hpl] at hf ⊢
   rw [evP (by omega), evP (by omega)]
   simp only [iK _ _ h, jy, Option.bind_some, hf]
   rw [evN (by decide)]
   exact hj
  ·rw [hpl, evN (by omega)]
   exact hj
 ·intro i h hp r hr
  rw [← bN]
  simp only [bD.l0]
  rw [evP (by omega), evP (by omega)]
  simp only [iK _ _ h, jy, Option.bind_some]
  rw [evP hp, fV (by omega)]
  exact hr
theorem pq (l : List S31) (hl : l.length < 5864062014800) : aV.f l = some l := by
 unfold aV.f
 rw [if_pos (by omega)]
theorem jY (l : List S31) (w : ByteArray) (s : Int) (hl : l.length < 5864062014800) : Ev (fun k => aZ.f k l w s) (jR l w s) := by
 unfold aZ.f
 have hp := oh l w s
 have hc := pq l hl
 rw [bS (kr l w s (by omega))]
 by_cases hh : hasB l w s = true
 ·rw [evP hh, hc]
  unfold jR
  rw [if_pos hh]
  exact dF _
 rw [evN hh]
 have hj : Ev (fun k => aZ.j1 k l ((plM l w s : Nat) : Int) w s) (jR l w s) := by
  rw [← bN]
  simp only [aZ.j1, aZ.cli]
  rw [if_pos (by omega), hc]
  simp only [Option.bind_some]
  rw [evP (by simp only [List.length_cons, List.length_nil]; omega)]
  have e : aZ.jD l ((plM l w s : Nat) : Int) [(⟨w, s⟩ : S31)] = jw l w s := by rw [aZ.jD, Int.toNat_natCast]; rfl
  have hd := iN (jw l w s) (by rw [jc]; omega)
  rw [e, bS hd]
  unfold jR
  rw [if_neg hh]
  cases jf (jw l w s) with
  | true => exact dF _
  | false =>
   simp only [Bool.false_eq_true, if_false]
   exact dF _
 refine l8 (fun k i => aZ.l0 k l i w s) l (fun x => bmB x.f0 x.f1 w s) _ ?_ ?_
 ·rw [← bN]
  simp only [aZ.l0]
  have hpl : (l.takeWhile fun x => bmB x.f0 x.f1 w s).length = plM l w s := rfl
  by_cases h : plM l w s < l.length
  ·have hf := nD (fun x : S31 => bmB x.f0 x.f1 w s) l h
   simp only [hpl] at hf ⊢
   rw [evP (by omega), evP (by omega)]
   simp only [iK _ _ h, iI, Option.bind_some, hf]
   rw [evN (by decide)]
   exact hj
  ·rw [hpl, evN (by omega)]
   exact hj
 ·intro i h hp r hr
  rw [← bN]
  simp only [aZ.l0]
  rw [evP (by omega), evP (by omega)]
  simp only [iK _ _ h, iI, Option.bind_some]
  rw [evP hp, fV (by omega)]
  exact hr
theorem rH (n : Int) : Go.bits .and .i64 n 255 = n % 256 := by
 have h255 : (BitVec.ofInt 64 255).toNat = 2 ^ 8 - 1 := by decide
 have key : (BitVec.ofInt 64 n &&& BitVec.ofInt 64 255).toNat = (n % ((2 ^ 64 : Nat) : Int)).toNat % 2 ^ 8 := by
  rw [BitVec.toNat_and, BitVec.toNat_ofInt, h255, Nat.and_two_pow_sub_one_eq_mod]
 show IntKind.i64.wrap ((BitVec.ofInt 64 n &&& BitVec.ofInt 64 255).toNat : Nat) = n % 256
 rw [key, IntKind.wrap_i64]
 omega
def Cur (b : List Int) (i : Int) : Prop := b.length < 4611686018427387904 ∧ 0 ≤ i
theorem jQ {b : List Int} {i : Int} (h : Int) (hc : Cur b i) : ∃ v i' h', dU.f b i h = some (v, i', h') ∧ 0 ≤ v ∧ v ≤ 255 ∧ Cur b i' := by
 obtain ⟨hb, hi⟩ := hc
 unfold dU.f
 simp only [rH]
 split
 ·try rw [if_pos hi]
  exact ⟨_, _, _, rfl, by unfold wrap64; omega, by unfold wrap64; omega, hb, by unfold wrap64; omega⟩
 ·exact ⟨_, _, _, rfl, by omega, by omega, hb, hi⟩
theorem o9 {v n : Int} (hv : 0 ≤ v) (hn : 0 < n) : 0 ≤ Int.tmod v n ∧ Int.tmod v n < n := by
 rw [Int.tmod_eq_emod_of_nonneg hv]
 exact ⟨Int.emod_nonneg _ (by omega), Int.emod_lt_of_pos _ hn⟩
theorem gI {b : List Int} {i : Int} (h n : Int) (hc : Cur b i) : ∃ v i' h', bM.f b i h n = some (v, i', h') ∧ 0 ≤ v ∧ (0 < n → v < n) ∧ (n ≤ 0 → v = 0) ∧ Cur b i' := by
 unfold bM.f
 by_cases h1 : n ≤ 0
 ·rw [if_pos h1]
  exact ⟨0, i, h, rfl, by omega, by omega, fun _ => rfl, hc⟩
 rw [if_neg h1]
 by_cases h2 : n ≤ 256
 ·rw [if_pos h2]
  obtain ⟨v, i', h', e, v0, v1, hc'⟩ := jQ h hc
  simp only [e, Option.bind_some]
  rw [if_neg (by omega)]
  obtain ⟨t0, t1⟩ := o9 v0 (show 0 < n by omega)
  exact ⟨_, _, _, rfl, t0, fun _ => t1, by omega, hc'⟩
 ·rw [if_neg h2]
  obtain ⟨x, i1, h1', e1, x0, x1, hc1⟩ := jQ h hc
  obtain ⟨y, i2, h2', e2, y0, y1, hc2⟩ := jQ h1' hc1
  obtain ⟨z, i3, h3', e3, z0, z1, hc3⟩ := jQ h2' hc2
  simp only [e1, e2, e3, Option.bind_some]
  rw [if_neg (by omega)]
  have hw : 0 ≤ wrap64 ((wrap64 ((wrap64 (x * 65536)) + (wrap64 (y * 256)))) + z) := by unfold wrap64; omega
  obtain ⟨t0, t1⟩ := o9 hw (show 0 < n by omega)
  exact ⟨_, _, _, rfl, t0, fun _ => t1, by omega, hc3⟩
theorem mU {b : List Int} {i : Int} (h n : Int) (hc : Cur b i) : ∃ q i' h', fA.f b i h n = some (q, i', h') ∧ Cur b i' := by
 obtain ⟨v, i', h', e, _, _, _, hc'⟩ := gI h n hc
 unfold fA.f
 simp only [e, Option.bind_some]
 exact ⟨_, _, _, rfl, hc'⟩
theorem nZ {b : List Int} {i : Int} (h : Int) (l : List Int) (hc : Cur b i) (hl : 0 < l.length) : ∃ v i' h', eZ.f b i h l = some (v, i', h') ∧ v ∈ l ∧ Cur b i' := by
 obtain ⟨v, i', h', e, v0, v1, _, hc'⟩ := gI h (l.length : Int) hc
 have v2 := v1 (by omega)
 unfold eZ.f
 simp only [e, Option.bind_some]
 rw [if_pos v0, if_pos v2]
 obtain ⟨n, rfl⟩ : ∃ n : Nat, v = (n : Int) := ⟨v.toNat, by omega⟩
 rw [kT l n (by omega)]
 exact ⟨_, _, _, rfl, List.getElem_mem _, hc'⟩
theorem nY {b : List Int} {i : Int} (h : Int) (l : List ByteArray) (hc : Cur b i) (hl : 0 < l.length) : ∃ v i' h', fG.f b i h l = some (v, i', h') ∧ v ∈ l ∧ Cur b i' := by
 obtain ⟨v, i', h', e, v0, v1, _, hc'⟩ := gI h (l.length : Int) hc
 have v2 := v1 (by omega)
 unfold fG.f
 simp only [e, Option.bind_some]
 rw [if_pos v0, if_pos v2]
 obtain ⟨n, rfl⟩ : ∃ n : Nat, v = (n : Int) := ⟨v.toNat, by omega⟩
 rw [iX _ l n (by omega)]
 exact ⟨_, _, _, rfl, List.getElem_mem _, hc'⟩
theorem jZ : ∃ l : List ByteArray, dV.f = some l ∧ l.length = 35 ∧ ∀ w ∈ l, w.size ≤ 8 := by
 refine ⟨_, rfl, rfl, ?_⟩
 intro w hw
 simp only [List.mem_cons, List.not_mem_nil, or_false] at hw
 rcases hw with h | h | h | h | h | h | h | h | h | h | h | h | h | h | h | h | h | h | h | h | h | h | h | h | h | h | h | h | h | h | h | h | h | h | h <;> (subst h; decide)
theorem mW {b : List Int} {i : Int} (h : Int) (hc : Cur b i) : ∃ w i' h', gy.f b i h = some (w, i', h') ∧ w.size ≤ 8 ∧ Cur b i' := by
 obtain ⟨l, hl, hn, hs⟩ := jZ
 obtain ⟨v, i', h', e, hm, hc'⟩ := nY h l hc (by omega)
 unfold gy.f
 simp only [hl, e, Option.bind_some]
 exact ⟨_, _, _, rfl, hs _ hm, hc'⟩
theorem jo {b : List Int} {i : Int} (h : Int) (hc : Cur b i) : ∃ w i' h', dn.f b i h = some (w, i', h') ∧ w.size ≤ 9 ∧ Cur b i' := by
 obtain ⟨w, i1, h1, e1, hw, hc1⟩ := mW h hc
 unfold dn.f
 simp only [e1, Option.bind_some]
 rw [if_pos (by omega)]
 obtain ⟨v, i', h', e, hm, hc'⟩ := nY h1 [w, w, w, w, w, (⟨#[]⟩ : ByteArray), (⟨#[65]⟩ : ByteArray), (⟨#[97, 32, 98]⟩ : ByteArray), (⟨#[116, 111, 111, 108, 111, 110, 103, 101, 114]⟩ : ByteArray), (⟨#[116, 111, 111, 108, 111, 110, 103]⟩ : ByteArray), w ++ (⟨#[63]⟩ : ByteArray), (⟨#[122]⟩ : ByteArray)] hc1 (by simp)
 simp only [e, Option.bind_some]
 refine ⟨_, _, _, rfl, ?_, hc'⟩
 simp only [List.mem_cons, List.not_mem_nil, or_false] at hm
 rcases hm with r | r | r | r | r | r | r | r | r | r | r | r <;> subst r
 all_goals first
  | decide
  | (rw [ByteArray.size_append]; show w.size + 1 ≤ 9; omega)
  | omega
theorem qx {b : List Int} {i : Int} (h : Int) (hc : Cur b i) : ∃ v i' h', gH.f b i h = some (v, i', h') ∧ (-9223372036854775808 ≤ v ∧ v ≤ 9223372036854775807) ∧ Cur b i' := by
 unfold gH.f
 obtain ⟨v, i', h', e, hm, hc'⟩ := nZ h ([(-1), 0, 99, 100, 1000, 1001, 9223372036854775807, (-9223372036854775808)] : List Int) hc (by simp)
 simp only [e, Option.bind_some]
 refine ⟨_, _, _, rfl, ?_, hc'⟩
 simp only [List.mem_cons, List.not_mem_nil, or_false] at hm
 omega
theorem lM {σ ρ : Type} (L : Nat → σ → Int → Option ρ) (Q : ρ → Prop) (n : Nat) (Inv : Nat → σ → Prop) (hend : ∀ s, Inv n s → ∃ r, Ev (fun k => L k s (n : Int)) r ∧ Q r)
  (hstep : ∀ i s, i < n → Inv i s → (∃ r, Ev (fun k => L k s (i : Int)) r ∧ Q r) ∨ ∃ s', Inv (i + 1) s' ∧ ∀ r, Ev (fun k => L k s' ((i + 1 : Nat) : Int)) r → Ev (fun k => L k s (i : Int)) r) :
  ∀ d i s, i + d = n → Inv i s → ∃ r, Ev (fun k => L k s (i : Int)) r ∧ Q r := by
 intro d
 induction d with
 | zero =>
  intro i s h hi
  have : i = n := by omega
  subst this
  exact hend s hi
 | succ d ih =>
  intro i s h hi
  rcases hstep i s (by omega) hi with h1 | ⟨s', h1, h2⟩
  ·exact h1
  ·obtain ⟨r, hr, hq⟩ := ih (i + 1) s' (by omega) h1
   exact ⟨r, h2 r hr, hq⟩
theorem kK (b : List Int) (hb : b.length < 4611686018427387904) : ∃ h, Ev (fun k => dH.f k b) (b, 0, h) := by
 unfold dH.f
 obtain ⟨⟨r1, r2, r3⟩, hr, e1, e2⟩ := lM (fun k s i => dH.l0 k b s i) (fun r => r.1 = b ∧ r.2.1 = 0) b.length (fun _ _ => True) (fun s _ => ⟨(b, 0, s), by rw [← bN]; simp only [dH.l0]; rw [evN (by omega)]; exact dF _, rfl, rfl⟩)
  (fun i s hi _ => by
   by_cases h4 : (i : Int) < 4000
   ·refine .inr ⟨Go.bits .and .i64 (wrap64 ((wrap64 ((wrap64 (s * 137)) + (wrap64 (rd b (i : Int))))) + 11)) 1073741823, trivial, fun r hr => ?_⟩
    rw [← bN]
    simp only [dH.l0]
    rw [evP (by omega), evP h4, evP (by omega), fV (by omega)]
    exact hr
   ·exact .inl ⟨(b, 0, s), by rw [← bN]; simp only [dH.l0]; rw [evP (by omega), evN h4]; exact dF _, rfl, rfl⟩) b.length 0 (wrap64 (193017 + (b.length : Int))) (by omega) trivial
 dsimp only at e1 e2
 subst e1 e2
 exact ⟨r3, hr⟩
theorem pO {b : List Int} {i : Int} (h : Int) (hc : Cur b i) : ∃ l i' h', Ev (fun k => dI.f k b i h) (l, i', h') ∧ l.length ≤ 5 ∧ Cur b i' := by
 obtain ⟨v, i1, h1, e1, v0, v1, _, hc1⟩ := gI h 6 hc
 have v2 := v1 (by omega)
 unfold dI.f
 simp only [e1, Option.bind_some]
 obtain ⟨n, rfl⟩ : ∃ n : Nat, v = (n : Int) := ⟨v.toNat, by omega⟩
 obtain ⟨⟨r1, r2, r3⟩, hr, q1, q2⟩ := lM (fun k (s : List ByteArray × Int × Int) j => dI.l0 k s.1 ((n : Int) - j) b s.2.1 s.2.2) (fun r => r.1.length ≤ 5 ∧ Cur b r.2.1) n (fun j s => s.1.length = j ∧ Cur b s.2.1)
  (fun s hs => ⟨s, by rw [← bN]; simp only [dI.l0]; rw [evN (by omega)]; exact dF _, by have := hs.1; omega, hs.2⟩)
  (fun j s hj hs => by
   obtain ⟨w, i2, h2, e2, _, hc2⟩ := jo s.2.2 hs.2
   refine .inr ⟨(s.1 ++ [w], i2, h2), ⟨by simp only [List.length_append, List.length_cons, List.length_nil]; have := hs.1; omega, hc2⟩, fun r hr => ?_⟩
   rw [← bN]
   simp only [dI.l0, e2, Option.bind_some]
   have hw : wrap64 ((n : Int) - (j : Int) - 1) = (n : Int) - ((j + 1 : Nat) : Int) := by unfold wrap64; omega
   rw [evP (by omega), evP (by have := hs.1; omega), hw]
   exact hr) n 0 ([], i1, h1) (by omega) ⟨rfl, hc1⟩
 refine ⟨r1, r2, r3, ?_, q1, q2⟩
 simpa using hr
theorem oQ {b : List Int} {i : Int} (h : Int) (hc : Cur b i) : ∃ d i' h', Ev (fun k => bK.f k b i h) (d, i', h') ∧ d.length ≤ 40 ∧ Cur b i' := by
 obtain ⟨ws, hws, hwn, _⟩ := jZ
 unfold bK.f
 simp only [hws, Option.bind_some]
 have l1 : ∀ (n : Nat) (d : List S31) (i h : Int), n ≤ 5 → d.length ≤ 35 → Cur b i → ∃ r, Ev (fun k => bK.l1 k d (n : Int) b i h) r ∧ r.1.length ≤ 40 ∧ Cur b r.2.1 := by
  intro n d i h hn hd hc
  obtain ⟨r, hr, q⟩ := lM (fun k (s : List S31 × Int × Int) j => bK.l1 k s.1 ((n : Int) - j) b s.2.1 s.2.2) (fun r => r.1.length ≤ 40 ∧ Cur b r.2.1) n (fun j s => s.1.length ≤ 35 + j ∧ Cur b s.2.1)
   (fun s hs => ⟨s, by rw [← bN]; simp only [bK.l1]; rw [evN (by omega)]; exact dF _, by have := hs.1; omega, hs.2⟩)
   (fun j s hj hs => by
    obtain ⟨w, i2, h2, e2, _, hc2⟩ := mW s.2.2 hs.2
    obtain ⟨v, i3, h3, e3, _, _, _, hc3⟩ := gI h2 4 hc2
    have ha := iW s.1 w (wrap64 (1 + v)) (by have := hs.1; omega)
    have hal := lu s.1 w (wrap64 (1 + v))
    refine .inr ⟨((jR s.1 w (wrap64 (1 + v))).1, i3, h3), ⟨by have := hs.1; show (jR s.1 w (wrap64 (1 + v))).1.length ≤ _; omega, hc3⟩, fun r hr => ?_⟩
    rw [← bN]
    simp only [bK.l1, e2, e3, Option.bind_some]
    have hw : wrap64 ((n : Int) - (j : Int) - 1) = (n : Int) - ((j + 1 : Nat) : Int) := by unfold wrap64; omega
    rw [evP (by omega), bS ha, hw]
    exact hr) n 0 (d, i, h) (by omega) ⟨by show d.length ≤ 35 + 0; omega, hc⟩
  exact ⟨r, by simpa using hr, q⟩
 obtain ⟨⟨r1, r2, r3⟩, hr, q1, q2⟩ := lM (fun k (s : List S31 × Int × Int) j => bK.l0 k s.1 ws j b s.2.1 s.2.2) (fun r => r.1.length ≤ 40 ∧ Cur b r.2.1) ws.length (fun j s => s.1.length ≤ j ∧ Cur b s.2.1)
  (fun s hs => by
   obtain ⟨v, i3, h3, e3, v0, v1, _, hc3⟩ := gI s.2.2 6 hs.2
   have v2 := v1 (by omega)
   obtain ⟨n, rfl⟩ : ∃ n : Nat, v = (n : Int) := ⟨v.toNat, by omega⟩
   obtain ⟨r, hr, q⟩ := l1 n s.1 i3 h3 (by omega) (by have := hs.1; omega) hc3
   refine ⟨r, ?_, q⟩
   rw [← bN]
   simp only [bK.l0, e3, Option.bind_some]
   rw [evN (by omega)]
   exact hr)
  (fun j s hj hs => by
   obtain ⟨q, i2, h2, e2, hc2⟩ := mU s.2.2 3 hs.2
   cases q with
   | true =>
    refine .inr ⟨(s.1, i2, h2), ⟨by have := hs.1; show s.1.length ≤ _; omega, hc2⟩, fun r hr => ?_⟩
    rw [← bN]
    simp only [bK.l0, e2, Option.bind_some]
    rw [evP (by omega), evP trivial, fV (by omega)]
    exact hr
   | false =>
    obtain ⟨v, i3, h3, e3, _, _, _, hc3⟩ := gI h2 4 hc2
    have ha := iW s.1 (fO ByteArray.empty ws (j : Int)) (wrap64 (1 + v)) (by have := hs.1; omega)
    have hal := lu s.1 (fO ByteArray.empty ws (j : Int)) (wrap64 (1 + v))
    refine .inr ⟨((jR s.1 (fO ByteArray.empty ws (j : Int)) (wrap64 (1 + v))).1, i3, h3), ⟨by have := hs.1; show (jR s.1 (fO ByteArray.empty ws (j : Int)) (wrap64 (1 + v))).1.length ≤ _; omega, hc3⟩, fun r hr => ?_⟩
    rw [← bN]
    simp only [bK.l0, e2, e3, Option.bind_some]
    rw [evP (by omega), evN (by decide), evP (by omega), bS ha, fV (by omega)]
    exact hr) ws.length 0 ([], i, h) (by omega) ⟨by simp, hc⟩
 exact ⟨r1, r2, r3, hr, q1, q2⟩
theorem kV {b : List Int} {i : Int} (h : Int) (hc : Cur b i) : ∃ d i' h', Ev (fun k => eH.f k b i h) (d, i', h') ∧ d.length ≤ 41 ∧ Cur b i' := by
 obtain ⟨d, i1, h1, e1, hd, hc1⟩ := oQ h hc
 unfold eH.f
 simp only [bS e1]
 by_cases hz : (d.length : Int) = 0
 ·exact ⟨d, i1, h1, by rw [evP hz]; exact dF _, by omega, hc1⟩
 simp only [evN hz]
 obtain ⟨v, i2, h2, e2, v0, v1, _, hc2⟩ := gI h1 (d.length : Int) hc1
 obtain ⟨u, i3, h3, e3, _, _, _, hc3⟩ := gI h2 9 hc2
 have v2 := v1 (by omega)
 simp only [e2, e3, Option.bind_some]
 by_cases u0 : u = 0
 ·obtain ⟨w, i4, h4, e4, _, hc4⟩ := jo h3 hc3
  simp only [evP u0, e4, Option.bind_some, evP v0, evP v2]
  exact ⟨_, _, _, dF _, by rw [List.length_set]; omega, hc4⟩
 simp only [evN u0]
 by_cases u1 : u = 1
 ·obtain ⟨w, i4, h4, e4, _, hc4⟩ := qx h3 hc3
  simp only [evP u1, e4, Option.bind_some, evP v0, evP v2]
  exact ⟨_, _, _, dF _, by rw [List.length_set]; omega, hc4⟩
 simp only [evN u1]
 by_cases u2 : u = 2
 ·simp only [evP u2]
  exact ⟨_, _, _, by rw [evP (by omega), evP (by omega)]; exact dF _, by simp only [List.length_append, List.length_cons, List.length_nil]; omega, hc3⟩
 ·simp only [evN u2]
  exact ⟨_, _, _, dF _, by omega, hc3⟩
theorem kI (b : List Int) (hb : b.length < 4611686018427387904) : ∃ d w s, Ev (fun k => d9.f k b) (d, w, s) ∧ d.length ≤ 41 := by
 obtain ⟨h, e0⟩ := kK b hb
 obtain ⟨d, i1, h1, e1, hd, hc1⟩ := kV h (show Cur b 0 from ⟨hb, Int.le_refl _⟩)
 obtain ⟨w, i2, h2, e2, _, hc2⟩ := jo h1 hc1
 obtain ⟨s, i3, h3, e3, _, hc3⟩ := nZ h2 ([1, 2, 3, 99, 100, 0] : List Int) hc2 (by simp)
 refine ⟨d, w, s, ?_, hd⟩
 unfold d9.f
 simp only [bS e0, bS e1, e2, e3, Option.bind_some]
 exact dF _
theorem kC (b : List Int) (hb : b.length < 4611686018427387904) : ∃ d w s, Ev (fun k => eU.f k b) (d, w, s) ∧ d.length ≤ 41 := by
 obtain ⟨h, e0⟩ := kK b hb
 obtain ⟨d, i1, h1, e1, hd, hc1⟩ := kV h (show Cur b 0 from ⟨hb, Int.le_refl _⟩)
 obtain ⟨w, i2, h2, e2, _, hc2⟩ := jo h1 hc1
 obtain ⟨s, i3, h3, e3, _, hc3⟩ := jo h2 hc2
 refine ⟨d, w, s, ?_, hd⟩
 unfold eU.f
 simp only [bS e0, bS e1, e2, e3, Option.bind_some]
 exact dF _
theorem lD (b : List Int) (hb : b.length < 4611686018427387904) : ∃ d w s, Ev (fun k => eX.f k b) (d, w, s) ∧ d.length ≤ 41 := by
 obtain ⟨h, e0⟩ := kK b hb
 obtain ⟨d, i1, h1, e1, hd, hc1⟩ := kV h (show Cur b 0 from ⟨hb, Int.le_refl _⟩)
 obtain ⟨w, i2, h2, e2, _, hc2⟩ := jo h1 hc1
 obtain ⟨s, i3, h3, e3, _, _, _, hc3⟩ := gI h2 5 hc2
 refine ⟨d, w, wrap64 (1 + s), ?_, hd⟩
 unfold eX.f
 simp only [bS e0, bS e1, e2, e3, Option.bind_some]
 exact dF _
theorem lH (b : List Int) (hb : b.length < 4611686018427387904) : ∃ d l s, Ev (fun k => fC.f k b) (d, l, s) ∧ d.length ≤ 41 ∧ l.length ≤ 35 := by
 obtain ⟨d, w, s, hd, hdl⟩ := lD b hb
 obtain ⟨h, e0⟩ := kK b hb
 obtain ⟨q, i1, h1, e1, hc1⟩ := mU h 2 (show Cur b 0 from ⟨hb, Int.le_refl _⟩)
 unfold fC.f
 simp only [bS hd, bS e0, e1, Option.bind_some]
 cases q with
 | true =>
  obtain ⟨l, hl, hn, _⟩ := jZ
  refine ⟨d, l, s, ?_, hdl, by omega⟩
  rw [evP rfl]
  simp only [hl, Option.bind_some]
  exact dF _
 | false =>
  obtain ⟨l, i2, h2, e2, hn, _⟩ := pO h1 hc1
  refine ⟨d, l, s, ?_, hdl, by omega⟩
  rw [evN (by decide), bS e2]
  exact dF _
theorem ng (l : List Int) (c : Int) (hl : l.length < 4611686018427387904) : Ev (fun k => dJ.f k l c) (l.any fun x => decide (x = c)) := by
 refine nV (fun k i => dJ.l0 k l c i) l _ ?_ (fun i hi hp r hr => ?_) (fun i hi hp => ?_)
 ·rw [← bN]; simp [dJ.l0, dF]
 ·rw [← bN]
  simp only [dJ.l0, kT l i hi, fV (i := i) (by omega)]
  rw [evP (by omega), evP (by omega), evN (of_decide_eq_false hp)]
  exact hr
 ·rw [← bN]
  simp only [dJ.l0, kT l i hi]
  rw [evP (by omega), evP (by omega), evP (of_decide_eq_true hp)]
  exact dF _
theorem jF (l : List ByteArray) (w : ByteArray) (hl : l.length < 4611686018427387904) : Ev (fun k => gQ.f k l w) (mE l w) := by
 unfold gQ.f
 rw [bS (nA l w hl)]
 exact dF _
theorem oI (l m : List ByteArray) (hl : l.length < 4611686018427387904) (hm : m.length < 4611686018427387904) : Ev (fun k => dZ.f k l m) (l.all fun x => mE m x) := by
 refine mg (fun k i => dZ.l0 k l m i) l _ ?_ (fun i hi hp r hr => ?_) (fun i hi hp => ?_)
 ·rw [← bN]; simp [dZ.l0, dF]
 ·rw [← bN]
  simp only [dZ.l0, iX ByteArray.empty l i hi, fV (i := i) (by omega)]
  rw [evP (by omega), evP (by omega), bS (jF m l[i] hm), evP hp]
  exact hr
 ·rw [← bN]
  simp only [dZ.l0, iX ByteArray.empty l i hi]
  rw [evP (by omega), evP (by omega), bS (jF m l[i] hm), evN (by rw [hp]; decide)]
  exact dF _
theorem pR {l : List ByteArray} {w : ByteArray} : mE l w = true ↔ w ∈ l := by
 simp [mE]
theorem nT {d : List S31} {a : ByteArray} {n : Int} : hasB d a n = true ↔ ∃ x ∈ d, x.f0 = a ∧ x.f1 = n := by
 simp [hasB, oF]
theorem iY {d : List S31} {a : ByteArray} {n : Int} : n ∈ d.flatMap (gY a) ↔ hasB d a n = true := by
 rw [nT, List.mem_flatMap]
 constructor
 ·rintro ⟨x, hx, hn⟩
  unfold gY at hn
  split at hn
  ·exact ⟨x, hx, ‹_›, (List.mem_singleton.mp hn).symm⟩
  ·cases hn
 ·rintro ⟨x, hx, h1, h2⟩
  exact ⟨x, hx, by simp [gY, h1, h2]⟩
theorem ko {d : List S31} {a b : ByteArray} : nP d a b = true ↔ ∃ n, hasB d a n = true ∧ hasB d b n = true := by
 simp only [nP, List.any_eq_true, iY]
theorem pU (d : List S31) (a b : ByteArray) : nP d a b = nP d b a := by
 rw [Bool.eq_iff_iff, ko, ko]
 exact ⟨fun ⟨n, x, y⟩ => ⟨n, y, x⟩, fun ⟨n, x, y⟩ => ⟨n, y, x⟩⟩
theorem pE (d : List S31) (a : ByteArray) : nP d a a = decide (((d.flatMap (gY a)).length : Int) > 0) := by
 rw [Bool.eq_iff_iff, ko, decide_eq_true_iff]
 constructor
 ·rintro ⟨n, h, _⟩
  have := List.length_pos_of_mem (iY.mpr h)
  omega
 ·intro h
  obtain ⟨n, hn⟩ := List.exists_mem_of_length_pos (show 0 < (d.flatMap (gY a)).length by omega)
  exact ⟨n, iY.mp hn, iY.mp hn⟩
theorem oG (d : List S31) (w : ByteArray) (s : Int) : jR d w s = (d, false) ∨ (jR d w s = (jw d w s, true) ∧ jf (jw d w s) = true) := by
 unfold jR
 split
 ·exact .inl rfl
 ·split
  ·exact .inr ⟨rfl, ‹_›⟩
  ·exact .inl rfl
theorem pz (d : List S31) (w : ByteArray) (s : Int) : hasB (jw d w s) w s = true := by
 rw [nT]
 exact ⟨⟨w, s⟩, by simp [jw], rfl, rfl⟩
theorem nW : aU.Pure := by
 intro b hb1 hb2 hb3
 refine Ev.rounds ?_
 unfold aU.f iV.f
 simp only [Option.bind_some]
 by_cases hbig : decide ((b.length : Int) > 1048576) = true
 ·rw [evP hbig]
  exact dF _
 rw [evN hbig]
 have hlen : b.length < 4611686018427387904 := by
  rw [decide_eq_true_iff] at hbig
  omega
 have hj1 : Ev (fun k => aU.j1 k b false) true := by
  rw [← bN]
  simp only [aU.j1]
  rw [evN (by decide)]
  obtain ⟨f, ws, s, hd, hdl, hwl⟩ := lH b hlen
  have hw := kU f ws s (by omega) (by omega)
  simp only [bS hd, bS hw]
  have hfl := List.length_filter_le (fun w => hasB f w s) ws
  have hall : ∀ w ∈ ws.filter (fun w => hasB f w s), hasB f w s = true ∧ mE ws w = true := fun w hw => by
   rw [List.mem_filter] at hw
   exact ⟨hw.2, pR.mpr hw.1⟩
  generalize ws.filter (fun w => hasB f w s) = l at hfl hall
  refine jq (fun k i => aU.l0 k f ws s l i) l.length (fun _ => true) ?_ (fun i hi => .inr ⟨rfl, fun r hr => ?_⟩) 0 (Nat.zero_le _)
  ·rw [← bN]
   simp only [aU.l0]
   rw [evN (by omega), bS (oI l ws (by omega) (by omega))]
   exact su (dF _) (List.all_eq_true.mpr fun w hw => (hall w hw).2)
  ·have hz := jB _ (jO l[i]) f
   have h1 := gZ f l[i] s (by omega)
   have h2 := iH f l[i] (by omega)
   have h3 := ng (f.flatMap (gY l[i])) s (by omega)
   have h4 := (hall l[i] (List.getElem_mem _)).1
   have h5 : ((f.flatMap (gY l[i])).any fun x => decide (x = s)) = true := by
    simp only [List.any_eq_true, decide_eq_true_iff]
    exact ⟨s, iY.mpr h4, rfl⟩
   rw [← bN]
   simp only [aU.l0, iX ByteArray.empty l i hi, fV (i := i) (by omega)]
   rw [evP (by omega), evP (by omega), bS h1, evP h4, bS h2, bS h3, evP h5]
   exact hr
 have hj : Ev (fun k => aU.j0 k b false) true := by
  rw [← bN]
  simp only [aU.j0]
  rw [evN (by decide)]
  obtain ⟨e, a, c, he, hel⟩ := kC b hlen
  have hz := jB _ (jO a) e
  have r1 := gN e a c (by omega)
  have r2 := gN e c a (by omega)
  have r3 := gN e a a (by omega)
  have r4 := iH e a (by omega)
  simp only [bS he, bS r1, bS r2]
  rw [pU e a c, evN (by simp)]
  simp only [bS r3, bS r4]
  rw [pE, bne_self_eq_false]
  exact hj1
 obtain ⟨d, w, s, hd, hdl⟩ := kI b hlen
 have ha := jY d w s (by omega)
 simp only [bS hd, bS ha]
 rcases oG d w s with e | ⟨e, h2⟩
 ·rw [e]
  simp only [bne_self_eq_false]
  rw [evN (by decide)]
  exact hj
 ·have hil := jc d w s
  have i1 := iN (jw d w s) (by omega)
  have i2 := gZ (jw d w s) w s (by omega)
  have i3 := gN (jw d w s) w w (by omega)
  have h3 := pz d w s
  have h4 : nP (jw d w s) w w = true := ko.mpr ⟨s, h3, h3⟩
  have h5 : ((jw d w s).length : Int) = wrap64 ((d.length : Int) + 1) := by
   rw [hil]
   unfold wrap64
   omega
  rw [e]
  dsimp only
  rw [evP rfl, bS i1, evP h2, bS i2, evP h3, evP h5, bS i3, evP h4]
  exact hj
end Go.Proofs.Ythjcicmmbmagbaa.Pure
