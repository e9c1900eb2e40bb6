/- Who has understood more has fewer guesses, and the answer stays among them, for every code; no further condition. -/
import Derived.Test.YthjcicmmbmagbaaGreatZFnGuessesQ
import Derived.Test.YthjcicmmbmagbaaGreatZFnGuessesEv
namespace Go.Proofs.YthjcicmmbmagbaaGreat.Pure
open Go.RowKit Go.Proofs.YthjcicmmbmagbaaGreat.PFnGuesses Go.Proofs.YthjcicmmbmagbaaGreatW.PrintWords Go.Proofs.YthjcicmmbmagbaaGreatW.PrintLast Go.Proofs.YthjcicmmbmagbaaGreatW.PrintMore Go.Proofs.YthjcicmmbmagbaaGreat.Sem
set_option linter.unusedVariables false
set_option linter.unusedSimpArgs false
theorem lG (xs : List S64) (i : Nat) (h : i < xs.length) : bS xs (i : Int) = xs[i] := by
 simp [bS, List.getD_eq_getElem?_getD, List.getElem?_eq_getElem h]
theorem oq (xs : List S69) (i : Nat) (h : i < xs.length) : ak xs (i : Int) = xs[i] := by
 simp [ak, List.getD_eq_getElem?_getD, List.getElem?_eq_getElem h]
theorem kS (a b c : Int) : bX.f a b c = some (decide (b ≤ a ∧ a ≤ c)) := by
 unfold bX.f
 by_cases h : b ≤ a <;> simp [h]
theorem jR (a b c : Int) : eD.f a b c = some (decide (b ≤ a ∧ a ≤ c)) := by
 unfold eD.f
 by_cases h : b ≤ a <;> simp [h]
theorem at_eq (a b : Int) : jA.f a b = some (decide (0 ≤ a ∧ a < b)) := by
 unfold jA.f
 by_cases h : 0 ≤ a <;> simp [h]
theorem kN (a : Int) : iq.f a = some (decide (97 ≤ a ∧ a ≤ 122)) := by
 unfold iq.f
 by_cases h : 97 ≤ a <;> simp [h]
def jy (c : Int) : Bool := decide (97 ≤ c ∧ c ≤ 122)
def fQ (s : ByteArray) : Bool := decide (1 ≤ s.size ∧ s.size ≤ 8) && (bytesOf s).all jy
theorem fE {s : ByteArray} (h : fQ s = true) : 1 ≤ s.size ∧ s.size ≤ 8 := by
 simp [fQ] at h
 exact h.1
theorem qp {s : ByteArray} (h : fQ s = true) : ∀ c ∈ bytesOf s, 97 ≤ c ∧ c ≤ 122 := by
 simp [fQ, jy] at h
 exact h.2
theorem fI (s : ByteArray) : Ev (fun k => bL.f k s) (fQ s) := by
 simp only [bL.f, kS, Option.bind_some, aX, decide_eq_true_eq, fQ]
 by_cases h : (1 : Int) ≤ s.size ∧ (s.size : Int) ≤ 8
 ·rw [if_pos h]
  have h' : 1 ≤ s.size ∧ s.size ≤ 8 := by omega
  simp only [h', decide_true, Bool.true_and, and_self]
  refine kG (fun k i => bL.l0 k s i) (bytesOf s) jy ?_ (fun i hi hp r hr => ?_) (fun i hi hp => ?_)
  ·rw [← aT]; simp [bL.l0, bytesOf_length, bn]
  ·have hi' : i < s.size := by rw [bytesOf_length] at hi; exact hi
   rw [← aT]
   simp [jy] at hp
   simp only [bL.l0, lF s i hi', dZ (i := i) (by omega)]
   rw [ep, ep, en, en]
   exact hr
  ·have hi' : i < s.size := by rw [bytesOf_length] at hi; exact hi
   rw [← aT]
   simp [jy] at hp
   simp only [bL.l0, lF s i hi', dZ (i := i) (by omega)]
   rw [ep, ep, aX]
   by_cases h1 : (bytesOf s)[i] < 97
   ·rw [if_pos h1]; exact bn _
   ·rw [if_neg h1, ep]; exact bn _
 ·rw [if_neg h]
  have h' : ¬ (1 ≤ s.size ∧ s.size ≤ 8) := by omega
  simp [h', bn]
theorem fV (s : ByteArray) : Ev (fun k => cu.f k s) (fQ s) := by
 simp only [cu.f, jR, Option.bind_some, aX, decide_eq_true_eq, fQ]
 by_cases h : (1 : Int) ≤ s.size ∧ (s.size : Int) ≤ 8
 ·rw [if_pos h]
  have h' : 1 ≤ s.size ∧ s.size ≤ 8 := by omega
  simp only [h', decide_true, Bool.true_and, and_self]
  refine kG (fun k i => cu.l0 k s (s.size : Int) i) (bytesOf s) jy ?_ (fun i hi hp r hr => ?_) (fun i hi hp => ?_)
  ·rw [← aT]; simp [cu.l0, bytesOf_length, bn]
  ·have hi' : i < s.size := by rw [bytesOf_length] at hi; exact hi
   rw [← aT]
   simp [jy] at hp
   simp only [cu.l0, lF s i hi', dZ (i := i) (by omega), kN, Option.bind_some]
   rw [ep, ep, ep, ep (by simpa using hp)]
   exact hr
  ·have hi' : i < s.size := by rw [bytesOf_length] at hi; exact hi
   rw [← aT]
   simp only [jy] at hp
   simp only [cu.l0, lF s i hi', dZ (i := i) (by omega), kN, Option.bind_some]
   rw [ep, ep, ep, en (by rw [hp]; decide)]
   exact bn _
 ·rw [if_neg h]
  have h' : ¬ (1 ≤ s.size ∧ s.size ≤ 8) := by omega
  simp [h', bn]
def mdP (a : Int) : Int := Int.tmod (wrap64 ((Int.tmod a 2147483647) + 2147483647)) 2147483647
def hstep (d v : Int) : Int := Int.tmod (wrap64 ((wrap64 ((wrap64 (d * 1000003)) + mdP v)) + 13)) 2147483647
def wH (w : ByteArray) (s : Int) (x : S64) : Bool := decide (x.f0 = w ∧ x.f1 = s)
def hasB (l : List S64) (w : ByteArray) (s : Int) : Bool := l.any (wH w s)
theorem kY (l : List S64) (w : ByteArray) (s : Int) (hl : l.length < 4611686018427387904) : Ev (fun k => dB.f k l w s) (hasB l w s) := by
 refine rV (fun k i => dB.l0 k l w s i) l _ ?_ (fun i hi hp r hr => ?_) (fun i hi hp => ?_)
 ·rw [← aT]; simp [dB.l0, bn]
 ·rw [← aT]
  simp only [dB.l0, lG l i hi, dZ (i := i) (by omega), toList_eq]
  simp [wH] at hp
  simp [aX, hi]
  split
  ·rw [if_neg (hp ‹_›)]; exact hr
  ·exact hr
 ·rw [← aT]
  simp only [dB.l0, lG l i hi, dZ (i := i) (by omega), toList_eq]
  simp [wH] at hp
  simp [aX, hi, hp, bn]
theorem uY (l : List S64) (w : ByteArray) (s : Int) (hl : l.length < 4611686018427387904) : Ev (fun k => dX.f k l w s) (match l.findIdx? (wH w s) with | some i => (i : Int) | none => -1) := by
 refine qP (fun k i => dX.l0 k l (l.length : Int) i w s) l _ ?_ (fun i hi hp r hr => ?_) (fun i hi hp => ?_)
 ·rw [← aT]; simp [dX.l0, bn]
 ·rw [← aT]
  simp only [dX.l0, lG l i hi, dZ (i := i) (by omega), jc]
  simp [wH] at hp
  simp [aX, hi]
  rw [if_neg (by intro h; exact hp h.1.symm h.2.symm)]
  exact hr
 ·rw [← aT]
  simp only [dX.l0, lG l i hi, dZ (i := i) (by omega), jc]
  simp [wH] at hp
  simp [aX, hi, hp, bn]
theorem AO {α : Type} (l : List α) (p : α → Bool) : decide ((match l.findIdx? p with | some i => (i : Int) | none => -1) ≥ 0) = l.any p := by
 cases h : l.findIdx? p with
 | none =>
  have := List.findIdx?_eq_none_iff.1 h
  simp
  intro x hx
  simpa using this x hx
 | some i =>
  obtain ⟨h1, h2, _⟩ := List.findIdx?_eq_some_iff_getElem.1 h
  simp
  exact ⟨l[i], List.getElem_mem h1, h2⟩
theorem rT (l : List S64) (w : ByteArray) (s : Int) (hl : l.length < 4611686018427387904) : Ev (fun k => iD.f k l w s) (hasB l w s) := by
 unfold iD.f
 rw [aU (uY l w s hl), AO]
 exact bn _
theorem kX (l : List S64) (w : ByteArray) (s : Int) (hl : l.length < 4611686018427387904) : Ev (fun k => eY.f k l w s) (hasB l w s) := by
 unfold eY.f
 rw [aU (rT l w s hl)]
 exact bn _
def mR (w : ByteArray) (x : S64) : List Int := if x.f0 = w then [x.f1] else []
theorem qz {α β : Type} (f : α → List β) (h : ∀ x, (f x).length ≤ 1) (l : List α) : (l.flatMap f).length ≤ l.length := by
 induction l with
 | nil => simp
 | cons x l ih => have := h x; simp only [List.flatMap_cons, List.length_append, List.length_cons]; omega
theorem qQ (w : ByteArray) (x : S64) : (mR w x).length ≤ 1 := by unfold mR; split <;> simp
theorem oo (l : List S64) (w : ByteArray) (hl : l.length ≤ 17592186044416) : Ev (fun k => dY.f k l w) (l.flatMap (mR w)) := by
 refine nK (fun k x i => dY.l0 k l w x i) l (mR w) 0 (fun x => ?_) (fun i hi x hx r hr => ?_)
 ·rw [← aT]; simp [dY.l0, bn]
 ·have hx' := qz _ (qQ w) (l.take i)
  rw [List.length_take] at hx'
  rw [← aT]
  simp only [dY.l0, lG l i hi, dZ (i := i) (by omega), toList_eq]
  rw [ep, ep, aX]
  unfold mR at hr
  split
  ·rw [if_pos ‹_›] at hr
   rw [ep]
   exact hr
  ·rw [if_neg ‹_›, List.append_nil] at hr
   exact hr
def bwB (a b : ByteArray) : Bool := if (a.size : Int) = b.size then _root_.Go.Op.bytesLess a.toList b.toList else decide ((a.size : Int) < b.size)
theorem nC (a b : ByteArray) : iC.f a b = some (bwB a b) := by
 unfold iC.f bwB
 split <;> rfl
theorem kZ : ∀ l : List UInt8, _root_.Go.Op.bytesLess l l = false
 | [] => rfl
 | a :: l => by simp [_root_.Go.Op.bytesLess, kZ l]
theorem uO (a : ByteArray) : bwB a a = false := by simp [bwB, kZ]
def bmB (a : ByteArray) (m : Int) (b : ByteArray) (n : Int) : Bool := if a = b then decide (m < n) else bwB a b
theorem lI (a : ByteArray) (m : Int) (b : ByteArray) (n : Int) : fZ.f a m b n = some (bmB a m b n) := by
 simp only [fZ.f, nC, Option.bind_some, toList_eq, bmB]
 by_cases h : a = b
 ·subst h
  simp [uO]
 ·simp [h]
  cases bwB a b <;> rfl
def okM (l : List S64) (i : Nat) : Bool := if h : i < l.length then fQ l[i].f0 && (decide (1 ≤ l[i].f1 ∧ l[i].f1 ≤ 99) && (decide (i = 0) || bmB (l[i - 1]'(by omega)).f0 (l[i - 1]'(by omega)).f1 l[i].f0 l[i].f1)) else false
def pG (l : List S64) : Bool := decide (l.length ≤ 40) && (List.range l.length).all (okM l)
theorem Bl {i : Nat} (h : i < 4611686018427387904) : wrap64 ((i + 1 : Nat) - 1 : Int) = (i : Int) := by unfold wrap64; omega
theorem mD (l : List S64) (hl : l.length < 4611686018427387904) : Ev (fun k => bA.f k l) (pG l) := by
 unfold bA.f
 have := kH (fun k i => bA.l0 k l i) l.length (fun i => decide (l.length ≤ 40) && ((List.range l.length).drop i).all (okM l)) ?_ (fun i hi => ?_) 0 (Nat.zero_le _)
 ·simpa [pG] using this
 ·rw [← aT]
  simp only [bA.l0]
  rw [en, eX, List.drop_eq_nil_of_le (by simp)]
  simp
  omega
 ·have hd : (List.range l.length).drop i = i :: (List.range l.length).drop (i + 1) := by rw [List.drop_eq_getElem_cons (by simpa using hi)]; simp
  have hu : ∀ r, Ev (fun k => bA.l0 k l (i : Int)) r ↔ if okM l i = true then Ev (fun k => bA.l0 k l ((i + 1 : Nat) : Int)) r else Ev (fun _ => some false) r := by
   intro r
   rw [← aT]
   simp only [bA.l0, lG l i hi, dZ (i := i) (by omega), kS, Option.bind_some]
   rw [ep, ep, aU (fI _), aX, aX, aX]
   simp only [okM, hi, dif_pos, Bool.and_eq_true, Bool.or_eq_true]
   by_cases h1 : fQ l[i].f0 = true
   ·simp only [h1, if_true, true_and]
    by_cases h2 : 1 ≤ l[i].f1 ∧ l[i].f1 ≤ 99
    ·simp only [h2, and_self, decide_true, if_true, true_and]
     cases i with
     | zero => simp
     | succ j =>
      rw [if_pos (by omega), Bl (by omega), lG l j (by omega), ep, ep, lI]
      simp only [Option.bind_some, aX]
      simp
    ·simp [h2]
   ·simp [h1]
  rw [hd, List.all_cons]
  by_cases ho : okM l i = true
  ·refine .inr ⟨by simp [ho], fun r hr => ?_⟩
   rw [hu, if_pos ho]
   exact hr
  ·refine .inl ?_
   rw [hu, if_neg ho, eX]
   simp [ho]
def pR (l : List S69) (i : Nat) (two : Bool) (kind A B : Int) : Bool :=
 if kind = 1 then decide (A = 0 ∧ B = 0) else decide (0 ≤ A ∧ A < i) && (if two = true then decide (0 ≤ B ∧ B < i) else decide (B = 0) && (decide (kind = 2) || decide ((ak l A).f0 = 1)))
def jQ (l : List S69) (i : Nat) : Bool :=
 decide (1 ≤ (ak l i).f0 ∧ (ak l i).f0 ≤ 9) && ((if (ak l i).f0 = 1 then fQ (ak l i).f1 else decide ((ak l i).f1.size = 0)) && pR l i (decide ((ak l i).f0 = 4 ∨ (ak l i).f0 = 5)) (ak l i).f0 (ak l i).f2 (ak l i).f3)
theorem rZ (l : List S69) (i : Nat) (hi : i < l.length) (hl : l.length < 4611686018427387904) (two : Bool) (kind : Int) (word : ByteArray) (A B : Int) : Ev (fun k => eF.j1 k l (i : Int) two kind word A B) (pR l i two kind A B) := by
 have e : wrap64 ((i : Int) - 1) = i - 1 := uE (by omega) (by omega)
 rw [← aT]
 simp only [eF.j1, kS, Option.bind_some, e, pR, aX]
 by_cases h1 : kind = 1
 ·by_cases h2 : A = 0 <;> simp [h1, h2, eX] <;> rfl
 ·rw [if_neg h1, if_neg h1]
  by_cases h2 : 0 ≤ A ∧ A < (i : Int)
  ·have h2' : 0 ≤ A ∧ A ≤ (i : Int) - 1 := by omega
   simp only [h2, h2', and_self, decide_true, if_true, Bool.true_and]
   cases two
   ·simp only [Bool.false_eq_true, if_false]
    by_cases h3 : B = 0
    ·by_cases h4 : kind = 2
     ·simp [h3, h4, eX]
     ·simp only [h3, h4, if_true, if_false, decide_true, decide_false, Bool.true_and, Bool.false_or]
      rw [if_pos (by omega), eX]
      rfl
    ·simp [h3, eX]
   ·simp only [if_true]
    by_cases h3 : 0 ≤ B ∧ B < (i : Int)
    ·have h3' : 0 ≤ B ∧ B ≤ (i : Int) - 1 := by omega
     simp [h3, h3', eX]
    ·have h3' : ¬ (0 ≤ B ∧ B ≤ (i : Int) - 1) := by omega
     simp [h3, h3', eX]
  ·have h2' : ¬ (0 ≤ A ∧ A ≤ (i : Int) - 1) := by omega
   simp [h2, h2', eX]
theorem mE (l : List S69) (i : Nat) (hi : i < l.length) (hl : l.length < 4611686018427387904) (b : Bool) (kind : Int) (word : ByteArray) (A B : Int) : Ev (fun k => eF.j0 k l (i : Int) b kind word A B) (!b && pR l i (decide (kind = 4 ∨ kind = 5)) kind A B) := by
 rw [← aT]
 simp only [eF.j0, aX]
 cases b
 ·simp only [Bool.false_eq_true, if_false, Bool.not_false, Bool.true_and]
  by_cases h : kind = 4
  ·simp only [h, if_true, true_or, decide_true]
   exact rZ l i hi hl _ _ _ _ _
  ·simp only [h, if_false, false_or]
   have := rZ l i hi hl (kind == 5) kind word A B
   exact this
 ·simp [eX]
theorem qI (l : List S69) (i : Nat) (hi : i < l.length) (hl : l.length < 4611686018427387904) : Ev (fun k => eF.f k l (i : Int)) (jQ l i) := by
 unfold eF.f
 rw [ep, ep]
 simp only [kS, Option.bind_some, decide_eq_true_eq]
 unfold jQ
 generalize ak l (i : Int) = s
 rw [aX]
 by_cases h1 : 1 ≤ s.f0 ∧ s.f0 ≤ 9
 ·rw [if_pos h1, aU (fI s.f1), aX]
  simp only [h1, and_self, decide_true, Bool.true_and]
  by_cases h2 : s.f0 = 1
  ·simp only [h2, beq_self_eq_true, if_true, aX]
   cases hw : fQ s.f1
   ·simp only [Bool.true_bne, Bool.not_false, if_true]
    exact lC (mE l i hi hl _ _ _ _ _) (by simp)
   ·simp only [Bool.true_bne, Bool.not_true, Bool.false_eq_true, if_false]
    exact lC (mE l i hi hl _ _ _ _ _) (by simp)
  ·have h2' : (s.f0 == 1) = false := by simpa using h2
   simp only [h2, h2', if_false, aX, Bool.false_bne]
   cases hw : fQ s.f1
   ·simp only [Bool.false_eq_true, if_false]
    refine lC (mE l i hi hl _ _ _ _ _) ?_
    congr 1
    rw [Bool.eq_iff_iff]
    simp [bne, toList_nil]
   ·have hz : ¬ s.f1.size = 0 := by have := fE hw; omega
    simp only [if_true]
    exact lC (mE l i hi hl _ _ _ _ _) (by simp [hz])
 ·rw [if_neg h1]
  simp only [h1, decide_false, Bool.false_and]
  exact lC (mE l i hi hl _ _ _ _ _) (by simp)
def jF (l : List S69) : Bool := decide (1 ≤ l.length ∧ l.length ≤ 9) && (List.range l.length).all (jQ l)
theorem oM {l : List S69} (h : jF l = true) : 1 ≤ l.length ∧ l.length ≤ 9 := by
 simp [jF] at h
 exact h.1
theorem nS {l : List S69} (h : jF l = true) (i : Nat) (hi : i < l.length) : jQ l i = true := by
 simp [jF] at h
 exact h.2 i hi
theorem qB (l : List S69) (hl : l.length < 4611686018427387904) : Ev (fun k => dL.f k l) (jF l) := by
 unfold dL.f
 have hend : ∀ i : Nat, Ev (fun k => dL.j1 k l (i : Int) false) (decide (1 ≤ l.length ∧ l.length ≤ 9)) := by
  intro i
  rw [← aT]
  simp only [dL.j1, kS, Option.bind_some, Bool.false_eq_true, if_false, eX]
  rw [Bool.eq_iff_iff]
  simp
  omega
 have := kH (fun k i => dL.l0 k l i) l.length (fun i => decide (1 ≤ l.length ∧ l.length ≤ 9) && ((List.range l.length).drop i).all (jQ l)) ?_ (fun i hi => ?_) 0 (Nat.zero_le _)
 ·simpa [jF] using this
 ·rw [← aT]
  simp only [dL.l0]
  rw [en, List.drop_eq_nil_of_le (by simp)]
  simpa using hend l.length
 ·have hd : (List.range l.length).drop i = i :: (List.range l.length).drop (i + 1) := by rw [List.drop_eq_getElem_cons (by simpa using hi)]; simp
  by_cases h9 : l.length ≤ 9
  ·have hu : ∀ r, Ev (fun k => dL.l0 k l (i : Int)) r ↔ if jQ l i = true then Ev (fun k => dL.l0 k l ((i + 1 : Nat) : Int)) r else Ev (fun _ => some false) r := by
    intro r
    have h9' : decide ((l.length : Int) ≤ 9) = true := by simp; omega
    rw [← aT]
    simp only [dL.l0, h9']
    rw [ep, ← aT]
    simp only [dL.j1, if_true, dZ (i := i) (by omega)]
    rw [aU (qI l i hi hl), aX]
   rw [hd, List.all_cons]
   by_cases ho : jQ l i = true
   ·refine .inr ⟨by simp [ho], fun r hr => ?_⟩
    rw [hu, if_pos ho]
    exact hr
   ·refine .inl ?_
    rw [hu, if_neg ho, eX]
    simp [ho]
  ·refine .inl ?_
   have h9' : decide ((l.length : Int) ≤ 9) = false := by simp; omega
   rw [← aT]
   simp only [dL.l0, h9']
   rw [ep]
   exact lC (hend i) (by simp [h9])
theorem wm (a : Int) : iw.f a = some (decide (a = 4 ∨ a = 5)) := by
 unfold iw.f
 by_cases h : a = 4
 ·simp [h]
 ·simp [h]; rfl
theorem rM (a : Int) : iI.f a = some (decide (a = 3 ∨ a ≥ 6)) := by
 unfold iI.f
 by_cases h : a = 3 <;> simp [h]
theorem pI (l : List S69) (i : Nat) (hi : i < l.length) (hl : l.length < 4611686018427387904) (b : Bool) (kind : Int) (word : ByteArray) (A B : Int) (r : Bool) :
  Ev (fun k => dx.j1 k l (i : Int) l (l.length : Int) (i : Int) b kind word A B) r ↔ if (!b && (if kind = 4 ∨ kind = 5 then decide (0 ≤ B ∧ B < i) else decide (B = 0))) = true then Ev (fun k => dx.l0 k l l (l.length : Int) ((i + 1 : Nat) : Int)) r else Ev (fun _ => some false) r := by
 rw [← aT]
 simp only [dx.j1, wm, at_eq, Option.bind_some, dZ (i := i) (by omega), aX, decide_eq_true_eq]
 cases b
 ·by_cases h : kind = 4 ∨ kind = 5
  ·by_cases h2 : 0 ≤ B ∧ B < (i : Int) <;> simp [h, h2]
  ·by_cases h2 : B = 0 <;> simp [h, h2]
 ·simp
theorem oL (l : List S69) (i : Nat) : jQ l i = (decide (1 ≤ (ak l i).f0 ∧ (ak l i).f0 ≤ 9) && (if (ak l i).f0 = 1 then fQ (ak l i).f1 && decide ((ak l i).f2 = 0 ∧ (ak l i).f3 = 0)
  else decide ((ak l i).f1.size = 0) && (decide (0 ≤ (ak l i).f2 ∧ (ak l i).f2 < i) && (!(decide ((ak l i).f0 = 3 ∨ (ak l i).f0 ≥ 6) && decide (¬ (ak l (ak l i).f2).f0 = 1)) && (if (ak l i).f0 = 4 ∨ (ak l i).f0 = 5 then decide (0 ≤ (ak l i).f3 ∧ (ak l i).f3 < i) else decide ((ak l i).f3 = 0)))))) := by
 unfold jQ pR
 generalize ak l (i : Int) = s
 generalize (ak l s.f2).f0 = a
 by_cases h1 : 1 ≤ s.f0 ∧ s.f0 ≤ 9
 ·by_cases h2 : s.f0 = 1
  ·simp [h2]
  ·simp only [h1, h2, and_self, decide_true, Bool.true_and, if_false]
   by_cases h3 : s.f0 = 4 ∨ s.f0 = 5
   ·have h4 : ¬ (s.f0 = 3 ∨ s.f0 ≥ 6) := by omega
    simp [h3, h4]
   ·simp only [h3, decide_false, Bool.false_eq_true, if_false]
    by_cases h4 : s.f0 = 2
    ·have h5 : ¬ (s.f0 = 3 ∨ s.f0 ≥ 6) := by omega
     simp [h4]
    ·have h5 : s.f0 = 3 ∨ s.f0 ≥ 6 := by omega
     by_cases h6 : a = 1 <;> simp [h4, h5, h6]
 ·simp [h1]
theorem lY (l : List S69) (hl : l.length < 4611686018427387904) : Ev (fun k => dx.f k l) (jF l) := by
 unfold dx.f
 simp only [jR, Option.bind_some, decide_eq_true_eq]
 unfold jF
 rw [aX]
 by_cases hlen : 1 ≤ l.length ∧ l.length ≤ 9
 ·rw [if_pos (by omega)]
  simp only [hlen, and_self, decide_true, Bool.true_and]
  have := kH (fun k i => dx.l0 k l l (l.length : Int) i) l.length (fun i => ((List.range l.length).drop i).all (jQ l)) ?_ (fun i hi => ?_) 0 (Nat.zero_le _)
  ·simpa using this
  ·rw [← aT]
   simp only [dx.l0]
   rw [en, eX, List.drop_eq_nil_of_le (by simp)]
   simp
  ·have hd : (List.range l.length).drop i = i :: (List.range l.length).drop (i + 1) := by rw [List.drop_eq_getElem_cons (by simpa using hi)]; simp
   have hu : ∀ r, Ev (fun k => dx.l0 k l l (l.length : Int) (i : Int)) r ↔ if jQ l i = true then Ev (fun k => dx.l0 k l l (l.length : Int) ((i + 1 : Nat) : Int)) r else Ev (fun _ => some false) r := by
    intro r
    rw [← aT]
    simp only [dx.l0, dZ (i := i) (by omega), jR, rM, at_eq, Option.bind_some, oL]
    generalize ak l (i : Int) = s
    simp only [aX, decide_eq_true_eq, aU (fV s.f1), pI l i hi hl, toList_nil]
    rw [if_pos (by omega), if_pos (by omega), if_pos (by omega)]
    by_cases h1 : 1 ≤ s.f0 ∧ s.f0 ≤ 9
    ·by_cases h2 : s.f0 = 1
     ·simp only [h2]
      cases hw : fQ s.f1
      ·simp
      ·by_cases h3 : s.f2 = 0
       ·by_cases h4 : s.f3 = 0 <;> simp [h3, h4]
       ·simp [h3]
     ·simp only [h1, h2, and_self, decide_true, Bool.true_and, if_true, if_false]
      by_cases h3 : s.f1.size = 0
      ·by_cases h4 : 0 ≤ s.f2 ∧ s.f2 < (i : Int)
       ·have h4' : s.f2 < (l.length : Int) := by omega
        by_cases h5 : s.f0 = 3 ∨ s.f0 ≥ 6
        ·simp only [h3, h4, h4', h5, and_self, decide_true, if_true, Bool.true_and]
         cases hb : ((ak l s.f2).f0 != 1)
         ·have hb' : (ak l s.f2).f0 = 1 := by simpa using hb
          simp [hb']
         ·have hb' : ¬ (ak l s.f2).f0 = 1 := by simpa using hb
          simp [hb']
        ·simp [h3, h4, h5]
       ·simp [h3, h4]
      ·simp [h3]
    ·simp [h1]
   rw [hd, List.all_cons]
   by_cases ho : jQ l i = true
   ·refine .inr ⟨by simp [ho], fun r hr => ?_⟩
    rw [hu, if_pos ho]
    exact hr
   ·refine .inl ?_
    rw [hu, if_neg ho, eX]
    simp [ho]
 ·rw [if_neg (by omega)]
  simp [hlen, eX]
def nP (a : Int) (l : List S69) : Bool := decide (1 ≤ a ∧ a ≤ 99) && jF l
theorem lW (a : Int) (l : List S69) (hl : l.length < 4611686018427387904) : Ev (fun k => iy.f k a l) (nP a l) := by
 unfold iy.f nP
 simp only [jR, Option.bind_some, aX, aU (lY l hl), decide_eq_true_eq]
 by_cases h : 1 ≤ a ∧ a ≤ 99 <;> simp [h, eX]
theorem nV {l : List S69} {i : Nat} (hi : i < l.length) (h : jQ l i = true) : (1 ≤ l[i].f0 ∧ l[i].f0 ≤ 9) ∧ (l[i].f0 = 1 → fQ l[i].f1 = true) ∧ (¬ l[i].f0 = 1 → 0 ≤ l[i].f2 ∧ l[i].f2 < i) ∧ (l[i].f0 = 4 ∨ l[i].f0 = 5 → 0 ≤ l[i].f3 ∧ l[i].f3 < i) ∧ (¬ l[i].f0 = 1 → ¬ (l[i].f0 = 4 ∨ l[i].f0 = 5) → l[i].f3 = 0) ∧
  (l[i].f0 = 3 ∨ l[i].f0 ≥ 6 → (ak l l[i].f2).f0 = 1) ∧ (¬ l[i].f0 = 1 → l[i].f1.size = 0) ∧ (l[i].f0 = 1 → l[i].f2 = 0 ∧ l[i].f3 = 0) := by
 rw [oL, oq l i hi] at h
 simp only [Bool.and_eq_true, decide_eq_true_eq] at h
 obtain ⟨h1, h2⟩ := h
 refine ⟨h1, fun e => ?_, fun e => ?_, fun e => ?_, fun e e' => ?_, fun e => ?_, fun e => ?_, fun e => ?_⟩
 ·rw [if_pos e] at h2; simp at h2; exact h2.1
 ·rw [if_neg e] at h2; simp at h2; exact h2.2.1
 ·have e' : ¬ l[i].f0 = 1 := by omega
  rw [if_neg e', if_pos e] at h2; simp at h2; exact h2.2.2.2
 ·rw [if_neg e, if_neg e'] at h2; simp at h2; exact h2.2.2.2
 ·have e' : ¬ l[i].f0 = 1 := by omega
  rw [if_neg e'] at h2; simp at h2
  have h3 := h2.2.2.1
  rcases h3 with h3 | h3
  ·omega
  ·exact h3
 ·rw [if_neg e] at h2; simp at h2; rw [h2.1]; rfl
 ·rw [if_pos e] at h2; simp at h2; exact h2.2
theorem rY {α : Type} (q : α → Bool) (l : List α) : l.flatMap (fun s => if q s = true then [s] else []) = l.filter q := by
 induction l with
 | nil => rfl
 | cons x l ih => rw [List.flatMap_cons, ih, List.filter_cons]; split <;> simp
theorem wC {α β : Type} (f : α → List β) (h : ∀ x, (f x).length ≤ 1) (l : List α) : (l.flatMap f).length ≤ l.length := by
 induction l with
 | nil => simp
 | cons x l ih => have := h x; simp only [List.flatMap_cons, List.length_append, List.length_cons]; omega
theorem qN (l : List ByteArray) (p : Nat → ByteArray → Option Bool) (q : ByteArray → Bool) (hl : l.length ≤ 8796093022208) (hp : ∀ s ∈ l, Ev (fun k => p k s) (q s)) : Ev (fun k => eO.f k l p) (l.filter q) := by
 rw [← rY]
 refine nK (fun k x i => eO.l0 k p x l (l.length : Int) i) l (fun s => if q s = true then [s] else []) 0 (fun x => ?_) (fun i hi x hx r hr => ?_)
 ·rw [← aT]; simp [eO.l0, bn]
 ·have hx' := wC (fun s => if q s = true then [s] else []) (fun x => by split <;> simp) (l.take i)
  rw [List.length_take] at hx'
  rw [← aT]
  simp only [eO.l0, ji ByteArray.empty l i hi, dZ (i := i) (by omega)]
  rw [ep, ep, ep, aU (hp _ (List.getElem_mem hi)), aX]
  split
  ·rename_i hq
   rw [if_pos hq] at hr
   rw [ep]
   exact hr
  ·rename_i hq
   rw [if_neg hq, List.append_nil] at hr
   exact hr
def rW (s : ByteArray) : ByteArray := if fQ s = true then s.extract 0 1 else (⟨#[]⟩ : ByteArray)
theorem pK (s : ByteArray) : Ev (fun k => iX.f k s) (rW s) := by
 unfold iX.f rW
 rw [aU (fI s), aX]
 split
 ·rename_i h
  have := fE h
  rw [ep, ep]
  exact bn _
 ·exact bn _
theorem qg (s : ByteArray) : Ev (fun k => iY.f k s) (rW s) := by
 unfold iY.f rW
 rw [aU (fV s), aX]
 split
 ·rename_i h
  have := fE h
  rw [ep, ep]
  exact bn _
 ·exact bn _
theorem uL (a b : List Int) : strOfNums (a ++ b) = strOfNums a ++ strOfNums b := by
 refine ByteArray.ext (Array.toList_inj.1 ?_)
 rw [ByteArray.data_append, Array.toList_append, strOfNums_data, strOfNums_data, strOfNums_data, List.map_append]
theorem sK (s : ByteArray) (i : Nat) (h : i < s.size) : s.extract i (i + 1) = strOfNums [(bytesOf s)[i]'(by rw [bytesOf_length]; exact h)] := by
 have hd : i < s.data.toList.length := by rw [Array.length_toList]; exact h
 refine ByteArray.ext (Array.toList_inj.1 ?_)
 rw [strOfNums_data, ByteArray.data_extract, Array.toList_extract, List.extract_eq_drop_take', List.drop_take, List.drop_eq_getElem_cons hd]
 simp [bytesOf]
def ru (s : ByteArray) : ByteArray := strOfNums (bytesOf s).reverse
theorem mO (s : ByteArray) : (ru s).size = s.size := by rw [ru, strOfNums_size, List.length_reverse, bytesOf_length]
theorem kT (s : ByteArray) (hs : s.size ≤ 100) : Ev (fun k => dS.f k s) (ru s) := by
 unfold dS.f
 refine lK (σ := ByteArray) (fun k a i => dS.l0 k s a i) s.size (fun i a => a = strOfNums ((bytesOf s).take i).reverse) (fun _ _ => ru s) (fun a ha => ?_) (fun i a hi ha => ?_) 0 _ (Nat.zero_le _) rfl
 ·rw [List.take_of_length_le (by rw [bytesOf_length]; exact Nat.le_refl _)] at ha
  rw [← aT]
  simp only [dS.l0, Int.lt_irrefl, if_false, ha]
  exact bn _
 ·have hb : i < (bytesOf s).length := by rw [bytesOf_length]; exact hi
  refine .inr ⟨strOfNums [(bytesOf s)[i]] ++ a, ?_, rfl, fun r hr => ?_⟩
  ·rw [List.take_succ_eq_append_getElem hb, List.reverse_append, uL, ha]
   rfl
  ·have h1 : (strOfNums [(bytesOf s)[i]]).size = 1 := by rw [strOfNums_size]; rfl
   have h2 : a.size ≤ 100 := by rw [ha, strOfNums_size, List.length_reverse, List.length_take]; omega
   rw [← aT]
   simp only [dS.l0, dZ (i := i) (by omega), Int.toNat_natCast, sK s i hi]
   rw [ep, ep, ep, ep, ep, ep]
   exact hr
theorem nN (s : ByteArray) (hs : s.size ≤ 100) : gT.f s = some (ru s) := by
 unfold gT.f ru
 rw [if_pos hs]
def qZ (s : ByteArray) : ByteArray := strOfNums ((bytesOf s).mergeSort (fun x y => decide (x ≤ y)))
def bucket (xs : List Int) (c : Nat) : List Int := xs.filter (fun b => decide (b = 97 + (c : Int)))
theorem nL (xs : List Int) (a : Int) : ∀ n : Nat, List.count a ((List.range n).flatMap (bucket xs)) = if 97 ≤ a ∧ a < 97 + (n : Int) then List.count a xs else 0
 | 0 => by rw [if_neg (by omega)]; rfl
 | n + 1 => by
  rw [List.range_succ, List.flatMap_append, List.count_append, nL xs a n]
  have hb : List.count a (([n] : List Nat).flatMap (bucket xs)) = if a = 97 + (n : Int) then List.count a xs else 0 := by
   simp only [List.flatMap_cons, List.flatMap_nil, List.append_nil, bucket]
   split
   ·rename_i h
    exact List.count_filter (by simpa using h)
   ·rename_i h
    refine List.count_eq_zero.2 (fun hm => h ?_)
    have := (List.mem_filter.1 hm).2
    simpa using this
  rw [hb]
  by_cases h1 : a = 97 + (n : Int)
  ·rw [if_pos h1, if_neg (by omega), if_pos (by omega)]
   omega
  ·rw [if_neg h1]
   by_cases h2 : 97 ≤ a ∧ a < 97 + (n : Int)
   ·rw [if_pos h2, if_pos (by omega)]
    omega
   ·rw [if_neg h2, if_neg (by omega)]
theorem qG (xs : List Int) (h : ∀ x ∈ xs, 97 ≤ x ∧ x ≤ 122) : (List.range 26).flatMap (bucket xs) = xs.mergeSort (fun x y => decide (x ≤ y)) := by
 have hperm : ((List.range 26).flatMap (bucket xs)).Perm xs := by
  rw [List.perm_iff_count]
  intro a
  rw [nL]
  split
  ·rfl
  ·rename_i hn
   refine (List.count_eq_zero.2 (fun hm => hn ?_)).symm
   have := h a hm
   omega
 refine List.Perm.eq_of_pairwise (le := fun x y => decide (x ≤ y) = true) ?_ ?_ ?_ (hperm.trans (List.mergeSort_perm _ _).symm)
 ·intro a b _ _ h1 h2
  have h1 := of_decide_eq_true h1
  have h2 := of_decide_eq_true h2
  omega
 ·rw [List.pairwise_flatMap]
  refine ⟨fun c _ => ?_, ?_⟩
  ·rw [List.pairwise_iff_getElem]
   intro i j hi hj _
   have e1 := (List.mem_filter.1 (List.getElem_mem hi)).2
   have e2 := (List.mem_filter.1 (List.getElem_mem hj)).2
   have e1 := of_decide_eq_true e1
   have e2 := of_decide_eq_true e2
   exact decide_eq_true (by omega)
  ·refine List.Pairwise.imp ?_ (List.pairwise_lt_range (n := 26))
   intro a b hab x hx y hy
   have e1 := of_decide_eq_true (List.mem_filter.1 hx).2
   have e2 := of_decide_eq_true (List.mem_filter.1 hy).2
   exact decide_eq_true (by omega)
 ·refine List.pairwise_mergeSort ?_ ?_ _
  ·intro a b c h1 h2
   have h1 := of_decide_eq_true h1
   have h2 := of_decide_eq_true h2
   exact decide_eq_true (by omega)
  ·intro a b
   by_cases h : a ≤ b
   ·simp [h]
   ·have : b ≤ a := by omega
    simp [this]
theorem jZ (s : ByteArray) (hw : fQ s = true) : Ev (fun k => bI.f k s) (qZ s) := by
 have hsz := fE hw
 have hlet := qp hw
 have hlen : (bytesOf s).length = s.size := bytesOf_length s
 unfold bI.f qZ
 rw [← qG (bytesOf s) hlet]
 have hinner : ∀ (c : Nat) (a : ByteArray) (r : ByteArray), c < 26 → a.size ≤ 1000 → Ev (fun k => bI.l0 k s (a ++ strOfNums (bucket (bytesOf s) c)) (97 + ((c + 1 : Nat) : Int))) r → Ev (fun k => bI.l1 k s a (97 + (c : Int)) 0) r := by
  intro c a r hc ha hr
  refine lK (σ := ByteArray) (fun k b j => bI.l1 k s b (97 + (c : Int)) j) s.size (fun j b => b = a ++ strOfNums (bucket ((bytesOf s).take j) c)) (fun _ _ => r) (fun b hb => ?_) (fun j b hj hb => ?_) 0 _ (Nat.zero_le _) (by simp [bucket, strOfNums]; exact (ByteArray.append_empty (b := a)).symm)
  ·rw [List.take_of_length_le (by omega)] at hb
   have e : wrap32 (97 + (c : Int) + 1) = 97 + ((c + 1 : Nat) : Int) := by unfold wrap32; omega
   rw [← aT]
   simp only [bI.l1, e, Int.lt_irrefl, if_false, hb]
   exact hr
  ·have hj' : j < (bytesOf s).length := by omega
   have hx := hlet _ (List.getElem_mem hj')
   have hsb : b.size ≤ 1000 + j := by
    rw [hb, ByteArray.size_append, strOfNums_size, bucket]
    have := List.length_filter_le (fun b => decide (b = 97 + (c : Int))) ((bytesOf s).take j)
    rw [List.length_take] at this
    omega
   have e : wrap32 (bt s (j : Int)) = (bytesOf s)[j] := by rw [lF s j hj]; unfold wrap32; omega
   have htk : bucket ((bytesOf s).take (j + 1)) c = bucket ((bytesOf s).take j) c ++ (if (bytesOf s)[j] = 97 + (c : Int) then [(bytesOf s)[j]] else []) := by
    rw [List.take_succ_eq_append_getElem hj', bucket, bucket, List.filter_append, List.filter_cons, List.filter_nil]
    simp only [decide_eq_true_eq]
   refine .inr ⟨a ++ strOfNums (bucket ((bytesOf s).take (j + 1)) c), rfl, rfl, fun q hq => ?_⟩
   rw [← aT]
   simp only [bI.l1, e, dZ (i := j) (by omega), Int.toNat_natCast, sK s j hj]
   rw [ep, ep, aX]
   rw [htk, uL, ← ByteArray.append_assoc, ← hb] at hq
   split
   ·rename_i h1
    rw [if_pos h1] at hq
    rw [ep, ep, ep (by rw [strOfNums_size]; simp; omega)]
    exact hq
   ·rename_i h1
    rw [if_neg h1, show strOfNums ([] : List Int) = ByteArray.empty from rfl, ByteArray.append_empty] at hq
    exact hq
 refine lK (σ := ByteArray) (fun k a i => bI.l0 k s a (97 + i)) 26 (fun i a => a = strOfNums ((List.range i).flatMap (bucket (bytesOf s))) ∧ a.size ≤ 8 * i) (fun _ _ => strOfNums ((List.range 26).flatMap (bucket (bytesOf s)))) (fun a ha => ?_) (fun i a hi ha => ?_) 0 _ (Nat.zero_le _) ⟨rfl, Nat.le_refl _⟩
 ·rw [← aT]
  simp only [bI.l0]
  rw [en, ← aT]
  simp only [bI.j1, Bool.false_eq_true, if_false, ha.1]
  exact bn _
 ·have hbl : (bucket (bytesOf s) i).length ≤ 8 := by
   rw [bucket]
   have := List.length_filter_le (fun b => decide (b = 97 + (i : Int))) (bytesOf s)
   omega
  refine .inr ⟨a ++ strOfNums (bucket (bytesOf s) i), ⟨?_, ?_⟩, rfl, fun r hr => ?_⟩
  ·rw [List.range_succ, List.flatMap_append, uL, ← ha.1]
   simp only [List.flatMap_cons, List.flatMap_nil, List.append_nil]
  ·have := ha.2
   rw [ByteArray.size_append, strOfNums_size]
   omega
  ·rw [← aT]
   simp only [bI.l0]
   rw [ep, aU (fI s), hw, ← aT]
   simp only [bI.j1, if_true]
   exact hinner i a r hi (by have := ha.2; omega) hr
theorem kg (s : ByteArray) (hw : fQ s = true) : Ev (fun k => gJ.f k s) (qZ s) := by
 have hsz := fE hw
 unfold gJ.f qZ
 rw [aU (fV s), hw, ep rfl, ep, Go.Proofs.YthjcicmmbmagbaaGreat.HandSort.wo]
 exact bn _
def pX (a b : ByteArray) : Bool := if fQ a = true then (if fQ b = true then (if a = b then false else decide (qZ a = qZ b)) else false) else false
theorem lZ (a b : ByteArray) : Ev (fun k => gB.f k a b) (pX a b) := by
 unfold gB.f pX
 rw [aU (fI a), aX]
 split
 ·rename_i h1
  rw [aU (fI b), aX]
  split
  ·rename_i h2
   simp only [toList_eq, aX]
   split
   ·exact bn _
   ·rw [aU (jZ a h1), aU (jZ b h2), jc]
    exact bn _
  ·exact bn _
 ·exact bn _
theorem lT (a b : ByteArray) : Ev (fun k => gy.f k a b) (pX a b) := by
 unfold gy.f pX
 rw [aU (fV a), aX]
 split
 ·rename_i h1
  rw [aU (fV b), aX]
  split
  ·rename_i h2
   simp only [toList_eq, aX]
   split
   ·exact bn _
   ·rw [aU (kg a h1), aU (kg b h2), jc]
    exact bn _
  ·exact bn _
 ·exact bn _
def oh (s : ByteArray) : ByteArray := if fQ s = true then s.extract 1 s.size else (⟨#[]⟩ : ByteArray)
theorem mW (s : ByteArray) : Ev (fun k => gN.f k s) (oh s) := by
 unfold gN.f oh
 rw [aU (fI s), aX]
 split
 ·rename_i h
  have := fE h
  rw [ep]
  exact bn _
 ·exact bn _
theorem mU (s : ByteArray) : Ev (fun k => gK.f k s) (oh s) := by
 unfold gK.f oh
 rw [aU (fV s), aX]
 split
 ·rename_i h
  have := fE h
  rw [ep]
  exact bn _
 ·exact bn _
def nR (s : ByteArray) : ByteArray := if fQ s = true then s.extract 0 (s.size - 1) else (⟨#[]⟩ : ByteArray)
theorem mY (s : ByteArray) : Ev (fun k => gI.f k s) (nR s) := by
 unfold gI.f nR
 rw [aU (fI s), aX]
 split
 ·rename_i h
  have := fE h
  have e : wrap64 ((s.size : Int) - 1) = ((s.size - 1 : Nat) : Int) := by rw [uE (by omega) (by omega)]; omega
  rw [e, ep, ep]
  exact bn _
 ·exact bn _
theorem mV (s : ByteArray) : Ev (fun k => gL.f k s) (nR s) := by
 unfold gL.f nR
 rw [aU (fV s), aX]
 split
 ·rename_i h
  have := fE h
  have e : wrap64 ((s.size : Int) - 1) = ((s.size - 1 : Nat) : Int) := by rw [uE (by omega) (by omega)]; omega
  rw [e, ep, ep]
  exact bn _
 ·exact bn _
theorem kP (L : Nat → Int → Option Bool) (n b : Nat) (f : Nat → Bool) (R : Bool) (hend : ∀ i : Nat, n ≤ i → i ≤ n + b → Ev (fun k => L k (i : Int)) R)
  (hstep : ∀ i : Nat, b ≤ i → i < n → ∀ r, Ev (fun k => L k ((i + 1 : Nat) : Int)) r → Ev (fun k => L k (i : Int)) (f i || r)) : ∀ a : Nat, b ≤ a → a ≤ n + b → Ev (fun k => L k (a : Int)) ((List.range' a (n - a)).any f || R) := by
 have key : ∀ d a : Nat, n - a = d → b ≤ a → a ≤ n + b → Ev (fun k => L k (a : Int)) ((List.range' a d).any f || R) := by
  intro d
  induction d with
  | zero =>
   intro a h hb ha
   exact lC (hend a (by omega) ha) (by simp)
  | succ d ih =>
   intro a h hb ha
   have := hstep a hb (by omega) _ (ih (a + 1) (by omega) (by omega) (by omega))
   rw [List.range'_succ, List.any_cons, Bool.or_assoc]
   exact this
 intro a hb ha
 exact key _ a rfl hb ha
def om (p w : ByteArray) : Bool := if fQ p = true then (if fQ w = true then (List.range' 1 (w.size - p.size - 1)).any (fun i => decide (w.extract i (i + p.size) = p)) else false) else false
theorem oI (p w : ByteArray) : Ev (fun k => dG.f k p w) (om p w) := by
 unfold dG.f om
 rw [aU (fI p), aX]
 split
 ·rename_i h1
  rw [aU (fI w), ← aT]
  simp only [dG.j0]
  rw [aX]
  by_cases h2 : fQ w = true
  ·have s1 := fE h1
   have s2 := fE h2
   rw [if_neg (by rw [h2]; decide), if_pos h2]
   have e : ∀ i : Nat, i ≤ 20 → wrap64 ((i : Int) + (p.size : Int)) = ((i + p.size : Nat) : Int) := fun i hi => by rw [uE (by omega) (by omega)]; omega
   refine lC (kP (fun k i => dG.l0 k p w i) (w.size - p.size) 1 _ false (fun i hi hi' => ?_) (fun i hb hi r hr => ?_) 1 (Nat.le_refl _) (by omega)) (by rw [Bool.or_false])
   ·rw [← aT]
    simp only [dG.l0, e i (by omega)]
    rw [en]
    exact bn _
   ·rw [← aT]
    simp only [dG.l0, e i (by omega), dZ (i := i) (by omega), Int.toNat_natCast, toList_eq]
    rw [ep, ep, ep, ep, aX]
    split
    ·rename_i h3
     rw [decide_eq_true h3, Bool.true_or]
     exact bn _
    ·rename_i h3
     rw [decide_eq_false h3, Bool.false_or]
     exact hr
  ·rw [if_pos (by simpa using h2), if_neg h2]
   exact bn _
 ·rw [← aT]
  simp only [dG.j0, if_true]
  exact bn _
theorem ou (p w : ByteArray) : Ev (fun k => dH.f k p w) (om p w) := by
 unfold dH.f om
 rw [aU (fV p), aX]
 split
 ·rename_i h1
  rw [aU (fV w), ← aT]
  simp only [dH.j0]
  rw [aX]
  by_cases h2 : fQ w = true
  ·have s1 := fE h1
   have s2 := fE h2
   rw [if_neg (by rw [h2]; decide), if_pos h2]
   have e : ∀ i : Nat, i ≤ 20 → wrap64 ((i : Int) + (p.size : Int)) = ((i + p.size : Nat) : Int) := fun i hi => by rw [uE (by omega) (by omega)]; omega
   refine lC (kP (fun k i => dH.l0 k p w i) (w.size - p.size) 1 _ false (fun i hi hi' => ?_) (fun i hb hi r hr => ?_) 1 (Nat.le_refl _) (by omega)) (by rw [Bool.or_false])
   ·rw [← aT]
    simp only [dH.l0, e i (by omega)]
    rw [en]
    exact bn _
   ·rw [← aT]
    simp only [dH.l0, e i (by omega), dZ (i := i) (by omega), Int.toNat_natCast, toList_eq]
    rw [ep, ep, ep, ep, aX]
    split
    ·rename_i h3
     rw [decide_eq_true h3, Bool.true_or]
     exact bn _
    ·rename_i h3
     rw [decide_eq_false h3, Bool.false_or]
     exact hr
  ·rw [if_pos (by simpa using h2), if_neg h2]
   exact bn _
 ·rw [← aT]
  simp only [dH.j0, if_true]
  exact bn _
theorem rD {Q : Nat → Nat → Prop} (n : Nat) (h : ∀ p, p < n → ∃ K, ∀ k, K ≤ k → Q p k) : ∃ K, ∀ p, p < n → ∀ k, K ≤ k → Q p k := by
 induction n with
 | zero => exact ⟨0, fun p hp => absurd hp (Nat.not_lt_zero _)⟩
 | succ n ih =>
  obtain ⟨K, hK⟩ := ih (fun p hp => h p (by omega))
  obtain ⟨K', hK'⟩ := h n (by omega)
  refine ⟨max K K', fun p hp k hk => ?_⟩
  by_cases e : p = n
  ·subst e
   exact hK' k (by omega)
  ·exact hK p (by omega) k (by omega)
theorem wL (M M' : Nat → List S69 → Int → ByteArray → Option Bool) (l : List S69) (s : ByteArray) (a0 : Int) (a1 : ByteArray) (a2 a3 : Int) (hs : s.size ≤ 100)
  (h : ∀ j p, 1 ≤ p → p < s.size → M j l a2 (s.extract 0 p) = M' j l a2 (s.extract 0 p) ∧ M j l a3 (s.extract p s.size) = M' j l a3 (s.extract p s.size)) :
  ∀ (k x : Nat), 1 ≤ x → x ≤ 100 → dA.l0 M k l s (x : Int) a0 a1 a2 a3 = dA.l0 M' k l s (x : Int) a0 a1 a2 a3 := by
 intro k
 induction k with
 | zero => intro x _ _; rfl
 | succ k ih =>
  intro x h1 h2
  simp only [dA.l0]
  by_cases hx : (x : Int) < (s.size : Int)
  ·have hp := h k x h1 (by omega)
   simp only [dZ (i := x) (by omega), Int.toNat_natCast, hp.1, hp.2, ih (x + 1) (by omega) (by omega)]
  ·rw [if_neg hx, if_neg hx]
theorem oV (l : List S69) (s : ByteArray) (a0 : Int) (a1 : ByteArray) (a2 a3 : Int) (f g : ByteArray → Bool) (hs : s.size ≤ 8) (h1 : 1 ≤ s.size)
  (hf : ∀ p, 1 ≤ p → p < s.size → Ev (fun k => cO.f k l a2 (s.extract 0 p)) (f (s.extract 0 p)))
  (hg : ∀ p, 1 ≤ p → p < s.size → Ev (fun k => cO.f k l a3 (s.extract p s.size)) (g (s.extract p s.size))) :
  Ev (fun k => dA.f (fun _ => cO.f k) k l a0 a1 a2 a3 s) ((List.range' 1 (s.size - 1)).any (fun p => f (s.extract 0 p) && g (s.extract p s.size))) := by
 obtain ⟨K, hK⟩ := rD (Q := fun p k => 1 ≤ p → cO.f k l a2 (s.extract 0 p) = some (f (s.extract 0 p)) ∧ cO.f k l a3 (s.extract p s.size) = some (g (s.extract p s.size))) s.size (fun p hp => by
  by_cases h : 1 ≤ p
  ·obtain ⟨K1, k1⟩ := hf p h hp
   obtain ⟨K2, k2⟩ := hg p h hp
   exact ⟨max K1 K2, fun k hk _ => ⟨k1 k (by omega), k2 k (by omega)⟩⟩
  ·exact ⟨0, fun _ _ h' => absurd h' h⟩)
 let M' : Nat → List S69 → Int → ByteArray → Option Bool := fun _ => cO.f K
 have hM' : ∀ p, 1 ≤ p → p < s.size → M' 0 l a2 (s.extract 0 p) = some (f (s.extract 0 p)) ∧ M' 0 l a3 (s.extract p s.size) = some (g (s.extract p s.size)) := fun p h hp => hK p hp K (Nat.le_refl _) h
 have hev : Ev (fun k => dA.l0 M' k l s 1 a0 a1 a2 a3) ((List.range' 1 (s.size - 1)).any (fun p => f (s.extract 0 p) && g (s.extract p s.size))) := by
  refine lC (kP (fun k i => dA.l0 M' k l s i a0 a1 a2 a3) s.size 1 _ false (fun i hi hi' => ?_) (fun i hb hi r hr => ?_) 1 (Nat.le_refl _) (by omega)) (by rw [Bool.or_false])
  ·rw [← aT]
   simp only [dA.l0]
   rw [en]
   exact bn _
  ·have hm := hM' i hb hi
   have hm1 : ∀ k, M' k l a2 (s.extract 0 i) = some (f (s.extract 0 i)) := fun k => hm.1
   have hm2 : ∀ k, M' k l a3 (s.extract i s.size) = some (g (s.extract i s.size)) := fun k => hm.2
   rw [← aT]
   simp only [dA.l0, dZ (i := i) (by omega), Int.toNat_natCast, hm1, hm2, Option.bind_some]
   rw [ep, ep, ep, aX]
   split
   ·rename_i h3
    rw [h3, Bool.true_and, aX]
    split
    ·rename_i h4
     rw [h4, Bool.true_or]
     exact bn _
    ·rename_i h4
     rw [Bool.not_eq_true] at h4
     rw [h4, Bool.false_or]
     exact hr
   ·rename_i h3
    rw [Bool.not_eq_true] at h3
    rw [h3, Bool.false_and, Bool.false_or]
    exact hr
 obtain ⟨K2, hK2⟩ := hev
 refine ⟨max K K2, fun k hk => ?_⟩
 show dA.l0 _ k l s 1 a0 a1 a2 a3 = _
 have := wL (fun _ => cO.f k) M' l s a0 a1 a2 a3 (by omega) (fun j p h hp => by
  have e1 := hK p hp k (by omega) h
  have e2 := hM' p h hp
  exact ⟨e1.1.trans e2.1.symm, e1.2.trans e2.2.symm⟩) k 1 (Nat.le_refl _) (by omega)
 rw [show ((1 : Nat) : Int) = 1 from rfl] at this
 rw [this]
 exact hK2 k (by omega)
theorem AZ (M M' : Nat → List S69 → Int → ByteArray → Option Bool) (l : List S69) (s : ByteArray) (a0 : Int) (a1 : ByteArray) (a2 a3 : Int) (hs : s.size ≤ 100)
  (h : ∀ j p q, 1 ≤ p → p < q → q < s.size → M j l a3 (s.extract p q) = M' j l a3 (s.extract p q) ∧ M j l a2 (s.extract 0 p ++ s.extract q s.size) = M' j l a2 (s.extract 0 p ++ s.extract q s.size)) :
  ∀ k : Nat, (∀ x : Nat, 1 ≤ x → x ≤ 100 → cB.l0 M k l s (x : Int) a0 a1 a2 a3 = cB.l0 M' k l s (x : Int) a0 a1 a2 a3) ∧ (∀ x y : Nat, 1 ≤ x → x < y → x ≤ 100 → y ≤ 102 → cB.l1 M k l s (x : Int) (y : Int) a0 a1 a2 a3 = cB.l1 M' k l s (x : Int) (y : Int) a0 a1 a2 a3) := by
 intro k
 induction k with
 | zero => exact ⟨fun x _ _ => by simp only [cB.l0], fun x y _ _ _ _ => by simp only [cB.l1]⟩
 | succ k ih =>
  refine ⟨fun x h1 h2 => ?_, fun x y h1 h2 h3 h4 => ?_⟩
  ·simp only [cB.l0, dZ (i := x) (by omega)]
   by_cases hx : (x : Int) < (s.size : Int)
   ·rw [if_pos hx, if_pos hx, ih.2 x (x + 1) h1 (by omega) h2 (by omega)]
   ·rw [if_neg hx, if_neg hx]
  ·simp only [cB.l1, dZ (i := x) (by omega), dZ (i := y) (by omega), Int.toNat_natCast]
   by_cases hy : (y : Int) < (s.size : Int)
   ·have hp := h k x y h1 h2 (by omega)
    simp only [hp.1, hp.2, ih.2 x (y + 1) h1 (by omega) h3 (by omega)]
    rw [if_pos hy, if_pos hy]
   ·rw [if_neg hy, if_neg hy]
    by_cases hx : x + 1 ≤ 100
    ·exact ih.1 (x + 1) (by omega) hx
    ·cases k with
     | zero => simp only [cB.l0]
     | succ k =>
      simp only [cB.l0]
      rw [if_neg (by omega), if_neg (by omega)]
theorem qE (l : List S69) (s : ByteArray) (a0 : Int) (a1 : ByteArray) (a2 a3 : Int) (f g : ByteArray → Bool) (hs : s.size ≤ 8) (h1 : 1 ≤ s.size)
  (hg : ∀ p q, 1 ≤ p → p < q → q < s.size → Ev (fun k => cO.f k l a3 (s.extract p q)) (g (s.extract p q)))
  (hf : ∀ p q, 1 ≤ p → p < q → q < s.size → Ev (fun k => cO.f k l a2 (s.extract 0 p ++ s.extract q s.size)) (f (s.extract 0 p ++ s.extract q s.size))) :
  Ev (fun k => cB.f (fun _ => cO.f k) k l a0 a1 a2 a3 s) ((List.range' 1 (s.size - 1)).any (fun p => (List.range' (p + 1) (s.size - (p + 1))).any (fun q => g (s.extract p q) && f (s.extract 0 p ++ s.extract q s.size)))) := by
 obtain ⟨K, hK⟩ := rD (Q := fun p k => ∀ q, q < s.size → 1 ≤ p → p < q → cO.f k l a3 (s.extract p q) = some (g (s.extract p q)) ∧ cO.f k l a2 (s.extract 0 p ++ s.extract q s.size) = some (f (s.extract 0 p ++ s.extract q s.size))) s.size (fun p hp => by
  obtain ⟨K, hK⟩ := rD (Q := fun q k => 1 ≤ p → p < q → cO.f k l a3 (s.extract p q) = some (g (s.extract p q)) ∧ cO.f k l a2 (s.extract 0 p ++ s.extract q s.size) = some (f (s.extract 0 p ++ s.extract q s.size))) s.size (fun q hq => by
   by_cases h : 1 ≤ p ∧ p < q
   ·obtain ⟨K1, k1⟩ := hg p q h.1 h.2 hq
    obtain ⟨K2, k2⟩ := hf p q h.1 h.2 hq
    exact ⟨max K1 K2, fun k hk _ _ => ⟨k1 k (by omega), k2 k (by omega)⟩⟩
   ·exact ⟨0, fun _ _ h' h'' => absurd ⟨h', h''⟩ h⟩)
  exact ⟨K, fun k hk q hq => hK q hq k hk⟩)
 let M' : Nat → List S69 → Int → ByteArray → Option Bool := fun _ => cO.f K
 have hM' : ∀ p q, 1 ≤ p → p < q → q < s.size → M' 0 l a3 (s.extract p q) = some (g (s.extract p q)) ∧ M' 0 l a2 (s.extract 0 p ++ s.extract q s.size) = some (f (s.extract 0 p ++ s.extract q s.size)) := fun p q h h' hq => hK p (by omega) K (Nat.le_refl _) q hq h h'
 have hev : Ev (fun k => cB.l0 M' k l s 1 a0 a1 a2 a3) ((List.range' 1 (s.size - 1)).any (fun p => (List.range' (p + 1) (s.size - (p + 1))).any (fun q => g (s.extract p q) && f (s.extract 0 p ++ s.extract q s.size)))) := by
  refine lC (kP (fun k i => cB.l0 M' k l s i a0 a1 a2 a3) s.size 1 _ false (fun i hi hi' => ?_) (fun i hb hi r hr => ?_) 1 (Nat.le_refl _) (by omega)) (by rw [Bool.or_false])
  ·rw [← aT]
   simp only [cB.l0]
   rw [en]
   exact bn _
  ·rw [← aT]
   simp only [cB.l0, dZ (i := i) (by omega)]
   rw [ep]
   refine kP (fun k j => cB.l1 M' k l s (i : Int) j a0 a1 a2 a3) s.size (i + 1) _ r (fun j hj hj' => ?_) (fun j hjb hj q hq => ?_) (i + 1) (Nat.le_refl _) (by omega)
   ·rw [← aT]
    simp only [cB.l1, dZ (i := i) (by omega)]
    rw [en]
    exact hr
   ·have hm := hM' i j hb (by omega) hj
    have hm1 : ∀ k, M' k l a3 (s.extract i j) = some (g (s.extract i j)) := fun k => hm.1
    have hm2 : ∀ k, M' k l a2 (s.extract 0 i ++ s.extract j s.size) = some (f (s.extract 0 i ++ s.extract j s.size)) := fun k => hm.2
    have hz : (s.extract 0 i).size + (s.extract j s.size).size ≤ 9223372036854775807 := by simp only [ByteArray.size_extract]; omega
    rw [← aT]
    simp only [cB.l1, dZ (i := j) (by omega), Int.toNat_natCast, hm1, hm2, Option.bind_some]
    rw [ep, ep, ep, ep, aX]
    split
    ·rename_i h3
     have c1 : (i : Int) ≤ (s.size : Int) := by omega
     have c2 : (0 : Int) ≤ (j : Int) := by omega
     rw [h3, Bool.true_and]
     simp only [ep c1, if_pos c2, if_pos hz]
     split
     ·rename_i h4
      rw [h4, Bool.true_or]
      exact bn _
     ·rename_i h4
      rw [Bool.not_eq_true] at h4
      rw [h4, Bool.false_or]
      exact hq
    ·rename_i h3
     rw [Bool.not_eq_true] at h3
     rw [h3, Bool.false_and, Bool.false_or]
     exact hq
 obtain ⟨K2, hK2⟩ := hev
 refine ⟨max K K2, fun k hk => ?_⟩
 show cB.l0 _ k l s 1 a0 a1 a2 a3 = _
 have := (AZ (fun _ => cO.f k) M' l s a0 a1 a2 a3 (by omega) (fun j p q h h' hq => by
  have e1 := hK p (by omega) k (by omega) q hq h h'
  have e2 := hM' p q h h' hq
  exact ⟨e1.1.trans e2.1.symm, e1.2.trans e2.2.symm⟩) k).1 1 (Nat.le_refl _) (by omega)
 rw [show ((1 : Nat) : Int) = 1 from rfl] at this
 rw [this]
 exact hK2 k (by omega)
def jO (l : List S69) : Nat → Nat → ByteArray → Bool
 | 0, _, _ => false
 | n + 1, i, s =>
  if (ak l i).f0 = 1 then decide (s = (ak l i).f1)
  else if (ak l i).f0 = 2 then jO l n (ak l i).f2.toNat (ru s)
  else if (ak l i).f0 = 3 then pX (ak l (ak l i).f2).f1 s
  else if (ak l i).f0 = 4 then (List.range' 1 (s.size - 1)).any (fun p => jO l n (ak l i).f2.toNat (s.extract 0 p) && jO l n (ak l i).f3.toNat (s.extract p s.size))
  else if (ak l i).f0 = 5 then (List.range' 1 (s.size - 1)).any (fun p => (List.range' (p + 1) (s.size - (p + 1))).any (fun q => jO l n (ak l i).f3.toNat (s.extract p q) && jO l n (ak l i).f2.toNat (s.extract 0 p ++ s.extract q s.size)))
  else if (ak l i).f0 = 6 then decide (s = rW (ak l (ak l i).f2).f1)
  else if (ak l i).f0 = 7 then decide (s = oh (ak l (ak l i).f2).f1)
  else if (ak l i).f0 = 8 then decide (s = nR (ak l (ak l i).f2).f1)
  else om s (ak l (ak l i).f2).f1
theorem nI (a b : ByteArray) : (a.toList == b.toList) = decide (b = a) := by
 rw [jc]
 by_cases h : a = b
 ·subst h; rfl
 ·rw [decide_eq_false h, decide_eq_false (fun e => h e.symm)]
theorem oC {l : List S69} (hp : jF l = true) : ∀ (n i : Nat) (s : ByteArray), i < n → i < l.length → 1 ≤ s.size → s.size ≤ 8 → Ev (fun k => cO.f k l (i : Int) s) (jO l n i s) := by
 intro n
 induction n with
 | zero => intro i s h; exact absurd h (Nat.not_lt_zero _)
 | succ n ih =>
  intro i s hn hi h1 h8
  obtain ⟨o1, o2, o3, o4, o5, o6, o7, o8⟩ := nV hi (nS hp i hi)
  rw [← aT]
  simp only [cO.f, jO, oq l i hi]
  rw [ep, ep, aX]
  by_cases n1 : l[i].f0 = 1
  ·rw [if_pos n1, if_pos n1, nI]; exact bn _
  rw [if_neg n1, if_neg n1, aX]
  have oA := o3 n1
  have eA : l[i].f2 = ((l[i].f2.toNat : Nat) : Int) := by omega
  by_cases n2 : l[i].f0 = 2
  ·rw [if_pos n2, if_pos n2, aU (kT s (by omega))]
   have := ih l[i].f2.toNat (ru s) (by omega) (by omega) (by rw [mO]; exact h1) (by rw [mO]; exact h8)
   rw [← eA] at this
   rw [aU this]
   exact bn _
  rw [if_neg n2, if_neg n2, aX]
  by_cases n3 : l[i].f0 = 3
  ·rw [if_pos n3, if_pos n3, ep, ep, aU (lZ _ _)]
   exact bn _
  rw [if_neg n3, if_neg n3, aX]
  by_cases k4 : l[i].f0 = 4
  ·have oB := o4 (.inl k4)
   have eB : l[i].f3 = ((l[i].f3.toNat : Nat) : Int) := by omega
   rw [if_pos k4, if_pos k4, aU (oV l s l[i].f0 l[i].f1 l[i].f2 l[i].f3 (jO l n l[i].f2.toNat) (jO l n l[i].f3.toNat) h8 h1 (fun p hp1 hp2 => ?_) (fun p hp1 hp2 => ?_))]
   ·exact bn _
   ·have := ih l[i].f2.toNat (s.extract 0 p) (by omega) (by omega) (by rw [ByteArray.size_extract]; omega) (by rw [ByteArray.size_extract]; omega)
    rw [← eA] at this
    exact this
   ·have := ih l[i].f3.toNat (s.extract p s.size) (by omega) (by omega) (by rw [ByteArray.size_extract]; omega) (by rw [ByteArray.size_extract]; omega)
    rw [← eB] at this
    exact this
  rw [if_neg k4, if_neg k4, aX]
  by_cases k5 : l[i].f0 = 5
  ·have oB := o4 (.inr k5)
   have eB : l[i].f3 = ((l[i].f3.toNat : Nat) : Int) := by omega
   rw [if_pos k5, if_pos k5, aU (qE l s l[i].f0 l[i].f1 l[i].f2 l[i].f3 (jO l n l[i].f2.toNat) (jO l n l[i].f3.toNat) h8 h1 (fun p q hp1 hp2 hp3 => ?_) (fun p q hp1 hp2 hp3 => ?_))]
   ·exact bn _
   ·have := ih l[i].f3.toNat (s.extract p q) (by omega) (by omega) (by rw [ByteArray.size_extract]; omega) (by rw [ByteArray.size_extract]; omega)
    rw [← eB] at this
    exact this
   ·have := ih l[i].f2.toNat (s.extract 0 p ++ s.extract q s.size) (by omega) (by omega) (by rw [ByteArray.size_append, ByteArray.size_extract, ByteArray.size_extract]; omega) (by rw [ByteArray.size_append, ByteArray.size_extract, ByteArray.size_extract]; omega)
    rw [← eA] at this
    exact this
  rw [if_neg k5, if_neg k5, aX]
  by_cases k6 : l[i].f0 = 6
  ·rw [if_pos k6, if_pos k6, ep, ep, aU (pK _), nI]
   exact bn _
  rw [if_neg k6, if_neg k6, aX]
  by_cases k7 : l[i].f0 = 7
  ·rw [if_pos k7, if_pos k7, ep, ep, aU (mW _), nI]
   exact bn _
  rw [if_neg k7, if_neg k7, aX]
  by_cases k8 : l[i].f0 = 8
  ·rw [if_pos k8, if_pos k8, ep, ep, aU (mY _), nI]
   exact bn _
  rw [if_neg k8, if_neg k8, ep, ep, aU (oI _ _)]
  exact bn _
def gU (l : List S69) (s : ByteArray) : Bool := if jF l = true then (if fQ s = true then jO l l.length (l.length - 1) s else false) else false
theorem qJ (l : List S69) (s : ByteArray) (hl : l.length < 4611686018427387904) : Ev (fun k => jJ.f k l s) (gU l s) := by
 unfold jJ.f gU
 rw [aU (qB l hl), aX]
 split
 ·rename_i hp
  have hlen := oM hp
  rw [aU (fI s), aX]
  split
  ·rename_i hw
   have hsz := fE hw
   have e : wrap64 ((l.length : Int) - 1) = ((l.length - 1 : Nat) : Int) := by rw [uE (by omega) (by omega)]; omega
   rw [e, aU (oC hp l.length (l.length - 1) s (by omega) (by omega) (by omega) (by omega))]
   exact bn _
  ·exact bn _
 ·exact bn _
theorem qM {l : List S69} (hp : jF l = true) : ∀ (n i : Nat) (s : ByteArray), i < n → i < l.length → 1 ≤ s.size → s.size ≤ 8 → Ev (fun k => bM.f k l (i : Int) s) (jO l n i s) := by
 intro n
 induction n with
 | zero => intro i s h; exact absurd h (Nat.not_lt_zero _)
 | succ n ih =>
  intro i s hn hi h1 h8
  obtain ⟨o1, o2, o3, o4, o5, o6, o7, o8⟩ := nV hi (nS hp i hi)
  have hne : ¬ s.toList = ([] : List UInt8) := fun e => by have := toList_nil.1 e; omega
  have hA : 0 ≤ l[i].f2 ∧ l[i].f2 < (l.length : Int) := by
   by_cases n1 : l[i].f0 = 1
   ·have := (o8 n1).1; omega
   ·have := o3 n1; omega
  rw [← aT]
  simp only [bM.f, jO, oq l i hi]
  rw [ep, ep, en hne, ep hA.1, ep hA.2, aX]
  split
  ·rw [jc]; exact bn _
  rename_i n1
  have oA := o3 n1
  have eA : l[i].f2 = ((l[i].f2.toNat : Nat) : Int) := by omega
  rw [aX]
  split
  ·have := ih l[i].f2.toNat (ru s) (by omega) (by omega) (by rw [mO]; exact h1) (by rw [mO]; exact h8)
   rw [← eA] at this
   simp only [nN s (show s.size ≤ 100 by omega), Option.bind_some]
   rw [aU this]
   exact bn _
  rw [aX]
  split
  ·rw [aU (lT _ _)]
   exact bn _
  rw [aX]
  split
  ·rename_i k4
   have oB := o4 (.inl k4)
   have eB : l[i].f3 = ((l[i].f3.toNat : Nat) : Int) := by omega
   refine lC (kP (fun k j => bM.l0 k l s j l[i].f0 l[i].f1 l[i].f2 l[i].f3) s.size 1 _ false (fun j hj hj' => ?_) (fun j hb hj r hr => ?_) 1 (Nat.le_refl _) (by omega)) (by rw [Bool.or_false])
   ·rw [← aT]
    simp only [bM.l0]
    rw [en]
    exact bn _
   ·have m1 := ih l[i].f2.toNat (s.extract 0 j) (by omega) (by omega) (by rw [ByteArray.size_extract]; omega) (by rw [ByteArray.size_extract]; omega)
    have m2 := ih l[i].f3.toNat (s.extract j s.size) (by omega) (by omega) (by rw [ByteArray.size_extract]; omega) (by rw [ByteArray.size_extract]; omega)
    rw [← eA] at m1
    rw [← eB] at m2
    rw [← aT]
    simp only [bM.l0, dZ (i := j) (by omega), Int.toNat_natCast]
    rw [ep, ep, ep, aU m1, aX]
    split
    ·rename_i h3
     rw [h3, Bool.true_and, aU m2, aX]
     split
     ·rename_i h4
      rw [h4, Bool.true_or]
      exact bn _
     ·rename_i h4
      rw [Bool.not_eq_true] at h4
      rw [h4, Bool.false_or]
      exact hr
    ·rename_i h3
     rw [Bool.not_eq_true] at h3
     rw [h3, Bool.false_and, Bool.false_or]
     exact hr
  rw [aX]
  split
  ·rename_i k5
   have oB := o4 (.inr k5)
   have eB : l[i].f3 = ((l[i].f3.toNat : Nat) : Int) := by omega
   refine lC (kP (fun k j => bM.l1 k l s j l[i].f0 l[i].f1 l[i].f2 l[i].f3) s.size 1 _ false (fun j hj hj' => ?_) (fun j hb hj r hr => ?_) 1 (Nat.le_refl _) (by omega)) (by rw [Bool.or_false])
   ·rw [← aT]
    simp only [bM.l1]
    rw [en]
    exact bn _
   ·rw [← aT]
    simp only [bM.l1, dZ (i := j) (by omega)]
    rw [ep]
    refine kP (fun k q => bM.l2 k l s (j : Int) q l[i].f0 l[i].f1 l[i].f2 l[i].f3) s.size (j + 1) _ r (fun q hq hq' => ?_) (fun q hqb hq t ht => ?_) (j + 1) (Nat.le_refl _) (by omega)
    ·rw [← aT]
     simp only [bM.l2, dZ (i := j) (by omega)]
     rw [en]
     exact hr
    ·have m1 := ih l[i].f3.toNat (s.extract j q) (by omega) (by omega) (by rw [ByteArray.size_extract]; omega) (by rw [ByteArray.size_extract]; omega)
     have m2 := ih l[i].f2.toNat (s.extract 0 j ++ s.extract q s.size) (by omega) (by omega) (by rw [ByteArray.size_append, ByteArray.size_extract, ByteArray.size_extract]; omega) (by rw [ByteArray.size_append, ByteArray.size_extract, ByteArray.size_extract]; omega)
     rw [← eB] at m1
     rw [← eA] at m2
     have hz : (s.extract 0 j).size + (s.extract q s.size).size ≤ 9223372036854775807 := by simp only [ByteArray.size_extract]; omega
     rw [← aT]
     simp only [bM.l2, dZ (i := q) (by omega), Int.toNat_natCast]
     rw [ep, ep, ep, ep, aU m1, aX]
     split
     ·rename_i h3
      have c1 : (j : Int) ≤ (s.size : Int) := by omega
      have c2 : (0 : Int) ≤ (q : Int) := by omega
      rw [h3, Bool.true_and]
      simp only [ep c1, if_pos c2, if_pos hz]
      rw [aU m2, aX]
      split
      ·rename_i h4
       rw [h4, Bool.true_or]
       exact bn _
      ·rename_i h4
       rw [Bool.not_eq_true] at h4
       rw [h4, Bool.false_or]
       exact ht
     ·rename_i h3
      rw [Bool.not_eq_true] at h3
      rw [h3, Bool.false_and, Bool.false_or]
      exact ht
  rw [aX]
  split
  ·rw [aU (qg _), jc]
   exact bn _
  rw [aX]
  split
  ·rw [aU (mU _), jc]
   exact bn _
  rw [aX]
  split
  ·rw [aU (mV _), jc]
   exact bn _
  rw [ep, aU (ou _ _)]
  exact bn _
theorem mZ (l : List S69) (s : ByteArray) (hl : l.length < 4611686018427387904) : Ev (fun k => gG.f k l s) (gU l s) := by
 unfold gG.f gU
 rw [aU (lY l hl), aX]
 split
 ·rename_i hp
  have hlen := oM hp
  rw [aU (fV s), aX]
  split
  ·rename_i hw
   have hsz := fE hw
   have e : wrap64 ((l.length : Int) - 1) = ((l.length - 1 : Nat) : Int) := by rw [uE (by omega) (by omega)]; omega
   rw [e, aU (qM hp l.length (l.length - 1) s (by omega) (by omega) (by omega) (by omega))]
   exact bn _
  ·exact bn _
 ·exact bn _
def uW (a : Int) (p : List S69) (d : List S64) (s : ByteArray) : Bool := if nP a p = true then (if hasB d s a = true then gU p s else false) else false
theorem oH (a : Int) (p : List S69) (d : List S64) (s : ByteArray) (hl : p.length < 4611686018427387904) (hd : d.length < 4611686018427387904) : Ev (fun k => ig.f k a p d s) (uW a p d s) := by
 unfold ig.f uW
 rw [aU (lW a p hl), aX]
 split
 ·rw [aU (kX d s a hd), aX]
  split
  ·rw [aU (mZ p s hl)]
   exact bn _
  ·exact bn _
 ·exact bn _
def jU (l : List ByteArray) (w : ByteArray) : Bool := l.any (fun x => decide (x = w))
theorem pq (l : List ByteArray) (w : ByteArray) (hl : l.length < 4611686018427387904) : Ev (fun k => fq.f k l w) (jU l w) := by
 refine rV (fun k i => fq.l0 k l w i) l _ ?_ (fun i hi hp r hr => ?_) (fun i hi hp => ?_)
 ·rw [← aT]; simp [fq.l0, bn]
 ·rw [← aT]
  simp only [fq.l0, ji ByteArray.empty l i hi, dZ (i := i) (by omega), toList_eq]
  rw [ep, ep, en (of_decide_eq_false hp)]
  exact hr
 ·rw [← aT]
  simp only [fq.l0, ji ByteArray.empty l i hi, toList_eq]
  rw [ep, ep, ep (of_decide_eq_true hp)]
  exact bn _
def gX (out : List ByteArray) (x : ByteArray) : List ByteArray := if jU out x = true then out else out ++ [x]
def qj (l : List ByteArray) : List ByteArray := l.foldl gX []
theorem sI (out : List ByteArray) (x : ByteArray) : (gX out x).length ≤ out.length + 1 := by
 unfold gX
 split
 ·omega
 ·simp
theorem kC : ∀ (l out : List ByteArray), (l.foldl gX out).length ≤ out.length + l.length
 | [], out => by simp
 | x :: l, out => by
  have h1 := kC l (gX out x)
  have h2 := sI out x
  simp only [List.foldl_cons, List.length_cons]
  omega
theorem wZ (l : List ByteArray) : (qj l).length ≤ l.length := by
 have := kC l []
 simpa [qj] using this
theorem wK (q : ByteArray → Bool) (l : List ByteArray) (i : Nat) (h : i < l.length) : ((l.take (i + 1)).filter q).foldl gX [] = if q l[i] = true then gX (((l.take i).filter q).foldl gX []) l[i] else ((l.take i).filter q).foldl gX [] := by
 rw [List.take_succ_eq_append_getElem h, List.filter_append, List.foldl_append]
 by_cases hq : q l[i] = true
 ·rw [if_pos hq]; simp [hq]
 ·rw [if_neg hq]; simp [hq]
theorem wh (l : List ByteArray) (w : ByteArray) (hl : l.length < 4611686018427387904) : Ev (fun k => bV.f k l w) (match l.findIdx? (fun x => decide (x = w)) with | some i => (i : Int) | none => -1) := by
 refine qP (fun k i => bV.l0 k l w (l.length : Int) i) l _ ?_ (fun i hi hp r hr => ?_) (fun i hi hp => ?_)
 ·rw [← aT]; simp [bV.l0, bn]
 ·rw [← aT]
  simp only [bV.l0, ji ByteArray.empty l i hi, dZ (i := i) (by omega), toList_eq]
  rw [ep, ep, ep, en (fun e => of_decide_eq_false hp e.symm)]
  exact hr
 ·rw [← aT]
  simp only [bV.l0, ji ByteArray.empty l i hi, toList_eq]
  rw [ep, ep, ep, aX, if_pos (of_decide_eq_true hp).symm]
  exact bn _
theorem wX {α : Type} (l : List α) (p : α → Bool) : decide ((match l.findIdx? p with | some i => (i : Int) | none => -1) ≥ 0) = l.any p := by
 cases h : l.findIdx? p with
 | none =>
  have := List.findIdx?_eq_none_iff.1 h
  simp
  intro x hx
  simpa using this x hx
 | some i =>
  obtain ⟨h1, h2, _⟩ := List.findIdx?_eq_some_iff_getElem.1 h
  simp
  exact ⟨l[i], List.getElem_mem h1, h2⟩
theorem nZ (l : List ByteArray) (w : ByteArray) (hl : l.length < 4611686018427387904) : Ev (fun k => dK.f k l w) (jU l w) := by
 unfold dK.f jU
 rw [aU (wh l w hl), wX]
 exact bn _
theorem rE (l : List ByteArray) (hl : l.length ≤ 8796093022208) : Ev (fun k => fK.f k l) (qj l) := by
 unfold fK.f
 refine lK (σ := List ByteArray) (fun k out i => fK.l0 k out l (l.length : Int) i) l.length (fun i out => out = (l.take i).foldl gX []) (fun _ _ => qj l) (fun out ho => ?_) (fun i out hi ho => ?_) 0 [] (Nat.zero_le _) rfl
 ·rw [List.take_length] at ho
  rw [← aT]
  simp only [fK.l0, Int.lt_irrefl, if_false, ho]
  exact bn _
 ·have hlen : out.length ≤ i := by
   have := kC (l.take i) []
   rw [ho]
   simp only [List.length_nil, List.length_take] at this
   omega
  refine .inr ⟨gX out l[i], ?_, rfl, fun r hr => ?_⟩
  ·rw [List.take_succ_eq_append_getElem hi, List.foldl_append, ho]
   rfl
  ·rw [← aT]
   simp only [fK.l0, ji ByteArray.empty l i hi, dZ (i := i) (by omega)]
   rw [ep, ep, ep, aU (nZ out l[i] (by omega)), aX]
   unfold gX at hr
   split
   ·rename_i h
    rw [if_pos h] at hr
    exact hr
   ·rename_i h
    rw [if_neg h] at hr
    rw [ep]
    exact hr
def nD (p : ByteArray) : Bool := decide (1 ≤ p.size ∧ p.size ≤ 8) && (bytesOf p).all (fun c => decide (c = 63) || jy c)
theorem oN {p : ByteArray} (h : nD p = true) : 1 ≤ p.size ∧ p.size ≤ 8 := by
 unfold nD at h
 rw [Bool.and_eq_true] at h
 exact of_decide_eq_true h.1
theorem nT (p : ByteArray) : Ev (fun k => dw.f k p) (nD p) := by
 simp only [dw.f, kS, Option.bind_some, aX, decide_eq_true_eq, nD]
 by_cases h : (1 : Int) ≤ p.size ∧ (p.size : Int) ≤ 8
 ·rw [if_pos h]
  have h' : 1 ≤ p.size ∧ p.size ≤ 8 := by omega
  simp only [h', decide_true, Bool.true_and, and_self]
  refine kG (fun k i => dw.l0 k p i) (bytesOf p) _ ?_ (fun i hi hp r hr => ?_) (fun i hi hp => ?_)
  ·rw [← aT]; simp [dw.l0, bytesOf_length, bn]
  ·have hi' : i < p.size := by rw [bytesOf_length] at hi; exact hi
   rw [← aT]
   simp only [dw.l0, lF p i hi', dZ (i := i) (by omega)]
   rw [ep, ep, aX]
   by_cases h63 : (bytesOf p)[i] = 63
   ·rw [if_pos h63]; exact hr
   ·simp [jy, h63] at hp
    rw [if_neg h63, en, en]
    exact hr
  ·have hi' : i < p.size := by rw [bytesOf_length] at hi; exact hi
   simp only [Bool.or_eq_false_iff, decide_eq_false_iff_not, jy] at hp
   rw [← aT]
   simp only [dw.l0, lF p i hi', dZ (i := i) (by omega)]
   rw [ep, ep, en hp.1, aX]
   by_cases h1 : (bytesOf p)[i] < 97
   ·rw [if_pos h1]; exact bn _
   ·rw [if_neg h1, ep]; exact bn _
 ·rw [if_neg h]
  have h' : ¬ (1 ≤ p.size ∧ p.size ≤ 8) := by omega
  simp [h', bn]
def jW (p w : ByteArray) : Bool := if nD p = true then (if fQ w = true then (if p.size = w.size then (List.range p.size).all (fun i => decide (bt p (i : Int) = 63) || decide (bt p (i : Int) = bt w (i : Int))) else false) else false) else false
theorem mX (p w : ByteArray) : Ev (fun k => bY.f k p w) (jW p w) := by
 have hf : Ev (fun k => bY.j0 k p w true) false := by
  rw [← aT]
  simp only [bY.j0, if_true]
  exact bn _
 unfold bY.f jW
 rw [aU (nT p), aX]
 split
 ·rename_i h1
  have hs := oN h1
  rw [aU (fI w), aX]
  split
  ·by_cases h3 : p.size = w.size
   ·rw [if_pos h3, show ((p.size : Int) != (w.size : Int)) = false by rw [h3]; simp, ← aT]
    simp only [bY.j0, Bool.false_eq_true, if_false]
    refine kG (fun k i => bY.l0 k p w i) (List.range p.size) _ ?_ (fun i hi hp r hr => ?_) (fun i hi hp => ?_)
    ·rw [← aT]; simp [bY.l0, bn]
    ·rw [List.length_range] at hi
     rw [List.getElem_range] at hp
     rw [← aT]
     simp only [bY.l0, dZ (i := i) (by omega)]
     rw [ep, ep, aX]
     by_cases h63 : bt p (i : Int) = 63
     ·rw [if_pos h63]; exact hr
     ·have he : bt p (i : Int) = bt w (i : Int) := by simpa [h63] using hp
      rw [if_neg h63, ep, ep he]
      exact hr
    ·rw [List.length_range] at hi
     rw [List.getElem_range] at hp
     simp only [Bool.or_eq_false_iff, decide_eq_false_iff_not] at hp
     rw [← aT]
     simp only [bY.l0, dZ (i := i) (by omega)]
     rw [ep, ep, en hp.1, ep, en hp.2]
     exact bn _
   ·rw [if_neg h3, show ((p.size : Int) != (w.size : Int)) = true by simp; omega]
    exact hf
  ·exact hf
 ·exact hf
theorem nJ (p : ByteArray) : Ev (fun k => dz.f k p) (nD p) := by
 simp only [dz.f, jR, Option.bind_some, aX, decide_eq_true_eq, nD]
 by_cases h : (1 : Int) ≤ p.size ∧ (p.size : Int) ≤ 8
 ·rw [if_pos h]
  have h' : 1 ≤ p.size ∧ p.size ≤ 8 := by omega
  simp only [h', decide_true, Bool.true_and, and_self]
  refine kG (fun k i => dz.l0 k p (p.size : Int) i) (bytesOf p) _ ?_ (fun i hi hp r hr => ?_) (fun i hi hp => ?_)
  ·rw [← aT]; simp [dz.l0, bytesOf_length, bn]
  ·have hi' : i < p.size := by rw [bytesOf_length] at hi; exact hi
   rw [← aT]
   simp only [dz.l0, lF p i hi', dZ (i := i) (by omega), kN, Option.bind_some]
   rw [ep, ep, ep, aX]
   by_cases h63 : (bytesOf p)[i] = 63
   ·rw [if_pos h63]; exact hr
   ·simp [jy, h63] at hp
    rw [if_neg h63, ep (by simpa using hp)]
    exact hr
  ·have hi' : i < p.size := by rw [bytesOf_length] at hi; exact hi
   simp only [Bool.or_eq_false_iff, decide_eq_false_iff_not, jy] at hp
   rw [← aT]
   simp only [dz.l0, lF p i hi', dZ (i := i) (by omega), kN, Option.bind_some]
   rw [ep, ep, ep, en hp.1, en (by simpa using hp.2)]
   exact bn _
 ·rw [if_neg h]
  have h' : ¬ (1 ≤ p.size ∧ p.size ≤ 8) := by omega
  simp [h', bn]
theorem ko (p w : ByteArray) : Ev (fun k => bB.f k p w) (jW p w) := by
 have hf : Ev (fun k => bB.j0 k p w true) false := by
  rw [← aT]
  simp only [bB.j0, if_true]
  exact bn _
 unfold bB.f jW
 rw [aU (nJ p), aX]
 split
 ·rename_i h1
  have hs := oN h1
  rw [aU (fV w), aX]
  split
  ·by_cases h3 : p.size = w.size
   ·rw [if_pos h3, show ((p.size : Int) != (w.size : Int)) = false by rw [h3]; simp, ← aT]
    simp only [bB.j0, Bool.false_eq_true, if_false]
    refine kG (fun k i => bB.l0 k p w (p.size : Int) i) (List.range p.size) _ ?_ (fun i hi hp r hr => ?_) (fun i hi hp => ?_)
    ·rw [← aT]; simp [bB.l0, bn]
    ·rw [List.length_range] at hi
     rw [List.getElem_range] at hp
     rw [← aT]
     simp only [bB.l0, dZ (i := i) (by omega)]
     rw [ep, ep, ep, aX]
     by_cases h63 : bt p (i : Int) = 63
     ·rw [if_pos h63]; exact hr
     ·have he : bt p (i : Int) = bt w (i : Int) := by simpa [h63] using hp
      rw [if_neg h63, ep, ep he]
      exact hr
    ·rw [List.length_range] at hi
     rw [List.getElem_range] at hp
     simp only [Bool.or_eq_false_iff, decide_eq_false_iff_not] at hp
     rw [← aT]
     simp only [bB.l0, dZ (i := i) (by omega)]
     rw [ep, ep, ep, en hp.1, ep, en hp.2]
     exact bn _
   ·rw [if_neg h3, show ((p.size : Int) != (w.size : Int)) = true by simp; omega]
    exact hf
  ·exact hf
 ·exact hf
def jP (how a : Int) (pl : List S69) (d : List S64) (pat w : ByteArray) : Bool := jW pat w && ((decide (Int.tmod how 2 = 0) || hasB d w a) && (decide (how < 2) || gU pl w))
def fA (how a : Int) (pl : List S69) (d : List S64) (l : List ByteArray) (pat : ByteArray) : List ByteArray := if 0 ≤ how ∧ how ≤ 3 then qj (l.filter (jP how a pl d pat)) else []
theorem sP (how a : Int) (pl : List S69) (d : List S64) (l : List ByteArray) (pat : ByteArray) : (fA how a pl d l pat).length ≤ l.length := by
 unfold fA
 split
 ·exact Nat.le_trans (wZ _) (List.length_filter_le _ _)
 ·simp
theorem nE (a : Int) (pl : List S69) (d : List S64) (l : List ByteArray) (pat : ByteArray) (how : Int) (hp : pl.length < 4611686018427387904) (hd : d.length < 4611686018427387904) (hl : l.length ≤ 8796093022208) : Ev (fun k => bD.f k a pl d l pat how) (fA how a pl d l pat) := by
 have hend : ∀ (out : List ByteArray) (i : Int), Ev (fun k => bD.j1 k d l pat how out i false a pl) out := by
  intro out i
  rw [← aT]
  simp only [bD.j1, Bool.false_eq_true, if_false]
  exact bn _
 have hj3 : ∀ (out : List ByteArray) (i : Nat) (w : ByteArray) (sn py : Bool) (r : List ByteArray), i < 4611686018427387904 → out.length < 8796093022208 → Ev (fun k => bD.l0 k d l pat how (if (jW pat w && (sn && py)) = true then gX out w else out) ((i + 1 : Nat) : Int) a pl) r → Ev (fun k => bD.j3 k d l pat how out (i : Int) w sn py a pl) r := by
  intro out i w sn py r hi ho hr
  rw [← aT]
  simp only [bD.j3, dZ (i := i) hi]
  rw [aU (mX pat w), aX]
  by_cases h1 : jW pat w = true
  ·rw [if_pos h1, aX]
   by_cases h2 : sn = true
   ·rw [if_pos h2, aX]
    by_cases h3 : py = true
    ·rw [if_pos h3, aU (pq out w (by omega)), aX]
     rw [h1, h2, h3] at hr
     simp only [Bool.and_self, if_true] at hr
     unfold gX at hr
     by_cases h4 : jU out w = true
     ·rw [if_pos h4] at hr ⊢
      exact hr
     ·rw [if_neg h4] at hr ⊢
      rw [ep]
      exact hr
    ·rw [if_neg h3]
     rw [if_neg (by simp [h3])] at hr
     exact hr
   ·rw [if_neg h2]
    rw [if_neg (by simp [h2])] at hr
    exact hr
  ·rw [if_neg h1]
   rw [if_neg (by simp [h1])] at hr
   exact hr
 have hj2 : ∀ (out : List ByteArray) (i : Int) (w : ByteArray) (sn : Bool) (r : List ByteArray), Ev (fun k => bD.j3 k d l pat how out i w sn (decide (how < 2) || gU pl w) a pl) r → Ev (fun k => bD.j2 k d l pat how out i w sn a pl) r := by
  intro out i w sn r hr
  rw [← aT]
  simp only [bD.j2]
  rw [aX]
  by_cases h : how < 2
  ·rw [if_pos h]
   rw [decide_eq_true h, Bool.true_or] at hr
   exact hr
  ·rw [if_neg h, aU (qJ pl w hp)]
   rw [decide_eq_false h, Bool.false_or] at hr
   exact hr
 unfold bD.f fA
 by_cases hh : 0 ≤ how ∧ how ≤ 3
 ·rw [if_pos hh]
  refine lK (σ := List ByteArray) (fun k out i => bD.l0 k d l pat how out i a pl) l.length (fun i out => out = ((l.take i).filter (jP how a pl d pat)).foldl gX []) (fun _ _ => qj (l.filter (jP how a pl d pat))) (fun out ho => ?_) (fun i out hi ho => ?_) 0 [] (Nat.zero_le _) rfl
  ·rw [List.take_length] at ho
   rw [← aT]
   simp only [bD.l0, Int.lt_irrefl, if_false]
   rw [ho]
   exact hend _ _
  ·have hlen : out.length ≤ i := by
    have h1 := kC ((l.take i).filter (jP how a pl d pat)) []
    have h2 := List.length_filter_le (jP how a pl d pat) (l.take i)
    rw [ho]
    simp only [List.length_nil, List.length_take] at h1 h2
    omega
   refine .inr ⟨if jP how a pl d pat l[i] = true then gX out l[i] else out, ?_, rfl, fun r hr => ?_⟩
   ·rw [wK _ l i hi, ← ho]
   ·have hr' := hj2 out (i : Int) l[i] (decide (Int.tmod how 2 = 0) || hasB d l[i] a) r (hj3 out i l[i] _ _ r (by omega) (by omega) hr)
    rw [← aT]
    simp only [bD.l0, kS, Option.bind_some, decide_eq_true hh]
    rw [ep, ← aT]
    simp only [bD.j1, if_true, ji ByteArray.empty l i hi]
    rw [ep, ep, aX]
    by_cases h : Int.tmod how 2 = 0
    ·rw [if_pos h]
     rw [decide_eq_true h, Bool.true_or] at hr'
     exact hr'
    ·rw [if_neg h, aU (kY d l[i] a hd)]
     rw [decide_eq_false h, Bool.false_or] at hr'
     exact hr'
 ·rw [if_neg hh, ← aT]
  simp only [bD.l0, kS, Option.bind_some, decide_eq_false hh]
  rw [aX]
  split
  ·exact hend _ _
  ·exact hend _ _
theorem qK (how a : Int) (pl : List S69) (d : List S64) (pat w : ByteArray) (hh : 0 ≤ how ∧ how ≤ 3) (hp : pl.length < 4611686018427387904) (hd : d.length < 4611686018427387904) : Ev (fun k => aW.g how k a pl d pat w) (jP how a pl d pat w) := by
 have hc : how = 0 ∨ how = 1 ∨ how = 2 ∨ how = 3 := by omega
 have f := ko pat w
 have h := kX d w a hd
 have m := mZ pl w hp
 unfold jP
 generalize jW pat w = fb at *
 generalize hasB d w a = hb at *
 generalize gU pl w = mb at *
 rcases hc with rfl | rfl | rfl | rfl
 ·rw [show Int.tmod 0 2 = 0 by decide]
  simp only [aW.g, aW.g0, if_true]
  rw [aU f, aX]
  cases fb <;> simp [eX]
 ·rw [show Int.tmod 1 2 = 1 by decide]
  simp only [aW.g, aW.g1, if_true, show ¬ (1 : Int) = 0 by decide, if_false]
  rw [aU f, aX, aU h, aX]
  cases fb <;> cases hb <;> simp [eX]
 ·rw [show Int.tmod 2 2 = 0 by decide]
  simp only [aW.g, aW.g2, if_true, show ¬ (2 : Int) = 0 by decide, show ¬ (2 : Int) = 1 by decide, if_false]
  rw [aU f, aX, aU m]
  cases fb <;> simp [eX]
 ·rw [show Int.tmod 3 2 = 1 by decide]
  simp only [aW.g, aW.g3, show ¬ (3 : Int) = 0 by decide, show ¬ (3 : Int) = 1 by decide, show ¬ (3 : Int) = 2 by decide, if_false]
  rw [aU f, aX, aU h, aX, aU m]
  cases fb <;> cases hb <;> simp [eX]
theorem gH (a : Int) (pl : List S69) (d : List S64) (l : List ByteArray) (pat : ByteArray) (how : Int) (hp : pl.length < 4611686018427387904) (hd : d.length < 4611686018427387904) (hl : l.length ≤ 8796093022208) : Ev (fun k => aW.f k a pl d l pat how) (fA how a pl d l pat) := by
 unfold aW.f fA
 simp only [jR, Option.bind_some, decide_eq_true_eq, aX]
 by_cases hh : 0 ≤ how ∧ how ≤ 3
 ·rw [if_pos hh, if_pos hh, aU (qN l _ (jP how a pl d pat) hl (fun s _ => qK how a pl d pat s hh hp hd))]
  exact rE _ (Nat.le_trans (List.length_filter_le _ _) hl)
 ·rw [if_neg hh, if_neg hh]
  exact bn _
theorem rz (a : Int) (pl : List S69) (d : List S64) (l : List ByteArray) (pat : ByteArray) (hp : pl.length < 4611686018427387904) (hd : d.length < 4611686018427387904) (hl : l.length ≤ 8796093022208) : Ev (fun k => gW.f k a pl d l pat) (wrap64 (((fA 0 a pl d l pat).length : Int) - ((fA 3 a pl d l pat).length : Int))) := by
 unfold gW.f
 rw [aU (gH a pl d l pat 0 hp hd hl), aU (gH a pl d l pat 3 hp hd hl)]
 exact bn _
def tL (a : Int) (pl : List S69) (d : List S64) (l : List ByteArray) (pat : ByteArray) : Bool := if ((fA 3 a pl d l pat).length : Int) = 1 then (if ((fA 1 a pl d l pat).length : Int) > 1 then decide (((fA 2 a pl d l pat).length : Int) > 1) else false) else false
theorem nO (a : Int) (pl : List S69) (d : List S64) (l : List ByteArray) (pat : ByteArray) (hp : pl.length < 4611686018427387904) (hd : d.length < 4611686018427387904) (hl : l.length ≤ 8796093022208) : Ev (fun k => iJ.f k a pl d l pat) (tL a pl d l pat) := by
 unfold iJ.f tL
 rw [aU (gH a pl d l pat 3 hp hd hl), aX]
 split
 ·rw [aU (gH a pl d l pat 1 hp hd hl), aX]
  split
  ·rw [aU (gH a pl d l pat 2 hp hd hl)]
   exact bn _
  ·exact bn _
 ·exact bn _
theorem jh (l : List ByteArray) (x : ByteArray) (hl : l.length < 4611686018427387904) : Ev (fun k => dQ.f k l x) (jU l x) := by
 unfold dQ.f
 rw [aU (nZ l x hl)]
 exact bn _
theorem evP {α : Type} {c : Prop} [Decidable c] {f g : Nat → Option α} {r : α} (h : c) : Ev (fun k => if c then f k else g k) r ↔ Ev f r := by rw [ep h]
theorem evN {α : Type} {c : Prop} [Decidable c] {f g : Nat → Option α} {r : α} (h : ¬ c) : Ev (fun k => if c then f k else g k) r ↔ Ev g r := by rw [en h]
theorem wP {α : Type} (p : α → Bool) : ∀ (xs : List α) (i : Nat) (h : i < (xs.takeWhile p).length) (h2 : i < xs.length), p xs[i] = true
 | [], i, h, h2 => by simp at h2
 | x :: xs, i, h, h2 => by
  by_cases hp : p x = true
  ·rw [List.takeWhile_cons_of_pos hp] at h
   cases i with
   | zero => exact hp
   | succ i => exact wP p xs i (by simpa using h) (by simpa using h2)
  ·rw [List.takeWhile_cons_of_neg hp] at h
   simp at h
theorem uP {α : Type} (p : α → Bool) : ∀ (xs : List α) (h : (xs.takeWhile p).length < xs.length), p xs[(xs.takeWhile p).length] = false
 | [], h => by simp at h
 | x :: xs, h => by
  by_cases hp : p x = true
  ·simp only [List.takeWhile_cons_of_pos hp, List.length_cons] at h ⊢
   exact uP p xs (by simpa using h)
  ·simp only [List.takeWhile_cons_of_neg hp, List.length_nil] at h ⊢
   simpa using hp
theorem Bf {α : Type} (p : α → Bool) (xs : List α) : (xs.takeWhile p).length ≤ xs.length := (List.takeWhile_prefix p).length_le
theorem uM {α ρ : Type} (L : Nat → Int → Option ρ) (xs : List α) (p : α → Bool) (r : ρ) (hstop : Ev (fun k => L k (((xs.takeWhile p).length : Nat) : Int)) r)
  (hyes : ∀ i (h : i < xs.length), p xs[i] = true → ∀ r, Ev (fun k => L k ((i + 1 : Nat) : Int)) r → Ev (fun k => L k (i : Int)) r) : Ev (fun k => L k 0) r := by
 have key : ∀ d i, i + d = (xs.takeWhile p).length → Ev (fun k => L k (i : Int)) r := by
  intro d
  induction d with
  | zero =>
   intro i hi
   have : i = (xs.takeWhile p).length := by omega
   subst this
   exact hstop
  | succ d ih =>
   intro i hi
   have hlt : i < xs.length := by have := Bf p xs; omega
   exact hyes i hlt (wP p xs i (by omega) hlt) _ (ih (i + 1) (by omega))
 exact key (xs.takeWhile p).length 0 (by omega)
def plM (l : List S64) (w : ByteArray) (s : Int) : Nat := (l.takeWhile fun x => bmB x.f0 x.f1 w s).length
def sJ (l : List S64) (w : ByteArray) (s : Int) : List S64 := l.take (plM l w s) ++ [⟨w, s⟩] ++ l.drop (plM l w s)
def rG (l : List S64) (w : ByteArray) (s : Int) : List S64 × Bool := if hasB l w s = true then (l, false) else if pG (sJ l w s) = true then (sJ l w s, true) else (l, false)
theorem wM (l : List S64) (w : ByteArray) (s : Int) : plM l w s ≤ l.length := Bf _ _
theorem oP (l : List S64) (w : ByteArray) (s : Int) : (sJ l w s).length = l.length + 1 := by
 have := wM l w s
 simp only [sJ, List.length_append, List.length_take, List.length_drop, List.length_cons, List.length_nil]
 omega
theorem oK (l : List S64) (w : ByteArray) (s : Int) : (rG l w s).1.length ≤ l.length + 1 := by
 unfold rG
 split
 ·show l.length ≤ _; omega
 ·split
  ·show (sJ l w s).length ≤ _; rw [oP]; omega
  ·show l.length ≤ _; omega
theorem kI (l : List S64) (w : ByteArray) (s : Int) (hl : l.length < 5864062014800) : Ev (fun k => bC.f k l w s) (rG l w s) := by
 unfold bC.f
 have hp := wM l w s
 have hj : Ev (fun k => bC.j1 k l ((plM l w s : Nat) : Int) w s) (rG l w s) := by
  rw [← aT]
  simp only [bC.j1, Option.bind_some]
  rw [evP (by omega), evP (by omega), evP (by simp only [List.length_nil, List.length_take]; omega), evP (by simp only [List.length_append, List.length_nil, List.length_take, List.length_cons]; omega),
   evP (by simp only [List.length_append, List.length_nil, List.length_take, List.length_cons, List.length_drop]; omega)]
  simp only [List.nil_append, Int.toNat_natCast]
  have e : l.take (plM l w s) ++ [(⟨w, s⟩ : S64)] ++ l.drop (plM l w s) = sJ l w s := rfl
  rw [e, aU (kY l w s (by omega))]
  have hd := mD (sJ l w s) (by rw [oP]; omega)
  unfold rG
  cases hasB l w s with
  | true =>
   simp only [if_true]
   rw [evP (by simp only [List.length_nil]; omega)]
   exact bn _
  | false =>
   simp only [Bool.false_eq_true, if_false]
   rw [aU hd]
   cases pG (sJ l w s) with
   | true => exact bn _
   | false =>
    simp only [Bool.false_eq_true, if_false]
    rw [evP (by simp only [List.length_nil]; omega)]
    exact bn _
 refine uM (fun k i => bC.l0 k l i w s) l (fun x => bmB x.f0 x.f1 w s) _ ?_ ?_
 ·rw [← aT]
  simp only [bC.l0]
  have hpl : (l.takeWhile fun x => bmB x.f0 x.f1 w s).length = plM l w s := rfl
  by_cases h : plM l w s < l.length
  ·have hf := uP (fun x : S64 => bmB x.f0 x.f1 w s) l h
   simp only [hpl] at hf ⊢
   rw [evP (by omega), evP (by omega)]
   simp only [lG _ _ h, lI, Option.bind_some, hf]
   rw [evN (by decide)]
   exact hj
  ·rw [hpl, evN (by omega)]
   exact hj
 ·intro i h hp r hr
  rw [← aT]
  simp only [bC.l0]
  rw [evP (by omega), evP (by omega)]
  simp only [lG _ _ h, lI, Option.bind_some]
  rw [evP hp, dZ (by omega)]
  exact hr
theorem Bp (n : Int) : Go.bits .and .i64 n 255 = n % 256 := by
 have h255 : (BitVec.ofInt 64 255).toNat = 2 ^ 8 - 1 := by decide
 have key : (BitVec.ofInt 64 n &&& BitVec.ofInt 64 255).toNat = (n % ((2 ^ 64 : Nat) : Int)).toNat % 2 ^ 8 := by
  rw [BitVec.toNat_and, BitVec.toNat_ofInt, h255, Nat.and_two_pow_sub_one_eq_mod]
 show IntKind.i64.wrap ((BitVec.ofInt 64 n &&& BitVec.ofInt 64 255).toNat : Nat) = n % 256
 rw [key, IntKind.wrap_i64]
 omega
def Cur (b : List Int) (i : Int) : Prop := b.length < 4611686018427387904 ∧ 0 ≤ i
theorem mG {b : List Int} {i : Int} (h : Int) (hc : Cur b i) : ∃ v i' h', gP.f b i h = some (v, i', h') ∧ 0 ≤ v ∧ v ≤ 255 ∧ Cur b i' := by
 obtain ⟨hb, hi⟩ := hc
 unfold gP.f
 simp only [Bp]
 split
 ·try rw [if_pos hi]
  exact ⟨_, _, _, rfl, by unfold wrap64; omega, by unfold wrap64; omega, hb, by unfold wrap64; omega⟩
 ·exact ⟨_, _, _, rfl, by omega, by omega, hb, hi⟩
theorem uV {v n : Int} (hv : 0 ≤ v) (hn : 0 < n) : 0 ≤ Int.tmod v n ∧ Int.tmod v n < n := by
 rw [Int.tmod_eq_emod_of_nonneg hv]
 exact ⟨Int.emod_nonneg _ (by omega), Int.emod_lt_of_pos _ hn⟩
theorem fU {b : List Int} {i : Int} (h n : Int) (hc : Cur b i) : ∃ v i' h', bR.f b i h n = some (v, i', h') ∧ 0 ≤ v ∧ (0 < n → v < n) ∧ (n ≤ 0 → v = 0) ∧ Cur b i' := by
 unfold bR.f
 by_cases h1 : n ≤ 0
 ·rw [if_pos h1]
  exact ⟨0, i, h, rfl, by omega, by omega, fun _ => rfl, hc⟩
 rw [if_neg h1]
 by_cases h2 : n ≤ 256
 ·rw [if_pos h2]
  obtain ⟨v, i', h', e, v0, v1, hc'⟩ := mG h hc
  simp only [e, Option.bind_some]
  rw [if_neg (by omega)]
  obtain ⟨t0, t1⟩ := uV v0 (show 0 < n by omega)
  exact ⟨_, _, _, rfl, t0, fun _ => t1, by omega, hc'⟩
 ·rw [if_neg h2]
  obtain ⟨x, i1, h1', e1, x0, x1, hc1⟩ := mG h hc
  obtain ⟨y, i2, h2', e2, y0, y1, hc2⟩ := mG h1' hc1
  obtain ⟨z, i3, h3', e3, z0, z1, hc3⟩ := mG h2' hc2
  simp only [e1, e2, e3, Option.bind_some]
  rw [if_neg (by omega)]
  have hw : 0 ≤ wrap64 ((wrap64 ((wrap64 (x * 65536)) + (wrap64 (y * 256)))) + z) := by unfold wrap64; omega
  obtain ⟨t0, t1⟩ := uV hw (show 0 < n by omega)
  exact ⟨_, _, _, rfl, t0, fun _ => t1, by omega, hc3⟩
theorem jM {b : List Int} {i : Int} (h n : Int) (hc : Cur b i) : ∃ q i' h', dO.f b i h n = some (q, i', h') ∧ Cur b i' := by
 obtain ⟨v, i', h', e, _, _, _, hc'⟩ := fU h n hc
 unfold dO.f
 simp only [e, Option.bind_some]
 exact ⟨_, _, _, rfl, hc'⟩
theorem sQ {b : List Int} {i : Int} (h : Int) (l : List Int) (hc : Cur b i) (hl : 0 < l.length) : ∃ v i' h', iG.f b i h l = some (v, i', h') ∧ v ∈ l ∧ Cur b i' := by
 obtain ⟨v, i', h', e, v0, v1, _, hc'⟩ := fU h (l.length : Int) hc
 have v2 := v1 (by omega)
 unfold iG.f
 simp only [e, Option.bind_some]
 rw [if_pos v0, if_pos v2]
 obtain ⟨n, rfl⟩ : ∃ n : Nat, v = (n : Int) := ⟨v.toNat, by omega⟩
 rw [wN l n (by omega)]
 exact ⟨_, _, _, rfl, List.getElem_mem _, hc'⟩
theorem lU {b : List Int} {i : Int} (h : Int) (l : List ByteArray) (hc : Cur b i) (hl : 0 < l.length) : ∃ v i' h', gu.f b i h l = some (v, i', h') ∧ v ∈ l ∧ Cur b i' := by
 obtain ⟨v, i', h', e, v0, v1, _, hc'⟩ := fU h (l.length : Int) hc
 have v2 := v1 (by omega)
 unfold gu.f
 simp only [e, Option.bind_some]
 rw [if_pos v0, if_pos v2]
 obtain ⟨n, rfl⟩ : ∃ n : Nat, v = (n : Int) := ⟨v.toNat, by omega⟩
 rw [ji _ l n (by omega)]
 exact ⟨_, _, _, rfl, List.getElem_mem _, hc'⟩
theorem lJ : ∃ l : List ByteArray, fT.f = some l ∧ l.length = 35 ∧ ∀ w ∈ l, w.size ≤ 8 := by
 refine ⟨_, rfl, rfl, ?_⟩
 intro w hw
 simp only [List.mem_cons, List.not_mem_nil, or_false] at hw
 rcases hw with h | h | h | h | h | h | h | h | h | h | h | h | h | h | h | h | h | h | h | h | h | h | h | h | h | h | h | h | h | h | h | h | h | h | h <;> (subst h; decide)
theorem mF {b : List Int} {i : Int} (h : Int) (hc : Cur b i) : ∃ w i' h', fB.f b i h = some (w, i', h') ∧ w.size ≤ 8 ∧ Cur b i' := by
 obtain ⟨l, hl, hn, hs⟩ := lJ
 obtain ⟨v, i', h', e, hm, hc'⟩ := lU h l hc (by omega)
 unfold fB.f
 simp only [hl, e, Option.bind_some]
 exact ⟨_, _, _, rfl, hs _ hm, hc'⟩
theorem sD {b : List Int} {i : Int} (h : Int) (hc : Cur b i) : ∃ w i' h', jd.f b i h = some (w, i', h') ∧ w.size ≤ 9 ∧ Cur b i' := by
 obtain ⟨w, i1, h1, e1, hw, hc1⟩ := mF h hc
 unfold jd.f
 simp only [e1, Option.bind_some]
 rw [if_pos (by omega)]
 obtain ⟨v, i', h', e, hm, hc'⟩ := lU h1 [w, w, w, w, w, (⟨#[]⟩ : ByteArray), (⟨#[65]⟩ : ByteArray), (⟨#[97, 32, 98]⟩ : ByteArray), (⟨#[116, 111, 111, 108, 111, 110, 103, 101, 114]⟩ : ByteArray), (⟨#[116, 111, 111, 108, 111, 110, 103]⟩ : ByteArray), w ++ (⟨#[63]⟩ : ByteArray), (⟨#[122]⟩ : ByteArray)] hc1 (by simp)
 simp only [e, Option.bind_some]
 refine ⟨_, _, _, rfl, ?_, hc'⟩
 simp only [List.mem_cons, List.not_mem_nil, or_false] at hm
 rcases hm with r | r | r | r | r | r | r | r | r | r | r | r <;> subst r
 all_goals first
  | decide
  | (rw [ByteArray.size_append]; show w.size + 1 ≤ 9; omega)
  | omega
theorem ql {b : List Int} {i : Int} (h : Int) (hc : Cur b i) : ∃ v i' h', iH.f b i h = some (v, i', h') ∧ (-9223372036854775808 ≤ v ∧ v ≤ 9223372036854775807) ∧ Cur b i' := by
 unfold iH.f
 obtain ⟨v, i', h', e, hm, hc'⟩ := sQ h ([(-1), 0, 99, 100, 1000, 1001, 9223372036854775807, (-9223372036854775808)] : List Int) hc (by simp)
 simp only [e, Option.bind_some]
 refine ⟨_, _, _, rfl, ?_, hc'⟩
 simp only [List.mem_cons, List.not_mem_nil, or_false] at hm
 omega
theorem lM {σ ρ : Type} (L : Nat → σ → Int → Option ρ) (Q : ρ → Prop) (n : Nat) (Inv : Nat → σ → Prop) (hend : ∀ s, Inv n s → ∃ r, Ev (fun k => L k s (n : Int)) r ∧ Q r)
  (hstep : ∀ i s, i < n → Inv i s → (∃ r, Ev (fun k => L k s (i : Int)) r ∧ Q r) ∨ ∃ s', Inv (i + 1) s' ∧ ∀ r, Ev (fun k => L k s' ((i + 1 : Nat) : Int)) r → Ev (fun k => L k s (i : Int)) r) :
  ∀ d i s, i + d = n → Inv i s → ∃ r, Ev (fun k => L k s (i : Int)) r ∧ Q r := by
 intro d
 induction d with
 | zero =>
  intro i s h hi
  have : i = n := by omega
  subst this
  exact hend s hi
 | succ d ih =>
  intro i s h hi
  rcases hstep i s (by omega) hi with h1 | ⟨s', h1, h2⟩
  ·exact h1
  ·obtain ⟨r, hr, hq⟩ := ih (i + 1) s' (by omega) h1
   exact ⟨r, h2 r hr, hq⟩
theorem sS (b : List Int) (hb : b.length < 4611686018427387904) : ∃ h, Ev (fun k => fF.f k b) (b, 0, h) := by
 unfold fF.f
 obtain ⟨⟨r1, r2, r3⟩, hr, e1, e2⟩ := lM (fun k s i => fF.l0 k b s i) (fun r => r.1 = b ∧ r.2.1 = 0) b.length (fun _ _ => True) (fun s _ => ⟨(b, 0, s), by rw [← aT]; simp only [fF.l0]; rw [evN (by omega)]; exact bn _, rfl, rfl⟩)
  (fun i s hi _ => by
   by_cases h4 : (i : Int) < 4000
   ·refine .inr ⟨Go.bits .and .i64 (wrap64 ((wrap64 ((wrap64 (s * 137)) + (wrap64 (rd b (i : Int))))) + 11)) 1073741823, trivial, fun r hr => ?_⟩
    rw [← aT]
    simp only [fF.l0]
    rw [evP (by omega), evP h4, evP (by omega), dZ (by omega)]
    exact hr
   ·exact .inl ⟨(b, 0, s), by rw [← aT]; simp only [fF.l0]; rw [evP (by omega), evN h4]; exact bn _, rfl, rfl⟩) b.length 0 (wrap64 (193017 + (b.length : Int))) (by omega) trivial
 dsimp only at e1 e2
 subst e1 e2
 exact ⟨r3, hr⟩
theorem tO {b : List Int} {i : Int} (h : Int) (hc : Cur b i) : ∃ d i' h', Ev (fun k => bZ.f k b i h) (d, i', h') ∧ d.length ≤ 40 ∧ Cur b i' := by
 obtain ⟨ws, hws, hwn, _⟩ := lJ
 unfold bZ.f
 simp only [hws, Option.bind_some]
 have l1 : ∀ (n : Nat) (d : List S64) (i h : Int), n ≤ 5 → d.length ≤ 35 → Cur b i → ∃ r, Ev (fun k => bZ.l1 k d (n : Int) b i h) r ∧ r.1.length ≤ 40 ∧ Cur b r.2.1 := by
  intro n d i h hn hd hc
  obtain ⟨r, hr, q⟩ := lM (fun k (s : List S64 × Int × Int) j => bZ.l1 k s.1 ((n : Int) - j) b s.2.1 s.2.2) (fun r => r.1.length ≤ 40 ∧ Cur b r.2.1) n (fun j s => s.1.length ≤ 35 + j ∧ Cur b s.2.1)
   (fun s hs => ⟨s, by rw [← aT]; simp only [bZ.l1]; rw [evN (by omega)]; exact bn _, by have := hs.1; omega, hs.2⟩)
   (fun j s hj hs => by
    obtain ⟨w, i2, h2, e2, _, hc2⟩ := mF s.2.2 hs.2
    obtain ⟨v, i3, h3, e3, _, _, _, hc3⟩ := fU h2 4 hc2
    have ha := kI s.1 w (wrap64 (1 + v)) (by have := hs.1; omega)
    have hal := oK s.1 w (wrap64 (1 + v))
    refine .inr ⟨((rG s.1 w (wrap64 (1 + v))).1, i3, h3), ⟨by have := hs.1; show (rG s.1 w (wrap64 (1 + v))).1.length ≤ _; omega, hc3⟩, fun r hr => ?_⟩
    rw [← aT]
    simp only [bZ.l1, e2, e3, Option.bind_some]
    have hw : wrap64 ((n : Int) - (j : Int) - 1) = (n : Int) - ((j + 1 : Nat) : Int) := by unfold wrap64; omega
    rw [evP (by omega), aU ha, hw]
    exact hr) n 0 (d, i, h) (by omega) ⟨by show d.length ≤ 35 + 0; omega, hc⟩
  exact ⟨r, by simpa using hr, q⟩
 obtain ⟨⟨r1, r2, r3⟩, hr, q1, q2⟩ := lM (fun k (s : List S64 × Int × Int) j => bZ.l0 k s.1 ws j b s.2.1 s.2.2) (fun r => r.1.length ≤ 40 ∧ Cur b r.2.1) ws.length (fun j s => s.1.length ≤ j ∧ Cur b s.2.1)
  (fun s hs => by
   obtain ⟨v, i3, h3, e3, v0, v1, _, hc3⟩ := fU s.2.2 6 hs.2
   have v2 := v1 (by omega)
   obtain ⟨n, rfl⟩ : ∃ n : Nat, v = (n : Int) := ⟨v.toNat, by omega⟩
   obtain ⟨r, hr, q⟩ := l1 n s.1 i3 h3 (by omega) (by have := hs.1; omega) hc3
   refine ⟨r, ?_, q⟩
   rw [← aT]
   simp only [bZ.l0, e3, Option.bind_some]
   rw [evN (by omega)]
   exact hr)
  (fun j s hj hs => by
   obtain ⟨q, i2, h2, e2, hc2⟩ := jM s.2.2 3 hs.2
   cases q with
   | true =>
    refine .inr ⟨(s.1, i2, h2), ⟨by have := hs.1; show s.1.length ≤ _; omega, hc2⟩, fun r hr => ?_⟩
    rw [← aT]
    simp only [bZ.l0, e2, Option.bind_some]
    rw [evP (by omega), evP trivial, dZ (by omega)]
    exact hr
   | false =>
    obtain ⟨v, i3, h3, e3, _, _, _, hc3⟩ := fU h2 4 hc2
    have ha := kI s.1 (eP ByteArray.empty ws (j : Int)) (wrap64 (1 + v)) (by have := hs.1; omega)
    have hal := oK s.1 (eP ByteArray.empty ws (j : Int)) (wrap64 (1 + v))
    refine .inr ⟨((rG s.1 (eP ByteArray.empty ws (j : Int)) (wrap64 (1 + v))).1, i3, h3), ⟨by have := hs.1; show (rG s.1 (eP ByteArray.empty ws (j : Int)) (wrap64 (1 + v))).1.length ≤ _; omega, hc3⟩, fun r hr => ?_⟩
    rw [← aT]
    simp only [bZ.l0, e2, e3, Option.bind_some]
    rw [evP (by omega), evN (by decide), evP (by omega), aU ha, dZ (by omega)]
    exact hr) ws.length 0 ([], i, h) (by omega) ⟨by simp, hc⟩
 exact ⟨r1, r2, r3, hr, q1, q2⟩
theorem lN (l m : List ByteArray) (hl : l.length < 4611686018427387904) (hm : m.length < 4611686018427387904) : Ev (fun k => eG.f k l m) (l.all fun x => jU m x) := by
 refine kG (fun k i => eG.l0 k l m i) l _ ?_ (fun i hi hp r hr => ?_) (fun i hi hp => ?_)
 ·rw [← aT]; simp [eG.l0, bn]
 ·rw [← aT]
  simp only [eG.l0, ji ByteArray.empty l i hi, dZ (i := i) (by omega)]
  rw [evP (by omega), evP (by omega), aU (jh m l[i] hm), evP hp]
  exact hr
 ·rw [← aT]
  simp only [eG.l0, ji ByteArray.empty l i hi]
  rw [evP (by omega), evP (by omega), aU (jh m l[i] hm), evN (by rw [hp]; decide)]
  exact bn _
theorem jN {l : List ByteArray} {w : ByteArray} : jU l w = true ↔ w ∈ l := by
 simp [jU]
def hp (L : List UInt8) (c : UInt8) : Bool := match L with | [] => false | x :: _ => x == c
theorem uH (b : List Int) (i h : Int) (l : List S69) (hl : l.length < 100) (h0 : ∀ (q : 0 < l.length), (l[0]'q).f0 = 1) (kd : Int) (w : ByteArray) (B : Int) :
  ∀ a : Nat, a < l.length → ∃ A : Int, Ev (fun k => bO.l0 k l b i h kd w (a : Int) B) (kd, w, A, B, i, h) := by
 intro a
 induction a with
 | zero =>
  intro ha
  refine ⟨(0 : Int), ?_⟩
  have e := oq l 0 ha
  rw [← aT]
  simp only [bO.l0, e]
  by_cases h2 : kd = 2
  ·rw [evP h2]
   exact bn _
  ·rw [evN h2, evP (by omega), evP (by omega), evP (h0 ha)]
   exact bn _
 | succ a ih =>
  intro ha
  by_cases h2 : kd = 2
  ·refine ⟨((a + 1 : Nat) : Int), ?_⟩
   rw [← aT]
   simp only [bO.l0]
   rw [evP h2]
   exact bn _
  by_cases h1 : (l[a + 1]'ha).f0 = 1
  ·refine ⟨((a + 1 : Nat) : Int), ?_⟩
   rw [← aT]
   simp only [bO.l0, oq l (a + 1) ha]
   rw [evN h2, evP (by omega), evP (by omega), evP h1]
   exact bn _
  ·obtain ⟨A, hA⟩ := ih (by omega)
   refine ⟨A, ?_⟩
   have e : wrap64 (((a + 1 : Nat) : Int) - 1) = (a : Int) := by unfold wrap64; omega
   rw [← aT]
   simp only [bO.l0, oq l (a + 1) ha, e]
   rw [evN h2, evP (by omega), evP (by omega), evN h1]
   exact hA
theorem tT {b : List Int} {i : Int} (h : Int) (l : List S69) (hc : Cur b i) (hl : l.length < 100) (h0 : ∀ (q : 0 < l.length), (l[0]'q).f0 = 1) :
  ∃ kd w A B i' h', Ev (fun k => bO.f k b i h l) (kd, w, A, B, i', h') ∧ Cur b i' ∧ (l.length = 0 → kd = 1) := by
 obtain ⟨v, i1, h1, e1, v0, v1, _, hc1⟩ := fU h 9 hc
 have v2 := v1 (by omega)
 have hk : wrap64 (1 + v) = 1 + v := by unfold wrap64; omega
 have hj2 : ∀ (two : Bool) (kd i h : Int), Cur b i → 0 < l.length → ∃ A B i' h', Ev (fun k => bO.j2 k l two b i h kd (⟨#[]⟩ : ByteArray) (wrap64 ((l.length : Int) - 1)) 0) (kd, (⟨#[]⟩ : ByteArray), A, B, i', h') ∧ Cur b i' := by
  intro two kd i h hc hp
  cases two with
  | true =>
   obtain ⟨x, i2, h2, e2, _, _, _, hc2⟩ := fU h (l.length : Int) hc
   obtain ⟨y, i3, h3, e3, _, _, _, hc3⟩ := fU h2 (l.length : Int) hc2
   refine ⟨x, y, i3, h3, ?_, hc3⟩
   rw [← aT]
   simp only [bO.j2, if_true, e2, e3, Option.bind_some]
   exact bn _
  | false =>
   obtain ⟨A, hA⟩ := uH b i h l hl h0 kd (⟨#[]⟩ : ByteArray) 0 (l.length - 1) (by omega)
   refine ⟨A, 0, i, h, ?_, hc⟩
   have e : wrap64 ((l.length : Int) - 1) = ((l.length - 1 : Nat) : Int) := by unfold wrap64; omega
   rw [← aT]
   simp only [bO.j2, Bool.false_eq_true, if_false, e]
   exact hA
 have hj1 : ∀ (kd i h : Int), Cur b i → (l.length = 0 → kd = 1) → ∃ w A B i' h', Ev (fun k => bO.j1 k l b i h kd (⟨#[]⟩ : ByteArray) 0 0) (kd, w, A, B, i', h') ∧ Cur b i' := by
  intro kd i h hc hz
  by_cases p1 : kd = 1
  ·obtain ⟨w, i2, h2, e2, _, hc2⟩ := mF h hc
   obtain ⟨x, i3, h3, e3, _, hc3⟩ := lU h2 ([w, (⟨#[114]⟩ : ByteArray), (⟨#[115]⟩ : ByteArray), (⟨#[97, 116]⟩ : ByteArray), (⟨#[101, 97]⟩ : ByteArray)] : List ByteArray) hc2 (by simp)
   refine ⟨x, 0, 0, i3, h3, ?_, hc3⟩
   rw [← aT]
   simp only [bO.j1, e2, Option.bind_some, e3]
   rw [evP p1]
   exact bn _
  ·have hp : 0 < l.length := by
    by_cases q : l.length = 0
    ·exact absurd (hz q) p1
    ·omega
   by_cases p4 : kd = 4
   ·obtain ⟨A, B, i', h', e, hc'⟩ := hj2 true kd i h hc hp
    refine ⟨(⟨#[]⟩ : ByteArray), A, B, i', h', ?_, hc'⟩
    rw [← aT]
    simp only [bO.j1]
    rw [evN p1, evP p4]
    exact e
   ·obtain ⟨A, B, i', h', e, hc'⟩ := hj2 (kd == 5) kd i h hc hp
    refine ⟨(⟨#[]⟩ : ByteArray), A, B, i', h', ?_, hc'⟩
    rw [← aT]
    simp only [bO.j1]
    rw [evN p1, evN p4]
    exact e
 have hj0 : ∀ (q : Bool) (i h : Int), Cur b i → (l.length = 0 → q = true) → ∃ kd w A B i' h', Ev (fun k => bO.j0 k l q b i h (1 + v) (⟨#[]⟩ : ByteArray) 0 0) (kd, w, A, B, i', h') ∧ Cur b i' ∧ (l.length = 0 → kd = 1) := by
  intro q i h hc hz
  cases q with
  | true =>
   obtain ⟨w, A, B, i', h', e, hc'⟩ := hj1 1 i h hc (fun _ => rfl)
   refine ⟨1, w, A, B, i', h', ?_, hc', fun _ => rfl⟩
   rw [← aT]
   simp only [bO.j0, if_true]
   exact e
  | false =>
   have hn : l.length = 0 → False := fun x => by cases hz x
   obtain ⟨w, A, B, i', h', e, hc'⟩ := hj1 (1 + v) i h hc (fun x => (hn x).elim)
   refine ⟨1 + v, w, A, B, i', h', ?_, hc', fun x => (hn x).elim⟩
   rw [← aT]
   simp only [bO.j0, Bool.false_eq_true, if_false]
   exact e
 unfold bO.f
 simp only [e1, Option.bind_some, hk]
 by_cases hz : (l.length : Int) = 0
 ·simp only [evP hz]
  exact hj0 true i1 h1 hc1 (fun _ => rfl)
 ·obtain ⟨q, i2, h2, e2, hc2⟩ := jM h1 3 hc1
  simp only [evN hz, e2, Option.bind_some]
  exact hj0 q i2 h2 hc2 (fun x => absurd (by omega) hz)
theorem tQ {b : List Int} {i : Int} (h : Int) (hc : Cur b i) : ∃ l i' h', Ev (fun k => eU.f k b i h) (l, i', h') ∧ 1 ≤ l.length ∧ l.length ≤ 5 ∧ Cur b i' := by
 obtain ⟨v, i1, h1, e1, v0, v1, _, hc1⟩ := fU h 5 hc
 have v2 := v1 (by omega)
 have hk : wrap64 (1 + v) = 1 + v := by unfold wrap64; omega
 unfold eU.f
 simp only [e1, Option.bind_some, hk]
 obtain ⟨n, hn⟩ : ∃ n : Nat, 1 + v = (n : Int) := ⟨(1 + v).toNat, by omega⟩
 rw [hn]
 obtain ⟨⟨r1, r2, r3⟩, hr, q1, q2⟩ := lM (fun k (s : List S69 × Int × Int) j => eU.l0 k s.1 ((n : Int) - j) b s.2.1 s.2.2) (fun r => r.1.length = n ∧ Cur b r.2.1) n (fun j s => s.1.length = j ∧ Cur b s.2.1 ∧ ∀ (q : 0 < s.1.length), (s.1[0]'q).f0 = 1)
  (fun s hs => ⟨s, by rw [← aT]; simp only [eU.l0]; rw [evN (by omega)]; exact bn _, hs.1, hs.2.1⟩)
  (fun j s hj hs => by
   obtain ⟨s1, s2, s3⟩ := hs
   obtain ⟨kd, w, A, B, i2, h2, e2, hc2, hz⟩ := tT s.2.2 s.1 s2 (by omega) s3
   refine .inr ⟨(s.1 ++ [(⟨kd, w, A, B⟩ : S69)], i2, h2), ⟨by simp only [List.length_append, List.length_cons, List.length_nil]; omega, hc2, fun q => ?_⟩, fun r hr => ?_⟩
   ·by_cases p : 0 < s.1.length
    ·dsimp only
     rw [List.getElem_append_left p]
     exact s3 p
    ·have e : s.1 = [] := List.eq_nil_of_length_eq_zero (by omega)
     have k1 := hz (by omega)
     simp only [e, List.nil_append, List.getElem_cons_zero]
     exact k1
   ·rw [← aT]
    simp only [eU.l0]
    have hw : wrap64 ((n : Int) - (j : Int) - 1) = (n : Int) - ((j + 1 : Nat) : Int) := by unfold wrap64; omega
    rw [evP (by omega), aU e2, evP (by omega), hw]
    exact hr) n 0 ([], i1, h1) (by omega) ⟨rfl, hc1, fun q => absurd q (by simp)⟩
 refine ⟨r1, r2, r3, ?_, by dsimp only at q1; omega, by dsimp only at q1; omega, q2⟩
 simpa using hr
theorem wF {b : List Int} {i : Int} (h : Int) (hc : Cur b i) : ∃ l i' h', Ev (fun k => jv.f k b i h) (l, i', h') ∧ l.length ≤ 5 ∧ Cur b i' := by
 obtain ⟨d, i1, h1, e1, hd1, hd, hc1⟩ := tQ h hc
 unfold jv.f
 simp only [aU e1]
 obtain ⟨v, i2, h2, e2, v0, v1, _, hc2⟩ := fU h1 (d.length : Int) hc1
 obtain ⟨u, i3, h3, e3, _, _, _, hc3⟩ := fU h2 12 hc2
 have v2 := v1 (by omega)
 simp only [e2, e3, Option.bind_some]
 by_cases u0 : u = 0
 ·obtain ⟨w, i4, h4, e4, _, hc4⟩ := sQ h3 ([0, 10, 3, 5] : List Int) hc3 (by simp)
  simp only [evP u0, e4, Option.bind_some, evP v0, evP v2]
  exact ⟨_, _, _, bn _, by rw [List.length_set]; omega, hc4⟩
 simp only [evN u0]
 by_cases u1 : u = 1
 ·obtain ⟨w, i4, h4, e4, _, hc4⟩ := sD h3 hc3
  simp only [evP u1, e4, Option.bind_some, evP v0, evP v2]
  exact ⟨_, _, _, bn _, by rw [List.length_set]; omega, hc4⟩
 simp only [evN u1]
 by_cases u2 : u = 2
 ·obtain ⟨w, i4, h4, e4, _, hc4⟩ := ql h3 hc3
  simp only [evP u2, e4, Option.bind_some, evP v0, evP v2]
  exact ⟨_, _, _, bn _, by rw [List.length_set]; omega, hc4⟩
 simp only [evN u2]
 by_cases u3 : u = 3
 ·obtain ⟨w, i4, h4, e4, _, hc4⟩ := ql h3 hc3
  simp only [evP u3, e4, Option.bind_some, evP v0, evP v2]
  exact ⟨_, _, _, bn _, by rw [List.length_set]; omega, hc4⟩
 simp only [evN u3]
 by_cases u4 : u = 4
 ·simp only [evP u4]
  exact ⟨_, _, _, bn _, by simp, hc3⟩
 ·simp only [evN u4]
  exact ⟨_, _, _, bn _, hd, hc3⟩
theorem sV : ∃ l : List ByteArray, fT.f = some l ∧ l.length = 35 ∧ ∀ w ∈ l, 2 ≤ w.size ∧ w.size ≤ 8 := by
 refine ⟨_, rfl, rfl, ?_⟩
 intro w hw
 simp only [List.mem_cons, List.not_mem_nil, or_false] at hw
 rcases hw with h | h | h | h | h | h | h | h | h | h | h | h | h | h | h | h | h | h | h | h | h | h | h | h | h | h | h | h | h | h | h | h | h | h | h <;> (subst h; decide)
theorem uN {b : List Int} {i : Int} (h : Int) (hc : Cur b i) : ∃ w i' h', fB.f b i h = some (w, i', h') ∧ (2 ≤ w.size ∧ w.size ≤ 8) ∧ Cur b i' := by
 obtain ⟨l, hl, hn, hs⟩ := sV
 obtain ⟨v, i', h', e, hm, hc'⟩ := lU h l hc (by omega)
 unfold fB.f
 simp only [hl, e, Option.bind_some]
 exact ⟨_, _, _, rfl, hs _ hm, hc'⟩
theorem uz {b : List Int} {i : Int} (h : Int) (hc : Cur b i) : ∃ l i' h', Ev (fun k => eu.f k b i h) (l, i', h') ∧ l.length ≤ 35 ∧ Cur b i' := by
 obtain ⟨ws, hws, hwn, _⟩ := lJ
 unfold eu.f
 simp only [hws, Option.bind_some]
 obtain ⟨⟨r1, r2, r3⟩, hr, q1, q2⟩ := lM (fun k (s : List ByteArray × Int × Int) j => eu.l0 k ws s.1 j b s.2.1 s.2.2) (fun r => r.1.length ≤ 35 ∧ Cur b r.2.1) ws.length (fun j s => s.1.length ≤ j ∧ Cur b s.2.1)
  (fun s hs => ⟨s, by rw [← aT]; simp only [eu.l0]; rw [evN (by omega)]; exact bn _, by have := hs.1; omega, hs.2⟩)
  (fun j s hj hs => by
   obtain ⟨q, i2, h2, e2, hc2⟩ := jM s.2.2 3 hs.2
   cases q with
   | true =>
    refine .inr ⟨(s.1, i2, h2), ⟨by have := hs.1; dsimp only; omega, hc2⟩, fun r hr => ?_⟩
    rw [← aT]
    simp only [eu.l0, e2, Option.bind_some]
    rw [evP (by omega), evP trivial, dZ (by omega)]
    exact hr
   | false =>
    refine .inr ⟨(s.1 ++ [ws[j]], i2, h2), ⟨by have := hs.1; simp only [List.length_append, List.length_cons, List.length_nil]; omega, hc2⟩, fun r hr => ?_⟩
    rw [← aT]
    simp only [eu.l0, e2, Option.bind_some, ji ByteArray.empty ws j hj]
    rw [evP (by omega), evN (by decide), evP (by omega), evP (by have := hs.1; omega), dZ (by omega)]
    exact hr) ws.length 0 ([], i, h) (by omega) ⟨by simp, hc⟩
 exact ⟨r1, r2, r3, hr, q1, q2⟩
theorem tK {b : List Int} {i : Int} (h : Int) (w : ByteArray) (hw : 2 ≤ w.size ∧ w.size ≤ 8) (hc : Cur b i) : ∃ l i' h', Ev (fun k => cZ.f k b i h w) (l, i', h') ∧ l.length ≤ 5 ∧ Cur b i' := by
 obtain ⟨v, i1, h1, e1, _, _, _, hc1⟩ := fU h 5 hc
 have hx : ∀ a c : Nat, (w.extract a c).size ≤ 8 := fun a c => by rw [ByteArray.size_extract]; omega
 have x1 := hx 1 w.size
 have x2 := hx 0 1
 have x3 := hx 2 w.size
 unfold cZ.f
 simp only [e1, Option.bind_some]
 by_cases v0 : v = 0
 ·simp only [evP v0, aU (kT w (by omega))]
  exact ⟨_, _, _, bn _, by simp, hc1⟩
 simp only [evN v0]
 by_cases v1 : v = 1
 ·refine ⟨([(⟨1, (w.extract 1 w.size) ++ (w.extract 0 1), 0, 0⟩ : S69), (⟨3, (⟨#[]⟩ : ByteArray), 0, 0⟩ : S69)] : List (S69)), i1, h1, ?_, ?_, hc1⟩
  ·rw [evP v1, evP (by omega), evP (by omega), evP (by omega)]
   exact bn _
  ·simp
 simp only [evN v1]
 by_cases v2 : v = 2
 ·refine ⟨([(⟨1, w.extract 0 1, 0, 0⟩ : S69), (⟨1, w.extract 1 w.size, 0, 0⟩ : S69), (⟨4, (⟨#[]⟩ : ByteArray), 0, 1⟩ : S69)] : List (S69)), i1, h1, ?_, ?_, hc1⟩
  ·rw [evP v2, evP (by omega), evP (by omega)]
   exact bn _
  ·simp
 simp only [evN v2]
 by_cases v3 : v = 3
 ·refine ⟨([(⟨1, (w.extract 0 1) ++ (w.extract 2 w.size), 0, 0⟩ : S69), (⟨1, w.extract 1 2, 0, 0⟩ : S69), (⟨5, (⟨#[]⟩ : ByteArray), 0, 1⟩ : S69)] : List (S69)), i1, h1, ?_, ?_, hc1⟩
  ·rw [evP v3, evP (by omega), evP (by omega), evP (by omega), evP (by omega), evP (by omega)]
   exact bn _
  ·simp
 ·simp only [evN v3]
  exact ⟨_, _, _, bn _, by simp, hc1⟩
theorem wE {b : List Int} {i : Int} (h : Int) (d : List S64) (hd : d.length ≤ 40) (w : ByteArray) (hw : 2 ≤ w.size ∧ w.size ≤ 8) (hc : Cur b i) : ∃ s l i' h', Ev (fun k => jq.f k b i h d w) (s, l, i', h') ∧ l.length ≤ 5 ∧ Cur b i' := by
 obtain ⟨v, i1, h1, e1, _, _, _, hc1⟩ := fU h 4 hc
 obtain ⟨l, i2, h2, e2, hl, hc2⟩ := tK h1 w hw hc1
 have hs := oo d w (by omega)
 have hsl := qz _ (qQ w) d
 generalize d.flatMap (mR w) = t at hs hsl
 unfold jq.f
 simp only [e1, Option.bind_some, aU e2, aU hs]
 by_cases ht : (t.length : Int) > 0
 ·obtain ⟨q, i3, h3, e3, hc3⟩ := jM h2 8 hc2
  simp only [evP ht, e3, Option.bind_some]
  cases q with
  | true =>
   simp only [evP rfl]
   exact ⟨_, _, _, _, bn _, hl, hc3⟩
  | false =>
   obtain ⟨u, i4, h4, e4, u0, u1, _, hc4⟩ := fU h3 (t.length : Int) hc3
   have u2 := u1 (by omega)
   refine ⟨rd t u, l, i4, h4, ?_, hl, hc4⟩
   simp only [e4, Option.bind_some]
   rw [evN (by decide), evP u0, evP u2]
   exact bn _
 ·simp only [evN ht]
  exact ⟨_, _, _, _, bn _, hl, hc2⟩
theorem tH {b : List Int} {i : Int} (h : Int) (hc : Cur b i) : ∃ s l d w i' h', Ev (fun k => iZ.f k b i h) (s, l, d, w, i', h') ∧ l.length ≤ 5 ∧ d.length ≤ 40 ∧ w.size ≤ 9 ∧ Cur b i' := by
 obtain ⟨d, i1, h1, e1, hd, hc1⟩ := tO h hc
 obtain ⟨w, i2, h2, e2, hw, hc2⟩ := uN h1 hc1
 obtain ⟨s, l, i3, h3, e3, hl, hc3⟩ := wE h2 d hd w hw hc2
 obtain ⟨u, i4, h4, e4, _, _, _, hc4⟩ := fU h3 8 hc3
 unfold iZ.f
 simp only [aU e1, e2, Option.bind_some, aU e3, e4]
 by_cases u0 : u = 0
 ·obtain ⟨x, i5, h5, e5, _, hc5⟩ := ql h4 hc4
  simp only [evP u0, e5, Option.bind_some]
  exact ⟨_, _, _, _, _, _, bn _, hl, hd, by omega, hc5⟩
 simp only [evN u0]
 by_cases u1 : u = 1
 ·obtain ⟨x, i5, h5, e5, hx, hc5⟩ := wF h4 hc4
  simp only [evP u1, aU e5]
  exact ⟨_, _, _, _, _, _, bn _, hx, hd, by omega, hc5⟩
 simp only [evN u1]
 by_cases u2 : u = 2
 ·obtain ⟨x, i5, h5, e5, hx, hc5⟩ := sD h4 hc4
  simp only [evP u2, e5, Option.bind_some]
  exact ⟨_, _, _, _, _, _, bn _, hl, hd, hx, hc5⟩
 ·simp only [evN u2]
  exact ⟨_, _, _, _, _, _, bn _, hl, hd, by omega, hc4⟩
theorem BM (w : ByteArray) (j : Nat) (hj : j < w.size) : (w.extract ((j : Int)).toNat (((j + 1 : Nat) : Int)).toNat).size = 1 := by
 rw [Int.toNat_natCast, Int.toNat_natCast, ByteArray.size_extract]
 omega
theorem wT {b : List Int} {i : Int} (h : Int) (hc : Cur b i) : ∃ p i' h', Ev (fun k => jK.f k b i h) (p, i', h') ∧ Cur b i' := by
 have hdraw : ∃ p i' h', Ev (fun k => eZ.f k b i h) (p, i', h') ∧ Cur b i' := by
  obtain ⟨w, i1, h1, e1, hw, hc1⟩ := mF h hc
  unfold eZ.f
  simp only [e1, Option.bind_some]
  obtain ⟨⟨r1, r2, r3⟩, hr, q2⟩ := lM (fun k (s : ByteArray × Int × Int) j => eZ.l0 k w s.1 j b s.2.1 s.2.2) (fun r => Cur b r.2.1) w.size (fun j s => s.1.size = j ∧ Cur b s.2.1)
   (fun s hs => ⟨s, by rw [← aT]; simp only [eZ.l0]; rw [evN (by omega)]; exact bn _, hs.2⟩)
   (fun j s hj hs => by
    obtain ⟨q, i2, h2, e2, hc2⟩ := jM s.2.2 2 hs.2
    have hs1 := hs.1
    cases q with
    | true =>
     refine .inr ⟨(s.1 ++ (⟨#[63]⟩ : ByteArray), i2, h2), ⟨by rw [ByteArray.size_append]; show s.1.size + 1 = j + 1; omega, hc2⟩, fun r hr => ?_⟩
     rw [← aT]
     simp only [eZ.l0, e2, Option.bind_some]
     rw [evP (by omega), evP trivial, evP (by omega), dZ (by omega)]
     exact hr
    | false =>
     have hcut := BM w j hj
     refine .inr ⟨(s.1 ++ w.extract ((j : Int)).toNat (((j + 1 : Nat) : Int)).toNat, i2, h2), ⟨by rw [ByteArray.size_append, hcut]; omega, hc2⟩, fun r hr => ?_⟩
     rw [← aT]
     simp only [eZ.l0, e2, Option.bind_some, dZ (i := j) (by omega)]
     rw [evP (by omega), evN (by decide), evP (by omega), evP (by omega), evP (by omega), evP (by rw [hcut]; omega)]
     exact hr) w.size 0 ((⟨#[]⟩ : ByteArray), i1, h1) (by omega) ⟨rfl, hc1⟩
  exact ⟨r1, r2, r3, hr, q2⟩
 obtain ⟨p, i1, h1, e1, hc1⟩ := hdraw
 obtain ⟨v, i2, h2, e2, _, hc2⟩ := lU h1 ([p, p, p, p, p, (⟨#[]⟩ : ByteArray), (⟨#[63]⟩ : ByteArray), (⟨#[65, 63]⟩ : ByteArray), (⟨#[63, 63, 63, 63, 63, 63, 63, 63, 63]⟩ : ByteArray), (⟨#[63, 63, 63, 63, 63, 63, 63, 63]⟩ : ByteArray)] : List ByteArray) hc1 (by simp)
 refine ⟨v, i2, h2, ?_, hc2⟩
 unfold jK.f
 simp only [aU e1, e2, Option.bind_some]
 exact bn _
theorem qh {b : List Int} {i : Int} (h : Int) (hc : Cur b i) : ∃ s l d ws p i' h', Ev (fun k => bN.f k b i h) (s, l, d, ws, p, i', h') ∧ l.length ≤ 5 ∧ d.length ≤ 40 ∧ ws.length ≤ 35 ∧ Cur b i' := by
 obtain ⟨s, l, d, w, i1, h1, e1, hl, hd, hw, hc1⟩ := tH h hc
 have hj1 : ∀ (p : ByteArray) (i h : Int), Cur b i → ∃ ws i' h', Ev (fun k => bN.j1 k d p b i h s l) (s, l, d, ws, p, i', h') ∧ ws.length ≤ 35 ∧ Cur b i' := by
  intro p i h hc
  obtain ⟨q, i2, h2, e2, hc2⟩ := jM h 3 hc
  cases q with
  | true =>
   obtain ⟨ws, i3, h3, e3, hws, hc3⟩ := uz h2 hc2
   refine ⟨ws, i3, h3, ?_, hws, hc3⟩
   rw [← aT]
   simp only [bN.j1, e2, Option.bind_some]
   rw [evP trivial, aU e3]
   exact bn _
  | false =>
   obtain ⟨ws, hws, hwn, _⟩ := lJ
   refine ⟨ws, i2, h2, ?_, by omega, hc2⟩
   rw [← aT]
   simp only [bN.j1, e2, Option.bind_some, hws]
   rw [evN (by decide)]
   exact bn _
 unfold bN.f
 simp only [aU e1]
 obtain ⟨⟨r1, r2, r3, r4, r5, r6, r7⟩, hr, q1, q2, q3, q4, q5⟩ := lM (fun k (t : ByteArray × Int × Int) j => bN.l0 k d w t.1 j b t.2.1 t.2.2 s l) (fun r => r.1 = s ∧ r.2.1 = l ∧ r.2.2.1 = d ∧ r.2.2.2.1.length ≤ 35 ∧ Cur b r.2.2.2.2.2.1) w.size (fun j t => t.1.size = j ∧ Cur b t.2.1)
  (fun t ht => by
   obtain ⟨q, i2, h2, e2, hc2⟩ := jM t.2.2 6 ht.2
   cases q with
   | true =>
    obtain ⟨p, i3, h3, e3, hc3⟩ := wT h2 hc2
    obtain ⟨ws, i4, h4, e4, hws, hc4⟩ := hj1 p i3 h3 hc3
    refine ⟨(s, l, d, ws, p, i4, h4), ?_, rfl, rfl, rfl, hws, hc4⟩
    rw [← aT]
    simp only [bN.l0, e2, Option.bind_some]
    rw [evN (by omega), evP trivial, aU e3]
    exact e4
   | false =>
    obtain ⟨ws, i4, h4, e4, hws, hc4⟩ := hj1 t.1 i2 h2 hc2
    refine ⟨(s, l, d, ws, t.1, i4, h4), ?_, rfl, rfl, rfl, hws, hc4⟩
    rw [← aT]
    simp only [bN.l0, e2, Option.bind_some]
    rw [evN (by omega), evN (by decide)]
    exact e4)
  (fun j t hj ht => by
   obtain ⟨q, i2, h2, e2, hc2⟩ := jM t.2.2 3 ht.2
   have ht1 := ht.1
   have hcut := BM w j hj
   cases q with
   | true =>
    refine .inr ⟨(t.1 ++ w.extract ((j : Int)).toNat (((j + 1 : Nat) : Int)).toNat, i2, h2), ⟨by rw [ByteArray.size_append, hcut]; omega, hc2⟩, fun r hr => ?_⟩
    rw [← aT]
    simp only [bN.l0, e2, Option.bind_some, dZ (i := j) (by omega)]
    rw [evP (by omega), evP trivial, evP (by omega), evP (by omega), evP (by omega), evP (by rw [hcut]; omega)]
    exact hr
   | false =>
    refine .inr ⟨(t.1 ++ (⟨#[63]⟩ : ByteArray), i2, h2), ⟨by rw [ByteArray.size_append]; show t.1.size + 1 = j + 1; omega, hc2⟩, fun r hr => ?_⟩
    rw [← aT]
    simp only [bN.l0, e2, Option.bind_some]
    rw [evP (by omega), evN (by decide), evP (by omega), dZ (by omega)]
    exact hr) w.size 0 ((⟨#[]⟩ : ByteArray), i1, h1) (by omega) ⟨rfl, hc1⟩
 dsimp only at q1 q2 q3 q4 q5
 subst q1 q2 q3
 exact ⟨r1, r2, r3, r4, r5, r6, r7, hr, hl, hd, q4, q5⟩
theorem sF (b : List Int) (hb : b.length < 4611686018427387904) : ∃ s l d ws p, Ev (fun k => iT.f k b) (s, l, d, ws, p) ∧ l.length ≤ 5 ∧ d.length ≤ 40 ∧ ws.length ≤ 35 := by
 obtain ⟨h, e0⟩ := sS b hb
 obtain ⟨s, l, d, ws, p, i1, h1, e1, hl, hd, hws, hc1⟩ := qh h (show Cur b 0 from ⟨hb, Int.le_refl _⟩)
 refine ⟨s, l, d, ws, p, ?_, hl, hd, hws⟩
 unfold iT.f
 simp only [aU e0, aU e1]
 exact bn _
theorem nU (b : List Int) (hb : b.length < 4611686018427387904) : ∃ s l d ws p n, Ev (fun k => dF.f k b) (s, l, d, ws, p, n) ∧ l.length ≤ 5 ∧ d.length ≤ 40 ∧ ws.length ≤ 35 ∧ -1 ≤ n ∧ n ≤ 4 := by
 obtain ⟨h, e0⟩ := sS b hb
 obtain ⟨s, l, d, ws, p, i1, h1, e1, hl, hd, hws, hc1⟩ := qh h (show Cur b 0 from ⟨hb, Int.le_refl _⟩)
 obtain ⟨v, i2, h2, e2, v0, v1, _, hc2⟩ := fU h1 6 hc1
 have v2 := v1 (by omega)
 have hw : wrap64 (v - 1) = v - 1 := by unfold wrap64; omega
 refine ⟨s, l, d, ws, p, v - 1, ?_, hl, hd, hws, by omega, by omega⟩
 unfold dF.f
 simp only [aU e0, aU e1, e2, Option.bind_some, hw]
 exact bn _
theorem sG (w : ByteArray) : ∀ (l out : List ByteArray), w ∈ l.foldl gX out ↔ w ∈ l ∨ w ∈ out
 | [], out => by simp
 | x :: l, out => by
  rw [List.foldl_cons, sG w l]
  unfold gX
  by_cases h : jU out x = true
  ·rw [if_pos h]
   have := jN.mp h
   constructor
   ·rintro (q | q)
    ·exact .inl (List.mem_cons_of_mem _ q)
    ·exact .inr q
   ·rintro (q | q)
    ·rcases List.mem_cons.mp q with q | q
     ·rw [q]; exact .inr this
     ·exact .inl q
    ·exact .inr q
  ·rw [if_neg h]
   simp only [List.mem_append, List.mem_cons, List.not_mem_nil, or_false]
   constructor
   ·rintro (q | q | q)
    ·exact .inl (.inr q)
    ·exact .inr q
    ·exact .inl (.inl q)
   ·rintro ((q | q) | q)
    ·exact .inr (.inr q)
    ·exact .inl q
    ·exact .inr (.inl q)
theorem sO (how a : Int) (pl : List S69) (d : List S64) (l : List ByteArray) (pat w : ByteArray) (hh : 0 ≤ how ∧ how ≤ 3) : w ∈ fA how a pl d l pat ↔ w ∈ l ∧ jP how a pl d pat w = true := by
 unfold fA qj
 rw [if_pos hh, sG]
 simp [List.mem_filter]
theorem rJ (b : List Int) (hb : b.length < 4611686018427387904) : Ev (fun k => bf.j2 k b false) true := by
 obtain ⟨s, l, d, ws, p, n, e, hl, hd, hws, n0, n1⟩ := nU b hb
 have hg := gH s l d ws p n (by omega) (by omega) (by omega)
 rw [← aT]
 simp only [bf.j2]
 rw [evN (by decide), aU e]
 dsimp only
 have hc : n = -1 ∨ n = 0 ∨ n = 1 ∨ n = 2 ∨ n = 3 ∨ n = 4 := by omega
 by_cases hin : 0 ≤ n ∧ n ≤ 3
 ·have hn : ∃ t : ByteArray, iR.f n = some t ∧ ¬ t.toList = ([] : List UInt8) := by
   rcases hc with q | q | q | q | q | q <;> subst q <;> first | (exfalso; omega) | exact ⟨_, rfl, by rw [toList_nil]; decide⟩
  obtain ⟨t, ht, hne⟩ := hn
  simp only [ht, Option.bind_some]
  rw [evN hne]
  exact bn _
 ·have hn : iR.f n = some (⟨#[]⟩ : ByteArray) := by
   rcases hc with q | q | q | q | q | q <;> subst q <;> first | (exfalso; omega) | rfl
  have hz : fA n s l d ws p = [] := by unfold fA; rw [if_neg hin]
  rw [hz] at hg
  simp only [hn, Option.bind_some]
  rw [evP (toList_nil.mpr rfl), aU hg]
  exact bn _
theorem qR : bf.Pure := by
 intro b hb1 hb2 hb3
 refine Ev.rounds ?_
 unfold bf.f lq.f
 simp only [Option.bind_some]
 by_cases hbig : decide ((b.length : Int) > 1048576) = true
 ·rw [evP hbig]
  exact bn _
 rw [evN hbig]
 have hlen : b.length < 4611686018427387904 := by
  rw [decide_eq_true_iff] at hbig
  omega
 have hj2 := rJ b hlen
 obtain ⟨s, l, d, ws, p, e, hl, hd, hws⟩ := sF b hlen
 have g := fun n => gH s l d ws p n (by omega) (by omega) (by omega)
 have g' := nE s l d ws p 0 (by omega) (by omega) (by omega)
 have hgl := fun n => sP n s l d ws p
 have hg1 := rz s l d ws p (by omega) (by omega) (by omega)
 have hnb := nO s l d ws p (by omega) (by omega) (by omega)
 have hmem := fun n w h => sO n s l d ws p w h
 have m0 : ∀ w, w ∈ fA 0 s l d ws p ↔ w ∈ ws ∧ jW p w = true := fun w => by
  rw [hmem 0 w (by omega)]
  simp [jP]
 have m1 : ∀ w, w ∈ fA 1 s l d ws p ↔ w ∈ ws ∧ jW p w = true ∧ hasB d w s = true := fun w => by
  rw [hmem 1 w (by omega)]
  simp [jP, show Int.tmod 1 2 = 1 by decide]
 have m2 : ∀ w, w ∈ fA 2 s l d ws p ↔ w ∈ ws ∧ jW p w = true ∧ gU l w = true := fun w => by
  rw [hmem 2 w (by omega)]
  simp [jP, show Int.tmod 2 2 = 0 by decide]
 have m3 : ∀ w, w ∈ fA 3 s l d ws p ↔ w ∈ ws ∧ jW p w = true ∧ hasB d w s = true ∧ gU l w = true := fun w => by
  rw [hmem 3 w (by omega)]
  simp [jP, show Int.tmod 3 2 = 1 by decide]
 have hneed : tL s l d ws p = if ((fA 3 s l d ws p).length : Int) = 1 then (if ((fA 1 s l d ws p).length : Int) > 1 then decide (((fA 2 s l d ws p).length : Int) > 1) else false) else false := rfl
 have g0 := g 0
 have g1 := g 1
 have g2 := g 2
 have g3 := g 3
 have l0 := hgl 0
 have l1 := hgl 1
 have l2 := hgl 2
 have l3 := hgl 3
 clear g hgl hmem
 rw [hneed] at hnb
 clear hneed
 generalize fA 0 s l d ws p = A at *
 generalize fA 1 s l d ws p = B at *
 generalize fA 2 s l d ws p = C at *
 generalize fA 3 s l d ws p = D at *
 have w1 := lN D B (by omega) (by omega)
 have w2 := lN D C (by omega) (by omega)
 have w3 := lN B A (by omega) (by omega)
 have w4 := lN C A (by omega) (by omega)
 have t1 : (D.all fun x => jU B x) = true := List.all_eq_true.mpr fun w hw => jN.mpr ((m1 w).mpr (by have := (m3 w).mp hw; exact ⟨this.1, this.2.1, this.2.2.1⟩))
 have t2 : (D.all fun x => jU C x) = true := List.all_eq_true.mpr fun w hw => jN.mpr ((m2 w).mpr (by have := (m3 w).mp hw; exact ⟨this.1, this.2.1, this.2.2.2⟩))
 have t3 : (B.all fun x => jU A x) = true := List.all_eq_true.mpr fun w hw => jN.mpr ((m0 w).mpr (by have := (m1 w).mp hw; exact ⟨this.1, this.2.1⟩))
 have t4 : (C.all fun x => jU A x) = true := List.all_eq_true.mpr fun w hw => jN.mpr ((m0 w).mpr (by have := (m2 w).mp hw; exact ⟨this.1, this.2.1⟩))
 rw [t1] at w1
 rw [t2] at w2
 rw [t3] at w3
 rw [t4] at w4
 have hloop : Ev (fun k => bf.l0 k b d ws p A B C D 0 s l) true := by
  refine kH (fun k i => bf.l0 k b d ws p A B C D i s l) A.length (fun _ => true) ?_ (fun i hi => .inr ⟨rfl, fun r hr => ?_⟩) 0 (Nat.zero_le _)
  ·rw [← aT]
   simp only [bf.l0]
   rw [evN (by omega), aU hnb]
   by_cases c1 : (D.length : Int) = 1
   ·by_cases c2 : (B.length : Int) > 1
    ·rw [if_pos c1, if_pos c2]
     by_cases c3 : (C.length : Int) > 1
     ·rw [decide_eq_true c3, evP rfl, evP c1, evN (by omega), decide_eq_false (by omega)]
      exact hj2
     ·rw [decide_eq_false c3, evN (by decide)]
      exact hj2
    ·rw [if_pos c1, if_neg c2, evN (by decide)]
     exact hj2
   ·rw [if_neg c1, evN (by decide)]
    exact hj2
  ·have hw := (m0 A[i]).mp (List.getElem_mem _)
   have k3 : jU D A[i] = (hasB d A[i] s && gU l A[i]) := by
    rw [Bool.eq_iff_iff, jN, m3, Bool.and_eq_true]
    exact ⟨fun h => h.2.2, fun h => ⟨hw.1, hw.2, h⟩⟩
   have k1 : jU B A[i] = hasB d A[i] s := by
    rw [Bool.eq_iff_iff, jN, m1]
    exact ⟨fun h => h.2.2, fun h => ⟨hw.1, hw.2, h⟩⟩
   have k2 : jU C A[i] = gU l A[i] := by
    rw [Bool.eq_iff_iff, jN, m2]
    exact ⟨fun h => h.2.2, fun h => ⟨hw.1, hw.2, h⟩⟩
   have f1 := ko p A[i]
   have f2 := jh D A[i] (by omega)
   have f3 := jh B A[i] (by omega)
   have f4 := jh C A[i] (by omega)
   have f5 := lW s l (by omega)
   have f6 := oH s l d A[i] (by omega) (by omega)
   have f7 : nP s l = true → uW s l d A[i] = (hasB d A[i] s && gU l A[i]) := fun h => by
    unfold uW
    rw [if_pos h]
    cases hasB d A[i] s <;> simp
   rw [k3] at f2
   rw [k1] at f3
   rw [k2] at f4
   rw [hw.2] at f1
   rw [← aT]
   simp only [bf.l0, ji ByteArray.empty A i hi, dZ (i := i) (by omega)]
   rw [evP (by omega), evP (by omega), aU f1, evP rfl, aU f2, aU f3]
   generalize hasB d A[i] s = x at *
   generalize gU l A[i] = y at *
   by_cases hc : nP s l = true
   ·have f8 := f7 hc
    rw [f8] at f6
    rw [hc] at f5
    cases x with
    | true => rw [evP rfl, aU f4, evN (by simp), aU f5, evP rfl, aU f2, aU f6, evN (by simp)]; exact hr
    | false => rw [evN (by decide), evN (by simp), aU f5, evP rfl, aU f2, aU f6, evN (by simp)]; exact hr
   ·replace hc := Bool.eq_false_iff.mpr hc
    rw [hc] at f5
    cases x with
    | true => rw [evP rfl, aU f4, evN (by simp), aU f5, evN (by decide)]; exact hr
    | false => rw [evN (by decide), evN (by simp), aU f5, evN (by decide)]; exact hr
 have hj0 : Ev (fun k => bf.j0 k b d ws p A B C D false s l) true := by
  rw [← aT]
  simp only [bf.j0]
  rw [evN (by decide)]
  exact hloop
 simp only [aU e, aU g0, aU g', aU g1, aU g2, aU g3, aU w1, aU w2, aU w3, aU w4, aU hg1, if_true, bne_self_eq_false]
 exact hj0
end Go.Proofs.YthjcicmmbmagbaaGreat.Pure
