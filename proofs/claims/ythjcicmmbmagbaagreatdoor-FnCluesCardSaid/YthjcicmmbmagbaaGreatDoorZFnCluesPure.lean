/- A clue is fair exactly if its answer, and no other word, has its sense and its wordplay, and is not shown, for every code; no further condition. -/
import Derived.Test.YthjcicmmbmagbaaGreatDoorZFnCluesQ
import Derived.Test.YthjcicmmbmagbaaGreatDoorZFnCluesEv
namespace Go.Proofs.YthjcicmmbmagbaaGreatDoor.Pure
open Go.RowKit Go.Proofs.YthjcicmmbmagbaaGreatDoor.PFnClues Go.Proofs.YthjcicmmbmagbaaGreatDoorW.PrintWords Go.Proofs.YthjcicmmbmagbaaGreatDoorW.PrintLast Go.Proofs.YthjcicmmbmagbaaGreatDoorW.PrintMore Go.Proofs.YthjcicmmbmagbaaGreatDoor.Sem
set_option linter.unusedVariables false
set_option linter.unusedSimpArgs false
theorem kK (xs : List S61) (i : Nat) (h : i < xs.length) : bH xs (i : Int) = xs[i] := by
 simp [bH, List.getD_eq_getElem?_getD, List.getElem?_eq_getElem h]
theorem mh (xs : List S54) (i : Nat) (h : i < xs.length) : ak xs (i : Int) = xs[i] := by
 simp [ak, List.getD_eq_getElem?_getD, List.getElem?_eq_getElem h]
theorem sU (a b c : Int) : gN.f a b c = some (decide (b ≤ a ∧ a ≤ c)) := by
 unfold gN.f
 by_cases h : b ≤ a <;> simp [h]
theorem kH (a b c : Int) : eO.f a b c = some (decide (b ≤ a ∧ a ≤ c)) := by
 unfold eO.f
 by_cases h : b ≤ a <;> simp [h]
theorem at_eq (a b : Int) : iO.f a b = some (decide (0 ≤ a ∧ a < b)) := by
 unfold iO.f
 by_cases h : 0 ≤ a <;> simp [h]
theorem nH (a : Int) : gX.f a = some (decide (97 ≤ a ∧ a ≤ 122)) := by
 unfold gX.f
 by_cases h : 97 ≤ a <;> simp [h]
def kL (c : Int) : Bool := decide (97 ≤ c ∧ c ≤ 122)
def fM (s : ByteArray) : Bool := decide (1 ≤ s.size ∧ s.size ≤ 8) && (bytesOf s).all kL
theorem gP {s : ByteArray} (h : fM s = true) : 1 ≤ s.size ∧ s.size ≤ 8 := by
 simp [fM] at h
 exact h.1
theorem oN (s : ByteArray) : Ev (fun k => dF.f k s) (fM s) := by
 simp only [dF.f, sU, Option.bind_some, bD, decide_eq_true_eq, fM]
 by_cases h : (1 : Int) ≤ s.size ∧ (s.size : Int) ≤ 8
 ·rw [if_pos h]
  have h' : 1 ≤ s.size ∧ s.size ≤ 8 := by omega
  simp only [h', decide_true, Bool.true_and, and_self]
  refine qQ (fun k i => dF.l0 k s i) (bytesOf s) kL ?_ (fun i hi hp r hr => ?_) (fun i hi hp => ?_)
  ·rw [← aU]; simp [dF.l0, bytesOf_length, bq]
  ·have hi' : i < s.size := by rw [bytesOf_length] at hi; exact hi
   rw [← aU]
   simp [kL] at hp
   simp only [dF.l0, qp s i hi', fF (i := i) (by omega)]
   rw [ep, ep, en, en]
   exact hr
  ·have hi' : i < s.size := by rw [bytesOf_length] at hi; exact hi
   rw [← aU]
   simp [kL] at hp
   simp only [dF.l0, qp s i hi', fF (i := i) (by omega)]
   rw [ep, ep, bD]
   by_cases h1 : (bytesOf s)[i] < 97
   ·rw [if_pos h1]; exact bq _
   ·rw [if_neg h1, ep]; exact bq _
 ·rw [if_neg h]
  have h' : ¬ (1 ≤ s.size ∧ s.size ≤ 8) := by omega
  simp [h', bq]
theorem fq (s : ByteArray) : Ev (fun k => bX.f k s) (fM s) := by
 simp only [bX.f, kH, Option.bind_some, bD, decide_eq_true_eq, fM]
 by_cases h : (1 : Int) ≤ s.size ∧ (s.size : Int) ≤ 8
 ·rw [if_pos h]
  have h' : 1 ≤ s.size ∧ s.size ≤ 8 := by omega
  simp only [h', decide_true, Bool.true_and, and_self]
  refine qQ (fun k i => bX.l0 k s (s.size : Int) i) (bytesOf s) kL ?_ (fun i hi hp r hr => ?_) (fun i hi hp => ?_)
  ·rw [← aU]; simp [bX.l0, bytesOf_length, bq]
  ·have hi' : i < s.size := by rw [bytesOf_length] at hi; exact hi
   rw [← aU]
   simp [kL] at hp
   simp only [bX.l0, qp s i hi', fF (i := i) (by omega), nH, Option.bind_some]
   rw [ep, ep, ep, ep (by simpa using hp)]
   exact hr
  ·have hi' : i < s.size := by rw [bytesOf_length] at hi; exact hi
   rw [← aU]
   simp only [kL] at hp
   simp only [bX.l0, qp s i hi', fF (i := i) (by omega), nH, Option.bind_some]
   rw [ep, ep, ep, en (by rw [hp]; decide)]
   exact bq _
 ·rw [if_neg h]
  have h' : ¬ (1 ≤ s.size ∧ s.size ≤ 8) := by omega
  simp [h', bq]
def mdP (a : Int) : Int := Int.tmod (wrap64 ((Int.tmod a 2147483647) + 2147483647)) 2147483647
def hstep (d v : Int) : Int := Int.tmod (wrap64 ((wrap64 ((wrap64 (d * 1000003)) + mdP v)) + 13)) 2147483647
def uG (w : ByteArray) (s : Int) (x : S61) : Bool := decide (x.f0 = w ∧ x.f1 = s)
def hasB (l : List S61) (w : ByteArray) (s : Int) : Bool := l.any (uG w s)
theorem ni (l : List S61) (w : ByteArray) (s : Int) (hl : l.length < 4611686018427387904) : Ev (fun k => cu.f k l w s) (hasB l w s) := by
 refine wD (fun k i => cu.l0 k l w s i) l _ ?_ (fun i hi hp r hr => ?_) (fun i hi hp => ?_)
 ·rw [← aU]; simp [cu.l0, bq]
 ·rw [← aU]
  simp only [cu.l0, kK l i hi, fF (i := i) (by omega), toList_eq]
  simp [uG] at hp
  simp [bD, hi]
  split
  ·rw [if_neg (hp ‹_›)]; exact hr
  ·exact hr
 ·rw [← aU]
  simp only [cu.l0, kK l i hi, fF (i := i) (by omega), toList_eq]
  simp [uG] at hp
  simp [bD, hi, hp, bq]
theorem uz (l : List S61) (w : ByteArray) (s : Int) (hl : l.length < 4611686018427387904) : Ev (fun k => dw.f k l w s) (match l.findIdx? (uG w s) with | some i => (i : Int) | none => -1) := by
 refine qg (fun k i => dw.l0 k l (l.length : Int) i w s) l _ ?_ (fun i hi hp r hr => ?_) (fun i hi hp => ?_)
 ·rw [← aU]; simp [dw.l0, bq]
 ·rw [← aU]
  simp only [dw.l0, kK l i hi, fF (i := i) (by omega), iY]
  simp [uG] at hp
  simp [bD, hi]
  rw [if_neg (by intro h; exact hp h.1.symm h.2.symm)]
  exact hr
 ·rw [← aU]
  simp only [dw.l0, kK l i hi, fF (i := i) (by omega), iY]
  simp [uG] at hp
  simp [bD, hi, hp, bq]
theorem wJ {α : Type} (l : List α) (p : α → Bool) : decide ((match l.findIdx? p with | some i => (i : Int) | none => -1) ≥ 0) = l.any p := by
 cases h : l.findIdx? p with
 | none =>
  have := List.findIdx?_eq_none_iff.1 h
  simp
  intro x hx
  simpa using this x hx
 | some i =>
  obtain ⟨h1, h2, _⟩ := List.findIdx?_eq_some_iff_getElem.1 h
  simp
  exact ⟨l[i], List.getElem_mem h1, h2⟩
theorem qG (l : List S61) (w : ByteArray) (s : Int) (hl : l.length < 4611686018427387904) : Ev (fun k => fV.f k l w s) (hasB l w s) := by
 unfold fV.f
 rw [aQ (uz l w s hl), wJ]
 exact bq _
theorem jh (l : List S61) (w : ByteArray) (s : Int) (hl : l.length < 4611686018427387904) : Ev (fun k => eZ.f k l w s) (hasB l w s) := by
 unfold eZ.f
 rw [aQ (qG l w s hl)]
 exact bq _
def lQ (w : ByteArray) (x : S61) : List Int := if x.f0 = w then [x.f1] else []
theorem oU {α β : Type} (f : α → List β) (h : ∀ x, (f x).length ≤ 1) (l : List α) : (l.flatMap f).length ≤ l.length := by
 induction l with
 | nil => simp
 | cons x l ih => have := h x; simp only [List.flatMap_cons, List.length_append, List.length_cons]; omega
theorem qd (w : ByteArray) (x : S61) : (lQ w x).length ≤ 1 := by unfold lQ; split <;> simp
theorem mV (l : List S61) (w : ByteArray) (hl : l.length ≤ 17592186044416) : Ev (fun k => dx.f k l w) (l.flatMap (lQ w)) := by
 refine kP (fun k x i => dx.l0 k l w x i) l (lQ w) 0 (fun x => ?_) (fun i hi x hx r hr => ?_)
 ·rw [← aU]; simp [dx.l0, bq]
 ·have hx' := oU _ (qd w) (l.take i)
  rw [List.length_take] at hx'
  rw [← aU]
  simp only [dx.l0, kK l i hi, fF (i := i) (by omega), toList_eq]
  rw [ep, ep, bD]
  unfold lQ at hr
  split
  ·rw [if_pos ‹_›] at hr
   rw [ep]
   exact hr
  ·rw [if_neg ‹_›, List.append_nil] at hr
   exact hr
def bwB (a b : ByteArray) : Bool := if (a.size : Int) = b.size then _root_.Go.Op.bytesLess a.toList b.toList else decide ((a.size : Int) < b.size)
theorem mD (a b : ByteArray) : fT.f a b = some (bwB a b) := by
 unfold fT.f bwB
 split <;> rfl
theorem ko : ∀ l : List UInt8, _root_.Go.Op.bytesLess l l = false
 | [] => rfl
 | a :: l => by simp [_root_.Go.Op.bytesLess, ko l]
theorem rV (a : ByteArray) : bwB a a = false := by simp [bwB, ko]
def bmB (a : ByteArray) (m : Int) (b : ByteArray) (n : Int) : Bool := if a = b then decide (m < n) else bwB a b
theorem kM (a : ByteArray) (m : Int) (b : ByteArray) (n : Int) : dZ.f a m b n = some (bmB a m b n) := by
 simp only [dZ.f, mD, Option.bind_some, toList_eq, bmB]
 by_cases h : a = b
 ·subst h
  simp [rV]
 ·simp [h]
  cases bwB a b <;> rfl
def okM (l : List S61) (i : Nat) : Bool := if h : i < l.length then fM l[i].f0 && (decide (1 ≤ l[i].f1 ∧ l[i].f1 ≤ 99) && (decide (i = 0) || bmB (l[i - 1]'(by omega)).f0 (l[i - 1]'(by omega)).f1 l[i].f0 l[i].f1)) else false
def nU (l : List S61) : Bool := decide (l.length ≤ 40) && (List.range l.length).all (okM l)
theorem Ai {i : Nat} (h : i < 4611686018427387904) : wrap64 ((i + 1 : Nat) - 1 : Int) = (i : Int) := by unfold wrap64; omega
theorem kU (l : List S61) (hl : l.length < 4611686018427387904) : Ev (fun k => aV.f k l) (nU l) := by
 unfold aV.f
 have := jV (fun k i => aV.l0 k l i) l.length (fun i => decide (l.length ≤ 40) && ((List.range l.length).drop i).all (okM l)) ?_ (fun i hi => ?_) 0 (Nat.zero_le _)
 ·simpa [nU] using this
 ·rw [← aU]
  simp only [aV.l0]
  rw [en, iH, List.drop_eq_nil_of_le (by simp)]
  simp
  omega
 ·have hd : (List.range l.length).drop i = i :: (List.range l.length).drop (i + 1) := by rw [List.drop_eq_getElem_cons (by simpa using hi)]; simp
  have hu : ∀ r, Ev (fun k => aV.l0 k l (i : Int)) r ↔ if okM l i = true then Ev (fun k => aV.l0 k l ((i + 1 : Nat) : Int)) r else Ev (fun _ => some false) r := by
   intro r
   rw [← aU]
   simp only [aV.l0, kK l i hi, fF (i := i) (by omega), sU, Option.bind_some]
   rw [ep, ep, aQ (oN _), bD, bD, bD]
   simp only [okM, hi, dif_pos, Bool.and_eq_true, Bool.or_eq_true]
   by_cases h1 : fM l[i].f0 = true
   ·simp only [h1, if_true, true_and]
    by_cases h2 : 1 ≤ l[i].f1 ∧ l[i].f1 ≤ 99
    ·simp only [h2, and_self, decide_true, if_true, true_and]
     cases i with
     | zero => simp
     | succ j =>
      rw [if_pos (by omega), Ai (by omega), kK l j (by omega), ep, ep, kM]
      simp only [Option.bind_some, bD]
      simp
    ·simp [h2]
   ·simp [h1]
  rw [hd, List.all_cons]
  by_cases ho : okM l i = true
  ·refine .inr ⟨by simp [ho], fun r hr => ?_⟩
   rw [hu, if_pos ho]
   exact hr
  ·refine .inl ?_
   rw [hu, if_neg ho, iH]
   simp [ho]
def uM (l : List S54) (i : Nat) (two : Bool) (kind A B : Int) : Bool :=
 if kind = 1 then decide (A = 0 ∧ B = 0) else decide (0 ≤ A ∧ A < i) && (if two = true then decide (0 ≤ B ∧ B < i) else decide (B = 0) && (decide (kind = 2) || decide ((ak l A).f0 = 1)))
def kV (l : List S54) (i : Nat) : Bool :=
 decide (1 ≤ (ak l i).f0 ∧ (ak l i).f0 ≤ 9) && ((if (ak l i).f0 = 1 then fM (ak l i).f1 else decide ((ak l i).f1.size = 0)) && uM l i (decide ((ak l i).f0 = 4 ∨ (ak l i).f0 = 5)) (ak l i).f0 (ak l i).f2 (ak l i).f3)
def iG (l : List S54) : Bool := decide (1 ≤ l.length ∧ l.length ≤ 9) && (List.range l.length).all (kV l)
theorem lg {l : List S54} (h : iG l = true) : 1 ≤ l.length ∧ l.length ≤ 9 := by
 simp [iG] at h
 exact h.1
theorem jD {l : List S54} (h : iG l = true) (i : Nat) (hi : i < l.length) : kV l i = true := by
 simp [iG] at h
 exact h.2 i hi
theorem qj (a : Int) : eU.f a = some (decide (a = 4 ∨ a = 5)) := by
 unfold eU.f
 by_cases h : a = 4
 ·simp [h]
 ·simp [h]; rfl
theorem qE (a : Int) : gH.f a = some (decide (a = 3 ∨ a ≥ 6)) := by
 unfold gH.f
 by_cases h : a = 3 <;> simp [h]
theorem pE (l : List S54) (i : Nat) (hi : i < l.length) (hl : l.length < 4611686018427387904) (b : Bool) (kind : Int) (word : ByteArray) (A B : Int) (r : Bool) :
  Ev (fun k => bT.j1 k l (i : Int) l (l.length : Int) (i : Int) b kind word A B) r ↔ if (!b && (if kind = 4 ∨ kind = 5 then decide (0 ≤ B ∧ B < i) else decide (B = 0))) = true then Ev (fun k => bT.l0 k l l (l.length : Int) ((i + 1 : Nat) : Int)) r else Ev (fun _ => some false) r := by
 rw [← aU]
 simp only [bT.j1, qj, at_eq, Option.bind_some, fF (i := i) (by omega), bD, decide_eq_true_eq]
 cases b
 ·by_cases h : kind = 4 ∨ kind = 5
  ·by_cases h2 : 0 ≤ B ∧ B < (i : Int) <;> simp [h, h2]
  ·by_cases h2 : B = 0 <;> simp [h, h2]
 ·simp
theorem nK (l : List S54) (i : Nat) : kV l i = (decide (1 ≤ (ak l i).f0 ∧ (ak l i).f0 ≤ 9) && (if (ak l i).f0 = 1 then fM (ak l i).f1 && decide ((ak l i).f2 = 0 ∧ (ak l i).f3 = 0)
  else decide ((ak l i).f1.size = 0) && (decide (0 ≤ (ak l i).f2 ∧ (ak l i).f2 < i) && (!(decide ((ak l i).f0 = 3 ∨ (ak l i).f0 ≥ 6) && decide (¬ (ak l (ak l i).f2).f0 = 1)) && (if (ak l i).f0 = 4 ∨ (ak l i).f0 = 5 then decide (0 ≤ (ak l i).f3 ∧ (ak l i).f3 < i) else decide ((ak l i).f3 = 0)))))) := by
 unfold kV uM
 generalize ak l (i : Int) = s
 generalize (ak l s.f2).f0 = a
 by_cases h1 : 1 ≤ s.f0 ∧ s.f0 ≤ 9
 ·by_cases h2 : s.f0 = 1
  ·simp [h2]
  ·simp only [h1, h2, and_self, decide_true, Bool.true_and, if_false]
   by_cases h3 : s.f0 = 4 ∨ s.f0 = 5
   ·have h4 : ¬ (s.f0 = 3 ∨ s.f0 ≥ 6) := by omega
    simp [h3, h4]
   ·simp only [h3, decide_false, Bool.false_eq_true, if_false]
    by_cases h4 : s.f0 = 2
    ·have h5 : ¬ (s.f0 = 3 ∨ s.f0 ≥ 6) := by omega
     simp [h4]
    ·have h5 : s.f0 = 3 ∨ s.f0 ≥ 6 := by omega
     by_cases h6 : a = 1 <;> simp [h4, h5, h6]
 ·simp [h1]
theorem jI (l : List S54) (hl : l.length < 4611686018427387904) : Ev (fun k => bT.f k l) (iG l) := by
 unfold bT.f
 simp only [kH, Option.bind_some, decide_eq_true_eq]
 unfold iG
 rw [bD]
 by_cases hlen : 1 ≤ l.length ∧ l.length ≤ 9
 ·rw [if_pos (by omega)]
  simp only [hlen, and_self, decide_true, Bool.true_and]
  have := jV (fun k i => bT.l0 k l l (l.length : Int) i) l.length (fun i => ((List.range l.length).drop i).all (kV l)) ?_ (fun i hi => ?_) 0 (Nat.zero_le _)
  ·simpa using this
  ·rw [← aU]
   simp only [bT.l0]
   rw [en, iH, List.drop_eq_nil_of_le (by simp)]
   simp
  ·have hd : (List.range l.length).drop i = i :: (List.range l.length).drop (i + 1) := by rw [List.drop_eq_getElem_cons (by simpa using hi)]; simp
   have hu : ∀ r, Ev (fun k => bT.l0 k l l (l.length : Int) (i : Int)) r ↔ if kV l i = true then Ev (fun k => bT.l0 k l l (l.length : Int) ((i + 1 : Nat) : Int)) r else Ev (fun _ => some false) r := by
    intro r
    rw [← aU]
    simp only [bT.l0, fF (i := i) (by omega), kH, qE, at_eq, Option.bind_some, nK]
    generalize ak l (i : Int) = s
    simp only [bD, decide_eq_true_eq, aQ (fq s.f1), pE l i hi hl, toList_nil]
    rw [if_pos (by omega), if_pos (by omega), if_pos (by omega)]
    by_cases h1 : 1 ≤ s.f0 ∧ s.f0 ≤ 9
    ·by_cases h2 : s.f0 = 1
     ·simp only [h2]
      cases hw : fM s.f1
      ·simp
      ·by_cases h3 : s.f2 = 0
       ·by_cases h4 : s.f3 = 0 <;> simp [h3, h4]
       ·simp [h3]
     ·simp only [h1, h2, and_self, decide_true, Bool.true_and, if_true, if_false]
      by_cases h3 : s.f1.size = 0
      ·by_cases h4 : 0 ≤ s.f2 ∧ s.f2 < (i : Int)
       ·have h4' : s.f2 < (l.length : Int) := by omega
        by_cases h5 : s.f0 = 3 ∨ s.f0 ≥ 6
        ·simp only [h3, h4, h4', h5, and_self, decide_true, if_true, Bool.true_and]
         cases hb : ((ak l s.f2).f0 != 1)
         ·have hb' : (ak l s.f2).f0 = 1 := by simpa using hb
          simp [hb']
         ·have hb' : ¬ (ak l s.f2).f0 = 1 := by simpa using hb
          simp [hb']
        ·simp [h3, h4, h5]
       ·simp [h3, h4]
      ·simp [h3]
    ·simp [h1]
   rw [hd, List.all_cons]
   by_cases ho : kV l i = true
   ·refine .inr ⟨by simp [ho], fun r hr => ?_⟩
    rw [hu, if_pos ho]
    exact hr
   ·refine .inl ?_
    rw [hu, if_neg ho, iH]
    simp [ho]
 ·rw [if_neg (by omega)]
  simp [hlen, iH]
def ji (a : Int) (l : List S54) : Bool := decide (1 ≤ a ∧ a ≤ 99) && iG l
theorem iJ (a : Int) (l : List S54) (hl : l.length < 4611686018427387904) : Ev (fun k => eF.f k a l) (ji a l) := by
 unfold eF.f ji
 simp only [kH, Option.bind_some, bD, aQ (jI l hl), decide_eq_true_eq]
 by_cases h : 1 ≤ a ∧ a ≤ 99 <;> simp [h, iH]
def build {β : Type} (f : List β → S54 → β) : List β → List S54 → List β
 | acc, [] => acc
 | acc, s :: l => build f (acc ++ [f acc s]) l
def built {β : Type} (f : List β → S54 → β) (l : List S54) : List β := build f [] l
theorem kJ {β : Type} (f : List β → S54 → β) : ∀ (l m : List S54) (acc : List β), build f acc (l ++ m) = build f (build f acc l) m
 | [], m, acc => rfl
 | s :: l, m, acc => by simp only [List.cons_append, build]; exact kJ f l m _
theorem mP {β : Type} (f : List β → S54 → β) : ∀ (l : List S54) (acc : List β), (build f acc l).length = acc.length + l.length
 | [], acc => by simp [build]
 | s :: l, acc => by simp only [build]; rw [mP f l]; simp; omega
theorem kD {β : Type} (f : List β → S54 → β) (l : List S54) : (built f l).length = l.length := by
 unfold built; rw [mP]; simp
theorem oW {β : Type} (f : List β → S54 → β) : ∀ (l : List S54) (acc : List β) (j : Nat), j < acc.length → (build f acc l)[j]? = acc[j]?
 | [], acc, j, h => rfl
 | s :: l, acc, j, h => by
  simp only [build]
  rw [oW f l _ j (by simp; omega), List.getElem?_append_left h]
theorem rO {β : Type} (f : List β → S54 → β) (l : List S54) (i : Nat) (h : i < l.length) : built f (l.take (i + 1)) = built f (l.take i) ++ [f (built f (l.take i)) l[i]] := by
 rw [List.take_succ_eq_append_getElem h]
 unfold built
 rw [kJ]
 rfl
theorem ou {β : Type} (f : List β → S54 → β) (l : List S54) (i j : Nat) (hj : j < i) (hi : i ≤ l.length) : (built f (l.take i))[j]? = (built f l)[j]? := by
 have e : built f l = build f (built f (l.take i)) (l.drop i) := by
  unfold built
  rw [← kJ, List.take_append_drop]
 rw [e, oW f _ _ _ (by rw [kD, List.length_take]; omega)]
theorem uy {β : Type} (f : List β → S54 → β) (l : List S54) (i : Nat) (h : i < l.length) : (built f l)[i]? = some (f (built f (l.take i)) l[i]) := by
 rw [← ou f l (i + 1) i (by omega) (by omega), rO f l i h, List.getElem?_append_right (by rw [kD, List.length_take]; omega)]
 rw [kD, List.length_take, Nat.min_eq_left (by omega), Nat.sub_self]
 rfl
theorem jB {l : List S54} {i : Nat} (hi : i < l.length) (h : kV l i = true) : (1 ≤ l[i].f0 ∧ l[i].f0 ≤ 9) ∧ (l[i].f0 = 1 → fM l[i].f1 = true) ∧ (¬ l[i].f0 = 1 → 0 ≤ l[i].f2 ∧ l[i].f2 < i) ∧ (l[i].f0 = 4 ∨ l[i].f0 = 5 → 0 ≤ l[i].f3 ∧ l[i].f3 < i) ∧ (¬ l[i].f0 = 1 → ¬ (l[i].f0 = 4 ∨ l[i].f0 = 5) → l[i].f3 = 0) ∧
  (l[i].f0 = 3 ∨ l[i].f0 ≥ 6 → (ak l l[i].f2).f0 = 1) ∧ (¬ l[i].f0 = 1 → l[i].f1.size = 0) ∧ (l[i].f0 = 1 → l[i].f2 = 0 ∧ l[i].f3 = 0) := by
 rw [nK, mh l i hi] at h
 simp only [Bool.and_eq_true, decide_eq_true_eq] at h
 obtain ⟨h1, h2⟩ := h
 refine ⟨h1, fun e => ?_, fun e => ?_, fun e => ?_, fun e e' => ?_, fun e => ?_, fun e => ?_, fun e => ?_⟩
 ·rw [if_pos e] at h2; simp at h2; exact h2.1
 ·rw [if_neg e] at h2; simp at h2; exact h2.2.1
 ·have e' : ¬ l[i].f0 = 1 := by omega
  rw [if_neg e', if_pos e] at h2; simp at h2; exact h2.2.2.2
 ·rw [if_neg e, if_neg e'] at h2; simp at h2; exact h2.2.2.2
 ·have e' : ¬ l[i].f0 = 1 := by omega
  rw [if_neg e'] at h2; simp at h2
  have h3 := h2.2.2.1
  rcases h3 with h3 | h3
  ·omega
  ·exact h3
 ·rw [if_neg e] at h2; simp at h2; rw [h2.1]; rfl
 ·rw [if_pos e] at h2; simp at h2; exact h2.2
def rJ (k : Int) : ByteArray := (⟨#[63, 63, 98, 109, 106, 105, 104, 110, 116, 100]⟩ : ByteArray).extract k.toNat (wrap64 (k + 1)).toNat
theorem qc {k : Int} (h : 2 ≤ k ∧ k ≤ 9) : (rJ k).size = 1 := by
 obtain rfl | rfl | rfl | rfl | rfl | rfl | rfl | rfl : k = 2 ∨ k = 3 ∨ k = 4 ∨ k = 5 ∨ k = 6 ∨ k = 7 ∨ k = 8 ∨ k = 9 := by omega
 all_goals decide +kernel
def rdB (acc : List ByteArray) (i : Int) : ByteArray := acc.getD i.toNat ByteArray.empty
def pF (acc : List ByteArray) (s : S54) : ByteArray :=
 if s.f0 = 1 then s.f1 else if s.f0 = 4 ∨ s.f0 = 5 then (((rJ s.f0 ++ ⟨#[40]⟩) ++ rdB acc s.f2) ++ (⟨#[44]⟩ ++ rdB acc s.f3)) ++ ⟨#[41]⟩ else ((rJ s.f0 ++ ⟨#[40]⟩) ++ rdB acc s.f2) ++ ⟨#[41]⟩
theorem uw (acc : List ByteArray) (s : S54) : pF acc s = if s.f0 = 1 then s.f1 else if s.f0 = 4 ∨ s.f0 = 5 then (((rJ s.f0 ++ ⟨#[40]⟩) ++ rdB acc s.f2) ++ (⟨#[44]⟩ ++ rdB acc s.f3)) ++ ⟨#[41]⟩ else ((rJ s.f0 ++ ⟨#[40]⟩) ++ rdB acc s.f2) ++ ⟨#[41]⟩ := rfl
def kg (l : List S54) (i : Int) : ByteArray := rdB (built pF l) i
theorem jY (c : UInt8) : (⟨#[c]⟩ : ByteArray).size = 1 := rfl
theorem uQ (l : List S54) (i : Nat) (hi : i < l.length) : kg l (i : Int) = pF (built pF (l.take i)) l[i] := by
 unfold kg rdB
 rw [List.getD_eq_getElem?_getD, Int.toNat_natCast, uy pF l i hi]
 rfl
theorem pq (l : List S54) (i : Nat) (hi : i ≤ l.length) (a : Int) (h0 : 0 ≤ a) (h1 : a < i) : rdB (built pF (l.take i)) a = kg l a := by
 unfold kg rdB
 rw [List.getD_eq_getElem?_getD, List.getD_eq_getElem?_getD, ou pF l i a.toNat (by omega) hi]
theorem oF {l : List S54} (hp : iG l = true) (i : Nat) (hi : i < l.length) : kg l (i : Int) = if l[i].f0 = 1 then l[i].f1 else if l[i].f0 = 4 ∨ l[i].f0 = 5 then (((rJ l[i].f0 ++ ⟨#[40]⟩) ++ kg l l[i].f2) ++ (⟨#[44]⟩ ++ kg l l[i].f3)) ++ ⟨#[41]⟩ else ((rJ l[i].f0 ++ ⟨#[40]⟩) ++ kg l l[i].f2) ++ ⟨#[41]⟩ := by
 obtain ⟨p1, p2, p3, p4, _⟩ := jB hi (jD hp i hi)
 rw [uQ l i hi]
 rw [uw]
 by_cases h1 : l[i].f0 = 1
 ·simp [h1]
 ·have q3 := p3 h1
  rw [pq l i (by omega) _ q3.1 q3.2]
  by_cases h4 : l[i].f0 = 4 ∨ l[i].f0 = 5
  ·have q4 := p4 h4
   rw [pq l i (by omega) _ q4.1 q4.2]
  ·simp only [h1, h4, if_false]
theorem qX {l : List S54} (hp : iG l = true) : ∀ (n i : Nat), i < n → i < l.length → (kg l (i : Int)).size + 4 ≤ 2 ^ (i + 4) := by
 intro n
 induction n with
 | zero => intro i h; omega
 | succ n ih =>
  intro i hin hi
  obtain ⟨p1, p2, p3, p4, _⟩ := jB hi (jD hp i hi)
  have hpos : 2 ^ 4 ≤ 2 ^ (i + 4) := Nat.pow_le_pow_right (by omega) (by omega)
  rw [oF hp i hi]
  by_cases h1 : l[i].f0 = 1
  ·have := gP (p2 h1)
   rw [if_pos h1]
   omega
  ·have q3 := p3 h1
   obtain ⟨a, ha⟩ := Int.eq_ofNat_of_zero_le q3.1
   have ea := ih a (by omega) (by omega)
   have la : 2 ^ (a + 4) ≤ 2 ^ (i + 3) := Nat.pow_le_pow_right (by omega) (by omega)
   have l2 : 2 ^ (i + 4) = 2 * 2 ^ (i + 3) := by rw [Nat.pow_succ]; omega
   have hz := qc (k := l[i].f0) (by omega)
   rw [if_neg h1, ha]
   by_cases h4 : l[i].f0 = 4 ∨ l[i].f0 = 5
   ·have q4 := p4 h4
    obtain ⟨b, hb⟩ := Int.eq_ofNat_of_zero_le q4.1
    have eb := ih b (by omega) (by omega)
    have lb : 2 ^ (b + 4) ≤ 2 ^ (i + 3) := Nat.pow_le_pow_right (by omega) (by omega)
    rw [if_pos h4, hb]
    simp only [ByteArray.size_append, hz, jY]
    omega
   ·rw [if_neg h4]
    simp only [ByteArray.size_append, hz, jY]
    omega
theorem nM {l : List S54} (hp : iG l = true) (i : Nat) (hi : i < l.length) : (kg l (i : Int)).size ≤ 4096 := by
 have := qX hp (i + 1) i (by omega) hi
 have hlen := lg hp
 have : 2 ^ (i + 4) ≤ 2 ^ 12 := Nat.pow_le_pow_right (by omega) (by omega)
 omega
theorem ng {l : List S54} (hp : iG l = true) : ∀ (n i : Nat), i < n → (hi : i < l.length) → Ev (fun k => cZ.f k l (i : Int)) (kg l (i : Int)) := by
 intro n
 induction n with
 | zero => intro i h; omega
 | succ n ih =>
  intro i hin hi
  obtain ⟨p1, p2, p3, p4, _⟩ := jB hi (jD hp i hi)
  rw [oF hp i hi, ← aU]
  simp only [cZ.f, mh l i hi, qj, Option.bind_some, bD]
  rw [if_pos (by omega), if_pos (by omega)]
  by_cases h1 : l[i].f0 = 1
  ·simp [h1, iH]
  ·have q3 := p3 h1
   obtain ⟨a, ha⟩ := Int.eq_ofNat_of_zero_le q3.1
   have ea := ih a (by omega) (by omega)
   have sa := nM hp a (by omega)
   rw [← ha] at ea sa
   have hL : (⟨#[63, 63, 98, 109, 106, 105, 104, 110, 116, 100]⟩ : ByteArray).extract (l[i].f0).toNat (wrap64 (l[i].f0 + 1)).toNat = rJ l[i].f0 := rfl
   have hz := qc (k := l[i].f0) (by omega)
   have hw : wrap64 (l[i].f0 + 1) = l[i].f0 + 1 := tQ (by omega) (by omega)
   simp only [hL]
   rw [if_neg h1, if_neg h1, if_pos (by omega), if_pos (by omega), if_pos (by omega), if_pos (by omega), aQ ea, ep (by simp only [ByteArray.size_append, hz, jY]; omega), bD]
   by_cases h4 : l[i].f0 = 4 ∨ l[i].f0 = 5
   ·have q4 := p4 h4
    obtain ⟨b, hb⟩ := Int.eq_ofNat_of_zero_le q4.1
    have eb := ih b (by omega) (by omega)
    have sb := nM hp b (by omega)
    rw [← hb] at eb sb
    rw [if_pos h4, if_pos (by simpa using h4), aQ eb, ep, ep (by simp only [ByteArray.size_append, hz, jY]; omega), ep (by simp only [ByteArray.size_append, hz, jY]; omega)]
    exact bq _
   ·rw [if_neg h4, if_neg (by simpa using h4), ep (by simp only [ByteArray.size_append, hz, jY]; omega)]
    exact bq _
def jF (l : List S54) : ByteArray := if iG l = true then (if ((kg l ((l.length - 1 : Nat) : Int)).size : Int) > 80 then (⟨#[]⟩ : ByteArray) else kg l ((l.length - 1 : Nat) : Int)) else (⟨#[]⟩ : ByteArray)
theorem nC (l : List S54) (hl : l.length < 4611686018427387904) : Ev (fun k => ig.f k l) (jF l) := by
 unfold ig.f jF
 rw [aQ (jI l hl), bD]
 split
 ·rename_i hp
  have hlen := lg hp
  have e : wrap64 ((l.length : Int) - 1) = ((l.length - 1 : Nat) : Int) := by rw [tQ (by omega) (by omega)]; omega
  rw [e, aQ (ng hp l.length (l.length - 1) (by omega) (by omega)), bD]
  split
  ·exact bq _
  ·exact bq _
 ·exact bq _
theorem qV {α : Type} (q : α → Bool) (l : List α) : l.flatMap (fun s => if q s = true then [s] else []) = l.filter q := by
 induction l with
 | nil => rfl
 | cons x l ih => rw [List.flatMap_cons, ih, List.filter_cons]; split <;> simp
theorem uF {α β : Type} (f : α → List β) (h : ∀ x, (f x).length ≤ 1) (l : List α) : (l.flatMap f).length ≤ l.length := by
 induction l with
 | nil => simp
 | cons x l ih => have := h x; simp only [List.flatMap_cons, List.length_append, List.length_cons]; omega
theorem pQ (l : List ByteArray) (p : Nat → ByteArray → Option Bool) (q : ByteArray → Bool) (hl : l.length ≤ 8796093022208) (hp : ∀ s ∈ l, Ev (fun k => p k s) (q s)) : Ev (fun k => eu.f k l p) (l.filter q) := by
 rw [← qV]
 refine kP (fun k x i => eu.l0 k p x l (l.length : Int) i) l (fun s => if q s = true then [s] else []) 0 (fun x => ?_) (fun i hi x hx r hr => ?_)
 ·rw [← aU]; simp [eu.l0, bq]
 ·have hx' := uF (fun s => if q s = true then [s] else []) (fun x => by split <;> simp) (l.take i)
  rw [List.length_take] at hx'
  rw [← aU]
  simp only [eu.l0, jG ByteArray.empty l i hi, fF (i := i) (by omega)]
  rw [ep, ep, ep, aQ (hp _ (List.getElem_mem hi)), bD]
  split
  ·rename_i hq
   rw [if_pos hq] at hr
   rw [ep]
   exact hr
  ·rename_i hq
   rw [if_neg hq, List.append_nil] at hr
   exact hr
def vW (n : Int) : ByteArray := ⟨(Go.Lib.decDigits n.toNat).toArray⟩
theorem tZ (n : Nat) (h : n < 100) : (vW n).size ≤ 2 := by
 unfold vW
 rw [Int.toNat_natCast]
 by_cases h1 : n < 10
 ·rw [Go.Lib.decDigits_one h1]; show 1 ≤ 2; omega
 ·rw [Go.Lib.decDigits_two h1 h]; show 2 ≤ 2; omega
theorem mU (n : Nat) (h : n < 100) : gG.f (n : Int) = some (vW n) := by
 unfold gG.f strconv_Itoa.f vW
 rw [if_pos (by omega), if_pos (by omega)]
 rfl
def lS (a : Int) (l : List S54) : ByteArray := if ji a l = true then (if (jF l).toList = ([] : List UInt8) then (⟨#[]⟩ : ByteArray) else ((vW a ++ (⟨#[58]⟩ : ByteArray)) ++ jF l)) else (⟨#[]⟩ : ByteArray)
theorem pG {a : Int} {l : List S54} (h : ji a l = true) : 1 ≤ a ∧ a ≤ 99 := by
 unfold ji at h
 rw [Bool.and_eq_true] at h
 exact of_decide_eq_true h.1
theorem pz (l : List S54) : (jF l).size ≤ 80 := by
 unfold jF
 split
 ·split
  ·show 0 ≤ 80; omega
  ·omega
 ·show 0 ≤ 80; omega
theorem nE (a : Int) (l : List S54) (hl : l.length < 4611686018427387904) : Ev (fun k => gY.f k a l) (lS a l) := by
 unfold gY.f lS
 rw [aQ (nC l hl), aQ (iJ a l hl), bD]
 split
 ·rename_i h
  have hr := pG h
  rw [bD]
  split
  ·exact bq _
  ·obtain ⟨m, rfl⟩ : ∃ m : Nat, a = (m : Int) := ⟨a.toNat, by omega⟩
   have h1 := tZ m (by omega)
   have h2 := pz l
   rw [mU m (by omega), Option.bind_some, ep, ep (by rw [ByteArray.size_append]; have e1 : (⟨#[58]⟩ : ByteArray).size = 1 := rfl; omega)]
   exact bq _
 ·exact bq _
def uI (s : ByteArray) : ByteArray := if fM s = true then s.extract 0 1 else (⟨#[]⟩ : ByteArray)
theorem oH (s : ByteArray) : Ev (fun k => iA.f k s) (uI s) := by
 unfold iA.f uI
 rw [aQ (fq s), bD]
 split
 ·rename_i h
  have := gP h
  rw [ep, ep]
  exact bq _
 ·exact bq _
theorem Ae (a b : List Int) : strOfNums (a ++ b) = strOfNums a ++ strOfNums b := by
 refine ByteArray.ext (Array.toList_inj.1 ?_)
 rw [ByteArray.data_append, Array.toList_append, strOfNums_data, strOfNums_data, strOfNums_data, List.map_append]
theorem uR (s : ByteArray) (i : Nat) (h : i < s.size) : s.extract i (i + 1) = strOfNums [(bytesOf s)[i]'(by rw [bytesOf_length]; exact h)] := by
 have hd : i < s.data.toList.length := by rw [Array.length_toList]; exact h
 refine ByteArray.ext (Array.toList_inj.1 ?_)
 rw [strOfNums_data, ByteArray.data_extract, Array.toList_extract, List.extract_eq_drop_take', List.drop_take, List.drop_eq_getElem_cons hd]
 simp [bytesOf]
def rz (s : ByteArray) : ByteArray := strOfNums (bytesOf s).reverse
theorem ql (s : ByteArray) : (rz s).size = s.size := by rw [rz, strOfNums_size, List.length_reverse, bytesOf_length]
theorem mQ (s : ByteArray) (hs : s.size ≤ 100) : Ev (fun k => dA.f k s) (rz s) := by
 unfold dA.f
 refine nV (σ := ByteArray) (fun k a i => dA.l0 k s a i) s.size (fun i a => a = strOfNums ((bytesOf s).take i).reverse) (fun _ _ => rz s) (fun a ha => ?_) (fun i a hi ha => ?_) 0 _ (Nat.zero_le _) rfl
 ·rw [List.take_of_length_le (by rw [bytesOf_length]; exact Nat.le_refl _)] at ha
  rw [← aU]
  simp only [dA.l0, Int.lt_irrefl, if_false, ha]
  exact bq _
 ·have hb : i < (bytesOf s).length := by rw [bytesOf_length]; exact hi
  refine .inr ⟨strOfNums [(bytesOf s)[i]] ++ a, ?_, rfl, fun r hr => ?_⟩
  ·rw [List.take_succ_eq_append_getElem hb, List.reverse_append, Ae, ha]
   rfl
  ·have h1 : (strOfNums [(bytesOf s)[i]]).size = 1 := by rw [strOfNums_size]; rfl
   have h2 : a.size ≤ 100 := by rw [ha, strOfNums_size, List.length_reverse, List.length_take]; omega
   rw [← aU]
   simp only [dA.l0, fF (i := i) (by omega), Int.toNat_natCast, uR s i hi]
   rw [ep, ep, ep, ep, ep, ep]
   exact hr
theorem mF (s : ByteArray) (hs : s.size ≤ 100) : fH.f s = some (rz s) := by
 unfold fH.f rz
 rw [if_pos hs]
def tJ (s : ByteArray) : ByteArray := strOfNums ((bytesOf s).mergeSort (fun x y => decide (x ≤ y)))
theorem jv (s : ByteArray) (hw : fM s = true) : Ev (fun k => fC.f k s) (tJ s) := by
 have hsz := gP hw
 unfold fC.f tJ
 rw [aQ (fq s), hw, ep rfl, ep, Go.Proofs.YthjcicmmbmagbaaGreatDoor.HandSort.um]
 exact bq _
def sO (a b : ByteArray) : Bool := if fM a = true then (if fM b = true then (if a = b then false else decide (tJ a = tJ b)) else false) else false
theorem lG (a b : ByteArray) : Ev (fun k => eX.f k a b) (sO a b) := by
 unfold eX.f sO
 rw [aQ (fq a), bD]
 split
 ·rename_i h1
  rw [aQ (fq b), bD]
  split
  ·rename_i h2
   simp only [toList_eq, bD]
   split
   ·exact bq _
   ·rw [aQ (jv a h1), aQ (jv b h2), iY]
    exact bq _
  ·exact bq _
 ·exact bq _
def qo (s : ByteArray) : ByteArray := if fM s = true then s.extract 1 s.size else (⟨#[]⟩ : ByteArray)
theorem lU (s : ByteArray) : Ev (fun k => fA.f k s) (qo s) := by
 unfold fA.f qo
 rw [aQ (fq s), bD]
 split
 ·rename_i h
  have := gP h
  rw [ep]
  exact bq _
 ·exact bq _
def qL (s : ByteArray) : ByteArray := if fM s = true then s.extract 0 (s.size - 1) else (⟨#[]⟩ : ByteArray)
theorem lV (s : ByteArray) : Ev (fun k => fB.f k s) (qL s) := by
 unfold fB.f qL
 rw [aQ (fq s), bD]
 split
 ·rename_i h
  have := gP h
  have e : wrap64 ((s.size : Int) - 1) = ((s.size - 1 : Nat) : Int) := by rw [tQ (by omega) (by omega)]; omega
  rw [e, ep, ep]
  exact bq _
 ·exact bq _
theorem nY (L : Nat → Int → Option Bool) (n b : Nat) (f : Nat → Bool) (R : Bool) (hend : ∀ i : Nat, n ≤ i → i ≤ n + b → Ev (fun k => L k (i : Int)) R)
  (hstep : ∀ i : Nat, b ≤ i → i < n → ∀ r, Ev (fun k => L k ((i + 1 : Nat) : Int)) r → Ev (fun k => L k (i : Int)) (f i || r)) : ∀ a : Nat, b ≤ a → a ≤ n + b → Ev (fun k => L k (a : Int)) ((List.range' a (n - a)).any f || R) := by
 have key : ∀ d a : Nat, n - a = d → b ≤ a → a ≤ n + b → Ev (fun k => L k (a : Int)) ((List.range' a d).any f || R) := by
  intro d
  induction d with
  | zero =>
   intro a h hb ha
   exact oG (hend a (by omega) ha) (by simp)
  | succ d ih =>
   intro a h hb ha
   have := hstep a hb (by omega) _ (ih (a + 1) (by omega) (by omega) (by omega))
   rw [List.range'_succ, List.any_cons, Bool.or_assoc]
   exact this
 intro a hb ha
 exact key _ a rfl hb ha
def qJ (p w : ByteArray) : Bool := if fM p = true then (if fM w = true then (List.range' 1 (w.size - p.size - 1)).any (fun i => decide (w.extract i (i + p.size) = p)) else false) else false
theorem mY (p w : ByteArray) : Ev (fun k => cB.f k p w) (qJ p w) := by
 unfold cB.f qJ
 rw [aQ (fq p), bD]
 split
 ·rename_i h1
  rw [aQ (fq w), ← aU]
  simp only [cB.j0]
  rw [bD]
  by_cases h2 : fM w = true
  ·have s1 := gP h1
   have s2 := gP h2
   rw [if_neg (by rw [h2]; decide), if_pos h2]
   have e : ∀ i : Nat, i ≤ 20 → wrap64 ((i : Int) + (p.size : Int)) = ((i + p.size : Nat) : Int) := fun i hi => by rw [tQ (by omega) (by omega)]; omega
   refine oG (nY (fun k i => cB.l0 k p w i) (w.size - p.size) 1 _ false (fun i hi hi' => ?_) (fun i hb hi r hr => ?_) 1 (Nat.le_refl _) (by omega)) (by rw [Bool.or_false])
   ·rw [← aU]
    simp only [cB.l0, e i (by omega)]
    rw [en]
    exact bq _
   ·rw [← aU]
    simp only [cB.l0, e i (by omega), fF (i := i) (by omega), Int.toNat_natCast, toList_eq]
    rw [ep, ep, ep, ep, bD]
    split
    ·rename_i h3
     rw [decide_eq_true h3, Bool.true_or]
     exact bq _
    ·rename_i h3
     rw [decide_eq_false h3, Bool.false_or]
     exact hr
  ·rw [if_pos (by simpa using h2), if_neg h2]
   exact bq _
 ·rw [← aU]
  simp only [cB.j0, if_true]
  exact bq _
def kW (l : List S54) : Nat → Nat → ByteArray → Bool
 | 0, _, _ => false
 | n + 1, i, s =>
  if (ak l i).f0 = 1 then decide (s = (ak l i).f1)
  else if (ak l i).f0 = 2 then kW l n (ak l i).f2.toNat (rz s)
  else if (ak l i).f0 = 3 then sO (ak l (ak l i).f2).f1 s
  else if (ak l i).f0 = 4 then (List.range' 1 (s.size - 1)).any (fun p => kW l n (ak l i).f2.toNat (s.extract 0 p) && kW l n (ak l i).f3.toNat (s.extract p s.size))
  else if (ak l i).f0 = 5 then (List.range' 1 (s.size - 1)).any (fun p => (List.range' (p + 1) (s.size - (p + 1))).any (fun q => kW l n (ak l i).f3.toNat (s.extract p q) && kW l n (ak l i).f2.toNat (s.extract 0 p ++ s.extract q s.size)))
  else if (ak l i).f0 = 6 then decide (s = uI (ak l (ak l i).f2).f1)
  else if (ak l i).f0 = 7 then decide (s = qo (ak l (ak l i).f2).f1)
  else if (ak l i).f0 = 8 then decide (s = qL (ak l (ak l i).f2).f1)
  else qJ s (ak l (ak l i).f2).f1
def kC (l : List S54) (s : ByteArray) : Bool := if iG l = true then (if fM s = true then kW l l.length (l.length - 1) s else false) else false
theorem pK {l : List S54} (hp : iG l = true) : ∀ (n i : Nat) (s : ByteArray), i < n → i < l.length → 1 ≤ s.size → s.size ≤ 8 → Ev (fun k => bC.f k l (i : Int) s) (kW l n i s) := by
 intro n
 induction n with
 | zero => intro i s h; exact absurd h (Nat.not_lt_zero _)
 | succ n ih =>
  intro i s hn hi h1 h8
  obtain ⟨o1, o2, o3, o4, o5, o6, o7, o8⟩ := jB hi (jD hp i hi)
  have hne : ¬ s.toList = ([] : List UInt8) := fun e => by have := toList_nil.1 e; omega
  have hA : 0 ≤ l[i].f2 ∧ l[i].f2 < (l.length : Int) := by
   by_cases n1 : l[i].f0 = 1
   ·have := (o8 n1).1; omega
   ·have := o3 n1; omega
  rw [← aU]
  simp only [bC.f, kW, mh l i hi]
  rw [ep, ep, en hne, ep hA.1, ep hA.2, bD]
  split
  ·rw [iY]; exact bq _
  rename_i n1
  have oA := o3 n1
  have eA : l[i].f2 = ((l[i].f2.toNat : Nat) : Int) := by omega
  rw [bD]
  split
  ·have := ih l[i].f2.toNat (rz s) (by omega) (by omega) (by rw [ql]; exact h1) (by rw [ql]; exact h8)
   rw [← eA] at this
   simp only [mF s (show s.size ≤ 100 by omega), Option.bind_some]
   rw [aQ this]
   exact bq _
  rw [bD]
  split
  ·rw [aQ (lG _ _)]
   exact bq _
  rw [bD]
  split
  ·rename_i k4
   have oB := o4 (.inl k4)
   have eB : l[i].f3 = ((l[i].f3.toNat : Nat) : Int) := by omega
   refine oG (nY (fun k j => bC.l0 k l s j l[i].f0 l[i].f1 l[i].f2 l[i].f3) s.size 1 _ false (fun j hj hj' => ?_) (fun j hb hj r hr => ?_) 1 (Nat.le_refl _) (by omega)) (by rw [Bool.or_false])
   ·rw [← aU]
    simp only [bC.l0]
    rw [en]
    exact bq _
   ·have m1 := ih l[i].f2.toNat (s.extract 0 j) (by omega) (by omega) (by rw [ByteArray.size_extract]; omega) (by rw [ByteArray.size_extract]; omega)
    have m2 := ih l[i].f3.toNat (s.extract j s.size) (by omega) (by omega) (by rw [ByteArray.size_extract]; omega) (by rw [ByteArray.size_extract]; omega)
    rw [← eA] at m1
    rw [← eB] at m2
    rw [← aU]
    simp only [bC.l0, fF (i := j) (by omega), Int.toNat_natCast]
    rw [ep, ep, ep, aQ m1, bD]
    split
    ·rename_i h3
     rw [h3, Bool.true_and, aQ m2, bD]
     split
     ·rename_i h4
      rw [h4, Bool.true_or]
      exact bq _
     ·rename_i h4
      rw [Bool.not_eq_true] at h4
      rw [h4, Bool.false_or]
      exact hr
    ·rename_i h3
     rw [Bool.not_eq_true] at h3
     rw [h3, Bool.false_and, Bool.false_or]
     exact hr
  rw [bD]
  split
  ·rename_i k5
   have oB := o4 (.inr k5)
   have eB : l[i].f3 = ((l[i].f3.toNat : Nat) : Int) := by omega
   refine oG (nY (fun k j => bC.l1 k l s j l[i].f0 l[i].f1 l[i].f2 l[i].f3) s.size 1 _ false (fun j hj hj' => ?_) (fun j hb hj r hr => ?_) 1 (Nat.le_refl _) (by omega)) (by rw [Bool.or_false])
   ·rw [← aU]
    simp only [bC.l1]
    rw [en]
    exact bq _
   ·rw [← aU]
    simp only [bC.l1, fF (i := j) (by omega)]
    rw [ep]
    refine nY (fun k q => bC.l2 k l s (j : Int) q l[i].f0 l[i].f1 l[i].f2 l[i].f3) s.size (j + 1) _ r (fun q hq hq' => ?_) (fun q hqb hq t ht => ?_) (j + 1) (Nat.le_refl _) (by omega)
    ·rw [← aU]
     simp only [bC.l2, fF (i := j) (by omega)]
     rw [en]
     exact hr
    ·have m1 := ih l[i].f3.toNat (s.extract j q) (by omega) (by omega) (by rw [ByteArray.size_extract]; omega) (by rw [ByteArray.size_extract]; omega)
     have m2 := ih l[i].f2.toNat (s.extract 0 j ++ s.extract q s.size) (by omega) (by omega) (by rw [ByteArray.size_append, ByteArray.size_extract, ByteArray.size_extract]; omega) (by rw [ByteArray.size_append, ByteArray.size_extract, ByteArray.size_extract]; omega)
     rw [← eB] at m1
     rw [← eA] at m2
     have hz : (s.extract 0 j).size + (s.extract q s.size).size ≤ 9223372036854775807 := by simp only [ByteArray.size_extract]; omega
     rw [← aU]
     simp only [bC.l2, fF (i := q) (by omega), Int.toNat_natCast]
     rw [ep, ep, ep, ep, aQ m1, bD]
     split
     ·rename_i h3
      have c1 : (j : Int) ≤ (s.size : Int) := by omega
      have c2 : (0 : Int) ≤ (q : Int) := by omega
      rw [h3, Bool.true_and]
      simp only [ep c1, if_pos c2, if_pos hz]
      rw [aQ m2, bD]
      split
      ·rename_i h4
       rw [h4, Bool.true_or]
       exact bq _
      ·rename_i h4
       rw [Bool.not_eq_true] at h4
       rw [h4, Bool.false_or]
       exact ht
     ·rename_i h3
      rw [Bool.not_eq_true] at h3
      rw [h3, Bool.false_and, Bool.false_or]
      exact ht
  rw [bD]
  split
  ·rw [aQ (oH _), iY]
   exact bq _
  rw [bD]
  split
  ·rw [aQ (lU _), iY]
   exact bq _
  rw [bD]
  split
  ·rw [aQ (lV _), iY]
   exact bq _
  rw [ep, aQ (mY _ _)]
  exact bq _
theorem jR (l : List S54) (s : ByteArray) (hl : l.length < 4611686018427387904) : Ev (fun k => gB.f k l s) (kC l s) := by
 unfold gB.f kC
 rw [aQ (jI l hl), bD]
 split
 ·rename_i hp
  have hlen := lg hp
  rw [aQ (fq s), bD]
  split
  ·rename_i hw
   have hsz := gP hw
   have e : wrap64 ((l.length : Int) - 1) = ((l.length - 1 : Nat) : Int) := by rw [tQ (by omega) (by omega)]; omega
   rw [e, aQ (pK hp l.length (l.length - 1) s (by omega) (by omega) (by omega) (by omega))]
   exact bq _
  ·exact bq _
 ·exact bq _
def jN (a : Int) (p : List S54) (d : List S61) (s : ByteArray) : Bool := if ji a p = true then (if hasB d s a = true then kC p s else false) else false
theorem jg (a : Int) (p : List S54) (d : List S61) (s : ByteArray) (hl : p.length < 4611686018427387904) (hd : d.length < 4611686018427387904) : Ev (fun k => dN.f k a p d s) (jN a p d s) := by
 unfold dN.f jN
 rw [aQ (iJ a p hl), bD]
 split
 ·rw [aQ (jh d s a hd), bD]
  split
  ·rw [aQ (jR p s hl)]
   exact bq _
  ·exact bq _
 ·exact bq _
def kX (l : List ByteArray) (w : ByteArray) : Bool := l.any (fun x => decide (x = w))
def iU (out : List ByteArray) (x : ByteArray) : List ByteArray := if kX out x = true then out else out ++ [x]
def lW (l : List ByteArray) : List ByteArray := l.foldl iU []
theorem qO (out : List ByteArray) (x : ByteArray) : (iU out x).length ≤ out.length + 1 := by
 unfold iU
 split
 ·omega
 ·simp
theorem kN : ∀ (l out : List ByteArray), (l.foldl iU out).length ≤ out.length + l.length
 | [], out => by simp
 | x :: l, out => by
  have h1 := kN l (iU out x)
  have h2 := qO out x
  simp only [List.foldl_cons, List.length_cons]
  omega
theorem uY (l : List ByteArray) : (lW l).length ≤ l.length := by
 have := kN l []
 simpa [lW] using this
theorem uD (l : List ByteArray) (w : ByteArray) (hl : l.length < 4611686018427387904) : Ev (fun k => bK.f k l w) (match l.findIdx? (fun x => decide (x = w)) with | some i => (i : Int) | none => -1) := by
 refine qg (fun k i => bK.l0 k l w (l.length : Int) i) l _ ?_ (fun i hi hp r hr => ?_) (fun i hi hp => ?_)
 ·rw [← aU]; simp [bK.l0, bq]
 ·rw [← aU]
  simp only [bK.l0, jG ByteArray.empty l i hi, fF (i := i) (by omega), toList_eq]
  rw [ep, ep, ep, en (fun e => of_decide_eq_false hp e.symm)]
  exact hr
 ·rw [← aU]
  simp only [bK.l0, jG ByteArray.empty l i hi, toList_eq]
  rw [ep, ep, ep, bD, if_pos (of_decide_eq_true hp).symm]
  exact bq _
theorem wo {α : Type} (l : List α) (p : α → Bool) : decide ((match l.findIdx? p with | some i => (i : Int) | none => -1) ≥ 0) = l.any p := by
 cases h : l.findIdx? p with
 | none =>
  have := List.findIdx?_eq_none_iff.1 h
  simp
  intro x hx
  simpa using this x hx
 | some i =>
  obtain ⟨h1, h2, _⟩ := List.findIdx?_eq_some_iff_getElem.1 h
  simp
  exact ⟨l[i], List.getElem_mem h1, h2⟩
theorem kI (l : List ByteArray) (w : ByteArray) (hl : l.length < 4611686018427387904) : Ev (fun k => bW.f k l w) (kX l w) := by
 unfold bW.f kX
 rw [aQ (uD l w hl), wo]
 exact bq _
theorem qC (l : List ByteArray) (hl : l.length ≤ 8796093022208) : Ev (fun k => eY.f k l) (lW l) := by
 unfold eY.f
 refine nV (σ := List ByteArray) (fun k out i => eY.l0 k out l (l.length : Int) i) l.length (fun i out => out = (l.take i).foldl iU []) (fun _ _ => lW l) (fun out ho => ?_) (fun i out hi ho => ?_) 0 [] (Nat.zero_le _) rfl
 ·rw [List.take_length] at ho
  rw [← aU]
  simp only [eY.l0, Int.lt_irrefl, if_false, ho]
  exact bq _
 ·have hlen : out.length ≤ i := by
   have := kN (l.take i) []
   rw [ho]
   simp only [List.length_nil, List.length_take] at this
   omega
  refine .inr ⟨iU out l[i], ?_, rfl, fun r hr => ?_⟩
  ·rw [List.take_succ_eq_append_getElem hi, List.foldl_append, ho]
   rfl
  ·rw [← aU]
   simp only [eY.l0, jG ByteArray.empty l i hi, fF (i := i) (by omega)]
   rw [ep, ep, ep, aQ (kI out l[i] (by omega)), bD]
   unfold iU at hr
   split
   ·rename_i h
    rw [if_pos h] at hr
    exact hr
   ·rename_i h
    rw [if_neg h] at hr
    rw [ep]
    exact hr
theorem jP (a : Int) (p : List S54) (d : List S61) (l : List ByteArray) (hp : p.length < 4611686018427387904) (hd : d.length < 4611686018427387904) (hl : l.length ≤ 8796093022208) : Ev (fun k => dY.f k a p d l) (lW (l.filter (jN a p d))) := by
 unfold dY.f
 rw [aQ (pQ l _ (jN a p d) hl (fun s _ => jg a p d s hp hd))]
 exact qC _ (Nat.le_trans (List.length_filter_le _ _) hl)
def mo (l : List S54) : List ByteArray := l.flatMap (fun x => if x.f0 = 1 then [x.f1] else [])
theorem rA {α β : Type} (f : α → List β) (h : ∀ x, (f x).length ≤ 1) (l : List α) : (l.flatMap f).length ≤ l.length := by
 induction l with
 | nil => simp
 | cons x l ih => have := h x; simp only [List.flatMap_cons, List.length_append, List.length_cons]; omega
theorem qb (l : List S54) : (mo l).length ≤ l.length := rA _ (fun x => by split <;> simp) l
theorem jK (l : List S54) (hl : l.length ≤ 8796093022208) : Ev (fun k => dh.f k l) (mo l) := by
 refine kP (fun k x i => dh.l0 k x l (l.length : Int) i) l (fun x => if x.f0 = 1 then [x.f1] else []) 0 (fun x => ?_) (fun i hi x hx r hr => ?_)
 ·rw [← aU]; simp [dh.l0, bq]
 ·have hx' := rA (fun x : S54 => if x.f0 = 1 then [x.f1] else []) (fun x => by split <;> simp) (l.take i)
  rw [List.length_take] at hx'
  rw [← aU]
  simp only [dh.l0, mh l i hi, fF (i := i) (by omega)]
  rw [ep, ep, ep, bD]
  split
  ·rename_i h
   rw [if_pos h] at hr
   rw [ep]
   exact hr
  ·rename_i h
   rw [if_neg h, List.append_nil] at hr
   exact hr
theorem qM (t : List ByteArray) (a : ByteArray) : Ev (fun k => bG.f k t [a]) (decide (t = [a])) := by
 unfold bG.f
 rw [bD]
 split
 ·rename_i h
  match t, h with
  | [x], _ =>
   rw [← aU]
   simp only [bG.l0, toList_eq]
   rw [ep (by simp), ep, ep (by simp), ep (by simp), bD]
   have e1 : fP ByteArray.empty [x] 0 = x := rfl
   have e2 : fP ByteArray.empty [a] 0 = a := rfl
   rw [e1, e2]
   by_cases hx : x = a
   ·rw [if_pos hx, ← aU]
    have e3 : wrap64 ((0 : Int) + 1) = 1 := by rw [tQ (by omega) (by omega)]; rfl
    simp only [bG.l0, e3]
    rw [en (by simp)]
    exact oG (bq _) (by simp [hx])
   ·rw [if_neg hx]
    exact oG (bq _) (by simp [hx])
 ·rename_i h
  exact oG (bq _) (decide_eq_false (fun e => h (by rw [e]))).symm
def nI (a : Int) (p : List S54) (d : List S61) (l : List ByteArray) (s : ByteArray) : Int :=
 if ji a p = true then (if hasB d s a = true then (if kC p s = true then (if kX (mo p) s = true then 4 else (if lW (l.filter (jN a p d)) = [s] then 0 else 5)) else 3) else 2) else 1
theorem ny (a : Int) (p : List S54) (d : List S61) (l : List ByteArray) (s : ByteArray) (hp : p.length ≤ 8796093022208) (hd : d.length < 4611686018427387904) (hl : l.length ≤ 8796093022208) : Ev (fun k => gZ.f k a p d l s) (nI a p d l s) := by
 have hu := qb p
 unfold gZ.f nI
 rw [aQ (iJ a p (by omega)), bD]
 split
 ·rw [aQ (jh d s a hd), bD]
  split
  ·rw [aQ (jR p s (by omega)), bD]
   split
   ·rw [aQ (jK p hp), aQ (kI (mo p) s (by omega)), bD]
    split
    ·exact bq _
    ·rw [aQ (jP a p d l (by omega) hd hl), aQ (qM _ s), bD]
     simp only [decide_eq_true_eq]
     split
     ·exact bq _
     ·exact bq _
   ·exact bq _
  ·exact bq _
 ·exact bq _
theorem kQ (l : List ByteArray) (x : ByteArray) (hl : l.length < 4611686018427387904) : Ev (fun k => fQ.f k l x) (kX l x) := by
 unfold fQ.f
 rw [aQ (kI l x hl)]
 exact bq _
theorem evP {α : Type} {c : Prop} [Decidable c] {f g : Nat → Option α} {r : α} (h : c) : Ev (fun k => if c then f k else g k) r ↔ Ev f r := by rw [ep h]
theorem evN {α : Type} {c : Prop} [Decidable c] {f g : Nat → Option α} {r : α} (h : ¬ c) : Ev (fun k => if c then f k else g k) r ↔ Ev g r := by rw [en h]
theorem vY {α : Type} (p : α → Bool) : ∀ (xs : List α) (i : Nat) (h : i < (xs.takeWhile p).length) (h2 : i < xs.length), p xs[i] = true
 | [], i, h, h2 => by simp at h2
 | x :: xs, i, h, h2 => by
  by_cases hp : p x = true
  ·rw [List.takeWhile_cons_of_pos hp] at h
   cases i with
   | zero => exact hp
   | succ i => exact vY p xs i (by simpa using h) (by simpa using h2)
  ·rw [List.takeWhile_cons_of_neg hp] at h
   simp at h
theorem tC {α : Type} (p : α → Bool) : ∀ (xs : List α) (h : (xs.takeWhile p).length < xs.length), p xs[(xs.takeWhile p).length] = false
 | [], h => by simp at h
 | x :: xs, h => by
  by_cases hp : p x = true
  ·simp only [List.takeWhile_cons_of_pos hp, List.length_cons] at h ⊢
   exact tC p xs (by simpa using h)
  ·simp only [List.takeWhile_cons_of_neg hp, List.length_nil] at h ⊢
   simpa using hp
theorem wV {α : Type} (p : α → Bool) (xs : List α) : (xs.takeWhile p).length ≤ xs.length := (List.takeWhile_prefix p).length_le
theorem rW {α ρ : Type} (L : Nat → Int → Option ρ) (xs : List α) (p : α → Bool) (r : ρ) (hstop : Ev (fun k => L k (((xs.takeWhile p).length : Nat) : Int)) r)
  (hyes : ∀ i (h : i < xs.length), p xs[i] = true → ∀ r, Ev (fun k => L k ((i + 1 : Nat) : Int)) r → Ev (fun k => L k (i : Int)) r) : Ev (fun k => L k 0) r := by
 have key : ∀ d i, i + d = (xs.takeWhile p).length → Ev (fun k => L k (i : Int)) r := by
  intro d
  induction d with
  | zero =>
   intro i hi
   have : i = (xs.takeWhile p).length := by omega
   subst this
   exact hstop
  | succ d ih =>
   intro i hi
   have hlt : i < xs.length := by have := wV p xs; omega
   exact hyes i hlt (vY p xs i (by omega) hlt) _ (ih (i + 1) (by omega))
 exact key (xs.takeWhile p).length 0 (by omega)
def plM (l : List S61) (w : ByteArray) (s : Int) : Nat := (l.takeWhile fun x => bmB x.f0 x.f1 w s).length
def rM (l : List S61) (w : ByteArray) (s : Int) : List S61 := l.take (plM l w s) ++ [⟨w, s⟩] ++ l.drop (plM l w s)
def qD (l : List S61) (w : ByteArray) (s : Int) : List S61 × Bool := if hasB l w s = true then (l, false) else if nU (rM l w s) = true then (rM l w s, true) else (l, false)
theorem wz (l : List S61) (w : ByteArray) (s : Int) : plM l w s ≤ l.length := wV _ _
theorem nL (l : List S61) (w : ByteArray) (s : Int) : (rM l w s).length = l.length + 1 := by
 have := wz l w s
 simp only [rM, List.length_append, List.length_take, List.length_drop, List.length_cons, List.length_nil]
 omega
theorem nO (l : List S61) (w : ByteArray) (s : Int) : (qD l w s).1.length ≤ l.length + 1 := by
 unfold qD
 split
 ·show l.length ≤ _; omega
 ·split
  ·show (rM l w s).length ≤ _; rw [nL]; omega
  ·show l.length ≤ _; omega
theorem jH (l : List S61) (w : ByteArray) (s : Int) (hl : l.length < 5864062014800) : Ev (fun k => aY.f k l w s) (qD l w s) := by
 unfold aY.f
 have hp := wz l w s
 have hj : Ev (fun k => aY.j1 k l ((plM l w s : Nat) : Int) w s) (qD l w s) := by
  rw [← aU]
  simp only [aY.j1, Option.bind_some]
  rw [evP (by omega), evP (by omega), evP (by simp only [List.length_nil, List.length_take]; omega), evP (by simp only [List.length_append, List.length_nil, List.length_take, List.length_cons]; omega),
   evP (by simp only [List.length_append, List.length_nil, List.length_take, List.length_cons, List.length_drop]; omega)]
  simp only [List.nil_append, Int.toNat_natCast]
  have e : l.take (plM l w s) ++ [(⟨w, s⟩ : S61)] ++ l.drop (plM l w s) = rM l w s := rfl
  rw [e, aQ (ni l w s (by omega))]
  have hd := kU (rM l w s) (by rw [nL]; omega)
  unfold qD
  cases hasB l w s with
  | true =>
   simp only [if_true]
   rw [evP (by simp only [List.length_nil]; omega)]
   exact bq _
  | false =>
   simp only [Bool.false_eq_true, if_false]
   rw [aQ hd]
   cases nU (rM l w s) with
   | true => exact bq _
   | false =>
    simp only [Bool.false_eq_true, if_false]
    rw [evP (by simp only [List.length_nil]; omega)]
    exact bq _
 refine rW (fun k i => aY.l0 k l i w s) l (fun x => bmB x.f0 x.f1 w s) _ ?_ ?_
 ·rw [← aU]
  simp only [aY.l0]
  have hpl : (l.takeWhile fun x => bmB x.f0 x.f1 w s).length = plM l w s := rfl
  by_cases h : plM l w s < l.length
  ·have hf := tC (fun x : S61 => bmB x.f0 x.f1 w s) l h
   simp only [hpl] at hf ⊢
   rw [evP (by omega), evP (by omega)]
   simp only [kK _ _ h, kM, Option.bind_some, hf]
   rw [evN (by decide)]
   exact hj
  ·rw [hpl, evN (by omega)]
   exact hj
 ·intro i h hp r hr
  rw [← aU]
  simp only [aY.l0]
  rw [evP (by omega), evP (by omega)]
  simp only [kK _ _ h, kM, Option.bind_some]
  rw [evP hp, fF (by omega)]
  exact hr
theorem Am (n : Int) : Go.bits .and .i64 n 255 = n % 256 := by
 have h255 : (BitVec.ofInt 64 255).toNat = 2 ^ 8 - 1 := by decide
 have key : (BitVec.ofInt 64 n &&& BitVec.ofInt 64 255).toNat = (n % ((2 ^ 64 : Nat) : Int)).toNat % 2 ^ 8 := by
  rw [BitVec.toNat_and, BitVec.toNat_ofInt, h255, Nat.and_two_pow_sub_one_eq_mod]
 show IntKind.i64.wrap ((BitVec.ofInt 64 n &&& BitVec.ofInt 64 255).toNat : Nat) = n % 256
 rw [key, IntKind.wrap_i64]
 omega
def Cur (b : List Int) (i : Int) : Prop := b.length < 4611686018427387904 ∧ 0 ≤ i
theorem lI {b : List Int} {i : Int} (h : Int) (hc : Cur b i) : ∃ v i' h', fD.f b i h = some (v, i', h') ∧ 0 ≤ v ∧ v ≤ 255 ∧ Cur b i' := by
 obtain ⟨hb, hi⟩ := hc
 unfold fD.f
 simp only [Am]
 split
 ·try rw [if_pos hi]
  exact ⟨_, _, _, rfl, by unfold wrap64; omega, by unfold wrap64; omega, hb, by unfold wrap64; omega⟩
 ·exact ⟨_, _, _, rfl, by omega, by omega, hb, hi⟩
theorem tN {v n : Int} (hv : 0 ≤ v) (hn : 0 < n) : 0 ≤ Int.tmod v n ∧ Int.tmod v n < n := by
 rw [Int.tmod_eq_emod_of_nonneg hv]
 exact ⟨Int.emod_nonneg _ (by omega), Int.emod_lt_of_pos _ hn⟩
theorem eP {b : List Int} {i : Int} (h n : Int) (hc : Cur b i) : ∃ v i' h', bI.f b i h n = some (v, i', h') ∧ 0 ≤ v ∧ (0 < n → v < n) ∧ (n ≤ 0 → v = 0) ∧ Cur b i' := by
 unfold bI.f
 by_cases h1 : n ≤ 0
 ·rw [if_pos h1]
  exact ⟨0, i, h, rfl, by omega, by omega, fun _ => rfl, hc⟩
 rw [if_neg h1]
 by_cases h2 : n ≤ 256
 ·rw [if_pos h2]
  obtain ⟨v, i', h', e, v0, v1, hc'⟩ := lI h hc
  simp only [e, Option.bind_some]
  rw [if_neg (by omega)]
  obtain ⟨t0, t1⟩ := tN v0 (show 0 < n by omega)
  exact ⟨_, _, _, rfl, t0, fun _ => t1, by omega, hc'⟩
 ·rw [if_neg h2]
  obtain ⟨x, i1, h1', e1, x0, x1, hc1⟩ := lI h hc
  obtain ⟨y, i2, h2', e2, y0, y1, hc2⟩ := lI h1' hc1
  obtain ⟨z, i3, h3', e3, z0, z1, hc3⟩ := lI h2' hc2
  simp only [e1, e2, e3, Option.bind_some]
  rw [if_neg (by omega)]
  have hw : 0 ≤ wrap64 ((wrap64 ((wrap64 (x * 65536)) + (wrap64 (y * 256)))) + z) := by unfold wrap64; omega
  obtain ⟨t0, t1⟩ := tN hw (show 0 < n by omega)
  exact ⟨_, _, _, rfl, t0, fun _ => t1, by omega, hc3⟩
theorem jZ {b : List Int} {i : Int} (h n : Int) (hc : Cur b i) : ∃ q i' h', dJ.f b i h n = some (q, i', h') ∧ Cur b i' := by
 obtain ⟨v, i', h', e, _, _, _, hc'⟩ := eP h n hc
 unfold dJ.f
 simp only [e, Option.bind_some]
 exact ⟨_, _, _, rfl, hc'⟩
theorem qR {b : List Int} {i : Int} (h : Int) (l : List Int) (hc : Cur b i) (hl : 0 < l.length) : ∃ v i' h', gI.f b i h l = some (v, i', h') ∧ v ∈ l ∧ Cur b i' := by
 obtain ⟨v, i', h', e, v0, v1, _, hc'⟩ := eP h (l.length : Int) hc
 have v2 := v1 (by omega)
 unfold gI.f
 simp only [e, Option.bind_some]
 rw [if_pos v0, if_pos v2]
 obtain ⟨n, rfl⟩ : ∃ n : Nat, v = (n : Int) := ⟨v.toNat, by omega⟩
 rw [uP l n (by omega)]
 exact ⟨_, _, _, rfl, List.getElem_mem _, hc'⟩
theorem mJ {b : List Int} {i : Int} (h : Int) (l : List ByteArray) (hc : Cur b i) (hl : 0 < l.length) : ∃ v i' h', fO.f b i h l = some (v, i', h') ∧ v ∈ l ∧ Cur b i' := by
 obtain ⟨v, i', h', e, v0, v1, _, hc'⟩ := eP h (l.length : Int) hc
 have v2 := v1 (by omega)
 unfold fO.f
 simp only [e, Option.bind_some]
 rw [if_pos v0, if_pos v2]
 obtain ⟨n, rfl⟩ : ∃ n : Nat, v = (n : Int) := ⟨v.toNat, by omega⟩
 rw [jG _ l n (by omega)]
 exact ⟨_, _, _, rfl, List.getElem_mem _, hc'⟩
theorem kF : ∃ l : List ByteArray, dW.f = some l ∧ l.length = 35 ∧ ∀ w ∈ l, w.size ≤ 8 := by
 refine ⟨_, rfl, rfl, ?_⟩
 intro w hw
 simp only [List.mem_cons, List.not_mem_nil, or_false] at hw
 rcases hw with h | h | h | h | h | h | h | h | h | h | h | h | h | h | h | h | h | h | h | h | h | h | h | h | h | h | h | h | h | h | h | h | h | h | h <;> (subst h; decide)
theorem mW {b : List Int} {i : Int} (h : Int) (hc : Cur b i) : ∃ w i' h', eG.f b i h = some (w, i', h') ∧ w.size ≤ 8 ∧ Cur b i' := by
 obtain ⟨l, hl, hn, hs⟩ := kF
 obtain ⟨v, i', h', e, hm, hc'⟩ := mJ h l hc (by omega)
 unfold eG.f
 simp only [hl, e, Option.bind_some]
 exact ⟨_, _, _, rfl, hs _ hm, hc'⟩
theorem qZ {b : List Int} {i : Int} (h : Int) (hc : Cur b i) : ∃ w i' h', iC.f b i h = some (w, i', h') ∧ w.size ≤ 9 ∧ Cur b i' := by
 obtain ⟨w, i1, h1, e1, hw, hc1⟩ := mW h hc
 unfold iC.f
 simp only [e1, Option.bind_some]
 rw [if_pos (by omega)]
 obtain ⟨v, i', h', e, hm, hc'⟩ := mJ h1 [w, w, w, w, w, (⟨#[]⟩ : ByteArray), (⟨#[65]⟩ : ByteArray), (⟨#[97, 32, 98]⟩ : ByteArray), (⟨#[116, 111, 111, 108, 111, 110, 103, 101, 114]⟩ : ByteArray), (⟨#[116, 111, 111, 108, 111, 110, 103]⟩ : ByteArray), w ++ (⟨#[63]⟩ : ByteArray), (⟨#[122]⟩ : ByteArray)] hc1 (by simp)
 simp only [e, Option.bind_some]
 refine ⟨_, _, _, rfl, ?_, hc'⟩
 simp only [List.mem_cons, List.not_mem_nil, or_false] at hm
 rcases hm with r | r | r | r | r | r | r | r | r | r | r | r <;> subst r
 all_goals first
  | decide
  | (rw [ByteArray.size_append]; show w.size + 1 ≤ 9; omega)
  | omega
theorem oM {b : List Int} {i : Int} (h : Int) (hc : Cur b i) : ∃ v i' h', gF.f b i h = some (v, i', h') ∧ (-9223372036854775808 ≤ v ∧ v ≤ 9223372036854775807) ∧ Cur b i' := by
 unfold gF.f
 obtain ⟨v, i', h', e, hm, hc'⟩ := qR h ([(-1), 0, 99, 100, 1000, 1001, 9223372036854775807, (-9223372036854775808)] : List Int) hc (by simp)
 simp only [e, Option.bind_some]
 refine ⟨_, _, _, rfl, ?_, hc'⟩
 simp only [List.mem_cons, List.not_mem_nil, or_false] at hm
 omega
theorem mH {σ ρ : Type} (L : Nat → σ → Int → Option ρ) (Q : ρ → Prop) (n : Nat) (Inv : Nat → σ → Prop) (hend : ∀ s, Inv n s → ∃ r, Ev (fun k => L k s (n : Int)) r ∧ Q r)
  (hstep : ∀ i s, i < n → Inv i s → (∃ r, Ev (fun k => L k s (i : Int)) r ∧ Q r) ∨ ∃ s', Inv (i + 1) s' ∧ ∀ r, Ev (fun k => L k s' ((i + 1 : Nat) : Int)) r → Ev (fun k => L k s (i : Int)) r) :
  ∀ d i s, i + d = n → Inv i s → ∃ r, Ev (fun k => L k s (i : Int)) r ∧ Q r := by
 intro d
 induction d with
 | zero =>
  intro i s h hi
  have : i = n := by omega
  subst this
  exact hend s hi
 | succ d ih =>
  intro i s h hi
  rcases hstep i s (by omega) hi with h1 | ⟨s', h1, h2⟩
  ·exact h1
  ·obtain ⟨r, hr, hq⟩ := ih (i + 1) s' (by omega) h1
   exact ⟨r, h2 r hr, hq⟩
theorem oq (b : List Int) (hb : b.length < 4611686018427387904) : ∃ h, Ev (fun k => dK.f k b) (b, 0, h) := by
 unfold dK.f
 obtain ⟨⟨r1, r2, r3⟩, hr, e1, e2⟩ := mH (fun k s i => dK.l0 k b s i) (fun r => r.1 = b ∧ r.2.1 = 0) b.length (fun _ _ => True) (fun s _ => ⟨(b, 0, s), by rw [← aU]; simp only [dK.l0]; rw [evN (by omega)]; exact bq _, rfl, rfl⟩)
  (fun i s hi _ => by
   by_cases h4 : (i : Int) < 4000
   ·refine .inr ⟨Go.bits .and .i64 (wrap64 ((wrap64 ((wrap64 (s * 137)) + (wrap64 (rd b (i : Int))))) + 11)) 1073741823, trivial, fun r hr => ?_⟩
    rw [← aU]
    simp only [dK.l0]
    rw [evP (by omega), evP h4, evP (by omega), fF (by omega)]
    exact hr
   ·exact .inl ⟨(b, 0, s), by rw [← aU]; simp only [dK.l0]; rw [evP (by omega), evN h4]; exact bq _, rfl, rfl⟩) b.length 0 (wrap64 (193017 + (b.length : Int))) (by omega) trivial
 dsimp only at e1 e2
 subst e1 e2
 exact ⟨r3, hr⟩
theorem sN {b : List Int} {i : Int} (h : Int) (hc : Cur b i) : ∃ d i' h', Ev (fun k => bN.f k b i h) (d, i', h') ∧ d.length ≤ 40 ∧ Cur b i' := by
 obtain ⟨ws, hws, hwn, _⟩ := kF
 unfold bN.f
 simp only [hws, Option.bind_some]
 have l1 : ∀ (n : Nat) (d : List S61) (i h : Int), n ≤ 5 → d.length ≤ 35 → Cur b i → ∃ r, Ev (fun k => bN.l1 k d (n : Int) b i h) r ∧ r.1.length ≤ 40 ∧ Cur b r.2.1 := by
  intro n d i h hn hd hc
  obtain ⟨r, hr, q⟩ := mH (fun k (s : List S61 × Int × Int) j => bN.l1 k s.1 ((n : Int) - j) b s.2.1 s.2.2) (fun r => r.1.length ≤ 40 ∧ Cur b r.2.1) n (fun j s => s.1.length ≤ 35 + j ∧ Cur b s.2.1)
   (fun s hs => ⟨s, by rw [← aU]; simp only [bN.l1]; rw [evN (by omega)]; exact bq _, by have := hs.1; omega, hs.2⟩)
   (fun j s hj hs => by
    obtain ⟨w, i2, h2, e2, _, hc2⟩ := mW s.2.2 hs.2
    obtain ⟨v, i3, h3, e3, _, _, _, hc3⟩ := eP h2 4 hc2
    have ha := jH s.1 w (wrap64 (1 + v)) (by have := hs.1; omega)
    have hal := nO s.1 w (wrap64 (1 + v))
    refine .inr ⟨((qD s.1 w (wrap64 (1 + v))).1, i3, h3), ⟨by have := hs.1; show (qD s.1 w (wrap64 (1 + v))).1.length ≤ _; omega, hc3⟩, fun r hr => ?_⟩
    rw [← aU]
    simp only [bN.l1, e2, e3, Option.bind_some]
    have hw : wrap64 ((n : Int) - (j : Int) - 1) = (n : Int) - ((j + 1 : Nat) : Int) := by unfold wrap64; omega
    rw [evP (by omega), aQ ha, hw]
    exact hr) n 0 (d, i, h) (by omega) ⟨by show d.length ≤ 35 + 0; omega, hc⟩
  exact ⟨r, by simpa using hr, q⟩
 obtain ⟨⟨r1, r2, r3⟩, hr, q1, q2⟩ := mH (fun k (s : List S61 × Int × Int) j => bN.l0 k s.1 ws j b s.2.1 s.2.2) (fun r => r.1.length ≤ 40 ∧ Cur b r.2.1) ws.length (fun j s => s.1.length ≤ j ∧ Cur b s.2.1)
  (fun s hs => by
   obtain ⟨v, i3, h3, e3, v0, v1, _, hc3⟩ := eP s.2.2 6 hs.2
   have v2 := v1 (by omega)
   obtain ⟨n, rfl⟩ : ∃ n : Nat, v = (n : Int) := ⟨v.toNat, by omega⟩
   obtain ⟨r, hr, q⟩ := l1 n s.1 i3 h3 (by omega) (by have := hs.1; omega) hc3
   refine ⟨r, ?_, q⟩
   rw [← aU]
   simp only [bN.l0, e3, Option.bind_some]
   rw [evN (by omega)]
   exact hr)
  (fun j s hj hs => by
   obtain ⟨q, i2, h2, e2, hc2⟩ := jZ s.2.2 3 hs.2
   cases q with
   | true =>
    refine .inr ⟨(s.1, i2, h2), ⟨by have := hs.1; show s.1.length ≤ _; omega, hc2⟩, fun r hr => ?_⟩
    rw [← aU]
    simp only [bN.l0, e2, Option.bind_some]
    rw [evP (by omega), evP trivial, fF (by omega)]
    exact hr
   | false =>
    obtain ⟨v, i3, h3, e3, _, _, _, hc3⟩ := eP h2 4 hc2
    have ha := jH s.1 (fP ByteArray.empty ws (j : Int)) (wrap64 (1 + v)) (by have := hs.1; omega)
    have hal := nO s.1 (fP ByteArray.empty ws (j : Int)) (wrap64 (1 + v))
    refine .inr ⟨((qD s.1 (fP ByteArray.empty ws (j : Int)) (wrap64 (1 + v))).1, i3, h3), ⟨by have := hs.1; show (qD s.1 (fP ByteArray.empty ws (j : Int)) (wrap64 (1 + v))).1.length ≤ _; omega, hc3⟩, fun r hr => ?_⟩
    rw [← aU]
    simp only [bN.l0, e2, e3, Option.bind_some]
    rw [evP (by omega), evN (by decide), evP (by omega), aQ ha, fF (by omega)]
    exact hr) ws.length 0 ([], i, h) (by omega) ⟨by simp, hc⟩
 exact ⟨r1, r2, r3, hr, q1, q2⟩
theorem pR {l : List ByteArray} {w : ByteArray} : kX l w = true ↔ w ∈ l := by
 simp [kX]
def hp (L : List UInt8) (c : UInt8) : Bool := match L with | [] => false | x :: _ => x == c
theorem rT (b : List Int) (i h : Int) (l : List S54) (hl : l.length < 100) (h0 : ∀ (q : 0 < l.length), (l[0]'q).f0 = 1) (kd : Int) (w : ByteArray) (B : Int) :
  ∀ a : Nat, a < l.length → ∃ A : Int, Ev (fun k => bE.l0 k l b i h kd w (a : Int) B) (kd, w, A, B, i, h) := by
 intro a
 induction a with
 | zero =>
  intro ha
  refine ⟨(0 : Int), ?_⟩
  have e := mh l 0 ha
  rw [← aU]
  simp only [bE.l0, e]
  by_cases h2 : kd = 2
  ·rw [evP h2]
   exact bq _
  ·rw [evN h2, evP (by omega), evP (by omega), evP (h0 ha)]
   exact bq _
 | succ a ih =>
  intro ha
  by_cases h2 : kd = 2
  ·refine ⟨((a + 1 : Nat) : Int), ?_⟩
   rw [← aU]
   simp only [bE.l0]
   rw [evP h2]
   exact bq _
  by_cases h1 : (l[a + 1]'ha).f0 = 1
  ·refine ⟨((a + 1 : Nat) : Int), ?_⟩
   rw [← aU]
   simp only [bE.l0, mh l (a + 1) ha]
   rw [evN h2, evP (by omega), evP (by omega), evP h1]
   exact bq _
  ·obtain ⟨A, hA⟩ := ih (by omega)
   refine ⟨A, ?_⟩
   have e : wrap64 (((a + 1 : Nat) : Int) - 1) = (a : Int) := by unfold wrap64; omega
   rw [← aU]
   simp only [bE.l0, mh l (a + 1) ha, e]
   rw [evN h2, evP (by omega), evP (by omega), evN h1]
   exact hA
theorem sK {b : List Int} {i : Int} (h : Int) (l : List S54) (hc : Cur b i) (hl : l.length < 100) (h0 : ∀ (q : 0 < l.length), (l[0]'q).f0 = 1) :
  ∃ kd w A B i' h', Ev (fun k => bE.f k b i h l) (kd, w, A, B, i', h') ∧ Cur b i' ∧ (l.length = 0 → kd = 1) := by
 obtain ⟨v, i1, h1, e1, v0, v1, _, hc1⟩ := eP h 9 hc
 have v2 := v1 (by omega)
 have hk : wrap64 (1 + v) = 1 + v := by unfold wrap64; omega
 have hj2 : ∀ (two : Bool) (kd i h : Int), Cur b i → 0 < l.length → ∃ A B i' h', Ev (fun k => bE.j2 k l two b i h kd (⟨#[]⟩ : ByteArray) (wrap64 ((l.length : Int) - 1)) 0) (kd, (⟨#[]⟩ : ByteArray), A, B, i', h') ∧ Cur b i' := by
  intro two kd i h hc hp
  cases two with
  | true =>
   obtain ⟨x, i2, h2, e2, _, _, _, hc2⟩ := eP h (l.length : Int) hc
   obtain ⟨y, i3, h3, e3, _, _, _, hc3⟩ := eP h2 (l.length : Int) hc2
   refine ⟨x, y, i3, h3, ?_, hc3⟩
   rw [← aU]
   simp only [bE.j2, if_true, e2, e3, Option.bind_some]
   exact bq _
  | false =>
   obtain ⟨A, hA⟩ := rT b i h l hl h0 kd (⟨#[]⟩ : ByteArray) 0 (l.length - 1) (by omega)
   refine ⟨A, 0, i, h, ?_, hc⟩
   have e : wrap64 ((l.length : Int) - 1) = ((l.length - 1 : Nat) : Int) := by unfold wrap64; omega
   rw [← aU]
   simp only [bE.j2, Bool.false_eq_true, if_false, e]
   exact hA
 have hj1 : ∀ (kd i h : Int), Cur b i → (l.length = 0 → kd = 1) → ∃ w A B i' h', Ev (fun k => bE.j1 k l b i h kd (⟨#[]⟩ : ByteArray) 0 0) (kd, w, A, B, i', h') ∧ Cur b i' := by
  intro kd i h hc hz
  by_cases p1 : kd = 1
  ·obtain ⟨w, i2, h2, e2, _, hc2⟩ := mW h hc
   obtain ⟨x, i3, h3, e3, _, hc3⟩ := mJ h2 ([w, (⟨#[114]⟩ : ByteArray), (⟨#[115]⟩ : ByteArray), (⟨#[97, 116]⟩ : ByteArray), (⟨#[101, 97]⟩ : ByteArray)] : List ByteArray) hc2 (by simp)
   refine ⟨x, 0, 0, i3, h3, ?_, hc3⟩
   rw [← aU]
   simp only [bE.j1, e2, Option.bind_some, e3]
   rw [evP p1]
   exact bq _
  ·have hp : 0 < l.length := by
    by_cases q : l.length = 0
    ·exact absurd (hz q) p1
    ·omega
   by_cases p4 : kd = 4
   ·obtain ⟨A, B, i', h', e, hc'⟩ := hj2 true kd i h hc hp
    refine ⟨(⟨#[]⟩ : ByteArray), A, B, i', h', ?_, hc'⟩
    rw [← aU]
    simp only [bE.j1]
    rw [evN p1, evP p4]
    exact e
   ·obtain ⟨A, B, i', h', e, hc'⟩ := hj2 (kd == 5) kd i h hc hp
    refine ⟨(⟨#[]⟩ : ByteArray), A, B, i', h', ?_, hc'⟩
    rw [← aU]
    simp only [bE.j1]
    rw [evN p1, evN p4]
    exact e
 have hj0 : ∀ (q : Bool) (i h : Int), Cur b i → (l.length = 0 → q = true) → ∃ kd w A B i' h', Ev (fun k => bE.j0 k l q b i h (1 + v) (⟨#[]⟩ : ByteArray) 0 0) (kd, w, A, B, i', h') ∧ Cur b i' ∧ (l.length = 0 → kd = 1) := by
  intro q i h hc hz
  cases q with
  | true =>
   obtain ⟨w, A, B, i', h', e, hc'⟩ := hj1 1 i h hc (fun _ => rfl)
   refine ⟨1, w, A, B, i', h', ?_, hc', fun _ => rfl⟩
   rw [← aU]
   simp only [bE.j0, if_true]
   exact e
  | false =>
   have hn : l.length = 0 → False := fun x => by cases hz x
   obtain ⟨w, A, B, i', h', e, hc'⟩ := hj1 (1 + v) i h hc (fun x => (hn x).elim)
   refine ⟨1 + v, w, A, B, i', h', ?_, hc', fun x => (hn x).elim⟩
   rw [← aU]
   simp only [bE.j0, Bool.false_eq_true, if_false]
   exact e
 unfold bE.f
 simp only [e1, Option.bind_some, hk]
 by_cases hz : (l.length : Int) = 0
 ·simp only [evP hz]
  exact hj0 true i1 h1 hc1 (fun _ => rfl)
 ·obtain ⟨q, i2, h2, e2, hc2⟩ := jZ h1 3 hc1
  simp only [evN hz, e2, Option.bind_some]
  exact hj0 q i2 h2 hc2 (fun x => absurd (by omega) hz)
theorem rR {b : List Int} {i : Int} (h : Int) (hc : Cur b i) : ∃ l i' h', Ev (fun k => dH.f k b i h) (l, i', h') ∧ 1 ≤ l.length ∧ l.length ≤ 5 ∧ Cur b i' := by
 obtain ⟨v, i1, h1, e1, v0, v1, _, hc1⟩ := eP h 5 hc
 have v2 := v1 (by omega)
 have hk : wrap64 (1 + v) = 1 + v := by unfold wrap64; omega
 unfold dH.f
 simp only [e1, Option.bind_some, hk]
 obtain ⟨n, hn⟩ : ∃ n : Nat, 1 + v = (n : Int) := ⟨(1 + v).toNat, by omega⟩
 rw [hn]
 obtain ⟨⟨r1, r2, r3⟩, hr, q1, q2⟩ := mH (fun k (s : List S54 × Int × Int) j => dH.l0 k s.1 ((n : Int) - j) b s.2.1 s.2.2) (fun r => r.1.length = n ∧ Cur b r.2.1) n (fun j s => s.1.length = j ∧ Cur b s.2.1 ∧ ∀ (q : 0 < s.1.length), (s.1[0]'q).f0 = 1)
  (fun s hs => ⟨s, by rw [← aU]; simp only [dH.l0]; rw [evN (by omega)]; exact bq _, hs.1, hs.2.1⟩)
  (fun j s hj hs => by
   obtain ⟨s1, s2, s3⟩ := hs
   obtain ⟨kd, w, A, B, i2, h2, e2, hc2, hz⟩ := sK s.2.2 s.1 s2 (by omega) s3
   refine .inr ⟨(s.1 ++ [(⟨kd, w, A, B⟩ : S54)], i2, h2), ⟨by simp only [List.length_append, List.length_cons, List.length_nil]; omega, hc2, fun q => ?_⟩, fun r hr => ?_⟩
   ·by_cases p : 0 < s.1.length
    ·dsimp only
     rw [List.getElem_append_left p]
     exact s3 p
    ·have e : s.1 = [] := List.eq_nil_of_length_eq_zero (by omega)
     have k1 := hz (by omega)
     simp only [e, List.nil_append, List.getElem_cons_zero]
     exact k1
   ·rw [← aU]
    simp only [dH.l0]
    have hw : wrap64 ((n : Int) - (j : Int) - 1) = (n : Int) - ((j + 1 : Nat) : Int) := by unfold wrap64; omega
    rw [evP (by omega), aQ e2, evP (by omega), hw]
    exact hr) n 0 ([], i1, h1) (by omega) ⟨rfl, hc1, fun q => absurd q (by simp)⟩
 refine ⟨r1, r2, r3, ?_, by dsimp only at q1; omega, by dsimp only at q1; omega, q2⟩
 simpa using hr
theorem uj {b : List Int} {i : Int} (h : Int) (hc : Cur b i) : ∃ l i' h', Ev (fun k => iK.f k b i h) (l, i', h') ∧ l.length ≤ 5 ∧ Cur b i' := by
 obtain ⟨d, i1, h1, e1, hd1, hd, hc1⟩ := rR h hc
 unfold iK.f
 simp only [aQ e1]
 obtain ⟨v, i2, h2, e2, v0, v1, _, hc2⟩ := eP h1 (d.length : Int) hc1
 obtain ⟨u, i3, h3, e3, _, _, _, hc3⟩ := eP h2 12 hc2
 have v2 := v1 (by omega)
 simp only [e2, e3, Option.bind_some]
 by_cases u0 : u = 0
 ·obtain ⟨w, i4, h4, e4, _, hc4⟩ := qR h3 ([0, 10, 3, 5] : List Int) hc3 (by simp)
  simp only [evP u0, e4, Option.bind_some, evP v0, evP v2]
  exact ⟨_, _, _, bq _, by rw [List.length_set]; omega, hc4⟩
 simp only [evN u0]
 by_cases u1 : u = 1
 ·obtain ⟨w, i4, h4, e4, _, hc4⟩ := qZ h3 hc3
  simp only [evP u1, e4, Option.bind_some, evP v0, evP v2]
  exact ⟨_, _, _, bq _, by rw [List.length_set]; omega, hc4⟩
 simp only [evN u1]
 by_cases u2 : u = 2
 ·obtain ⟨w, i4, h4, e4, _, hc4⟩ := oM h3 hc3
  simp only [evP u2, e4, Option.bind_some, evP v0, evP v2]
  exact ⟨_, _, _, bq _, by rw [List.length_set]; omega, hc4⟩
 simp only [evN u2]
 by_cases u3 : u = 3
 ·obtain ⟨w, i4, h4, e4, _, hc4⟩ := oM h3 hc3
  simp only [evP u3, e4, Option.bind_some, evP v0, evP v2]
  exact ⟨_, _, _, bq _, by rw [List.length_set]; omega, hc4⟩
 simp only [evN u3]
 by_cases u4 : u = 4
 ·simp only [evP u4]
  exact ⟨_, _, _, bq _, by simp, hc3⟩
 ·simp only [evN u4]
  exact ⟨_, _, _, bq _, hd, hc3⟩
theorem rE : ∃ l : List ByteArray, dW.f = some l ∧ l.length = 35 ∧ ∀ w ∈ l, 2 ≤ w.size ∧ w.size ≤ 8 := by
 refine ⟨_, rfl, rfl, ?_⟩
 intro w hw
 simp only [List.mem_cons, List.not_mem_nil, or_false] at hw
 rcases hw with h | h | h | h | h | h | h | h | h | h | h | h | h | h | h | h | h | h | h | h | h | h | h | h | h | h | h | h | h | h | h | h | h | h | h <;> (subst h; decide)
theorem sG {b : List Int} {i : Int} (h : Int) (hc : Cur b i) : ∃ w i' h', eG.f b i h = some (w, i', h') ∧ (2 ≤ w.size ∧ w.size ≤ 8) ∧ Cur b i' := by
 obtain ⟨l, hl, hn, hs⟩ := rE
 obtain ⟨v, i', h', e, hm, hc'⟩ := mJ h l hc (by omega)
 unfold eG.f
 simp only [hl, e, Option.bind_some]
 exact ⟨_, _, _, rfl, hs _ hm, hc'⟩
theorem rY {b : List Int} {i : Int} (h : Int) (hc : Cur b i) : ∃ l i' h', Ev (fun k => dz.f k b i h) (l, i', h') ∧ l.length ≤ 35 ∧ Cur b i' := by
 obtain ⟨ws, hws, hwn, _⟩ := kF
 unfold dz.f
 simp only [hws, Option.bind_some]
 obtain ⟨⟨r1, r2, r3⟩, hr, q1, q2⟩ := mH (fun k (s : List ByteArray × Int × Int) j => dz.l0 k ws s.1 j b s.2.1 s.2.2) (fun r => r.1.length ≤ 35 ∧ Cur b r.2.1) ws.length (fun j s => s.1.length ≤ j ∧ Cur b s.2.1)
  (fun s hs => ⟨s, by rw [← aU]; simp only [dz.l0]; rw [evN (by omega)]; exact bq _, by have := hs.1; omega, hs.2⟩)
  (fun j s hj hs => by
   obtain ⟨q, i2, h2, e2, hc2⟩ := jZ s.2.2 3 hs.2
   cases q with
   | true =>
    refine .inr ⟨(s.1, i2, h2), ⟨by have := hs.1; dsimp only; omega, hc2⟩, fun r hr => ?_⟩
    rw [← aU]
    simp only [dz.l0, e2, Option.bind_some]
    rw [evP (by omega), evP trivial, fF (by omega)]
    exact hr
   | false =>
    refine .inr ⟨(s.1 ++ [ws[j]], i2, h2), ⟨by have := hs.1; simp only [List.length_append, List.length_cons, List.length_nil]; omega, hc2⟩, fun r hr => ?_⟩
    rw [← aU]
    simp only [dz.l0, e2, Option.bind_some, jG ByteArray.empty ws j hj]
    rw [evP (by omega), evN (by decide), evP (by omega), evP (by have := hs.1; omega), fF (by omega)]
    exact hr) ws.length 0 ([], i, h) (by omega) ⟨by simp, hc⟩
 exact ⟨r1, r2, r3, hr, q1, q2⟩
theorem sH {b : List Int} {i : Int} (h : Int) (w : ByteArray) (hw : 2 ≤ w.size ∧ w.size ≤ 8) (hc : Cur b i) : ∃ l i' h', Ev (fun k => bR.f k b i h w) (l, i', h') ∧ l.length ≤ 5 ∧ Cur b i' := by
 obtain ⟨v, i1, h1, e1, _, _, _, hc1⟩ := eP h 5 hc
 have hx : ∀ a c : Nat, (w.extract a c).size ≤ 8 := fun a c => by rw [ByteArray.size_extract]; omega
 have x1 := hx 1 w.size
 have x2 := hx 0 1
 have x3 := hx 2 w.size
 unfold bR.f
 simp only [e1, Option.bind_some]
 by_cases v0 : v = 0
 ·simp only [evP v0, aQ (mQ w (by omega))]
  exact ⟨_, _, _, bq _, by simp, hc1⟩
 simp only [evN v0]
 by_cases v1 : v = 1
 ·refine ⟨([(⟨1, (w.extract 1 w.size) ++ (w.extract 0 1), 0, 0⟩ : S54), (⟨3, (⟨#[]⟩ : ByteArray), 0, 0⟩ : S54)] : List (S54)), i1, h1, ?_, ?_, hc1⟩
  ·rw [evP v1, evP (by omega), evP (by omega), evP (by omega)]
   exact bq _
  ·simp
 simp only [evN v1]
 by_cases v2 : v = 2
 ·refine ⟨([(⟨1, w.extract 0 1, 0, 0⟩ : S54), (⟨1, w.extract 1 w.size, 0, 0⟩ : S54), (⟨4, (⟨#[]⟩ : ByteArray), 0, 1⟩ : S54)] : List (S54)), i1, h1, ?_, ?_, hc1⟩
  ·rw [evP v2, evP (by omega), evP (by omega)]
   exact bq _
  ·simp
 simp only [evN v2]
 by_cases v3 : v = 3
 ·refine ⟨([(⟨1, (w.extract 0 1) ++ (w.extract 2 w.size), 0, 0⟩ : S54), (⟨1, w.extract 1 2, 0, 0⟩ : S54), (⟨5, (⟨#[]⟩ : ByteArray), 0, 1⟩ : S54)] : List (S54)), i1, h1, ?_, ?_, hc1⟩
  ·rw [evP v3, evP (by omega), evP (by omega), evP (by omega), evP (by omega), evP (by omega)]
   exact bq _
  ·simp
 ·simp only [evN v3]
  exact ⟨_, _, _, bq _, by simp, hc1⟩
theorem tV {b : List Int} {i : Int} (h : Int) (d : List S61) (hd : d.length ≤ 40) (w : ByteArray) (hw : 2 ≤ w.size ∧ w.size ≤ 8) (hc : Cur b i) : ∃ s l i' h', Ev (fun k => iM.f k b i h d w) (s, l, i', h') ∧ l.length ≤ 5 ∧ Cur b i' := by
 obtain ⟨v, i1, h1, e1, _, _, _, hc1⟩ := eP h 4 hc
 obtain ⟨l, i2, h2, e2, hl, hc2⟩ := sH h1 w hw hc1
 have hs := mV d w (by omega)
 have hsl := oU _ (qd w) d
 generalize d.flatMap (lQ w) = t at hs hsl
 unfold iM.f
 simp only [e1, Option.bind_some, aQ e2, aQ hs]
 by_cases ht : (t.length : Int) > 0
 ·obtain ⟨q, i3, h3, e3, hc3⟩ := jZ h2 8 hc2
  simp only [evP ht, e3, Option.bind_some]
  cases q with
  | true =>
   simp only [evP rfl]
   exact ⟨_, _, _, _, bq _, hl, hc3⟩
  | false =>
   obtain ⟨u, i4, h4, e4, u0, u1, _, hc4⟩ := eP h3 (t.length : Int) hc3
   have u2 := u1 (by omega)
   refine ⟨rd t u, l, i4, h4, ?_, hl, hc4⟩
   simp only [e4, Option.bind_some]
   rw [evN (by decide), evP u0, evP u2]
   exact bq _
 ·simp only [evN ht]
  exact ⟨_, _, _, _, bq _, hl, hc2⟩
theorem ow {b : List Int} {i : Int} (h : Int) (hc : Cur b i) : ∃ s l d w i' h', Ev (fun k => gu.f k b i h) (s, l, d, w, i', h') ∧ l.length ≤ 5 ∧ d.length ≤ 40 ∧ w.size ≤ 9 ∧ Cur b i' := by
 obtain ⟨d, i1, h1, e1, hd, hc1⟩ := sN h hc
 obtain ⟨w, i2, h2, e2, hw, hc2⟩ := sG h1 hc1
 obtain ⟨s, l, i3, h3, e3, hl, hc3⟩ := tV h2 d hd w hw hc2
 obtain ⟨u, i4, h4, e4, _, _, _, hc4⟩ := eP h3 8 hc3
 unfold gu.f
 simp only [aQ e1, e2, Option.bind_some, aQ e3, e4]
 by_cases u0 : u = 0
 ·obtain ⟨x, i5, h5, e5, _, hc5⟩ := oM h4 hc4
  simp only [evP u0, e5, Option.bind_some]
  exact ⟨_, _, _, _, _, _, bq _, hl, hd, by omega, hc5⟩
 simp only [evN u0]
 by_cases u1 : u = 1
 ·obtain ⟨x, i5, h5, e5, hx, hc5⟩ := uj h4 hc4
  simp only [evP u1, aQ e5]
  exact ⟨_, _, _, _, _, _, bq _, hx, hd, by omega, hc5⟩
 simp only [evN u1]
 by_cases u2 : u = 2
 ·obtain ⟨x, i5, h5, e5, hx, hc5⟩ := qZ h4 hc4
  simp only [evP u2, e5, Option.bind_some]
  exact ⟨_, _, _, _, _, _, bq _, hl, hd, hx, hc5⟩
 ·simp only [evN u2]
  exact ⟨_, _, _, _, _, _, bq _, hl, hd, by omega, hc4⟩
theorem kS (b : List Int) (hb : b.length < 4611686018427387904) : ∃ s l d w, Ev (fun k => dV.f k b) (s, l, d, w) ∧ l.length ≤ 5 ∧ d.length ≤ 40 := by
 obtain ⟨h, e0⟩ := oq b hb
 obtain ⟨s, l, d, w, i1, h1, e1, hl, hd, hw, hc1⟩ := ow h (show Cur b 0 from ⟨hb, Int.le_refl _⟩)
 refine ⟨s, l, d, w, ?_, hl, hd⟩
 unfold dV.f
 simp only [aQ e0, aQ e1]
 exact bq _
theorem nR (b : List Int) (hb : b.length < 4611686018427387904) : ∃ s l d ws w, Ev (fun k => bL.f k b) (s, l, d, ws, w) ∧ l.length ≤ 5 ∧ d.length ≤ 40 ∧ ws.length ≤ 35 := by
 obtain ⟨s, l, d, w, e, hl, hd⟩ := kS b hb
 obtain ⟨h, e0⟩ := oq b hb
 obtain ⟨q, i1, h1, e1, hc1⟩ := jZ h 2 (show Cur b 0 from ⟨hb, Int.le_refl _⟩)
 cases q with
 | true =>
  obtain ⟨ws, hws, hwn, _⟩ := kF
  refine ⟨s, l, d, ws, w, ?_, hl, hd, by omega⟩
  unfold bL.f
  simp only [aQ e, aQ e0, e1, Option.bind_some, if_true, hws]
  exact bq _
 | false =>
  obtain ⟨ws, i2, h2, e2, hws, hc2⟩ := rY h1 hc1
  refine ⟨s, l, d, ws, w, ?_, hl, hd, hws⟩
  unfold bL.f
  simp only [aQ e, aQ e0, e1, Option.bind_some, Bool.false_eq_true, if_false, aQ e2]
  exact bq _
theorem nQ (b : List Int) (hb : b.length < 4611686018427387904) : ∃ s l, Ev (fun k => fG.f k b) (s, l) ∧ l.length ≤ 5 := by
 obtain ⟨h, e0⟩ := oq b hb
 obtain ⟨s, l, d, w, i1, h1, e1, hl, hd, hw, hc1⟩ := ow h (show Cur b 0 from ⟨hb, Int.le_refl _⟩)
 refine ⟨s, l, ?_, hl⟩
 have e2 : Ev (fun k => fU.f k b) (s, l) := by
  unfold fU.f
  simp only [aQ e0, aQ e1]
  exact bq _
 unfold fG.f
 simp only [aQ e2]
 exact bq _
theorem tq (w : ByteArray) : ∀ (l out : List ByteArray), w ∈ l.foldl iU out ↔ w ∈ l ∨ w ∈ out
 | [], out => by simp
 | x :: l, out => by
  rw [List.foldl_cons, tq w l]
  unfold iU
  by_cases h : kX out x = true
  ·rw [if_pos h]
   have := pR.mp h
   constructor
   ·rintro (q | q)
    ·exact .inl (List.mem_cons_of_mem _ q)
    ·exact .inr q
   ·rintro (q | q)
    ·rcases List.mem_cons.mp q with q | q
     ·rw [q]; exact .inr this
     ·exact .inl q
    ·exact .inr q
  ·rw [if_neg h]
   simp only [List.mem_append, List.mem_cons, List.not_mem_nil, or_false]
   constructor
   ·rintro (q | q | q)
    ·exact .inl (.inr q)
    ·exact .inr q
    ·exact .inl (.inl q)
   ·rintro ((q | q) | q)
    ·exact .inr (.inr q)
    ·exact .inl q
    ·exact .inr (.inl q)
theorem rU (b : List Int) (hb : b.length < 4611686018427387904) : Ev (fun k => bg.j3 k b false) true := by
 obtain ⟨s, l, e, hl⟩ := nQ b hb
 have ht := nE s l (by omega)
 have hc := iJ s l (by omega)
 rw [← aU]
 simp only [bg.j3]
 rw [evN (by decide), aQ e]
 dsimp only
 rw [aQ ht]
 by_cases h0 : (lS s l).toList = ([] : List UInt8)
 ·rw [evP h0]
  exact bq _
 ·rw [evN h0]
  by_cases hcl : ji s l = true
  ·rw [hcl] at hc
   rw [aQ hc]
   exact bq _
  ·exfalso
   apply h0
   unfold lS
   rw [if_neg hcl]
   exact toList_nil.mpr rfl
theorem sS (b : List Int) (hb : b.length < 4611686018427387904) : Ev (fun k => bg.j2 k b false) true := by
 obtain ⟨s, l, d, w, e, hl, hd⟩ := kS b hb
 have hf := jg s l d w (by omega) (by omega)
 have hc := iJ s l (by omega)
 have hh := jh d w s (by omega)
 have hm := jR l w (by omega)
 have hj := rU b hb
 rw [← aU]
 simp only [bg.j2]
 rw [evN (by decide), aQ e]
 dsimp only
 rw [aQ hf]
 by_cases h : jN s l d w = true
 ·have h' := h
  unfold jN at h'
  by_cases c1 : ji s l = true
  ·rw [if_pos c1] at h'
   by_cases c2 : hasB d w s = true
   ·rw [if_pos c2] at h'
    rw [c1] at hc
    rw [c2] at hh
    rw [h'] at hm
    rw [evP h, aQ hc, evP rfl, aQ hh, evP rfl, aQ hm]
    exact hj
   ·rw [if_neg c2] at h'
    cases h'
  ·rw [if_neg c1] at h'
   cases h'
 ·rw [evN h]
  exact hj
theorem qz : bg.Pure := by
 intro b hb1 hb2 hb3
 refine Ev.rounds ?_
 unfold bg.f kr.f
 simp only [Option.bind_some]
 by_cases hbig : decide ((b.length : Int) > 1048576) = true
 ·rw [evP hbig]
  exact bq _
 rw [evN hbig]
 have hlen : b.length < 4611686018427387904 := by
  rw [decide_eq_true_iff] at hbig
  omega
 have hj2 := sS b hlen
 obtain ⟨s, l, d, ws, w, e, hl, hd, hws⟩ := nR b hlen
 have g1 := ny s l d ws w (by omega) (by omega) (by omega)
 have g2 := jP s l d ws (by omega) (by omega) (by omega)
 have hm : ∀ x, x ∈ lW (ws.filter (jN s l d)) ↔ x ∈ ws ∧ jN s l d x = true := fun x => by
  unfold lW
  rw [tq]
  simp [List.mem_filter]
 have hal := Nat.le_trans (uY (ws.filter (jN s l d))) (List.length_filter_le _ _)
 have hu := jK l (by omega)
 have hul := qb l
 have huw := kQ (mo l) w (by omega)
 have hfair : (nI s l d ws w == 0) = (decide (lW (ws.filter (jN s l d)) = [w]) && !kX (mo l) w) := by
  rw [Bool.eq_iff_iff, beq_iff_eq, Bool.and_eq_true, decide_eq_true_iff]
  unfold nI
  constructor
  ·intro h
   split at h
   ·split at h
    ·split at h
     ·split at h
      ·cases h
      ·rename_i _ _ _ k
       split at h
       ·rename_i k2
        exact ⟨k2, by rw [Bool.eq_false_iff.mpr k]; rfl⟩
       ·cases h
     ·cases h
    ·cases h
   ·cases h
  ·rintro ⟨h1, h2⟩
   have hw := (hm w).mp (by rw [h1]; simp)
   have hf := hw.2
   unfold jN at hf
   by_cases c1 : ji s l = true
   ·rw [if_pos c1] at hf ⊢
    by_cases c2 : hasB d w s = true
    ·rw [if_pos c2] at hf ⊢
     rw [if_pos hf]
     have c3 : ¬ kX (mo l) w = true := by
      intro q
      rw [q] at h2
      cases h2
     rw [if_neg c3, if_pos h1]
    ·rw [if_neg c2] at hf
     cases hf
   ·rw [if_neg c1] at hf
    cases hf
 have hrange : 0 ≤ nI s l d ws w ∧ nI s l d ws w ≤ 5 := by
  unfold nI
  split
  ·split
   ·split
    ·split
     ·omega
     ·split <;> omega
    ·omega
   ·omega
  ·omega
 generalize nI s l d ws w = f at g1 hfair hrange
 generalize lW (ws.filter (jN s l d)) = A at g2 hm hal hfair
 have hname : ∃ t : ByteArray, iE.f f = some t ∧ (t.toList == ([] : List UInt8)) = false := by
  have hc : f = 0 ∨ f = 1 ∨ f = 2 ∨ f = 3 ∨ f = 4 ∨ f = 5 := by omega
  rcases hc with q | q | q | q | q | q <;> subst q <;> exact ⟨_, rfl, by decide +kernel⟩
 obtain ⟨t, ht, htn⟩ := hname
 have hj1 : ∀ q, (f == 0) = q → Ev (fun k => bg.j1 k b f q) true := by
  intro q hq
  rw [← aU]
  simp only [bg.j1, ht, Option.bind_some, htn]
  rw [hq, bne_self_eq_false, evN (by decide)]
  exact hj2
 simp only [aQ e, aQ g1, aQ g2]
 refine jV (fun k i => bg.l0 k b d ws w f A i s l) ws.length (fun _ => true) ?_ (fun i hi => .inr ⟨rfl, fun r hr => ?_⟩) 0 (Nat.zero_le _)
 ·rw [← aU]
  simp only [bg.l0]
  rw [evN (by omega)]
  by_cases hl1 : (A.length : Int) = 1
  ·obtain ⟨x, hx⟩ := List.length_eq_one_iff.mp (by omega : A.length = 1)
   subst hx
   have hr0 : fP ByteArray.empty [x] 0 = x := rfl
   rw [evP hl1, evP (by simp), hr0]
   by_cases hxw : x = w
   ·rw [evP (toList_eq.mpr hxw), aQ hu, aQ huw]
    refine hj1 _ ?_
    rw [hfair, hxw]
    simp
   ·rw [evN (fun q => hxw (toList_eq.mp q))]
    refine hj1 _ ?_
    rw [hfair, decide_eq_false (fun q => hxw (List.cons.inj q).1)]
    rfl
  ·rw [evN hl1]
   refine hj1 _ ?_
   rw [hfair, decide_eq_false (fun q => hl1 (by rw [q]; rfl))]
   rfl
 ·have f1 := kQ A ws[i] (by omega)
  have f2 := jg s l d ws[i] (by omega) (by omega)
  have f3 : kX A ws[i] = jN s l d ws[i] := by
   rw [Bool.eq_iff_iff, pR, hm]
   exact ⟨fun h => h.2, fun h => ⟨List.getElem_mem _, h⟩⟩
  rw [f3] at f1
  rw [← aU]
  simp only [bg.l0, jG ByteArray.empty ws i hi, fF (i := i) (by omega)]
  rw [evP (by omega), evP (by omega), aQ f1, aQ f2, bne_self_eq_false, evN (by decide)]
  exact hr
end Go.Proofs.YthjcicmmbmagbaaGreatDoor.Pure
