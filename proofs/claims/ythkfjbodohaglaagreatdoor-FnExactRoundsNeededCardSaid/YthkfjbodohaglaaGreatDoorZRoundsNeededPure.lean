/- The program's RoundsNeeded returns what the reference's returns, for every argument; no further condition. -/
import Derived.Test.YthkfjbodohaglaaGreatDoorZRoundsNeededQ
import Derived.Test.YthkfjbodohaglaaGreatDoorZRoundsNeededEv
namespace Go.Proofs.YthkfjbodohaglaaGreatDoor.Pure
open Go.RowKit Go.Proofs.YthkfjbodohaglaaGreatDoor.PFnExactRoundsNeeded Go.Proofs.YthkfjbodohaglaaGreatDoorW.PrintWords Go.Proofs.YthkfjbodohaglaaGreatDoorW.PrintLast Go.Proofs.YthkfjbodohaglaaGreatDoorW.PrintMore Go.Proofs.YthkfjbodohaglaaGreatDoor.Sem
set_option linter.unusedVariables false
set_option linter.unusedSimpArgs false
theorem Db (xs : List nu) (i : Nat) (h : i < xs.length) : gM xs (i : Int) = xs[i] := by
 simp [gM, List.getD_eq_getElem?_getD, List.getElem?_eq_getElem h]
theorem EL (xs : List S81) (i : Nat) (h : i < xs.length) : kD xs (i : Int) = xs[i] := by
 simp [kD, List.getD_eq_getElem?_getD, List.getElem?_eq_getElem h]
theorem EK (xs : List S57) (i : Nat) (h : i < xs.length) : lT xs (i : Int) = xs[i] := by
 simp [lT, List.getD_eq_getElem?_getD, List.getElem?_eq_getElem h]
theorem Da (xs : List dD) (i : Nat) (h : i < xs.length) : aj xs (i : Int) = xs[i] := by
 simp [aj, List.getD_eq_getElem?_getD, List.getElem?_eq_getElem h]
theorem sQ (xs : List S72) (i : Nat) (h : i < xs.length) : fO xs (i : Int) = xs[i] := by
 simp [fO, List.getD_eq_getElem?_getD, List.getElem?_eq_getElem h]
theorem Dc (xs : List S62) (i : Nat) (h : i < xs.length) : gy xs (i : Int) = xs[i] := by
 simp [gy, List.getD_eq_getElem?_getD, List.getElem?_eq_getElem h]
theorem ng (xs : List S92) (i : Nat) (h : i < xs.length) : aQ xs (i : Int) = xs[i] := by
 simp [aQ, List.getD_eq_getElem?_getD, List.getElem?_eq_getElem h]
theorem CZ (xs : List (List Int)) (i : Nat) (h : i < xs.length) : iQ xs (i : Int) = xs[i] := by
 simp [iQ, List.getD_eq_getElem?_getD, List.getElem?_eq_getElem h]
theorem lK (a b c : Int) : bB.f a b c = some (decide (b ≤ a ∧ a ≤ c)) := by
 unfold bB.f
 by_cases h : b ≤ a <;> simp [h]
theorem kR (a b c : Int) : dh.f a b c = some (decide (b ≤ a ∧ a ≤ c)) := by
 unfold dh.f
 by_cases h : b ≤ a <;> simp [h]
theorem at_eq (a b : Int) : lI.f a b = some (decide (0 ≤ a ∧ a < b)) := by
 unfold lI.f
 by_cases h : 0 ≤ a <;> simp [h]
theorem mH (a : Int) : eG.f a = some (decide (97 ≤ a ∧ a ≤ 122)) := by
 unfold eG.f
 by_cases h : 97 ≤ a <;> simp [h]
theorem FL (l : List Int) (hl : l.length < 4611686018427387904) : Ev (fun k => gQ.f k l l) true := by
 unfold gQ.f
 rw [ep rfl]
 refine gq (jE (fun k i => gQ.l0 k l l i) l (fun _ => true) ?_ (fun i hi hp r hr => ?_) (fun i hi hp => by cases hp)) (by simp)
 ·rw [← au]; simp [gQ.l0, aI]
 ·rw [← au]
  simp only [gQ.l0, bD (i := i) (by omega)]
  simp [aA, hi]
  exact hr
theorem Gs (l : List Int) (hl : l.length ≤ 17592186044416) : Ev (fun k => gB.f k l) l := by
 unfold gB.f
 rw [ep, ep]
 refine gq (qb (fun k s i => gB.l0 k l s i) l id 0 (fun s hs => ?_) (fun i hi s hs r hr => ?_)) (by simp)
 ·rw [← au]
  simp [gB.l0, aI]
 ·rw [← au]
  simp only [gB.l0, mZ l i hi, bD (i := i) (by omega)]
  simp [aA, hi, hs]
  exact hr
theorem Dp (l : List ByteArray) (hl : l.length < 4611686018427387904) (hs : ∀ x ∈ l, x.size ≤ 140737488351232) (a : Int) (ha : 0 ≤ a) (ha' : a ≤ 1048576) : ∃ r, Ev (fun k => eX.f k l a) r ∧ r ≤ 1048576 := by
 unfold eX.f
 have w1 : wrap64 (a - (l.length : Int)) = a - l.length := kL (by omega) (by omega)
 simp only [aA, dQ, w1]
 by_cases h : a - (l.length : Int) < 0
 ·exact ⟨-1, by simp [h]⟩
 ·simp only [h, if_false]
  refine rF (fun k b i => eX.l0 k l b i) l 1048576 (fun b => ?_) (fun i hi b hb hb' => ?_) _ (by omega) (by omega)
  ·rw [← au]
   simp only [eX.l0]
   rw [en]
   exact aI _
  ·have hsz := hs _ (List.getElem_mem hi)
   have w3 : wrap64 (b - (l[i].size : Int)) = b - l[i].size := kL (by omega) (by omega)
   by_cases h2 : b - (l[i].size : Int) < 0
   ·refine .inl ?_
    rw [← au]
    simp only [eX.l0, kK ByteArray.empty l i hi, bD (i := i) (by omega), w3]
    simp [aA, dQ, hi, h2]
   ·refine .inr ⟨b - l[i].size, by omega, by omega, fun r hr => ?_⟩
    rw [← au]
    simp only [eX.l0, kK ByteArray.empty l i hi, bD (i := i) (by omega), w3]
    rw [ep, ep, en h2]
    exact hr
theorem Dq (l : List ByteArray) (hl : l.length ≤ 8796093022208) : Ev (fun k => dB.f k l) l := by
 unfold dB.f
 rw [ep, ep]
 refine gq (qb (fun k s i => dB.l0 k l s i) l id (⟨#[]⟩ : ByteArray) (fun s hs => ?_) (fun i hi s hs r hr => ?_)) (by simp)
 ·rw [← au]
  simp [dB.l0, aI]
 ·rw [← au]
  simp only [dB.l0, kK ByteArray.empty l i hi, bD (i := i) (by omega)]
  simp [aA, hi, hs]
  exact hr
theorem CK (l : List ByteArray) (hl : l.length < 4611686018427387904) : Ev (fun k => fA.f k l l) true := by
 unfold fA.f
 rw [ep rfl]
 refine gq (jE (fun k i => fA.l0 k l l i) l (fun _ => true) ?_ (fun i hi hp r hr => ?_) (fun i hi hp => by cases hp)) (by simp)
 ·rw [← au]; simp [fA.l0, aI]
 ·rw [← au]
  simp only [fA.l0, bD (i := i) (by omega)]
  simp [aA, hi]
  exact hr
theorem BQ (l : List S57) (hl : l.length < 4611686018427387904) (hs : ∀ x ∈ l, x.f0.size ≤ 140737488351232) (a : Int) (ha : 0 ≤ a) (ha' : a ≤ 1048576) : ∃ r, Ev (fun k => eu.f k l a) r ∧ r ≤ 1048576 := by
 unfold eu.f
 have w1 : wrap64 (a - (l.length : Int)) = a - l.length := kL (by omega) (by omega)
 simp only [aA, dQ, w1]
 by_cases h : a - (l.length : Int) < 0
 ·exact ⟨-1, by simp [h]⟩
 ·simp only [h, if_false]
  refine rF (fun k b i => eu.l0 k l b i) l 1048576 (fun b => ?_) (fun i hi b hb hb' => ?_) _ (by omega) (by omega)
  ·rw [← au]
   simp only [eu.l0]
   rw [en]
   exact aI _
  ·have hsz := hs _ (List.getElem_mem hi)
   have w3 : wrap64 (b - (l[i].f0.size : Int)) = b - l[i].f0.size := kL (by omega) (by omega)
   by_cases h2 : b - (l[i].f0.size : Int) < 0
   ·refine .inl ?_
    rw [← au]
    simp only [eu.l0, jD.f, EK l i hi, bD (i := i) (by omega), w3, if_pos h2, Option.bind_some]
    simp [aA, dQ, hi]
   ·refine .inr ⟨b - l[i].f0.size, by omega, by omega, fun r hr => ?_⟩
    rw [← au]
    simp only [eu.l0, jD.f, EK l i hi, bD (i := i) (by omega), w3, if_neg h2, Option.bind_some]
    rw [ep, ep]
    exact hr
def oD (x : S57) : S62 := ⟨x.f0, x.f1⟩
theorem BR (l : List S57) (hl : l.length ≤ 5864062014805) : Ev (fun k => cO.f k l) (l.map oD) := by
 unfold cO.f
 rw [ep, ep]
 refine qb (fun k s i => cO.l0 k l s i) l oD z62 (fun s hs => ?_) (fun i hi s hs r hr => ?_)
 ·rw [← au]
  simp [cO.l0, aI]
 ·rw [← au]
  simp only [cO.l0, lu.f, EK l i hi, bD (i := i) (by omega), Option.bind_some]
  simp [aA, hi, hs]
  exact hr
theorem Br (l : List S62) (hl : l.length < 4611686018427387904) : Ev (fun k => bS.f k l l) true := by
 unfold bS.f
 rw [ep rfl]
 refine gq (jE (fun k i => bS.l0 k l l i) l (fun _ => true) ?_ (fun i hi hp r hr => ?_) (fun i hi hp => by cases hp)) (by simp)
 ·rw [← au]; simp [bS.l0, aI]
 ·rw [← au]
  simp only [bS.l0, jX.f, bD (i := i) (by omega)]
  simp [aA, hi]
  exact hr
def kQ (c : Int) : Bool := decide (97 ≤ c ∧ c ≤ 122)
def gL (s : ByteArray) : Bool := decide (1 ≤ s.size ∧ s.size ≤ 8) && (bytesOf s).all kQ
theorem gG {s : ByteArray} (h : gL s = true) : 1 ≤ s.size ∧ s.size ≤ 8 := by
 simp [gL] at h
 exact h.1
theorem Ay {s : ByteArray} (h : gL s = true) : ∀ c ∈ bytesOf s, 97 ≤ c ∧ c ≤ 122 := by
 simp [gL, kQ] at h
 exact h.2
theorem gX (s : ByteArray) : Ev (fun k => bC.f k s) (gL s) := by
 simp only [bC.f, lK, Option.bind_some, aA, decide_eq_true_eq, gL]
 by_cases h : (1 : Int) ≤ s.size ∧ (s.size : Int) ≤ 8
 ·rw [if_pos h]
  have h' : 1 ≤ s.size ∧ s.size ≤ 8 := by omega
  simp only [h', decide_true, Bool.true_and, and_self]
  refine jE (fun k i => bC.l0 k s i) (bytesOf s) kQ ?_ (fun i hi hp r hr => ?_) (fun i hi hp => ?_)
  ·rw [← au]; simp [bC.l0, bytesOf_length, aI]
  ·have hi' : i < s.size := by rw [bytesOf_length] at hi; exact hi
   rw [← au]
   simp [kQ] at hp
   simp only [bC.l0, jW s i hi', bD (i := i) (by omega)]
   rw [ep, ep, en, en]
   exact hr
  ·have hi' : i < s.size := by rw [bytesOf_length] at hi; exact hi
   rw [← au]
   simp [kQ] at hp
   simp only [bC.l0, jW s i hi', bD (i := i) (by omega)]
   rw [ep, ep, aA]
   by_cases h1 : (bytesOf s)[i] < 97
   ·rw [if_pos h1]; exact aI _
   ·rw [if_neg h1, ep]; exact aI _
 ·rw [if_neg h]
  have h' : ¬ (1 ≤ s.size ∧ s.size ≤ 8) := by omega
  simp [h', aI]
theorem gW (s : ByteArray) : Ev (fun k => bK.f k s) (gL s) := by
 simp only [bK.f, kR, Option.bind_some, aA, decide_eq_true_eq, gL]
 by_cases h : (1 : Int) ≤ s.size ∧ (s.size : Int) ≤ 8
 ·rw [if_pos h]
  have h' : 1 ≤ s.size ∧ s.size ≤ 8 := by omega
  simp only [h', decide_true, Bool.true_and, and_self]
  refine jE (fun k i => bK.l0 k s (s.size : Int) i) (bytesOf s) kQ ?_ (fun i hi hp r hr => ?_) (fun i hi hp => ?_)
  ·rw [← au]; simp [bK.l0, bytesOf_length, aI]
  ·have hi' : i < s.size := by rw [bytesOf_length] at hi; exact hi
   rw [← au]
   simp [kQ] at hp
   simp only [bK.l0, jW s i hi', bD (i := i) (by omega), mH, Option.bind_some]
   rw [ep, ep, ep, ep (by simpa using hp)]
   exact hr
  ·have hi' : i < s.size := by rw [bytesOf_length] at hi; exact hi
   rw [← au]
   simp only [kQ] at hp
   simp only [bK.l0, jW s i hi', bD (i := i) (by omega), mH, Option.bind_some]
   rw [ep, ep, ep, en (by rw [hp]; decide)]
   exact aI _
 ·rw [if_neg h]
  have h' : ¬ (1 ≤ s.size ∧ s.size ≤ 8) := by omega
  simp [h', aI]
def FM (w : ByteArray) (s : Int) (x : S62) : Bool := decide (x.f0 = w ∧ x.f1 = s)
def hasB (l : List S62) (w : ByteArray) (s : Int) : Bool := l.any (FM w s)
theorem uX (l : List S62) (w : ByteArray) (s : Int) (hl : l.length < 4611686018427387904) : Ev (fun k => fE.f k l w s) (hasB l w s) := by
 refine oJ (fun k i => fE.l0 k l w s i) l _ ?_ (fun i hi hp r hr => ?_) (fun i hi hp => ?_)
 ·rw [← au]; simp [fE.l0, aI]
 ·rw [← au]
  simp only [fE.l0, Dc l i hi, bD (i := i) (by omega), toList_eq]
  simp [FM] at hp
  simp [aA, hi]
  split
  ·rw [if_neg (hp ‹_›)]; exact hr
  ·exact hr
 ·rw [← au]
  simp only [fE.l0, Dc l i hi, bD (i := i) (by omega), toList_eq]
  simp [FM] at hp
  simp [aA, hi, hp, aI]
theorem FV (l : List S62) (w : ByteArray) (s : Int) (hl : l.length < 4611686018427387904) : Ev (fun k => dX.f k l w s) (match l.findIdx? (FM w s) with | some i => (i : Int) | none => -1) := by
 refine rE (fun k i => dX.l0 k l (l.length : Int) i w s) l _ ?_ (fun i hi hp r hr => ?_) (fun i hi hp => ?_)
 ·rw [← au]; simp [dX.l0, aI]
 ·rw [← au]
  simp only [dX.l0, Dc l i hi, bD (i := i) (by omega), jG]
  simp [FM] at hp
  simp [aA, hi]
  rw [if_neg (by intro h; exact hp h.1.symm h.2.symm)]
  exact hr
 ·rw [← au]
  simp only [dX.l0, Dc l i hi, bD (i := i) (by omega), jG]
  simp [FM] at hp
  simp [aA, hi, hp, aI]
theorem IU {α : Type} (l : List α) (p : α → Bool) : decide ((match l.findIdx? p with | some i => (i : Int) | none => -1) ≥ 0) = l.any p := by
 cases h : l.findIdx? p with
 | none =>
  have := List.findIdx?_eq_none_iff.1 h
  simp
  intro x hx
  simpa using this x hx
 | some i =>
  obtain ⟨h1, h2, _⟩ := List.findIdx?_eq_some_iff_getElem.1 h
  simp
  exact ⟨l[i], List.getElem_mem h1, h2⟩
theorem CG (l : List S62) (w : ByteArray) (s : Int) (hl : l.length < 4611686018427387904) : Ev (fun k => iV.f k l w s) (hasB l w s) := by
 unfold iV.f
 rw [av (FV l w s hl), IU]
 exact aI _
theorem uO (l : List S62) (w : ByteArray) (s : Int) (hl : l.length < 4611686018427387904) : Ev (fun k => gN.f k l w s) (hasB l w s) := by
 unfold gN.f
 rw [av (CG l w s hl)]
 exact aI _
theorem EX (l : List nu) (hl : l.length < 4611686018427387904) (hs : ∀ x ∈ l, x.f1.size ≤ 140737488351232) (a : Int) (ha : 0 ≤ a) (ha' : a ≤ 1048576) : ∃ r, Ev (fun k => fZ.f k l a) r ∧ r ≤ 1048576 := by
 unfold fZ.f
 have w1 : wrap64 (a - (l.length : Int)) = a - l.length := kL (by omega) (by omega)
 simp only [aA, dQ, w1]
 by_cases h : a - (l.length : Int) < 0
 ·exact ⟨-1, by simp [h]⟩
 ·simp only [h, if_false]
  refine rF (fun k b i => fZ.l0 k l b i) l 1048576 (fun b => ?_) (fun i hi b hb hb' => ?_) _ (by omega) (by omega)
  ·rw [← au]
   simp only [fZ.l0]
   rw [en]
   exact aI _
  ·have hsz := hs _ (List.getElem_mem hi)
   have w3 : wrap64 (b - (l[i].f1.size : Int)) = b - l[i].f1.size := kL (by omega) (by omega)
   by_cases h2 : b - (l[i].f1.size : Int) < 0
   ·refine .inl ?_
    rw [← au]
    simp only [fZ.l0, lg.f, Db l i hi, bD (i := i) (by omega), w3, if_pos h2, Option.bind_some]
    simp [aA, dQ, hi]
   ·refine .inr ⟨b - l[i].f1.size, by omega, by omega, fun r hr => ?_⟩
    rw [← au]
    simp only [fZ.l0, lg.f, Db l i hi, bD (i := i) (by omega), w3, if_neg h2, Option.bind_some]
    rw [ep, ep]
    exact hr
def toStep (x : nu) : dD := ⟨x.f0, x.f1, x.f2, x.f3⟩
theorem Fa (l : List nu) (hl : l.length ≤ 3518437208883) : Ev (fun k => fJ.f k l) (l.map toStep) := by
 unfold fJ.f
 rw [ep, ep]
 refine qb (fun k s i => fJ.l0 k l s i) l toStep Dt (fun s hs => ?_) (fun i hi s hs r hr => ?_)
 ·rw [← au]
  simp [fJ.l0, aI]
 ·rw [← au]
  simp only [fJ.l0, mM.f, Db l i hi, bD (i := i) (by omega), Option.bind_some]
  simp [aA, hi, hs]
  exact hr
theorem EC (l : List dD) (hl : l.length < 4611686018427387904) : Ev (fun k => dM.f k l l) true := by
 unfold dM.f
 rw [ep rfl]
 refine gq (jE (fun k i => dM.l0 k l l i) l (fun _ => true) ?_ (fun i hi hp r hr => ?_) (fun i hi hp => by cases hp)) (by simp)
 ·rw [← au]; simp [dM.l0, aI]
 ·rw [← au]
  simp only [dM.l0, mJ.f, bD (i := i) (by omega)]
  simp [aA, hi]
  exact hr
theorem Gn (a0 : Int) (l : List nu) (hl : l.length < 4611686018427387904) (hs : ∀ x ∈ l, x.f1.size ≤ 140737488351232) (a : Int) (ha : 0 ≤ a) (ha' : a ≤ 1048576) : ∃ r, Ev (fun k => kX.f k a0 l a) r ∧ r ≤ 1048576 := by
 obtain ⟨r, hr, hb⟩ := EX l hl hs a ha ha'
 unfold kX.f
 by_cases h : r < 0
 ·exact ⟨-1, by rw [av hr, ep h]; exact aI _, by omega⟩
 ·exact ⟨r, by rw [av hr, en h]; exact aI _, hb⟩
theorem Gr (a0 : Int) (l : List nu) (hl : l.length ≤ 3518437208883) : Ev (fun k => lq.f k a0 l) (a0, l.map toStep) := by
 unfold lq.f
 rw [av (Fa l hl)]
 exact aI _
theorem FJ (a0 : Int) (l : List dD) (hl : l.length < 4611686018427387904) : Ev (fun k => kW.f k a0 l a0 l) true := by
 unfold kW.f
 rw [ep rfl, av (EC l hl), ep rfl]
 exact aI _
def AL (l : List dD) (i : Nat) (two : Bool) (kind A B : Int) : Bool :=
 if kind = 1 then decide (A = 0 ∧ B = 0) else decide (0 ≤ A ∧ A < i) && (if two = true then decide (0 ≤ B ∧ B < i) else decide (B = 0) && (decide (kind = 2) || decide ((aj l A).f0 = 1)))
def nH (l : List dD) (i : Nat) : Bool :=
 decide (1 ≤ (aj l i).f0 ∧ (aj l i).f0 ≤ 9) && ((if (aj l i).f0 = 1 then gL (aj l i).f1 else decide ((aj l i).f1.size = 0)) && AL l i (decide ((aj l i).f0 = 4 ∨ (aj l i).f0 = 5)) (aj l i).f0 (aj l i).f2 (aj l i).f3)
theorem DL (l : List dD) (i : Nat) (hi : i < l.length) (hl : l.length < 4611686018427387904) (two : Bool) (kind : Int) (word : ByteArray) (A B : Int) : Ev (fun k => fu.j1 k l (i : Int) two kind word A B) (AL l i two kind A B) := by
 have e : wrap64 ((i : Int) - 1) = i - 1 := kL (by omega) (by omega)
 rw [← au]
 simp only [fu.j1, lK, Option.bind_some, e, AL, aA]
 by_cases h1 : kind = 1
 ·by_cases h2 : A = 0 <;> simp [h1, h2, dQ] <;> rfl
 ·rw [if_neg h1, if_neg h1]
  by_cases h2 : 0 ≤ A ∧ A < (i : Int)
  ·have h2' : 0 ≤ A ∧ A ≤ (i : Int) - 1 := by omega
   simp only [h2, h2', and_self, decide_true, if_true, Bool.true_and]
   cases two
   ·simp only [Bool.false_eq_true, if_false]
    by_cases h3 : B = 0
    ·by_cases h4 : kind = 2
     ·simp [h3, h4, dQ]
     ·simp only [h3, h4, if_true, if_false, decide_true, decide_false, Bool.true_and, Bool.false_or]
      rw [if_pos (by omega), dQ]
      rfl
    ·simp [h3, dQ]
   ·simp only [if_true]
    by_cases h3 : 0 ≤ B ∧ B < (i : Int)
    ·have h3' : 0 ≤ B ∧ B ≤ (i : Int) - 1 := by omega
     simp [h3, h3', dQ]
    ·have h3' : ¬ (0 ≤ B ∧ B ≤ (i : Int) - 1) := by omega
     simp [h3, h3', dQ]
  ·have h2' : ¬ (0 ≤ A ∧ A ≤ (i : Int) - 1) := by omega
   simp [h2, h2', dQ]
theorem qP (l : List dD) (i : Nat) (hi : i < l.length) (hl : l.length < 4611686018427387904) (b : Bool) (kind : Int) (word : ByteArray) (A B : Int) : Ev (fun k => fu.j0 k l (i : Int) b kind word A B) (!b && AL l i (decide (kind = 4 ∨ kind = 5)) kind A B) := by
 rw [← au]
 simp only [fu.j0, aA]
 cases b
 ·simp only [Bool.false_eq_true, if_false, Bool.not_false, Bool.true_and]
  by_cases h : kind = 4
  ·simp only [h, if_true, true_or, decide_true]
   exact DL l i hi hl _ _ _ _ _
  ·simp only [h, if_false, false_or]
   have := DL l i hi hl (kind == 5) kind word A B
   exact this
 ·simp [dQ]
theorem BO (l : List dD) (i : Nat) (hi : i < l.length) (hl : l.length < 4611686018427387904) : Ev (fun k => fu.f k l (i : Int)) (nH l i) := by
 unfold fu.f
 rw [ep, ep]
 simp only [lK, Option.bind_some, decide_eq_true_eq]
 unfold nH
 generalize aj l (i : Int) = s
 rw [aA]
 by_cases h1 : 1 ≤ s.f0 ∧ s.f0 ≤ 9
 ·rw [if_pos h1, av (gX s.f1), aA]
  simp only [h1, and_self, decide_true, Bool.true_and]
  by_cases h2 : s.f0 = 1
  ·simp only [h2, beq_self_eq_true, if_true, aA]
   cases hw : gL s.f1
   ·simp only [Bool.true_bne, Bool.not_false, if_true]
    exact gq (qP l i hi hl _ _ _ _ _) (by simp)
   ·simp only [Bool.true_bne, Bool.not_true, Bool.false_eq_true, if_false]
    exact gq (qP l i hi hl _ _ _ _ _) (by simp)
  ·have h2' : (s.f0 == 1) = false := by simpa using h2
   simp only [h2, h2', if_false, aA, Bool.false_bne]
   cases hw : gL s.f1
   ·simp only [Bool.false_eq_true, if_false]
    refine gq (qP l i hi hl _ _ _ _ _) ?_
    congr 1
    rw [Bool.eq_iff_iff]
    simp [bne, toList_nil]
   ·have hz : ¬ s.f1.size = 0 := by have := gG hw; omega
    simp only [if_true]
    exact gq (qP l i hi hl _ _ _ _ _) (by simp [hz])
 ·rw [if_neg h1]
  simp only [h1, decide_false, Bool.false_and]
  exact gq (qP l i hi hl _ _ _ _ _) (by simp)
def lX (l : List dD) : Bool := decide (1 ≤ l.length ∧ l.length ≤ 9) && (List.range l.length).all (nH l)
theorem wh {l : List dD} (h : lX l = true) : 1 ≤ l.length ∧ l.length ≤ 9 := by
 simp [lX] at h
 exact h.1
theorem ug {l : List dD} (h : lX l = true) (i : Nat) (hi : i < l.length) : nH l i = true := by
 simp [lX] at h
 exact h.2 i hi
theorem qV (l : List dD) (hl : l.length < 4611686018427387904) : Ev (fun k => dA.f k l) (lX l) := by
 unfold dA.f
 have hend : ∀ i : Nat, Ev (fun k => dA.j1 k l (i : Int) false) (decide (1 ≤ l.length ∧ l.length ≤ 9)) := by
  intro i
  rw [← au]
  simp only [dA.j1, lK, Option.bind_some, Bool.false_eq_true, if_false, dQ]
  rw [Bool.eq_iff_iff]
  simp
  omega
 have := mW (fun k i => dA.l0 k l i) l.length (fun i => decide (1 ≤ l.length ∧ l.length ≤ 9) && ((List.range l.length).drop i).all (nH l)) ?_ (fun i hi => ?_) 0 (Nat.zero_le _)
 ·simpa [lX] using this
 ·rw [← au]
  simp only [dA.l0]
  rw [en, List.drop_eq_nil_of_le (by simp)]
  simpa using hend l.length
 ·have hd : (List.range l.length).drop i = i :: (List.range l.length).drop (i + 1) := by rw [List.drop_eq_getElem_cons (by simpa using hi)]; simp
  by_cases h9 : l.length ≤ 9
  ·have hu : ∀ r, Ev (fun k => dA.l0 k l (i : Int)) r ↔ if nH l i = true then Ev (fun k => dA.l0 k l ((i + 1 : Nat) : Int)) r else Ev (fun _ => some false) r := by
    intro r
    have h9' : decide ((l.length : Int) ≤ 9) = true := by simp; omega
    rw [← au]
    simp only [dA.l0, h9']
    rw [ep, ← au]
    simp only [dA.j1, if_true, bD (i := i) (by omega)]
    rw [av (BO l i hi hl), aA]
   rw [hd, List.all_cons]
   by_cases ho : nH l i = true
   ·refine .inr ⟨by simp [ho], fun r hr => ?_⟩
    rw [hu, if_pos ho]
    exact hr
   ·refine .inl ?_
    rw [hu, if_neg ho, dQ]
    simp [ho]
  ·refine .inl ?_
   have h9' : decide ((l.length : Int) ≤ 9) = false := by simp; omega
   rw [← au]
   simp only [dA.l0, h9']
   rw [ep]
   exact gq (hend i) (by simp [h9])
theorem FX (a : Int) : jc.f a = some (decide (a = 4 ∨ a = 5)) := by
 unfold jc.f
 by_cases h : a = 4
 ·simp [h]
 ·simp [h]; rfl
theorem CU (a : Int) : jB.f a = some (decide (a = 3 ∨ a ≥ 6)) := by
 unfold jB.f
 by_cases h : a = 3 <;> simp [h]
theorem Av (l : List dD) (i : Nat) (hi : i < l.length) (hl : l.length < 4611686018427387904) (b : Bool) (kind : Int) (word : ByteArray) (A B : Int) (r : Bool) :
  Ev (fun k => bV.j1 k l (i : Int) l (l.length : Int) (i : Int) b kind word A B) r ↔ if (!b && (if kind = 4 ∨ kind = 5 then decide (0 ≤ B ∧ B < i) else decide (B = 0))) = true then Ev (fun k => bV.l0 k l l (l.length : Int) ((i + 1 : Nat) : Int)) r else Ev (fun _ => some false) r := by
 rw [← au]
 simp only [bV.j1, FX, at_eq, Option.bind_some, bD (i := i) (by omega), aA, decide_eq_true_eq]
 cases b
 ·by_cases h : kind = 4 ∨ kind = 5
  ·by_cases h2 : 0 ≤ B ∧ B < (i : Int) <;> simp [h, h2]
  ·by_cases h2 : B = 0 <;> simp [h, h2]
 ·simp
theorem wu (l : List dD) (i : Nat) : nH l i = (decide (1 ≤ (aj l i).f0 ∧ (aj l i).f0 ≤ 9) && (if (aj l i).f0 = 1 then gL (aj l i).f1 && decide ((aj l i).f2 = 0 ∧ (aj l i).f3 = 0)
  else decide ((aj l i).f1.size = 0) && (decide (0 ≤ (aj l i).f2 ∧ (aj l i).f2 < i) && (!(decide ((aj l i).f0 = 3 ∨ (aj l i).f0 ≥ 6) && decide (¬ (aj l (aj l i).f2).f0 = 1)) && (if (aj l i).f0 = 4 ∨ (aj l i).f0 = 5 then decide (0 ≤ (aj l i).f3 ∧ (aj l i).f3 < i) else decide ((aj l i).f3 = 0)))))) := by
 unfold nH AL
 generalize aj l (i : Int) = s
 generalize (aj l s.f2).f0 = a
 by_cases h1 : 1 ≤ s.f0 ∧ s.f0 ≤ 9
 ·by_cases h2 : s.f0 = 1
  ·simp [h2]
  ·simp only [h1, h2, and_self, decide_true, Bool.true_and, if_false]
   by_cases h3 : s.f0 = 4 ∨ s.f0 = 5
   ·have h4 : ¬ (s.f0 = 3 ∨ s.f0 ≥ 6) := by omega
    simp [h3, h4]
   ·simp only [h3, decide_false, Bool.false_eq_true, if_false]
    by_cases h4 : s.f0 = 2
    ·have h5 : ¬ (s.f0 = 3 ∨ s.f0 ≥ 6) := by omega
     simp [h4]
    ·have h5 : s.f0 = 3 ∨ s.f0 ≥ 6 := by omega
     by_cases h6 : a = 1 <;> simp [h4, h5, h6]
 ·simp [h1]
theorem qL (l : List dD) (hl : l.length < 4611686018427387904) : Ev (fun k => bV.f k l) (lX l) := by
 unfold bV.f
 simp only [kR, Option.bind_some, decide_eq_true_eq]
 unfold lX
 rw [aA]
 by_cases hlen : 1 ≤ l.length ∧ l.length ≤ 9
 ·rw [if_pos (by omega)]
  simp only [hlen, and_self, decide_true, Bool.true_and]
  have := mW (fun k i => bV.l0 k l l (l.length : Int) i) l.length (fun i => ((List.range l.length).drop i).all (nH l)) ?_ (fun i hi => ?_) 0 (Nat.zero_le _)
  ·simpa using this
  ·rw [← au]
   simp only [bV.l0]
   rw [en, dQ, List.drop_eq_nil_of_le (by simp)]
   simp
  ·have hd : (List.range l.length).drop i = i :: (List.range l.length).drop (i + 1) := by rw [List.drop_eq_getElem_cons (by simpa using hi)]; simp
   have hu : ∀ r, Ev (fun k => bV.l0 k l l (l.length : Int) (i : Int)) r ↔ if nH l i = true then Ev (fun k => bV.l0 k l l (l.length : Int) ((i + 1 : Nat) : Int)) r else Ev (fun _ => some false) r := by
    intro r
    rw [← au]
    simp only [bV.l0, bD (i := i) (by omega), kR, CU, at_eq, Option.bind_some, wu]
    generalize aj l (i : Int) = s
    simp only [aA, decide_eq_true_eq, av (gW s.f1), Av l i hi hl, toList_nil]
    rw [if_pos (by omega), if_pos (by omega), if_pos (by omega)]
    by_cases h1 : 1 ≤ s.f0 ∧ s.f0 ≤ 9
    ·by_cases h2 : s.f0 = 1
     ·simp only [h2]
      cases hw : gL s.f1
      ·simp
      ·by_cases h3 : s.f2 = 0
       ·by_cases h4 : s.f3 = 0 <;> simp [h3, h4]
       ·simp [h3]
     ·simp only [h1, h2, and_self, decide_true, Bool.true_and, if_true, if_false]
      by_cases h3 : s.f1.size = 0
      ·by_cases h4 : 0 ≤ s.f2 ∧ s.f2 < (i : Int)
       ·have h4' : s.f2 < (l.length : Int) := by omega
        by_cases h5 : s.f0 = 3 ∨ s.f0 ≥ 6
        ·simp only [h3, h4, h4', h5, and_self, decide_true, if_true, Bool.true_and]
         cases hb : ((aj l s.f2).f0 != 1)
         ·have hb' : (aj l s.f2).f0 = 1 := by simpa using hb
          simp [hb']
         ·have hb' : ¬ (aj l s.f2).f0 = 1 := by simpa using hb
          simp [hb']
        ·simp [h3, h4, h5]
       ·simp [h3, h4]
      ·simp [h3]
    ·simp [h1]
   rw [hd, List.all_cons]
   by_cases ho : nH l i = true
   ·refine .inr ⟨by simp [ho], fun r hr => ?_⟩
    rw [hu, if_pos ho]
    exact hr
   ·refine .inl ?_
    rw [hu, if_neg ho, dQ]
    simp [ho]
 ·rw [if_neg (by omega)]
  simp [hlen, dQ]
def lJ (a : Int) (l : List dD) : Bool := decide (1 ≤ a ∧ a ≤ 99) && lX l
theorem Bg (a : Int) (l : List dD) (hl : l.length < 4611686018427387904) : Ev (fun k => lF.f k a l) (lJ a l) := by
 unfold lF.f lJ
 simp only [lK, Option.bind_some, aA, av (qV l hl), decide_eq_true_eq]
 by_cases h : 1 ≤ a ∧ a ≤ 99 <;> simp [h, dQ]
theorem Ar (a : Int) (l : List dD) (hl : l.length < 4611686018427387904) : Ev (fun k => kT.f k a l) (lJ a l) := by
 unfold kT.f lJ
 simp only [kR, Option.bind_some, aA, av (qL l hl), decide_eq_true_eq]
 by_cases h : 1 ≤ a ∧ a ≤ 99 <;> simp [h, dQ]
theorem uo {l : List dD} {i : Nat} (hi : i < l.length) (h : nH l i = true) : (1 ≤ l[i].f0 ∧ l[i].f0 ≤ 9) ∧ (l[i].f0 = 1 → gL l[i].f1 = true) ∧ (¬ l[i].f0 = 1 → 0 ≤ l[i].f2 ∧ l[i].f2 < i) ∧ (l[i].f0 = 4 ∨ l[i].f0 = 5 → 0 ≤ l[i].f3 ∧ l[i].f3 < i) ∧ (¬ l[i].f0 = 1 → ¬ (l[i].f0 = 4 ∨ l[i].f0 = 5) → l[i].f3 = 0) ∧
  (l[i].f0 = 3 ∨ l[i].f0 ≥ 6 → (aj l l[i].f2).f0 = 1) ∧ (¬ l[i].f0 = 1 → l[i].f1.size = 0) ∧ (l[i].f0 = 1 → l[i].f2 = 0 ∧ l[i].f3 = 0) := by
 rw [wu, Da l i hi] at h
 simp only [Bool.and_eq_true, decide_eq_true_eq] at h
 obtain ⟨h1, h2⟩ := h
 refine ⟨h1, fun e => ?_, fun e => ?_, fun e => ?_, fun e e' => ?_, fun e => ?_, fun e => ?_, fun e => ?_⟩
 ·rw [if_pos e] at h2; simp at h2; exact h2.1
 ·rw [if_neg e] at h2; simp at h2; exact h2.2.1
 ·have e' : ¬ l[i].f0 = 1 := by omega
  rw [if_neg e', if_pos e] at h2; simp at h2; exact h2.2.2.2
 ·rw [if_neg e, if_neg e'] at h2; simp at h2; exact h2.2.2.2
 ·have e' : ¬ l[i].f0 = 1 := by omega
  rw [if_neg e'] at h2; simp at h2
  have h3 := h2.2.2.1
  rcases h3 with h3 | h3
  ·omega
  ·exact h3
 ·rw [if_neg e] at h2; simp at h2; rw [h2.1]; rfl
 ·rw [if_pos e] at h2; simp at h2; exact h2.2
theorem BP (l : List Int) (x : Int) (hl : l.length < 4611686018427387904) : Ev (fun k => iy.f k l x) (l.any (fun y => decide (y = x))) := by
 refine oJ (fun k i => iy.l0 k l x i) l _ ?_ (fun i hi hp r hr => ?_) (fun i hi hp => ?_)
 ·rw [← au]; simp [iy.l0, aI]
 ·rw [← au]
  simp only [iy.l0, mZ l i hi, bD (i := i) (by omega)]
  simp at hp
  simp [aA, hi, hp]
  exact hr
 ·rw [← au]
  simp only [iy.l0, mZ l i hi, bD (i := i) (by omega)]
  simp at hp
  simp [aA, hi, hp, aI]
def sw (c : Int) : Bool := decide (c = 35 ∨ c = 46)
def dP (R C : Int) (s : ByteArray) : Bool := decide ((2 ≤ R ∧ R ≤ 6) ∧ (2 ≤ C ∧ C ≤ 6) ∧ (s.size : Int) = R * C) && (bytesOf s).all sw
theorem iM {R C : Int} {s : ByteArray} (h : dP R C s = true) : (2 ≤ R ∧ R ≤ 6) ∧ (2 ≤ C ∧ C ≤ 6) ∧ (s.size : Int) = R * C ∧ ∀ c ∈ bytesOf s, c = 35 ∨ c = 46 := by
 simp [dP, sw] at h
 exact ⟨h.1.1, h.1.2.1, h.1.2.2, h.2⟩
theorem Ba {C : Int} (hC : 2 ≤ C ∧ C ≤ 6) : C = 2 ∨ C = 3 ∨ C = 4 ∨ C = 5 ∨ C = 6 := by omega
theorem tT {R C : Int} (hR : 2 ≤ R ∧ R ≤ 6) (hC : 2 ≤ C ∧ C ≤ 6) : 4 ≤ R * C ∧ R * C ≤ 36 := by
 rcases Ba hC with rfl | rfl | rfl | rfl | rfl <;> omega
theorem eZ {R C : Int} {s : ByteArray} (h : dP R C s = true) : 4 ≤ s.size ∧ s.size ≤ 36 := by
 obtain ⟨h1, h2, h3, _⟩ := iM h
 have := tT h1 h2
 omega
theorem BJ (R C : Int) (s : ByteArray) (hs : s.size < 4611686018427387904) : Ev (fun k => bI.l0 k 0 R C s) ((bytesOf s).all sw) := by
 refine jE (fun k i => bI.l0 k i R C s) (bytesOf s) sw ?_ (fun i hi hp r hr => ?_) (fun i hi hp => ?_)
 ·rw [← au]; simp [bI.l0, bytesOf_length, aI]
 ·have hi' : i < s.size := by rw [bytesOf_length] at hi; exact hi
  rw [← au]
  simp only [sw, decide_eq_true_eq] at hp
  simp only [bI.l0, jW s i hi', bD (i := i) (by omega)]
  rw [ep, ep, aA]
  by_cases h : (bytesOf s)[i] = 35
  ·rw [if_pos h]; exact hr
  ·rw [if_neg h, ep]; exact hr
 ·have hi' : i < s.size := by rw [bytesOf_length] at hi; exact hi
  rw [← au]
  simp only [sw, decide_eq_false_iff_not] at hp
  simp only [bI.l0, jW s i hi', bD (i := i) (by omega)]
  rw [ep, ep, en, en]
  exact aI _
theorem iE (R C : Int) (s : ByteArray) : Ev (fun k => bI.f k R C s) (dP R C s) := by
 simp only [bI.f, lK, Option.bind_some, aA, decide_eq_true_eq]
 by_cases hR : 2 ≤ R ∧ R ≤ 6
 ·rw [if_pos hR]
  by_cases hC : 2 ≤ C ∧ C ≤ 6
  ·rw [if_pos hC]
   have hm := tT hR hC
   have e : wrap64 (R * C) = R * C := kL (by omega) (by omega)
   rw [e, ← au]
   simp only [bI.j0, aA, bne_iff_ne, ne_eq]
   by_cases hs : (s.size : Int) = R * C
   ·rw [if_neg (not_not_intro hs)]
    exact gq (BJ R C s (by omega)) (by simp [dP, hR, hC, hs])
   ·rw [if_pos hs]
    exact gq (aI _) (by simp [dP, hs])
  ·rw [if_neg hC, ← au]
   simp only [bI.j0, if_true]
   exact gq (aI _) (by simp [dP, hC])
 ·rw [if_neg hR, ← au]
  simp only [bI.j0, if_true]
  exact gq (aI _) (by simp [dP, hR])
theorem Bu (R C : Int) (s : ByteArray) (hs : s.size < 4611686018427387904) : Ev (fun k => bA.l0 k (s.size : Int) 0 R C s) ((bytesOf s).all sw) := by
 refine jE (fun k i => bA.l0 k (s.size : Int) i R C s) (bytesOf s) sw ?_ (fun i hi hp r hr => ?_) (fun i hi hp => ?_)
 ·rw [← au]; simp [bA.l0, bytesOf_length, aI]
 ·have hi' : i < s.size := by rw [bytesOf_length] at hi; exact hi
  rw [← au]
  simp only [sw, decide_eq_true_eq] at hp
  simp only [bA.l0, jW s i hi', bD (i := i) (by omega)]
  rw [ep, ep, ep, aA]
  by_cases h : (bytesOf s)[i] = 35
  ·rw [if_pos h]; exact hr
  ·rw [if_neg h, ep]; exact hr
 ·have hi' : i < s.size := by rw [bytesOf_length] at hi; exact hi
  rw [← au]
  simp only [sw, decide_eq_false_iff_not] at hp
  simp only [bA.l0, jW s i hi', bD (i := i) (by omega)]
  rw [ep, ep, ep, en, en]
  exact aI _
theorem jA (R C : Int) (s : ByteArray) : Ev (fun k => bA.f k R C s) (dP R C s) := by
 simp only [bA.f, kR, Option.bind_some, aA, decide_eq_true_eq]
 by_cases hR : 2 ≤ R ∧ R ≤ 6
 ·rw [if_pos hR]
  by_cases hC : 2 ≤ C ∧ C ≤ 6
  ·rw [if_pos hC]
   have hm := tT hR hC
   have e : wrap64 (R * C) = R * C := kL (by omega) (by omega)
   rw [e, ← au]
   simp only [bA.j0, aA, bne_iff_ne, ne_eq]
   by_cases hs : (s.size : Int) = R * C
   ·rw [if_neg (not_not_intro hs)]
    exact gq (Bu R C s (by omega)) (by simp [dP, hR, hC, hs])
   ·rw [if_pos hs]
    exact gq (aI _) (by simp [dP, hs])
  ·rw [if_neg hC, ← au]
   simp only [bA.j0, if_true]
   exact gq (aI _) (by simp [dP, hC])
 ·rw [if_neg hR, ← au]
  simp only [bA.j0, if_true]
  exact gq (aI _) (by simp [dP, hR])
theorem uV {j st : Int} (hj : 0 ≤ j ∧ j ≤ 6) (hs : 1 ≤ st ∧ st ≤ 6) : 0 ≤ j * st ∧ j * st ≤ 36 := by
 have : st = 1 ∨ st = 2 ∨ st = 3 ∨ st = 4 ∨ st = 5 ∨ st = 6 := by omega
 rcases this with rfl | rfl | rfl | rfl | rfl | rfl <;> omega
theorem Ja (R C : Int) (s : ByteArray) (i st p n : Int) (hp : 0 ≤ p ∧ p ≤ 36) (hn : n ≤ 6) (hi : 0 ≤ i ∧ i ≤ 36) (hst : 1 ≤ st ∧ st ≤ 6) (hin : ∀ j, 0 ≤ j → p + j < n → 0 ≤ i + j * st ∧ i + j * st < (s.size : Int)) :
  ∀ (d : Nat) (j : Int), (n - p - j).toNat ≤ d → 0 ≤ j → j ≤ 6 → (∀ j', 0 ≤ j' → j' < j → p + j' < n ∧ bt s (i + j' * st) = 46) →
  ∃ r, Ev (fun k => bq.l0 k i st p n j R C s) r ∧ 0 ≤ r ∧ r ≤ 6 ∧ ∀ j', 0 ≤ j' → j' < r → p + j' < n ∧ bt s (i + j' * st) = 46 := by
 intro d
 induction d with
 | zero =>
  intro j hd h0 h6 hb
  have e1 : wrap64 (p + j) = p + j := kL (by omega) (by omega)
  refine ⟨j, ?_, h0, h6, hb⟩
  rw [← au]
  simp only [bq.l0, e1]
  rw [en]
  exact aI _
 | succ d ih =>
  intro j hd h0 h6 hb
  have e1 : wrap64 (p + j) = p + j := kL (by omega) (by omega)
  by_cases hc : p + j < n
  ·have hm := uV (j := j) (st := st) ⟨h0, h6⟩ hst
   have hj := hin j h0 hc
   have e2 : wrap64 (j * st) = j * st := kL (by omega) (by omega)
   have e3 : wrap64 (i + j * st) = i + j * st := kL (by omega) (by omega)
   have e4 : wrap64 (j + 1) = j + 1 := kL (by omega) (by omega)
   by_cases h46 : bt s (i + j * st) = 46
   ·obtain ⟨r, hr, h⟩ := ih (j + 1) (by omega) (by omega) (by omega) (fun j' h1 h2 => by
     by_cases hh : j' = j
     ·rw [hh]; exact ⟨hc, h46⟩
     ·exact hb j' h1 (by omega))
    refine ⟨r, ?_, h⟩
    rw [← au]
    simp only [bq.l0, e1, e2, e3, e4]
    rw [ep hc, ep hj.1, ep hj.2, ep h46]
    exact hr
   ·refine ⟨j, ?_, h0, h6, hb⟩
    rw [← au]
    simp only [bq.l0, e1, e2, e3, e4]
    rw [ep hc, ep hj.1, ep hj.2, en h46]
    exact aI _
  ·refine ⟨j, ?_, h0, h6, hb⟩
   rw [← au]
   simp only [bq.l0, e1]
   rw [en hc]
   exact aI _
theorem Jz (R C : Int) (s : ByteArray) (i st p n : Int) (hp : 0 ≤ p ∧ p ≤ 36) (hn : n ≤ 6) (hi : 0 ≤ i ∧ i ≤ 36) (his : i < (s.size : Int)) (hst : 1 ≤ st ∧ st ≤ 6) (hb : 0 < p → 0 ≤ i - st) (hin : ∀ j, 0 ≤ j → p + j < n → 0 ≤ i + j * st ∧ i + j * st < (s.size : Int)) :
  ∃ r, Ev (fun k => bq.j0 k i st p n R C s) r ∧ 0 ≤ r ∧ r ≤ 6 ∧ ∀ j', 0 ≤ j' → j' < r → p + j' < n ∧ bt s (i + j' * st) = 46 := by
 have hj1 : ∀ b : Bool, ∃ r, Ev (fun k => bq.j1 k i st p n b R C s) r ∧ 0 ≤ r ∧ r ≤ 6 ∧ ∀ j', 0 ≤ j' → j' < r → p + j' < n ∧ bt s (i + j' * st) = 46 := by
  intro b
  cases b with
  | true =>
   refine ⟨0, ?_, by omega, by omega, fun _ _ _ => by omega⟩
   rw [← au]
   simp only [bq.j1, if_true]
   exact aI _
  | false =>
   obtain ⟨r, hr, h⟩ := Ja R C s i st p n hp hn hi hst hin _ 0 (Nat.le_refl _) (by omega) (by omega) (fun _ _ _ => by omega)
   refine ⟨r, ?_, h⟩
   rw [← au]
   simp only [bq.j1, Bool.false_eq_true, if_false]
   exact hr
 have e1 : wrap64 (i - st) = i - st := kL (by omega) (by omega)
 by_cases h46 : bt s i = 46
 ·by_cases hp0 : p > 0
  ·obtain ⟨r, hr, h⟩ := hj1 (bt s (i - st) == 46)
   have := hb hp0
   refine ⟨r, ?_, h⟩
   rw [← au]
   simp only [bq.j0, e1]
   rw [ep hi.1, ep his, ep h46, ep hp0, ep this, ep]
   exact hr
  ·obtain ⟨r, hr, h⟩ := hj1 false
   refine ⟨r, ?_, h⟩
   rw [← au]
   simp only [bq.j0, e1]
   rw [ep hi.1, ep his, ep h46, en hp0]
   exact hr
 ·obtain ⟨r, hr, h⟩ := hj1 true
  refine ⟨r, ?_, h⟩
  rw [← au]
  simp only [bq.j0, e1]
  rw [ep hi.1, ep his, en h46]
  exact hr
theorem Jy {R C : Int} {s : ByteArray} (hg : dP R C s = true) (i : Nat) (hi : i < s.size) (b : Bool) :
  ∃ r, Ev (fun k => bq.f k R C s i b) r ∧ 0 ≤ r ∧ r ≤ 6 ∧ ∀ j, 0 ≤ j → j < r → 0 ≤ (i : Int) + j * (if b = true then C else 1) ∧ (i : Int) + j * (if b = true then C else 1) < s.size ∧ bt s ((i : Int) + j * (if b = true then C else 1)) = 46 := by
 obtain ⟨hR, hC, hs, _⟩ := iM hg
 have hm := tT hR hC
 have e1 : Int.tdiv (i : Int) C = (i : Int) / C := Int.tdiv_eq_ediv_of_nonneg (by omega)
 have e2 : Int.tmod (i : Int) C = (i : Int) % C := Int.tmod_eq_emod_of_nonneg (by omega)
 have hi2 : (i : Int) < R * C := by omega
 have hdiv : 0 ≤ (i : Int) / C ∧ (i : Int) / C ≤ 36 ∧ 0 ≤ (i : Int) % C ∧ (i : Int) % C ≤ 36 ∧ (0 < (i : Int) / C → 0 ≤ (i : Int) - C) ∧ (0 < (i : Int) % C → 0 ≤ (i : Int) - 1)
   ∧ (∀ j, 0 ≤ j → (i : Int) / C + j < R → 0 ≤ (i : Int) + j * C ∧ (i : Int) + j * C < R * C) ∧ (∀ j, 0 ≤ j → (i : Int) % C + j < C → 0 ≤ (i : Int) + j * 1 ∧ (i : Int) + j * 1 < R * C) := by
  rcases Ba hC with rfl | rfl | rfl | rfl | rfl <;> exact ⟨by omega, by omega, by omega, by omega, by omega, by omega, fun j h1 h2 => by omega, fun j h1 h2 => by omega⟩
 obtain ⟨d1, d2, d3, d4, d5, d6, d7, d8⟩ := hdiv
 have e3 : wrap64 ((i : Int) / C) = (i : Int) / C := kL (by omega) (by omega)
 have hc0 : ¬ C = 0 := by omega
 cases b with
 | true =>
  obtain ⟨r, hr, h0, h6, h⟩ := Jz R C s i C ((i : Int) / C) R ⟨d1, d2⟩ hR.2 (by omega) (by omega) (by omega) d5 (fun j h1 h2 => by rw [hs]; exact d7 j h1 h2)
  refine ⟨r, ?_, h0, h6, fun j h1 h2 => ?_⟩
  ·simp only [bq.f, e1, e3]
   rw [en hc0, ep trivial]
   exact hr
  ·have := h j h1 h2
   have := d7 j h1 this.1
   simp only [if_true]
   omega
 | false =>
  obtain ⟨r, hr, h0, h6, h⟩ := Jz R C s i 1 ((i : Int) % C) C ⟨d3, d4⟩ hC.2 (by omega) (by omega) (by omega) d6 (fun j h1 h2 => by rw [hs]; exact d8 j h1 h2)
  refine ⟨r, ?_, h0, h6, fun j h1 h2 => ?_⟩
  ·simp only [bq.f, e2]
   rw [en hc0, en (by simp)]
   exact hr
  ·have := h j h1 h2
   have := d8 j h1 this.1
   simp only [Bool.false_eq_true, if_false]
   omega
noncomputable def sV (R C : Int) (s : ByteArray) (i : Int) (b : Bool) : Int := open Classical in if h : ∃ r, Ev (fun k => bq.f k R C s i b) r then h.choose else 0
theorem uD {R C : Int} {s : ByteArray} (hg : dP R C s = true) (i : Nat) (hi : i < s.size) (b : Bool) : Ev (fun k => bq.f k R C s i b) (sV R C s i b) := by
 obtain ⟨r, hr, _⟩ := Jy hg i hi b
 have hx : ∃ r, Ev (fun k => bq.f k R C s i b) r := ⟨r, hr⟩
 unfold sV
 rw [dif_pos hx]
 exact hx.choose_spec
theorem Fy {R C : Int} {s : ByteArray} (hg : dP R C s = true) (i : Nat) (hi : i < s.size) (b : Bool) : 0 ≤ sV R C s i b ∧ sV R C s i b ≤ 6 ∧ ∀ j, 0 ≤ j → j < sV R C s i b → 0 ≤ (i : Int) + j * (if b = true then C else 1) ∧ (i : Int) + j * (if b = true then C else 1) < s.size ∧ bt s ((i : Int) + j * (if b = true then C else 1)) = 46 := by
 obtain ⟨r, hr, h⟩ := Jy hg i hi b
 rw [FN (uD hg i hi b) hr]
 exact h
theorem Ii : ∀ k, (∀ a b c d e f g, eO.j0 k a b c d e f g = bq.j0 k a b c d e f g) ∧ (∀ a b c d x e f g, eO.j1 k a b c d x e f g = bq.j1 k a b c d x e f g) ∧ ∀ a b c d x e f g, eO.l0 k a b c d x e f g = bq.l0 k a b c d x e f g := by
 intro k
 induction k with
 | zero => exact ⟨fun _ _ _ _ _ _ _ => rfl, fun _ _ _ _ _ _ _ _ => rfl, fun _ _ _ _ _ _ _ _ => rfl⟩
 | succ k ih =>
  obtain ⟨h1, h2, h3⟩ := ih
  refine ⟨fun a b c d e f g => ?_, fun a b c d x e f g => ?_, fun a b c d x e f g => ?_⟩
  ·simp only [eO.j0, bq.j0, h2]
  ·simp only [eO.j1, bq.j1, h3]
  ·simp only [eO.l0, bq.l0, h3]
theorem run_eq (k : Nat) (R C : Int) (s : ByteArray) (i : Int) (b : Bool) : eO.f k R C s i b = bq.f k R C s i b := by
 simp only [eO.f, bq.f, (Ii k).1]
def slA (n i a : Int) : List S92 := if a ≥ 2 then [⟨n, false, i, a⟩] else []
def slD (n i d : Int) : List S92 := if d ≥ 2 then [⟨n, true, i, d⟩] else []
def qy (a d n : Int) : Int := if a ≥ 2 ∨ d ≥ 2 then n + 1 else n
def qw (a d : Int) (i : Nat) (st : List S92 × Int) : List S92 × Int := ((st.1 ++ slA (qy a d st.2) i a) ++ slD (qy a d st.2) i d, qy a d st.2)
noncomputable def nU (R C : Int) (s : ByteArray) (st : List S92 × Int) (i : Nat) : List S92 × Int := qw (sV R C s i false) (sV R C s i true) i st
noncomputable def slW (R C : Int) (s : ByteArray) (i : Nat) (st : List S92 × Int) : List S92 × Int := (List.range' i (s.size - i)).foldl (nU R C s) st
noncomputable def aR (R C : Int) (s : ByteArray) : List S92 := if dP R C s = true then (slW R C s 0 ([], 0)).1 else []
theorem Dm (R C : Int) (s : ByteArray) (st : List S92 × Int) : slW R C s s.size st = st := by simp [slW]
theorem Bb (R C : Int) (s : ByteArray) (i : Nat) (hi : i < s.size) (st : List S92 × Int) : slW R C s i st = slW R C s (i + 1) (nU R C s st i) := by
 unfold slW
 rw [show s.size - i = (s.size - (i + 1)) + 1 by omega, List.range'_succ]
 rfl
theorem Ij (a d n : Int) : n ≤ qy a d n ∧ qy a d n ≤ n + 1 := by unfold qy; split <;> omega
theorem ER (a d : Int) (i : Nat) (st : List S92 × Int) : (qw a d i st).1.length ≤ st.1.length + 2 := by
 have h1 : (slA (qy a d st.2) i a).length ≤ 1 := by unfold slA; split <;> simp
 have h2 : (slD (qy a d st.2) i d).length ≤ 1 := by unfold slD; split <;> simp
 simp only [qw, List.length_append]
 omega
def Eb (i : Nat) (st : List S92 × Int) : Prop := st.1.length ≤ 2 * i ∧ 0 ≤ st.2 ∧ st.2 ≤ i
theorem sW (R C : Int) (s : ByteArray) (i : Nat) (st : List S92 × Int) (h : Eb i st) : Eb (i + 1) (nU R C s st i) := by
 obtain ⟨h1, h2, h3⟩ := h
 have := ER (sV R C s i false) (sV R C s i true) i st
 have := Ij (sV R C s i false) (sV R C s i true) st.2
 refine ⟨?_, ?_, ?_⟩
 ·unfold nU; omega
 ·unfold nU qw; dsimp only; omega
 ·unfold nU qw; dsimp only; omega
theorem qA {R C : Int} {s : ByteArray} (a d : Int) (i : Nat) (hi : i < 36) (l : List S92) (n : Int) (hl : l.length ≤ 72) (r : List S92)
  (hr : Ev (fun k => aN.l0 k ((l ++ slA n i a) ++ slD n i d) n ((i + 1 : Nat) : Int) R C s) r) : Ev (fun k => aN.j3 k l n i a d R C s) r := by
 rw [← au]
 simp only [aN.j3, bD (i := i) (by omega), Option.bind_some, aA]
 by_cases a2 : a ≥ 2 <;> by_cases d2 : d ≥ 2 <;> simp only [slA, slD, a2, d2, if_true, if_false, List.append_nil] at hr ⊢
 ·rw [if_pos (by omega), if_pos (by rw [List.length_append]; simp; omega)]
  exact hr
 ·rw [if_pos (by omega)]
  exact hr
 ·rw [if_pos (by omega)]
  exact hr
 ·exact hr
theorem Bj {R C : Int} {s : ByteArray} (hg : dP R C s = true) : Ev (fun k => aN.l0 k [] 0 0 R C s) (slW R C s 0 ([], 0)).1 := by
 have hsz := eZ hg
 refine iB (σ := List S92 × Int) (fun k st i => aN.l0 k st.1 st.2 i R C s) s.size Eb (fun i st => (slW R C s i st).1) (fun st hst => ?_) (fun i st hi hst => .inr ⟨nU R C s st i, sW R C s i st hst, ?_, fun r hr => ?_⟩) 0 ([], 0) (Nat.zero_le _) ⟨by simp, by simp, by simp⟩
 ·rw [Dm, ← au]
  simp only [aN.l0, Int.lt_irrefl, if_false]
  rw [← au]
  simp only [aN.j1, Bool.false_eq_true, if_false]
  exact aI _
 ·rw [Bb R C s i hi]
 ·obtain ⟨h1, h2, h3⟩ := hst
  have ha := uD hg i hi false
  have hd := uD hg i hi true
  unfold nU qw at hr
  generalize sV R C s i false = a at ha hr
  generalize sV R C s i true = d at hd hr
  have hn1 : wrap64 (st.2 + 1) = st.2 + 1 := kL (by omega) (by omega)
  rw [← au]
  simp only [aN.l0]
  rw [ep, av (iE R C s), hg, ← au]
  simp only [aN.j1, if_true]
  rw [av ha, av hd, aA]
  have hj2 : ∀ b : Bool, b = decide (a ≥ 2 ∨ d ≥ 2) → Ev (fun k => aN.j2 k st.1 st.2 i a d b R C s) r := by
   intro b hb
   rw [← au]
   simp only [aN.j2, hn1]
   rw [aA]
   by_cases h : a ≥ 2 ∨ d ≥ 2
   ·rw [if_pos (by rw [hb]; simpa using h)]
    simp only [qy, if_pos h] at hr
    exact qA a d i (by omega) st.1 _ (by omega) r hr
   ·rw [if_neg (by rw [hb]; simpa using h)]
    simp only [qy, if_neg h] at hr
    exact qA a d i (by omega) st.1 _ (by omega) r hr
  by_cases a2 : a ≥ 2
  ·rw [if_pos a2]
   exact hj2 _ (by simp [a2])
  ·rw [if_neg a2]
   exact hj2 _ (by simp only [a2, false_or])
theorem iP (R C : Int) (s : ByteArray) : Ev (fun k => aN.f k R C s) (aR R C s) := by
 unfold aR
 split
 ·rename_i hg
  exact Bj hg
 ·rename_i hg
  simp only [aN.f]
  rw [← au]
  simp only [aN.l0]
  rw [Bool.not_eq_true] at hg
  have : Ev (fun k => aN.j1 k [] 0 0 false R C s) [] := by
   rw [← au]
   simp only [aN.j1, Bool.false_eq_true, if_false]
   exact aI _
  rw [aA]
  split
  ·rw [av (iE R C s), hg]
   exact this
  ·exact this
theorem Dl {n i a : Int} {x : S92} (h : x ∈ slA n i a) : x = ⟨n, false, i, a⟩ ∧ a ≥ 2 := by
 unfold slA at h
 split at h
 ·exact ⟨List.mem_singleton.1 h, ‹_›⟩
 ·simp at h
theorem Fz {n i a : Int} {x : S92} (h : x ∈ slD n i a) : x = ⟨n, true, i, a⟩ ∧ a ≥ 2 := by
 unfold slD at h
 split at h
 ·exact ⟨List.mem_singleton.1 h, ‹_›⟩
 ·simp at h
def stepOf (C : Int) (x : S92) : Int := if x.f1 = true then C else 1
def Ik (C : Int) (s : ByteArray) (x : S92) : Prop := 0 ≤ x.f2 ∧ x.f2 < s.size ∧ 2 ≤ x.f3 ∧ x.f3 ≤ 6 ∧ ∀ j, 0 ≤ j → j < x.f3 → 0 ≤ x.f2 + j * stepOf C x ∧ x.f2 + j * stepOf C x < s.size ∧ bt s (x.f2 + j * stepOf C x) = 46
theorem ES {R C : Int} {s : ByteArray} (hg : dP R C s = true) : ∀ (n i : Nat) (st : List S92 × Int), i + n = s.size → Eb i st → (∀ x ∈ st.1, Ik C s x ∧ x.f2 < i) → st.1.Nodup →
  (∀ x ∈ (slW R C s i st).1, Ik C s x) ∧ (slW R C s i st).1.Nodup ∧ (slW R C s i st).1.length ≤ 72 := by
 have hsz := eZ hg
 intro n
 induction n with
 | zero =>
  intro i st hi hv hx hnd
  have : i = s.size := by omega
  subst this
  rw [Dm]
  exact ⟨fun x h => (hx x h).1, hnd, by have := hv.1; omega⟩
 | succ n ih =>
  intro i st hi hv hx hnd
  rw [Bb R C s i (by omega)]
  have ia := Fy hg i (by omega) false
  have id := Fy hg i (by omega) true
  refine ih (i + 1) _ (by omega) (sW R C s i st hv) ?_ ?_
  ·intro x h
   unfold nU qw at h
   simp only [List.mem_append] at h
   rcases h with (h | h) | h
   ·have := hx x h
    exact ⟨this.1, by omega⟩
   ·obtain ⟨rfl, h2⟩ := Dl h
    refine ⟨⟨by show (0 : Int) ≤ (i : Int); omega, by show (i : Int) < (s.size : Int); omega, h2, ia.2.1, fun j h1 h3 => ?_⟩, by show (i : Int) < ((i + 1 : Nat) : Int); omega⟩
    have := ia.2.2 j h1 h3
    simpa [stepOf] using this
   ·obtain ⟨rfl, h2⟩ := Fz h
    refine ⟨⟨by show (0 : Int) ≤ (i : Int); omega, by show (i : Int) < (s.size : Int); omega, h2, id.2.1, fun j h1 h3 => ?_⟩, by show (i : Int) < ((i + 1 : Nat) : Int); omega⟩
    have := id.2.2 j h1 h3
    simpa [stepOf] using this
  ·unfold nU qw
   dsimp only
   rw [List.nodup_append, List.nodup_append]
   refine ⟨⟨hnd, ?_, ?_⟩, ?_, ?_⟩
   ·unfold slA; split <;> simp
   ·intro x h1 y h2 he
    obtain ⟨rfl, _⟩ := Dl h2
    have := (hx x h1).2
    rw [he] at this
    simp at this
   ·unfold slD; split <;> simp
   ·intro x h1 y h2 he
    obtain ⟨rfl, _⟩ := Fz h2
    rcases List.mem_append.1 h1 with h1 | h1
    ·have := (hx x h1).2
     rw [he] at this
     simp at this
    ·obtain ⟨rfl, _⟩ := Dl h1
     simp at he
theorem dR (R C : Int) (s : ByteArray) : (∀ x ∈ aR R C s, Ik C s x) ∧ (aR R C s).Nodup ∧ (aR R C s).length ≤ 72 := by
 unfold aR
 split
 ·rename_i hg
  exact ES hg s.size 0 ([], 0) (by omega) ⟨by simp, by simp, by simp⟩ (by simp) (by simp)
 ·simp
theorem wE {R C : Int} {s : ByteArray} {x : S92} (h : x ∈ aR R C s) : dP R C s = true := by
 unfold aR at h
 split at h
 ·assumption
 ·simp at h
theorem qx {R C : Int} {s : ByteArray} (a d : Int) (i : Nat) (hi : i < 36) (l : List S92) (n : Int) (hl : l.length ≤ 72) (r : List S92)
  (hr : Ev (fun k => aX.l0 k ((l ++ slA n i a) ++ slD n i d) n (s.size : Int) ((i + 1 : Nat) : Int) R C s) r) : Ev (fun k => aX.j2 k l n i a d (s.size : Int) i R C s) r := by
 rw [← au]
 simp only [aX.j2, bD (i := i) (by omega), Option.bind_some, aA]
 by_cases a2 : a ≥ 2 <;> by_cases d2 : d ≥ 2 <;> simp only [slA, slD, a2, d2, if_true, if_false, List.append_nil] at hr ⊢
 ·rw [if_pos (by omega), if_pos (by rw [List.length_append]; simp; omega)]
  exact hr
 ·rw [if_pos (by omega)]
  exact hr
 ·rw [if_pos (by omega)]
  exact hr
 ·exact hr
theorem Aw {R C : Int} {s : ByteArray} (hg : dP R C s = true) : Ev (fun k => aX.l0 k [] 0 (s.size : Int) 0 R C s) (slW R C s 0 ([], 0)).1 := by
 have hsz := eZ hg
 refine iB (σ := List S92 × Int) (fun k st i => aX.l0 k st.1 st.2 (s.size : Int) i R C s) s.size Eb (fun i st => (slW R C s i st).1) (fun st hst => ?_) (fun i st hi hst => .inr ⟨nU R C s st i, sW R C s i st hst, ?_, fun r hr => ?_⟩) 0 ([], 0) (Nat.zero_le _) ⟨by simp, by simp, by simp⟩
 ·rw [Dm, ← au]
  simp only [aX.l0, Int.lt_irrefl, if_false]
  exact aI _
 ·rw [Bb R C s i hi]
 ·obtain ⟨h1, h2, h3⟩ := hst
  have ha := uD hg i hi false
  have hd := uD hg i hi true
  unfold nU qw at hr
  generalize sV R C s i false = a at ha hr
  generalize sV R C s i true = d at hd hr
  have hn1 : wrap64 (st.2 + 1) = st.2 + 1 := kL (by omega) (by omega)
  rw [← au]
  simp only [aX.l0, run_eq]
  rw [ep, av ha, av hd, aA]
  have hj2 : ∀ b : Bool, b = decide (a ≥ 2 ∨ d ≥ 2) → Ev (fun k => aX.j1 k st.1 st.2 i a d (s.size : Int) i b R C s) r := by
   intro b hb
   rw [← au]
   simp only [aX.j1, hn1]
   rw [aA]
   by_cases h : a ≥ 2 ∨ d ≥ 2
   ·rw [if_pos (by rw [hb]; simpa using h)]
    simp only [qy, if_pos h] at hr
    exact qx a d i (by omega) st.1 _ (by omega) r hr
   ·rw [if_neg (by rw [hb]; simpa using h)]
    simp only [qy, if_neg h] at hr
    exact qx a d i (by omega) st.1 _ (by omega) r hr
  by_cases a2 : a ≥ 2
  ·rw [if_pos a2]
   exact hj2 _ (by simp [a2])
  ·rw [if_neg a2]
   exact hj2 _ (by simp only [a2, false_or])
theorem nS (R C : Int) (s : ByteArray) : Ev (fun k => aX.f k R C s) (aR R C s) := by
 unfold aR aX.f
 rw [av (jA R C s), aA]
 split
 ·rename_i hg
  exact Aw hg
 ·exact aI _
def bQ (C : Int) (x : S92) : List Int := (List.range x.f3.toNat).map (fun (j : Nat) => x.f2 + (j : Int) * stepOf C x)
theorem gY (C : Int) (x : S92) : (bQ C x).length = x.f3.toNat := by simp [bQ]
theorem Ab (C : Int) (x : S92) (j : Nat) (h : j < (bQ C x).length) : (bQ C x)[j] = x.f2 + (j : Int) * stepOf C x := by simp [bQ]
theorem oC {C : Int} {s : ByteArray} {x : S92} (h : Ik C s x) : ∀ c ∈ bQ C x, 0 ≤ c ∧ c < s.size ∧ bt s c = 46 := by
 intro c hc
 obtain ⟨j, hj, rfl⟩ := List.mem_map.1 hc
 have := List.mem_range.1 hj
 exact h.2.2.2.2 j (by omega) (by omega)
theorem vU {C : Int} (hC : 2 ≤ C ∧ C ≤ 6) (x : S92) : 1 ≤ stepOf C x ∧ stepOf C x ≤ 6 := by unfold stepOf; split <;> omega
theorem wN {R C : Int} {s : ByteArray} (hC : 2 ≤ C ∧ C ≤ 6) (x : S92) (hx : 0 ≤ x.f2 ∧ x.f2 ≤ 36 ∧ 0 ≤ x.f3 ∧ x.f3 ≤ 6) (l : List S92) (i : Nat) (hi : i < 4611686018427387903) (acc : List Int) (hacc : acc.length ≤ 100000) (r : List Int)
  (hr : Ev (fun k => bJ.l0 k (acc ++ bQ C x) l ((i + 1 : Nat) : Int) R C s x.f0 x.f1 x.f2 x.f3) r) : Ev (fun k => bJ.l1 k acc l i 0 R C s x.f0 x.f1 x.f2 x.f3) r := by
 have hl := gY C x
 have hst := vU hC x
 refine iB (σ := List Int) (fun k a j => bJ.l1 k a l i j R C s x.f0 x.f1 x.f2 x.f3) (bQ C x).length (fun j a => a = acc ++ (bQ C x).take j) (fun _ _ => r) (fun a ha => ?_) (fun j a hj ha => .inr ⟨a ++ [(bQ C x)[j]], ?_, rfl, fun r' hr' => ?_⟩) 0 acc (Nat.zero_le _) (by simp)
 ·rw [List.take_length] at ha
  subst ha
  rw [← au]
  simp only [bJ.l1, bD (i := i) (by omega)]
  rw [en]
  exact hr
 ·rw [ha, List.take_succ_eq_append_getElem hj, List.append_assoc]
 ·have hal : a.length ≤ 200000 := by rw [ha, List.length_append, List.length_take]; omega
  have hm := uV (j := (j : Int)) (st := stepOf C x) (by omega) hst
  rw [Ab] at hr'
  rw [← au]
  simp only [bJ.l1, bD (i := j) (by omega)]
  rw [ep, aA]
  unfold stepOf at hm hr'
  by_cases hd : x.f1 = true
  ·simp only [hd, if_true] at hm hr' ⊢
   have e1 : wrap64 ((j : Int) * C) = j * C := kL (by omega) (by omega)
   have e2 : wrap64 (x.f2 + (j : Int) * C) = x.f2 + j * C := kL (by omega) (by omega)
   rw [e1, e2, ep]
   exact hr'
  ·rw [Bool.not_eq_true] at hd
   simp only [hd, Bool.false_eq_true, if_false, Int.mul_one] at hm hr' ⊢
   have e2 : wrap64 (x.f2 + (j : Int)) = x.f2 + j := kL (by omega) (by omega)
   rw [e2, ep]
   exact hr'
theorem FQ {α β : Type} [DecidableEq α] (l : List α) (x : α) (c : List β) (h : x ∉ l) : l.flatMap (fun y => if y = x then c else []) = [] := by
 rw [List.flatMap_eq_nil_iff]
 intro y hy
 rw [if_neg]
 rintro rfl
 exact h hy
theorem Ca {α β : Type} [DecidableEq α] (x : α) (c : List β) : ∀ l : List α, l.Nodup → x ∈ l → l.flatMap (fun y => if y = x then c else []) = c
 | [], _, h => by cases h
 | y :: l, hn, h => by
  rw [List.nodup_cons] at hn
  rw [List.flatMap_cons]
  by_cases he : y = x
  ·subst he
   rw [if_pos rfl, FQ l y c hn.1, List.append_nil]
  ·rw [if_neg he, List.nil_append]
   refine Ca x c l hn.2 ?_
   rcases List.mem_cons.1 h with h | h
   ·exact absurd h.symm he
   ·exact h
theorem Ah {α β : Type} (f : α → List β) (n : Nat) : ∀ l : List α, (∀ x ∈ l, (f x).length ≤ n) → (l.flatMap f).length ≤ n * l.length
 | [], _ => by simp
 | x :: l, h => by
  have h1 := Ah f n l (fun y hy => h y (List.mem_cons_of_mem _ hy))
  have h2 := h x List.mem_cons_self
  rw [List.flatMap_cons, List.length_append, List.length_cons, Nat.mul_succ]
  omega
theorem nM {α β : Type} (f : α → List β) (n i : Nat) (l : List α) (h : ∀ x ∈ l, (f x).length ≤ n) : ((l.take i).flatMap f).length ≤ n * l.length := by
 have h1 := Ah f n (l.take i) (fun x hx => h x (List.mem_of_mem_take hx))
 have h2 : (l.take i).length ≤ l.length := by rw [List.length_take]; omega
 exact Nat.le_trans h1 (Nat.mul_le_mul_left n h2)
theorem mg {R C : Int} {s : ByteArray} (x : S92) (hx : x ∈ aR R C s) : Ev (fun k => bJ.f k R C s x.f0 x.f1 x.f2 x.f3) (bQ C x) := by
 obtain ⟨good, hnd, hlen⟩ := dR R C s
 have hg := wE hx
 have hC := (iM hg).2.1
 have hsz := eZ hg
 have ok := good x hx
 unfold bJ.f
 rw [av (iP R C s)]
 generalize aR R C s = l at hx hnd hlen
 letI : DecidableEq S92 := fun _ _ => Classical.propDecidable _
 have hfl : ∀ y ∈ l, (if y = x then bQ C x else []).length ≤ 6 := by
  intro y _
  split
  ·rw [gY]; have := ok.2.2.2.1; omega
  ·simp
 refine gq (lM (fun k a i => bJ.l0 k a l i R C s x.f0 x.f1 x.f2 x.f3) l (fun y => if y = x then bQ C x else []) 0 (fun a => ?_) (fun i hi a ha r hr => ?_)) (Ca x _ l hnd hx)
 ·rw [← au]; simp only [bJ.l0, Int.lt_irrefl, if_false]; exact aI _
 ·have hb := nM _ 6 i l hfl
  rw [← au]
  simp only [bJ.l0, ng l i hi, bD (i := i) (by omega)]
  rw [ep, ep, aA]
  by_cases he : l[i] = x
  ·simp only [he, if_true] at hr ⊢
   rw [if_neg (by simp)]
   exact wN hC x ⟨ok.1, by have := ok.2.1; omega, by have := ok.2.2.1; omega, ok.2.2.2.1⟩ l i (by omega) a (by omega) r hr
  ·simp only [he, if_false, List.append_nil] at hr
   rw [if_pos]
   ·exact hr
   ·generalize l[i] = y at he
    obtain ⟨y0, y1, y2, y3⟩ := y
    obtain ⟨x0, x1, x2, x3⟩ := x
    simp only [S92.mk.injEq, not_and] at he
    simp only [Bool.or_eq_true, Bool.not_eq_true', beq_eq_false_iff_ne, ne_eq]
    by_cases h0 : y0 = x0
    ·by_cases h1 : y1 = x1
     ·by_cases h2 : y2 = x2
      ·exact .inr (.inr (.inr (he h0 h1 h2)))
      ·exact .inr (.inr (.inl h2))
     ·exact .inr (.inl h1)
    ·exact .inl h0
theorem Bz {R C : Int} {s : ByteArray} (x : S92) (hx : x ∈ aR R C s) : Ev (fun k => fq.f k R C s x.f0 x.f1 x.f2 x.f3) (bQ C x) := by
 obtain ⟨good, hnd, hlen⟩ := dR R C s
 have hg := wE hx
 have hC := (iM hg).2.1
 have hsz := eZ hg
 have ok := good x hx
 have hl := gY C x
 have hst := vU hC x
 have q1 := ok.1
 have q2 := ok.2.1
 have q3 := ok.2.2.1
 have q4 := ok.2.2.2.1
 have key : Ev (fun k => fq.j0 k (stepOf C x) x.f0 x.f1 x.f2 x.f3) (bQ C x) := by
  rw [← au]
  simp only [fq.j0]
  refine iB (σ := List Int) (fun k a j => fq.l0 k (stepOf C x) a x.f3 j x.f0 x.f1 x.f2 x.f3) (bQ C x).length (fun j a => a = (bQ C x).take j) (fun _ _ => bQ C x) (fun a ha => ?_) (fun j a hj ha => .inr ⟨a ++ [(bQ C x)[j]], ?_, rfl, fun r' hr' => ?_⟩) 0 [] (Nat.zero_le _) (by simp)
  ·rw [List.take_length] at ha
   subst ha
   rw [← au]
   simp only [fq.l0]
   rw [en]
   exact aI _
  ·rw [ha, List.take_succ_eq_append_getElem hj]
  ·have hal : a.length ≤ 6 := by rw [ha, List.length_take]; omega
   have hm := uV (j := (j : Int)) (st := stepOf C x) (by omega) hst
   rw [Ab] at hr'
   have e1 : wrap64 ((j : Int) * stepOf C x) = j * stepOf C x := kL (by omega) (by omega)
   have e2 : wrap64 (x.f2 + (j : Int) * stepOf C x) = x.f2 + j * stepOf C x := kL (by omega) (by omega)
   rw [← au]
   simp only [fq.l0, bD (i := j) (by omega), e1, e2]
   rw [ep, ep]
   exact hr'
 unfold fq.f
 unfold stepOf at key
 rw [aA]
 by_cases hd : x.f1 = true
 ·rw [if_pos hd] at key ⊢
  exact key
 ·rw [if_neg hd] at key ⊢
  exact key
theorem kV (R C : Int) (s : ByteArray) : Ev (fun k => dZ.f k R C s) ((aR R C s).map (bQ C)) := by
 obtain ⟨good, hnd, hlen⟩ := dR R C s
 unfold dZ.f
 rw [av (nS R C s)]
 refine gq (lM (fun k a i => dZ.l0 k a (aR R C s) ((aR R C s).length : Int) i R C s) (aR R C s) (fun x => [bQ C x]) 0 (fun a => ?_) (fun i hi a ha r hr => ?_)) List.map_eq_flatMap.symm
 ·rw [← au]; simp only [dZ.l0, Int.lt_irrefl, if_false]; exact aI _
 ·have hb := nM (fun x : S92 => [bQ C x]) 1 i (aR R C s) (fun _ _ => by simp)
  rw [← au]
  simp only [dZ.l0, ng _ i hi, bD (i := i) (by omega)]
  rw [ep, ep, ep, av (Bz _ (List.getElem_mem hi)), ep]
  exact hr
def nD (c f : Int) : Bool := decide ((c = 35 ↔ f = 35) ∧ (f = 35 ∨ f = 63 ∨ (97 ≤ f ∧ f ≤ 122)))
def fC (R C : Int) (s f : ByteArray) : Bool := dP R C s && (decide (f.size = s.size) && (List.range f.size).all (fun i => nD (bt s i) (bt f i)))
theorem jo {R C : Int} {s f : ByteArray} (h : fC R C s f = true) : dP R C s = true ∧ f.size = s.size ∧ ∀ i : Nat, i < f.size → nD (bt s i) (bt f i) = true := by
 simpa [fC] using h
theorem CQ {R C : Int} {s : ByteArray} (hg : dP R C s = true) (i : Nat) (hi : i < s.size) : bt s (i : Int) = 35 ∨ bt s (i : Int) = 46 := by
 rw [jW s i hi]
 exact (iM hg).2.2.2 _ (List.getElem_mem _)
theorem qg {R C : Int} {s f : ByteArray} (k i : Nat) (hi : i < f.size) (hs : i < s.size) (h36 : i < 1000) (hc : bt s (i : Int) = 35 ∨ bt s (i : Int) = 46) :
  bM.l0 (k + 1) f i R C s = if nD (bt s i) (bt f i) = true then bM.l0 k f ((i + 1 : Nat) : Int) R C s else some false := by
 have h1 : (i : Int) < (f.size : Int) := by omega
 have h2 : (0 : Int) ≤ (i : Int) := by omega
 have h3 : (i : Int) < (s.size : Int) := by omega
 simp only [bM.l0, bD (i := i) (by omega), h1, h2, h3, if_true]
 generalize bM.l0 k f ((i + 1 : Nat) : Int) R C s = Y
 generalize bt s (i : Int) = c at hc ⊢
 generalize bt f (i : Int) = x
 simp only [nD, decide_eq_true_eq]
 repeat' split
 all_goals first | rfl | (exfalso; omega)
theorem BI {R C : Int} {s f : ByteArray} (hg : dP R C s = true) (hf : f.size = s.size) : Ev (fun k => bM.l0 k f 0 R C s) ((List.range f.size).all (fun i => nD (bt s i) (bt f i))) := by
 have hsz := eZ hg
 refine jE (fun k i => bM.l0 k f i R C s) (List.range f.size) (fun i => nD (bt s i) (bt f i)) ?_ (fun i hi hp r hr => ?_) (fun i hi hp => ?_)
 ·rw [← au]; simp [bM.l0, aI]
 ·rw [List.length_range] at hi
  rw [List.getElem_range] at hp
  rw [← au]
  simp only [qg _ i hi (by omega) (by omega) (CQ hg i (by omega)), hp, if_true]
  exact hr
 ·rw [List.length_range] at hi
  rw [List.getElem_range] at hp
  rw [← au]
  simp only [qg _ i hi (by omega) (by omega) (CQ hg i (by omega)), hp, Bool.false_eq_true, if_false]
  exact aI _
theorem oM (R C : Int) (s f : ByteArray) : Ev (fun k => bM.f k R C s f) (fC R C s f) := by
 unfold bM.f
 rw [av (iE R C s), aA]
 by_cases hg : dP R C s = true
 ·rw [if_pos hg, ← au]
  simp only [bM.j0, aA, bne_iff_ne, ne_eq]
  by_cases hf : f.size = s.size
  ·rw [if_neg (by omega)]
   exact gq (BI hg hf) (by simp [fC, hg, hf])
  ·rw [if_pos (by omega)]
   exact gq (aI _) (by simp [fC, hf])
 ·rw [if_neg hg, ← au]
  simp only [bM.j0, if_true]
  exact gq (aI _) (by simp [fC, hg])
theorem pW {R C : Int} {s f : ByteArray} (k i : Nat) (hi : i < f.size) (hs : i < s.size) (h36 : i < 1000) :
  cZ.l0 (k + 1) f (f.size : Int) i R C s = if nD (bt s i) (bt f i) = true then cZ.l0 k f (f.size : Int) ((i + 1 : Nat) : Int) R C s else some false := by
 have h1 : (i : Int) < (f.size : Int) := by omega
 have h2 : (0 : Int) ≤ (i : Int) := by omega
 have h3 : (i : Int) < (s.size : Int) := by omega
 simp only [cZ.l0, bD (i := i) (by omega), h1, h2, h3, if_true, mH, Option.bind_some, decide_eq_true_eq]
 generalize cZ.l0 k f (f.size : Int) ((i + 1 : Nat) : Int) R C s = Y
 generalize bt s (i : Int) = c
 generalize bt f (i : Int) = x
 by_cases he : (c = 35 ↔ x = 35)
 ·have e : ((c == 35) != (x == 35)) = false := by rw [bne_eq_false_iff_eq, Bool.eq_iff_iff, beq_iff_eq, beq_iff_eq]; exact he
  rw [e]
  simp only [nD, decide_eq_true_eq, Bool.false_eq_true, if_false]
  repeat' split
  all_goals first | rfl | (exfalso; omega)
 ·have e : ((c == 35) != (x == 35)) = true := by
   rw [bne_iff_ne]
   intro q
   rw [Bool.eq_iff_iff, beq_iff_eq, beq_iff_eq] at q
   exact he q
  rw [e, if_pos rfl, if_neg]
  simp only [nD, decide_eq_true_eq]
  exact fun q => he q.1
theorem Bt {R C : Int} {s f : ByteArray} (hg : dP R C s = true) (hf : f.size = s.size) : Ev (fun k => cZ.l0 k f (f.size : Int) 0 R C s) ((List.range f.size).all (fun i => nD (bt s i) (bt f i))) := by
 have hsz := eZ hg
 refine jE (fun k i => cZ.l0 k f (f.size : Int) i R C s) (List.range f.size) (fun i => nD (bt s i) (bt f i)) ?_ (fun i hi hp r hr => ?_) (fun i hi hp => ?_)
 ·rw [← au]; simp [cZ.l0, aI]
 ·rw [List.length_range] at hi
  rw [List.getElem_range] at hp
  rw [← au]
  simp only [pW (R := R) (C := C) (s := s) (f := f) _ i hi (by omega) (by omega), hp, if_true]
  exact hr
 ·rw [List.length_range] at hi
  rw [List.getElem_range] at hp
  rw [← au]
  simp only [pW (R := R) (C := C) (s := s) (f := f) _ i hi (by omega) (by omega), hp, Bool.false_eq_true, if_false]
  exact aI _
theorem qK (R C : Int) (s f : ByteArray) : Ev (fun k => cZ.f k R C s f) (fC R C s f) := by
 unfold cZ.f
 rw [av (jA R C s), aA]
 by_cases hg : dP R C s = true
 ·rw [if_pos hg, ← au]
  simp only [cZ.j0, aA, bne_iff_ne, ne_eq]
  by_cases hf : f.size = s.size
  ·rw [if_neg (by omega)]
   exact gq (Bt hg hf) (by simp [fC, hg, hf])
  ·rw [if_pos (by omega)]
   exact gq (aI _) (by simp [fC, hf])
 ·rw [if_neg hg, ← au]
  simp only [cZ.j0, if_true]
  exact gq (aI _) (by simp [fC, hg])
def lS (f : ByteArray) (l : List Int) : ByteArray := strOfNums (l.map (bt f))
theorem vV (a b : List Int) : strOfNums (a ++ b) = strOfNums a ++ strOfNums b := by
 refine ByteArray.ext (Array.toList_inj.1 ?_)
 rw [ByteArray.data_append, Array.toList_append, strOfNums_data, strOfNums_data, strOfNums_data, List.map_append]
theorem Dx (f : ByteArray) (hf : f.size ≤ 1000000) (c : Int) (h0 : 0 ≤ c) (h1 : c < f.size) : f.extract c.toNat (wrap64 (c + 1)).toNat = strOfNums [bt f c] := by
 have e : wrap64 (c + 1) = c + 1 := by unfold wrap64; omega
 have hc : c.toNat < f.size := by omega
 have hd : c.toNat < f.data.toList.length := by rw [Array.length_toList]; exact hc
 refine ByteArray.ext (Array.toList_inj.1 ?_)
 rw [e, show (c + 1).toNat = c.toNat + 1 by omega, strOfNums_data, ByteArray.data_extract, Array.toList_extract]
 have hb : bt f c = ((f.data.toList[c.toNat]).toNat : Int) := by
  unfold bt
  rw [dif_pos hc]
  rfl
 rw [List.extract_eq_drop_take', List.drop_take, List.drop_eq_getElem_cons hd]
 simp [hb]
theorem rJ (f : ByteArray) (l : List Int) : (lS f l).size = l.length := by rw [lS, strOfNums_size, List.length_map]
theorem Gg (f : ByteArray) (l : List Int) (c : Int) : lS f (l ++ [c]) = lS f l ++ strOfNums [bt f c] := by
 rw [lS, List.map_append, vV]; rfl
theorem tq (f : ByteArray) (l : List Int) (hl : l.length ≤ 100000) (hf : f.size ≤ 1000000) (hc : ∀ c ∈ l, 0 ≤ c ∧ c < f.size) : Ev (fun k => bn.l0 k f (⟨#[]⟩ : ByteArray) l 0) (lS f l) := by
 refine iB (σ := ByteArray) (fun k a i => bn.l0 k f a l i) l.length (fun i a => a = lS f (l.take i)) (fun _ _ => lS f l) (fun a ha => ?_) (fun i a hi ha => .inr ⟨a ++ strOfNums [bt f l[i]], ?_, rfl, fun r hr => ?_⟩) 0 _ (Nat.zero_le _) rfl
 ·rw [List.take_length] at ha
  rw [← au]
  simp only [bn.l0, Int.lt_irrefl, if_false, ha]
  exact aI _
 ·rw [ha, List.take_succ_eq_append_getElem hi, Gg]
 ·have hcc := hc _ (List.getElem_mem hi)
  have hx := Dx f hf l[i] hcc.1 hcc.2
  have ew : wrap64 (l[i] + 1) = l[i] + 1 := by unfold wrap64; omega
  have hz : (strOfNums [bt f l[i]]).size = 1 := by rw [strOfNums_size]; rfl
  have has : a.size ≤ 100000 := by rw [ha, rJ, List.length_take]; omega
  rw [← au]
  simp only [bn.l0, mZ l i hi, bD (i := i) (by omega), hx]
  rw [ep, ep, ep hcc.1, ep, ep, ep]
  exact hr
theorem oh {R C : Int} {s f : ByteArray} (hf : fC R C s f = true) (i : Nat) (hi : i < (aR R C s).length) : Ev (fun k => bn.f k R C s f i) (lS f (bQ C (aR R C s)[i])) := by
 obtain ⟨good, hnd, hlen⟩ := dR R C s
 obtain ⟨hg, hfs, _⟩ := jo hf
 have hsz := eZ hg
 have hm := List.getElem_mem hi
 have ok := good _ hm
 have e : wrap64 (((aR R C s).length : Int) - 1) = (aR R C s).length - 1 := kL (by omega) (by omega)
 unfold bn.f
 rw [av (iP R C s), av (oM R C s f), ep hf]
 simp only [lK, Option.bind_some, e]
 rw [← au]
 simp only [bn.j0, ng _ i hi]
 rw [en (by simp; omega), ep, ep, av (mg _ hm)]
 exact tq f _ (by rw [gY]; have := ok.2.2.2.1; omega) (by omega) (fun c hc => by have := oC ok c hc; omega)
theorem tY (f : ByteArray) (l : List Int) (hl : l.length ≤ 100000) (hc : ∀ c ∈ l, 0 ≤ c ∧ c < f.size) : Ev (fun k => eU.f k f l) (lS f l) := by
 unfold eU.f
 refine iB (σ := List Int) (fun k a i => eU.l0 k f a l (l.length : Int) i) l.length (fun i a => a = (l.take i).map (bt f)) (fun _ _ => lS f l) (fun a ha => ?_) (fun i a hi ha => .inr ⟨a ++ [bt f l[i]], ?_, rfl, fun r hr => ?_⟩) 0 _ (Nat.zero_le _) rfl
 ·rw [List.take_length] at ha
  rw [← au]
  simp only [eU.l0, Int.lt_irrefl, if_false, ha]
  exact aI _
 ·rw [ha, List.take_succ_eq_append_getElem hi, List.map_append]; rfl
 ·have hcc := hc _ (List.getElem_mem hi)
  have has : a.length ≤ 100000 := by rw [ha, List.length_map, List.length_take]; omega
  rw [← au]
  simp only [eU.l0, mZ l i hi, bD (i := i) (by omega)]
  rw [ep, ep, ep, ep hcc.1, ep hcc.2, ep]
  exact hr
noncomputable def qd (R C : Int) (s f : ByteArray) : List ByteArray := if fC R C s f = true then (aR R C s).map (fun x => lS f (bQ C x)) else []
theorem pY (R C : Int) (s f : ByteArray) : Ev (fun k => eT.f k R C s f) (qd R C s f) := by
 unfold eT.f qd
 rw [av (qK R C s f), aA]
 split
 ·rename_i hf
  obtain ⟨good, hnd, hlen⟩ := dR R C s
  obtain ⟨hg, hfs, _⟩ := jo hf
  rw [av (kV R C s)]
  have hll : ((aR R C s).map (bQ C)).length = (aR R C s).length := List.length_map _
  refine gq (lM (fun k a i => eT.l0 k f a ((aR R C s).map (bQ C)) (((aR R C s).map (bQ C)).length : Int) i) ((aR R C s).map (bQ C)) (fun l => [lS f l]) 0 (fun a => ?_) (fun i hi a ha r hr => ?_)) (by rw [← List.map_eq_flatMap, List.map_map]; rfl)
  ·rw [← au]; simp only [eT.l0, Int.lt_irrefl, if_false]; exact aI _
  ·have hb := nM (fun l : List Int => [lS f l]) 1 i ((aR R C s).map (bQ C)) (fun _ _ => by simp)
   have hi' : i < (aR R C s).length := by omega
   have ok := good _ (List.getElem_mem hi')
   have hL : ((aR R C s).map (bQ C))[i] = bQ C (aR R C s)[i] := List.getElem_map _
   have hr1 := tY f ((aR R C s).map (bQ C))[i] (by rw [hL, gY]; have := ok.2.2.2.1; omega) (fun c hc => by rw [hL] at hc; have := oC ok c hc; omega)
   rw [← au]
   simp only [eT.l0, CZ _ i hi, bD (i := i) (by omega)]
   rw [ep, ep, ep, av hr1, ep]
   exact hr
 ·exact aI _
theorem qB (f : ByteArray) (hf : f.size < 4611686018427387904) : Ev (fun k => fK.f k f) ((bytesOf f).any (fun c => c == 63)) := by
 refine oJ (fun k i => fK.l0 k f i) (bytesOf f) _ ?_ (fun i hi hp r hr => ?_) (fun i hi hp => ?_)
 ·rw [← au]; simp [fK.l0, bytesOf_length, aI]
 ·have hi' : i < f.size := by rw [bytesOf_length] at hi; exact hi
  rw [← au]
  simp only [beq_eq_false_iff_ne] at hp
  simp only [fK.l0, jW f i hi', bD (i := i) (by omega)]
  rw [ep, ep, en hp]
  exact hr
 ·have hi' : i < f.size := by rw [bytesOf_length] at hi; exact hi
  rw [← au]
  simp only [beq_iff_eq] at hp
  simp only [fK.l0, jW f i hi', bD (i := i) (by omega)]
  rw [ep, ep, ep hp]
  exact aI _
def CV (f : ByteArray) : Int := ((bytesOf f).countP (fun c => c == 63) : Nat)
theorem wz (f : ByteArray) : (CV f == 0) = !((bytesOf f).any (fun c => c == 63)) := by
 unfold CV
 rw [Bool.eq_iff_iff]
 simp [List.countP_eq_zero]
theorem qO (f : ByteArray) (hf : f.size < 4611686018427387904) : Ev (fun k => fM.f k f) (CV f) := by
 have hbl := bytesOf_length f
 have := iB (σ := Nat) (fun k a i => fM.l0 k f (a : Int) (f.size : Int) i) (bytesOf f).length (fun i a => a ≤ i) (fun i a => ((a + ((bytesOf f).drop i).countP (fun c => c == 63) : Nat) : Int)) (fun a ha => ?_) (fun i a hi ha => ?_) 0 0 (Nat.zero_le _) (Nat.le_refl _)
 ·unfold fM.f CV
  simpa using this
 ·rw [← au]
  simp only [fM.l0, List.drop_length, List.countP_nil, Nat.add_zero]
  rw [en]
  exact aI _
 ·have hi' : i < f.size := by omega
  rw [List.drop_eq_getElem_cons hi, List.countP_cons]
  have ew : wrap64 ((a : Int) + 1) = ((a + 1 : Nat) : Int) := bD (by omega)
  by_cases h : (bytesOf f)[i] = 63
  ·refine .inr ⟨a + 1, by omega, by simp [h]; omega, fun r hr => ?_⟩
   rw [← au]
   simp only [fM.l0, jW f i hi', bD (i := i) (by omega), ew]
   rw [ep, ep, ep, ep h]
   exact hr
  ·refine .inr ⟨a, by omega, by simp [h], fun r hr => ?_⟩
   rw [← au]
   simp only [fM.l0, jW f i hi', bD (i := i) (by omega), ew]
   rw [ep, ep, ep, en h]
   exact hr
def qo (R C : Int) (s f : ByteArray) : Bool := fC R C s f && !((bytesOf f).any (fun c => c == 63))
theorem uf {R C : Int} {s f : ByteArray} (h : fC R C s f = true) : 4 ≤ f.size ∧ f.size ≤ 36 := by
 obtain ⟨h1, h2, _⟩ := jo h
 have := eZ h1
 omega
theorem Bh (R C : Int) (s f : ByteArray) : Ev (fun k => lG.f k R C s f) (qo R C s f) := by
 unfold lG.f qo
 rw [av (oM R C s f), aA]
 by_cases h : fC R C s f = true
 ·have := uf h
  rw [if_pos h, av (qB f (by omega)), h, Bool.true_and]
  exact aI _
 ·rw [if_neg h]
  exact gq (aI _) (by simp [h])
theorem Au (R C : Int) (s f : ByteArray) : Ev (fun k => kU.f k R C s f) (qo R C s f) := by
 unfold kU.f qo
 rw [av (qK R C s f), aA]
 by_cases h : fC R C s f = true
 ·have := uf h
  rw [if_pos h, av (qO f (by omega)), h, Bool.true_and, ← wz]
  exact aI _
 ·rw [if_neg h]
  exact gq (aI _) (by simp [h])
theorem Dz {α : Type} (q : α → Bool) (l : List α) : l.flatMap (fun s => if q s = true then [s] else []) = l.filter q := by
 induction l with
 | nil => rfl
 | cons x l ih => rw [List.flatMap_cons, ih, List.filter_cons]; split <;> simp
theorem FP {α β : Type} (f : α → List β) (h : ∀ x, (f x).length ≤ 1) (l : List α) : (l.flatMap f).length ≤ l.length := by
 induction l with
 | nil => simp
 | cons x l ih => have := h x; simp only [List.flatMap_cons, List.length_append, List.length_cons]; omega
theorem BF (l : List ByteArray) (p : Nat → ByteArray → Option Bool) (q : ByteArray → Bool) (hl : l.length ≤ 8796093022208) (hp : ∀ s ∈ l, Ev (fun k => p k s) (q s)) : Ev (fun k => fB.f k l p) (l.filter q) := by
 rw [← Dz]
 refine lM (fun k x i => fB.l0 k p x l (l.length : Int) i) l (fun s => if q s = true then [s] else []) 0 (fun x => ?_) (fun i hi x hx r hr => ?_)
 ·rw [← au]; simp [fB.l0, aI]
 ·have hx' := FP (fun s => if q s = true then [s] else []) (fun x => by split <;> simp) (l.take i)
  rw [List.length_take] at hx'
  rw [← au]
  simp only [fB.l0, kK ByteArray.empty l i hi, bD (i := i) (by omega)]
  rw [ep, ep, ep, av (hp _ (List.getElem_mem hi)), aA]
  split
  ·rename_i hq
   rw [if_pos hq] at hr
   rw [ep]
   exact hr
  ·rename_i hq
   rw [if_neg hq, List.append_nil] at hr
   exact hr
theorem Gp (R C : Int) (s : ByteArray) (a : Int) (hs : s.size ≤ 140737488351232) (h0 : 0 ≤ a) (h1 : a ≤ 1048576) : ∃ r, kY.f R C s a = some r ∧ r ≤ 1048576 := by
 unfold kY.f
 rw [kL (by omega) (by omega)]
 split
 ·exact ⟨_, rfl, by omega⟩
 ·exact ⟨_, rfl, by omega⟩
theorem EW (l : List S81) (hl : l.length < 4611686018427387904) (hs : ∀ x ∈ l, x.f1.length < 4611686018427387904 ∧ ∀ y ∈ x.f1, y.f1.size ≤ 140737488351232) (a : Int) (ha : 0 ≤ a) (ha' : a ≤ 1048576) : ∃ r, Ev (fun k => fV.f k l a) r ∧ r ≤ 1048576 := by
 unfold fV.f
 have w1 : wrap64 (a - (l.length : Int)) = a - l.length := kL (by omega) (by omega)
 simp only [aA, dQ, w1]
 by_cases h : a - (l.length : Int) < 0
 ·exact ⟨-1, by simp [h]⟩
 ·simp only [h, if_false]
  refine rF (fun k b i => fV.l0 k l b i) l 1048576 (fun b => ?_) (fun i hi b hb hb' => ?_) _ (by omega) (by omega)
  ·rw [← au]
   simp only [fV.l0]
   rw [en]
   exact aI _
  ·have hsz := hs _ (List.getElem_mem hi)
   obtain ⟨r, hr, hrb⟩ := Gn l[i].f0 l[i].f1 hsz.1 hsz.2 b hb hb'
   by_cases h2 : r < 0
   ·refine .inl ?_
    rw [← au]
    simp only [fV.l0, EL l i hi]
    rw [ep, ep, av hr, ep h2]
    exact aI _
   ·refine .inr ⟨r, by omega, hrb, fun q hq => ?_⟩
    rw [← au]
    simp only [fV.l0, EL l i hi, bD (i := i) (by omega)]
    rw [ep, ep, av hr, en h2]
    exact hq
def oz (x : S81) : S72 := ⟨x.f0, x.f1.map toStep⟩
theorem EZ (l : List S81) (hl : l.length ≤ 8796093022208) (hs : ∀ x ∈ l, x.f1.length ≤ 3518437208883) : Ev (fun k => fI.f k l) (l.map oz) := by
 unfold fI.f
 rw [ep, ep]
 refine qb (fun k s i => fI.l0 k l s i) l oz z72 (fun s hs => ?_) (fun i hi s hs' r hr => ?_)
 ·rw [← au]
  simp [fI.l0, aI]
 ·rw [← au]
  simp only [fI.l0, EL l i hi, bD (i := i) (by omega)]
  rw [ep, ep, av (Gr _ _ (hs _ (List.getElem_mem hi))), ep]
  exact hr
theorem EB (l : List S72) (hl : l.length < 4611686018427387904) (hs : ∀ x ∈ l, x.f1.length < 4611686018427387904) : Ev (fun k => dL.f k l l) true := by
 unfold dL.f
 rw [ep rfl]
 refine gq (jE (fun k i => dL.l0 k l l i) l (fun _ => true) ?_ (fun i hi hp r hr => ?_) (fun i hi hp => by cases hp)) (by simp)
 ·rw [← au]; simp [dL.l0, aI]
 ·rw [← au]
  simp only [dL.l0, sQ l i hi, bD (i := i) (by omega)]
  rw [ep, ep, ep, av (FJ _ _ (hs _ (List.getElem_mem hi))), ep rfl]
  exact hr
theorem Gq (l : List Int) (hl : l.length < 4611686018427387904) (a : Int) (h0 : 0 ≤ a) (h1 : a ≤ 1048576) : ∃ r, kZ.f l a = some r ∧ r ≤ 1048576 := by
 unfold kZ.f
 rw [kL (by omega) (by omega)]
 split
 ·exact ⟨_, rfl, by omega⟩
 ·exact ⟨_, rfl, by omega⟩
theorem Ee (R C : Int) (s : ByteArray) (l : List S81) (q : List Int) (e : Int) (hs : s.size ≤ 140737488351232) (hl : l.length < 4611686018427387904) (hx : ∀ x ∈ l, x.f1.length < 4611686018427387904 ∧ ∀ y ∈ x.f1, y.f1.size ≤ 140737488351232) (hq : q.length < 4611686018427387904) (a : Int) (h0 : 0 ≤ a) (h1 : a ≤ 1048576) : ∃ r, Ev (fun k => jQ.f k R C s l q e a) r ∧ r ≤ 1048576 := by
 unfold jQ.f
 obtain ⟨g, hg, hgb⟩ := Gp R C s a hs h0 h1
 simp only [hg, Option.bind_some]
 by_cases n1 : g < 0
 ·exact ⟨-1, by rw [ep n1]; exact aI _, by omega⟩
 obtain ⟨c, hc, hcb⟩ := EW l hl hx g (by omega) hgb
 by_cases n2 : c < 0
 ·exact ⟨-1, by rw [en n1, av hc, ep n2]; exact aI _, by omega⟩
 obtain ⟨i, hi, hib⟩ := Gq q hq c (by omega) hcb
 by_cases n3 : i < 0
 ·exact ⟨-1, by rw [en n1, av hc, en n2]; simp only [hi, Option.bind_some, if_pos n3]; exact aI _, by omega⟩
 ·exact ⟨i, by rw [en n1, av hc, en n2]; simp only [hi, Option.bind_some, if_neg n3]; exact aI _, hib⟩
theorem Eh (R C : Int) (s : ByteArray) (l : List S81) (q : List Int) (e : Int) (hl : l.length ≤ 8796093022208) (hs : ∀ x ∈ l, x.f1.length ≤ 3518437208883) (hq : q.length ≤ 17592186044416) : Ev (fun k => iD.f k R C s l q e) (R, C, s, l.map oz, q, e) := by
 unfold iD.f
 simp only [mK.f, Option.bind_some]
 rw [av (EZ l hl hs), av (Gs q hq)]
 exact aI _
theorem Dw (R C : Int) (s : ByteArray) (l : List S72) (q : List Int) (e : Int) (hl : l.length < 4611686018427387904) (hs : ∀ x ∈ l, x.f1.length < 4611686018427387904) (hq : q.length < 4611686018427387904) : Ev (fun k => jP.f k R C s l q e R C s l q e) true := by
 unfold jP.f
 simp only [mI.f, if_true, Option.bind_some]
 rw [av (EB l hl hs), ep rfl, av (FL q hq), ep rfl]
 exact aI _
def DI (s : ByteArray) : ByteArray := if gL s = true then s.extract 0 1 else (⟨#[]⟩ : ByteArray)
theorem Bf (s : ByteArray) : Ev (fun k => jZ.f k s) (DI s) := by
 unfold jZ.f DI
 rw [av (gX s), aA]
 split
 ·rename_i h
  have := gG h
  rw [ep, ep]
  exact aI _
 ·exact aI _
theorem Aq (s : ByteArray) : Ev (fun k => jY.f k s) (DI s) := by
 unfold jY.f DI
 rw [av (gW s), aA]
 split
 ·rename_i h
  have := gG h
  rw [ep, ep]
  exact aI _
 ·exact aI _
theorem ET (a b : List Int) : strOfNums (a ++ b) = strOfNums a ++ strOfNums b := by
 refine ByteArray.ext (Array.toList_inj.1 ?_)
 rw [ByteArray.data_append, Array.toList_append, strOfNums_data, strOfNums_data, strOfNums_data, List.map_append]
theorem Af (s : ByteArray) (i : Nat) (h : i < s.size) : s.extract i (i + 1) = strOfNums [(bytesOf s)[i]'(by rw [bytesOf_length]; exact h)] := by
 have hd : i < s.data.toList.length := by rw [Array.length_toList]; exact h
 refine ByteArray.ext (Array.toList_inj.1 ?_)
 rw [strOfNums_data, ByteArray.data_extract, Array.toList_extract, List.extract_eq_drop_take', List.drop_take, List.drop_eq_getElem_cons hd]
 simp [bytesOf]
def wM (s : ByteArray) : ByteArray := strOfNums (bytesOf s).reverse
theorem rM (s : ByteArray) : (wM s).size = s.size := by rw [wM, strOfNums_size, List.length_reverse, bytesOf_length]
theorem pE (s : ByteArray) (hs : s.size ≤ 100) : Ev (fun k => dV.f k s) (wM s) := by
 unfold dV.f
 refine iB (σ := ByteArray) (fun k a i => dV.l0 k s a i) s.size (fun i a => a = strOfNums ((bytesOf s).take i).reverse) (fun _ _ => wM s) (fun a ha => ?_) (fun i a hi ha => ?_) 0 _ (Nat.zero_le _) rfl
 ·rw [List.take_of_length_le (by rw [bytesOf_length]; exact Nat.le_refl _)] at ha
  rw [← au]
  simp only [dV.l0, Int.lt_irrefl, if_false, ha]
  exact aI _
 ·have hb : i < (bytesOf s).length := by rw [bytesOf_length]; exact hi
  refine .inr ⟨strOfNums [(bytesOf s)[i]] ++ a, ?_, rfl, fun r hr => ?_⟩
  ·rw [List.take_succ_eq_append_getElem hb, List.reverse_append, ET, ha]
   rfl
  ·have h1 : (strOfNums [(bytesOf s)[i]]).size = 1 := by rw [strOfNums_size]; rfl
   have h2 : a.size ≤ 100 := by rw [ha, strOfNums_size, List.length_reverse, List.length_take]; omega
   rw [← au]
   simp only [dV.l0, bD (i := i) (by omega), Int.toNat_natCast, Af s i hi]
   rw [ep, ep, ep, ep, ep, ep]
   exact hr
theorem oV (s : ByteArray) (hs : s.size ≤ 100) : gV.f s = some (wM s) := by
 unfold gV.f wM
 rw [if_pos hs]
def Cm (s : ByteArray) : ByteArray := strOfNums ((bytesOf s).mergeSort (fun x y => decide (x ≤ y)))
def bucket (xs : List Int) (c : Nat) : List Int := xs.filter (fun b => decide (b = 97 + (c : Int)))
theorem tL (xs : List Int) (a : Int) : ∀ n : Nat, List.count a ((List.range n).flatMap (bucket xs)) = if 97 ≤ a ∧ a < 97 + (n : Int) then List.count a xs else 0
 | 0 => by rw [if_neg (by omega)]; rfl
 | n + 1 => by
  rw [List.range_succ, List.flatMap_append, List.count_append, tL xs a n]
  have hb : List.count a (([n] : List Nat).flatMap (bucket xs)) = if a = 97 + (n : Int) then List.count a xs else 0 := by
   simp only [List.flatMap_cons, List.flatMap_nil, List.append_nil, bucket]
   split
   ·rename_i h
    exact List.count_filter (by simpa using h)
   ·rename_i h
    refine List.count_eq_zero.2 (fun hm => h ?_)
    have := (List.mem_filter.1 hm).2
    simpa using this
  rw [hb]
  by_cases h1 : a = 97 + (n : Int)
  ·rw [if_pos h1, if_neg (by omega), if_pos (by omega)]
   omega
  ·rw [if_neg h1]
   by_cases h2 : 97 ≤ a ∧ a < 97 + (n : Int)
   ·rw [if_pos h2, if_pos (by omega)]
    omega
   ·rw [if_neg h2, if_neg (by omega)]
theorem Bq (xs : List Int) (h : ∀ x ∈ xs, 97 ≤ x ∧ x ≤ 122) : (List.range 26).flatMap (bucket xs) = xs.mergeSort (fun x y => decide (x ≤ y)) := by
 have hperm : ((List.range 26).flatMap (bucket xs)).Perm xs := by
  rw [List.perm_iff_count]
  intro a
  rw [tL]
  split
  ·rfl
  ·rename_i hn
   refine (List.count_eq_zero.2 (fun hm => hn ?_)).symm
   have := h a hm
   omega
 refine List.Perm.eq_of_pairwise (le := fun x y => decide (x ≤ y) = true) ?_ ?_ ?_ (hperm.trans (List.mergeSort_perm _ _).symm)
 ·intro a b _ _ h1 h2
  have h1 := of_decide_eq_true h1
  have h2 := of_decide_eq_true h2
  omega
 ·rw [List.pairwise_flatMap]
  refine ⟨fun c _ => ?_, ?_⟩
  ·rw [List.pairwise_iff_getElem]
   intro i j hi hj _
   have e1 := (List.mem_filter.1 (List.getElem_mem hi)).2
   have e2 := (List.mem_filter.1 (List.getElem_mem hj)).2
   have e1 := of_decide_eq_true e1
   have e2 := of_decide_eq_true e2
   exact decide_eq_true (by omega)
  ·refine List.Pairwise.imp ?_ (List.pairwise_lt_range (n := 26))
   intro a b hab x hx y hy
   have e1 := of_decide_eq_true (List.mem_filter.1 hx).2
   have e2 := of_decide_eq_true (List.mem_filter.1 hy).2
   exact decide_eq_true (by omega)
 ·refine List.pairwise_mergeSort ?_ ?_ _
  ·intro a b c h1 h2
   have h1 := of_decide_eq_true h1
   have h2 := of_decide_eq_true h2
   exact decide_eq_true (by omega)
  ·intro a b
   by_cases h : a ≤ b
   ·simp [h]
   ·have : b ≤ a := by omega
    simp [this]
theorem om (s : ByteArray) (hw : gL s = true) : Ev (fun k => aY.f k s) (Cm s) := by
 have hsz := gG hw
 have hlet := Ay hw
 have hlen : (bytesOf s).length = s.size := bytesOf_length s
 unfold aY.f Cm
 rw [← Bq (bytesOf s) hlet]
 have hinner : ∀ (c : Nat) (a : ByteArray) (r : ByteArray), c < 26 → a.size ≤ 1000 → Ev (fun k => aY.l0 k s (a ++ strOfNums (bucket (bytesOf s) c)) (97 + ((c + 1 : Nat) : Int))) r → Ev (fun k => aY.l1 k s a (97 + (c : Int)) 0) r := by
  intro c a r hc ha hr
  refine iB (σ := ByteArray) (fun k b j => aY.l1 k s b (97 + (c : Int)) j) s.size (fun j b => b = a ++ strOfNums (bucket ((bytesOf s).take j) c)) (fun _ _ => r) (fun b hb => ?_) (fun j b hj hb => ?_) 0 _ (Nat.zero_le _) (by simp [bucket, strOfNums]; exact (ByteArray.append_empty (b := a)).symm)
  ·rw [List.take_of_length_le (by omega)] at hb
   have e : wrap32 (97 + (c : Int) + 1) = 97 + ((c + 1 : Nat) : Int) := by unfold wrap32; omega
   rw [← au]
   simp only [aY.l1, e, Int.lt_irrefl, if_false, hb]
   exact hr
  ·have hj' : j < (bytesOf s).length := by omega
   have hx := hlet _ (List.getElem_mem hj')
   have hsb : b.size ≤ 1000 + j := by
    rw [hb, ByteArray.size_append, strOfNums_size, bucket]
    have := List.length_filter_le (fun b => decide (b = 97 + (c : Int))) ((bytesOf s).take j)
    rw [List.length_take] at this
    omega
   have e : wrap32 (bt s (j : Int)) = (bytesOf s)[j] := by rw [jW s j hj]; unfold wrap32; omega
   have htk : bucket ((bytesOf s).take (j + 1)) c = bucket ((bytesOf s).take j) c ++ (if (bytesOf s)[j] = 97 + (c : Int) then [(bytesOf s)[j]] else []) := by
    rw [List.take_succ_eq_append_getElem hj', bucket, bucket, List.filter_append, List.filter_cons, List.filter_nil]
    simp only [decide_eq_true_eq]
   refine .inr ⟨a ++ strOfNums (bucket ((bytesOf s).take (j + 1)) c), rfl, rfl, fun q hq => ?_⟩
   rw [← au]
   simp only [aY.l1, e, bD (i := j) (by omega), Int.toNat_natCast, Af s j hj]
   rw [ep, ep, aA]
   rw [htk, ET, ← ByteArray.append_assoc, ← hb] at hq
   split
   ·rename_i h1
    rw [if_pos h1] at hq
    rw [ep, ep, ep (by rw [strOfNums_size]; simp; omega)]
    exact hq
   ·rename_i h1
    rw [if_neg h1, show strOfNums ([] : List Int) = ByteArray.empty from rfl, ByteArray.append_empty] at hq
    exact hq
 refine iB (σ := ByteArray) (fun k a i => aY.l0 k s a (97 + i)) 26 (fun i a => a = strOfNums ((List.range i).flatMap (bucket (bytesOf s))) ∧ a.size ≤ 8 * i) (fun _ _ => strOfNums ((List.range 26).flatMap (bucket (bytesOf s)))) (fun a ha => ?_) (fun i a hi ha => ?_) 0 _ (Nat.zero_le _) ⟨rfl, Nat.le_refl _⟩
 ·rw [← au]
  simp only [aY.l0]
  rw [en, ← au]
  simp only [aY.j1, Bool.false_eq_true, if_false, ha.1]
  exact aI _
 ·have hbl : (bucket (bytesOf s) i).length ≤ 8 := by
   rw [bucket]
   have := List.length_filter_le (fun b => decide (b = 97 + (i : Int))) (bytesOf s)
   omega
  refine .inr ⟨a ++ strOfNums (bucket (bytesOf s) i), ⟨?_, ?_⟩, rfl, fun r hr => ?_⟩
  ·rw [List.range_succ, List.flatMap_append, ET, ← ha.1]
   simp only [List.flatMap_cons, List.flatMap_nil, List.append_nil]
  ·have := ha.2
   rw [ByteArray.size_append, strOfNums_size]
   omega
  ·rw [← au]
   simp only [aY.l0]
   rw [ep, av (gX s), hw, ← au]
   simp only [aY.j1, if_true]
   exact hinner i a r hi (by have := ha.2; omega) hr
theorem nX (s : ByteArray) (hw : gL s = true) : Ev (fun k => iG.f k s) (Cm s) := by
 have hsz := gG hw
 unfold iG.f Cm
 rw [av (gW s), hw, ep rfl, ep, Go.Proofs.YthkfjbodohaglaaGreatDoor.HandSort.Gm]
 exact aI _
def AV (a b : ByteArray) : Bool := if gL a = true then (if gL b = true then (if a = b then false else decide (Cm a = Cm b)) else false) else false
theorem qW (a b : ByteArray) : Ev (fun k => iC.f k a b) (AV a b) := by
 unfold iC.f AV
 rw [av (gX a), aA]
 split
 ·rename_i h1
  rw [av (gX b), aA]
  split
  ·rename_i h2
   simp only [toList_eq, aA]
   split
   ·exact aI _
   ·rw [av (om a h1), av (om b h2), jG]
    exact aI _
  ·exact aI _
 ·exact aI _
theorem qM (a b : ByteArray) : Ev (fun k => iA.f k a b) (AV a b) := by
 unfold iA.f AV
 rw [av (gW a), aA]
 split
 ·rename_i h1
  rw [av (gW b), aA]
  split
  ·rename_i h2
   simp only [toList_eq, aA]
   split
   ·exact aI _
   ·rw [av (nX a h1), av (nX b h2), jG]
    exact aI _
  ·exact aI _
 ·exact aI _
def uj (s : ByteArray) : ByteArray := if gL s = true then s.extract 1 s.size else (⟨#[]⟩ : ByteArray)
theorem rW (s : ByteArray) : Ev (fun k => iJ.f k s) (uj s) := by
 unfold iJ.f uj
 rw [av (gX s), aA]
 split
 ·rename_i h
  have := gG h
  rw [ep]
  exact aI _
 ·exact aI _
theorem rT (s : ByteArray) : Ev (fun k => iH.f k s) (uj s) := by
 unfold iH.f uj
 rw [av (gW s), aA]
 split
 ·rename_i h
  have := gG h
  rw [ep]
  exact aI _
 ·exact aI _
def um (s : ByteArray) : ByteArray := if gL s = true then s.extract 0 (s.size - 1) else (⟨#[]⟩ : ByteArray)
theorem rX (s : ByteArray) : Ev (fun k => iK.f k s) (um s) := by
 unfold iK.f um
 rw [av (gX s), aA]
 split
 ·rename_i h
  have := gG h
  have e : wrap64 ((s.size : Int) - 1) = ((s.size - 1 : Nat) : Int) := by rw [kL (by omega) (by omega)]; omega
  rw [e, ep, ep]
  exact aI _
 ·exact aI _
theorem rU (s : ByteArray) : Ev (fun k => iI.f k s) (um s) := by
 unfold iI.f um
 rw [av (gW s), aA]
 split
 ·rename_i h
  have := gG h
  have e : wrap64 ((s.size : Int) - 1) = ((s.size - 1 : Nat) : Int) := by rw [kL (by omega) (by omega)]; omega
  rw [e, ep, ep]
  exact aI _
 ·exact aI _
theorem oZ (L : Nat → Int → Option Bool) (n b : Nat) (f : Nat → Bool) (R : Bool) (hend : ∀ i : Nat, n ≤ i → i ≤ n + b → Ev (fun k => L k (i : Int)) R)
  (hstep : ∀ i : Nat, b ≤ i → i < n → ∀ r, Ev (fun k => L k ((i + 1 : Nat) : Int)) r → Ev (fun k => L k (i : Int)) (f i || r)) : ∀ a : Nat, b ≤ a → a ≤ n + b → Ev (fun k => L k (a : Int)) ((List.range' a (n - a)).any f || R) := by
 have key : ∀ d a : Nat, n - a = d → b ≤ a → a ≤ n + b → Ev (fun k => L k (a : Int)) ((List.range' a d).any f || R) := by
  intro d
  induction d with
  | zero =>
   intro a h hb ha
   exact gq (hend a (by omega) ha) (by simp)
  | succ d ih =>
   intro a h hb ha
   have := hstep a hb (by omega) _ (ih (a + 1) (by omega) (by omega) (by omega))
   rw [List.range'_succ, List.any_cons, Bool.or_assoc]
   exact this
 intro a hb ha
 exact key _ a rfl hb ha
def tZ (p w : ByteArray) : Bool := if gL p = true then (if gL w = true then (List.range' 1 (w.size - p.size - 1)).any (fun i => decide (w.extract i (i + p.size) = p)) else false) else false
theorem uY (p w : ByteArray) : Ev (fun k => dx.f k p w) (tZ p w) := by
 unfold dx.f tZ
 rw [av (gX p), aA]
 split
 ·rename_i h1
  rw [av (gX w), ← au]
  simp only [dx.j0]
  rw [aA]
  by_cases h2 : gL w = true
  ·have s1 := gG h1
   have s2 := gG h2
   rw [if_neg (by rw [h2]; decide), if_pos h2]
   have e : ∀ i : Nat, i ≤ 20 → wrap64 ((i : Int) + (p.size : Int)) = ((i + p.size : Nat) : Int) := fun i hi => by rw [kL (by omega) (by omega)]; omega
   refine gq (oZ (fun k i => dx.l0 k p w i) (w.size - p.size) 1 _ false (fun i hi hi' => ?_) (fun i hb hi r hr => ?_) 1 (Nat.le_refl _) (by omega)) (by rw [Bool.or_false])
   ·rw [← au]
    simp only [dx.l0, e i (by omega)]
    rw [en]
    exact aI _
   ·rw [← au]
    simp only [dx.l0, e i (by omega), bD (i := i) (by omega), Int.toNat_natCast, toList_eq]
    rw [ep, ep, ep, ep, aA]
    split
    ·rename_i h3
     rw [decide_eq_true h3, Bool.true_or]
     exact aI _
    ·rename_i h3
     rw [decide_eq_false h3, Bool.false_or]
     exact hr
  ·rw [if_pos (by simpa using h2), if_neg h2]
   exact aI _
 ·rw [← au]
  simp only [dx.j0, if_true]
  exact aI _
theorem uP (p w : ByteArray) : Ev (fun k => dw.f k p w) (tZ p w) := by
 unfold dw.f tZ
 rw [av (gW p), aA]
 split
 ·rename_i h1
  rw [av (gW w), ← au]
  simp only [dw.j0]
  rw [aA]
  by_cases h2 : gL w = true
  ·have s1 := gG h1
   have s2 := gG h2
   rw [if_neg (by rw [h2]; decide), if_pos h2]
   have e : ∀ i : Nat, i ≤ 20 → wrap64 ((i : Int) + (p.size : Int)) = ((i + p.size : Nat) : Int) := fun i hi => by rw [kL (by omega) (by omega)]; omega
   refine gq (oZ (fun k i => dw.l0 k p w i) (w.size - p.size) 1 _ false (fun i hi hi' => ?_) (fun i hb hi r hr => ?_) 1 (Nat.le_refl _) (by omega)) (by rw [Bool.or_false])
   ·rw [← au]
    simp only [dw.l0, e i (by omega)]
    rw [en]
    exact aI _
   ·rw [← au]
    simp only [dw.l0, e i (by omega), bD (i := i) (by omega), Int.toNat_natCast, toList_eq]
    rw [ep, ep, ep, ep, aA]
    split
    ·rename_i h3
     rw [decide_eq_true h3, Bool.true_or]
     exact aI _
    ·rename_i h3
     rw [decide_eq_false h3, Bool.false_or]
     exact hr
  ·rw [if_pos (by simpa using h2), if_neg h2]
   exact aI _
 ·rw [← au]
  simp only [dw.j0, if_true]
  exact aI _
theorem CO {Q : Nat → Nat → Prop} (n : Nat) (h : ∀ p, p < n → ∃ K, ∀ k, K ≤ k → Q p k) : ∃ K, ∀ p, p < n → ∀ k, K ≤ k → Q p k := by
 induction n with
 | zero => exact ⟨0, fun p hp => absurd hp (Nat.not_lt_zero _)⟩
 | succ n ih =>
  obtain ⟨K, hK⟩ := ih (fun p hp => h p (by omega))
  obtain ⟨K', hK'⟩ := h n (by omega)
  refine ⟨max K K', fun p hp k hk => ?_⟩
  by_cases e : p = n
  ·subst e
   exact hK' k (by omega)
  ·exact hK p (by omega) k (by omega)
theorem FY (M M' : Nat → List dD → Int → ByteArray → Option Bool) (l : List dD) (s : ByteArray) (a0 : Int) (a1 : ByteArray) (a2 a3 : Int) (hs : s.size ≤ 100)
  (h : ∀ j p, 1 ≤ p → p < s.size → M j l a2 (s.extract 0 p) = M' j l a2 (s.extract 0 p) ∧ M j l a3 (s.extract p s.size) = M' j l a3 (s.extract p s.size)) :
  ∀ (k x : Nat), 1 ≤ x → x ≤ 100 → bX.l0 M k l s (x : Int) a0 a1 a2 a3 = bX.l0 M' k l s (x : Int) a0 a1 a2 a3 := by
 intro k
 induction k with
 | zero => intro x _ _; rfl
 | succ k ih =>
  intro x h1 h2
  simp only [bX.l0]
  by_cases hx : (x : Int) < (s.size : Int)
  ·have hp := h k x h1 (by omega)
   simp only [bD (i := x) (by omega), Int.toNat_natCast, hp.1, hp.2, ih (x + 1) (by omega) (by omega)]
  ·rw [if_neg hx, if_neg hx]
theorem wR (l : List dD) (s : ByteArray) (a0 : Int) (a1 : ByteArray) (a2 a3 : Int) (f g : ByteArray → Bool) (hs : s.size ≤ 8) (h1 : 1 ≤ s.size)
  (hf : ∀ p, 1 ≤ p → p < s.size → Ev (fun k => bP.f k l a2 (s.extract 0 p)) (f (s.extract 0 p)))
  (hg : ∀ p, 1 ≤ p → p < s.size → Ev (fun k => bP.f k l a3 (s.extract p s.size)) (g (s.extract p s.size))) :
  Ev (fun k => bX.f (fun _ => bP.f k) k l a0 a1 a2 a3 s) ((List.range' 1 (s.size - 1)).any (fun p => f (s.extract 0 p) && g (s.extract p s.size))) := by
 obtain ⟨K, hK⟩ := CO (Q := fun p k => 1 ≤ p → bP.f k l a2 (s.extract 0 p) = some (f (s.extract 0 p)) ∧ bP.f k l a3 (s.extract p s.size) = some (g (s.extract p s.size))) s.size (fun p hp => by
  by_cases h : 1 ≤ p
  ·obtain ⟨K1, k1⟩ := hf p h hp
   obtain ⟨K2, k2⟩ := hg p h hp
   exact ⟨max K1 K2, fun k hk _ => ⟨k1 k (by omega), k2 k (by omega)⟩⟩
  ·exact ⟨0, fun _ _ h' => absurd h' h⟩)
 let M' : Nat → List dD → Int → ByteArray → Option Bool := fun _ => bP.f K
 have hM' : ∀ p, 1 ≤ p → p < s.size → M' 0 l a2 (s.extract 0 p) = some (f (s.extract 0 p)) ∧ M' 0 l a3 (s.extract p s.size) = some (g (s.extract p s.size)) := fun p h hp => hK p hp K (Nat.le_refl _) h
 have hev : Ev (fun k => bX.l0 M' k l s 1 a0 a1 a2 a3) ((List.range' 1 (s.size - 1)).any (fun p => f (s.extract 0 p) && g (s.extract p s.size))) := by
  refine gq (oZ (fun k i => bX.l0 M' k l s i a0 a1 a2 a3) s.size 1 _ false (fun i hi hi' => ?_) (fun i hb hi r hr => ?_) 1 (Nat.le_refl _) (by omega)) (by rw [Bool.or_false])
  ·rw [← au]
   simp only [bX.l0]
   rw [en]
   exact aI _
  ·have hm := hM' i hb hi
   have hm1 : ∀ k, M' k l a2 (s.extract 0 i) = some (f (s.extract 0 i)) := fun k => hm.1
   have hm2 : ∀ k, M' k l a3 (s.extract i s.size) = some (g (s.extract i s.size)) := fun k => hm.2
   rw [← au]
   simp only [bX.l0, bD (i := i) (by omega), Int.toNat_natCast, hm1, hm2, Option.bind_some]
   rw [ep, ep, ep, aA]
   split
   ·rename_i h3
    rw [h3, Bool.true_and, aA]
    split
    ·rename_i h4
     rw [h4, Bool.true_or]
     exact aI _
    ·rename_i h4
     rw [Bool.not_eq_true] at h4
     rw [h4, Bool.false_or]
     exact hr
   ·rename_i h3
    rw [Bool.not_eq_true] at h3
    rw [h3, Bool.false_and, Bool.false_or]
    exact hr
 obtain ⟨K2, hK2⟩ := hev
 refine ⟨max K K2, fun k hk => ?_⟩
 show bX.l0 _ k l s 1 a0 a1 a2 a3 = _
 have := FY (fun _ => bP.f k) M' l s a0 a1 a2 a3 (by omega) (fun j p h hp => by
  have e1 := hK p hp k (by omega) h
  have e2 := hM' p h hp
  exact ⟨e1.1.trans e2.1.symm, e1.2.trans e2.2.symm⟩) k 1 (Nat.le_refl _) (by omega)
 rw [show ((1 : Nat) : Int) = 1 from rfl] at this
 rw [this]
 exact hK2 k (by omega)
theorem IY (M M' : Nat → List dD → Int → ByteArray → Option Bool) (l : List dD) (s : ByteArray) (a0 : Int) (a1 : ByteArray) (a2 a3 : Int) (hs : s.size ≤ 100)
  (h : ∀ j p q, 1 ≤ p → p < q → q < s.size → M j l a3 (s.extract p q) = M' j l a3 (s.extract p q) ∧ M j l a2 (s.extract 0 p ++ s.extract q s.size) = M' j l a2 (s.extract 0 p ++ s.extract q s.size)) :
  ∀ k : Nat, (∀ x : Nat, 1 ≤ x → x ≤ 100 → bL.l0 M k l s (x : Int) a0 a1 a2 a3 = bL.l0 M' k l s (x : Int) a0 a1 a2 a3) ∧ (∀ x y : Nat, 1 ≤ x → x < y → x ≤ 100 → y ≤ 102 → bL.l1 M k l s (x : Int) (y : Int) a0 a1 a2 a3 = bL.l1 M' k l s (x : Int) (y : Int) a0 a1 a2 a3) := by
 intro k
 induction k with
 | zero => exact ⟨fun x _ _ => by simp only [bL.l0], fun x y _ _ _ _ => by simp only [bL.l1]⟩
 | succ k ih =>
  refine ⟨fun x h1 h2 => ?_, fun x y h1 h2 h3 h4 => ?_⟩
  ·simp only [bL.l0, bD (i := x) (by omega)]
   by_cases hx : (x : Int) < (s.size : Int)
   ·rw [if_pos hx, if_pos hx, ih.2 x (x + 1) h1 (by omega) h2 (by omega)]
   ·rw [if_neg hx, if_neg hx]
  ·simp only [bL.l1, bD (i := x) (by omega), bD (i := y) (by omega), Int.toNat_natCast]
   by_cases hy : (y : Int) < (s.size : Int)
   ·have hp := h k x y h1 h2 (by omega)
    simp only [hp.1, hp.2, ih.2 x (y + 1) h1 (by omega) h3 (by omega)]
    rw [if_pos hy, if_pos hy]
   ·rw [if_neg hy, if_neg hy]
    by_cases hx : x + 1 ≤ 100
    ·exact ih.1 (x + 1) (by omega) hx
    ·cases k with
     | zero => simp only [bL.l0]
     | succ k =>
      simp only [bL.l0]
      rw [if_neg (by omega), if_neg (by omega)]
theorem BN (l : List dD) (s : ByteArray) (a0 : Int) (a1 : ByteArray) (a2 a3 : Int) (f g : ByteArray → Bool) (hs : s.size ≤ 8) (h1 : 1 ≤ s.size)
  (hg : ∀ p q, 1 ≤ p → p < q → q < s.size → Ev (fun k => bP.f k l a3 (s.extract p q)) (g (s.extract p q)))
  (hf : ∀ p q, 1 ≤ p → p < q → q < s.size → Ev (fun k => bP.f k l a2 (s.extract 0 p ++ s.extract q s.size)) (f (s.extract 0 p ++ s.extract q s.size))) :
  Ev (fun k => bL.f (fun _ => bP.f k) k l a0 a1 a2 a3 s) ((List.range' 1 (s.size - 1)).any (fun p => (List.range' (p + 1) (s.size - (p + 1))).any (fun q => g (s.extract p q) && f (s.extract 0 p ++ s.extract q s.size)))) := by
 obtain ⟨K, hK⟩ := CO (Q := fun p k => ∀ q, q < s.size → 1 ≤ p → p < q → bP.f k l a3 (s.extract p q) = some (g (s.extract p q)) ∧ bP.f k l a2 (s.extract 0 p ++ s.extract q s.size) = some (f (s.extract 0 p ++ s.extract q s.size))) s.size (fun p hp => by
  obtain ⟨K, hK⟩ := CO (Q := fun q k => 1 ≤ p → p < q → bP.f k l a3 (s.extract p q) = some (g (s.extract p q)) ∧ bP.f k l a2 (s.extract 0 p ++ s.extract q s.size) = some (f (s.extract 0 p ++ s.extract q s.size))) s.size (fun q hq => by
   by_cases h : 1 ≤ p ∧ p < q
   ·obtain ⟨K1, k1⟩ := hg p q h.1 h.2 hq
    obtain ⟨K2, k2⟩ := hf p q h.1 h.2 hq
    exact ⟨max K1 K2, fun k hk _ _ => ⟨k1 k (by omega), k2 k (by omega)⟩⟩
   ·exact ⟨0, fun _ _ h' h'' => absurd ⟨h', h''⟩ h⟩)
  exact ⟨K, fun k hk q hq => hK q hq k hk⟩)
 let M' : Nat → List dD → Int → ByteArray → Option Bool := fun _ => bP.f K
 have hM' : ∀ p q, 1 ≤ p → p < q → q < s.size → M' 0 l a3 (s.extract p q) = some (g (s.extract p q)) ∧ M' 0 l a2 (s.extract 0 p ++ s.extract q s.size) = some (f (s.extract 0 p ++ s.extract q s.size)) := fun p q h h' hq => hK p (by omega) K (Nat.le_refl _) q hq h h'
 have hev : Ev (fun k => bL.l0 M' k l s 1 a0 a1 a2 a3) ((List.range' 1 (s.size - 1)).any (fun p => (List.range' (p + 1) (s.size - (p + 1))).any (fun q => g (s.extract p q) && f (s.extract 0 p ++ s.extract q s.size)))) := by
  refine gq (oZ (fun k i => bL.l0 M' k l s i a0 a1 a2 a3) s.size 1 _ false (fun i hi hi' => ?_) (fun i hb hi r hr => ?_) 1 (Nat.le_refl _) (by omega)) (by rw [Bool.or_false])
  ·rw [← au]
   simp only [bL.l0]
   rw [en]
   exact aI _
  ·rw [← au]
   simp only [bL.l0, bD (i := i) (by omega)]
   rw [ep]
   refine oZ (fun k j => bL.l1 M' k l s (i : Int) j a0 a1 a2 a3) s.size (i + 1) _ r (fun j hj hj' => ?_) (fun j hjb hj q hq => ?_) (i + 1) (Nat.le_refl _) (by omega)
   ·rw [← au]
    simp only [bL.l1, bD (i := i) (by omega)]
    rw [en]
    exact hr
   ·have hm := hM' i j hb (by omega) hj
    have hm1 : ∀ k, M' k l a3 (s.extract i j) = some (g (s.extract i j)) := fun k => hm.1
    have hm2 : ∀ k, M' k l a2 (s.extract 0 i ++ s.extract j s.size) = some (f (s.extract 0 i ++ s.extract j s.size)) := fun k => hm.2
    have hz : (s.extract 0 i).size + (s.extract j s.size).size ≤ 9223372036854775807 := by simp only [ByteArray.size_extract]; omega
    rw [← au]
    simp only [bL.l1, bD (i := j) (by omega), Int.toNat_natCast, hm1, hm2, Option.bind_some]
    rw [ep, ep, ep, ep, aA]
    split
    ·rename_i h3
     have c1 : (i : Int) ≤ (s.size : Int) := by omega
     have c2 : (0 : Int) ≤ (j : Int) := by omega
     rw [h3, Bool.true_and]
     simp only [ep c1, if_pos c2, if_pos hz]
     split
     ·rename_i h4
      rw [h4, Bool.true_or]
      exact aI _
     ·rename_i h4
      rw [Bool.not_eq_true] at h4
      rw [h4, Bool.false_or]
      exact hq
    ·rename_i h3
     rw [Bool.not_eq_true] at h3
     rw [h3, Bool.false_and, Bool.false_or]
     exact hq
 obtain ⟨K2, hK2⟩ := hev
 refine ⟨max K K2, fun k hk => ?_⟩
 show bL.l0 _ k l s 1 a0 a1 a2 a3 = _
 have := (IY (fun _ => bP.f k) M' l s a0 a1 a2 a3 (by omega) (fun j p q h h' hq => by
  have e1 := hK p (by omega) k (by omega) q hq h h'
  have e2 := hM' p q h h' hq
  exact ⟨e1.1.trans e2.1.symm, e1.2.trans e2.2.symm⟩) k).1 1 (Nat.le_refl _) (by omega)
 rw [show ((1 : Nat) : Int) = 1 from rfl] at this
 rw [this]
 exact hK2 k (by omega)
def mX (l : List dD) : Nat → Nat → ByteArray → Bool
 | 0, _, _ => false
 | n + 1, i, s =>
  if (aj l i).f0 = 1 then decide (s = (aj l i).f1)
  else if (aj l i).f0 = 2 then mX l n (aj l i).f2.toNat (wM s)
  else if (aj l i).f0 = 3 then AV (aj l (aj l i).f2).f1 s
  else if (aj l i).f0 = 4 then (List.range' 1 (s.size - 1)).any (fun p => mX l n (aj l i).f2.toNat (s.extract 0 p) && mX l n (aj l i).f3.toNat (s.extract p s.size))
  else if (aj l i).f0 = 5 then (List.range' 1 (s.size - 1)).any (fun p => (List.range' (p + 1) (s.size - (p + 1))).any (fun q => mX l n (aj l i).f3.toNat (s.extract p q) && mX l n (aj l i).f2.toNat (s.extract 0 p ++ s.extract q s.size)))
  else if (aj l i).f0 = 6 then decide (s = DI (aj l (aj l i).f2).f1)
  else if (aj l i).f0 = 7 then decide (s = uj (aj l (aj l i).f2).f1)
  else if (aj l i).f0 = 8 then decide (s = um (aj l (aj l i).f2).f1)
  else tZ s (aj l (aj l i).f2).f1
theorem tK (a b : ByteArray) : (a.toList == b.toList) = decide (b = a) := by
 rw [jG]
 by_cases h : a = b
 ·subst h; rfl
 ·rw [decide_eq_false h, decide_eq_false (fun e => h e.symm)]
theorem vT {l : List dD} (hp : lX l = true) : ∀ (n i : Nat) (s : ByteArray), i < n → i < l.length → 1 ≤ s.size → s.size ≤ 8 → Ev (fun k => bP.f k l (i : Int) s) (mX l n i s) := by
 intro n
 induction n with
 | zero => intro i s h; exact absurd h (Nat.not_lt_zero _)
 | succ n ih =>
  intro i s hn hi h1 h8
  obtain ⟨o1, o2, o3, o4, o5, o6, o7, o8⟩ := uo hi (ug hp i hi)
  rw [← au]
  simp only [bP.f, mX, Da l i hi]
  rw [ep, ep, aA]
  by_cases n1 : l[i].f0 = 1
  ·rw [if_pos n1, if_pos n1, tK]; exact aI _
  rw [if_neg n1, if_neg n1, aA]
  have oA := o3 n1
  have eA : l[i].f2 = ((l[i].f2.toNat : Nat) : Int) := by omega
  by_cases n2 : l[i].f0 = 2
  ·rw [if_pos n2, if_pos n2, av (pE s (by omega))]
   have := ih l[i].f2.toNat (wM s) (by omega) (by omega) (by rw [rM]; exact h1) (by rw [rM]; exact h8)
   rw [← eA] at this
   rw [av this]
   exact aI _
  rw [if_neg n2, if_neg n2, aA]
  by_cases n3 : l[i].f0 = 3
  ·rw [if_pos n3, if_pos n3, ep, ep, av (qW _ _)]
   exact aI _
  rw [if_neg n3, if_neg n3, aA]
  by_cases k4 : l[i].f0 = 4
  ·have oB := o4 (.inl k4)
   have eB : l[i].f3 = ((l[i].f3.toNat : Nat) : Int) := by omega
   rw [if_pos k4, if_pos k4, av (wR l s l[i].f0 l[i].f1 l[i].f2 l[i].f3 (mX l n l[i].f2.toNat) (mX l n l[i].f3.toNat) h8 h1 (fun p hp1 hp2 => ?_) (fun p hp1 hp2 => ?_))]
   ·exact aI _
   ·have := ih l[i].f2.toNat (s.extract 0 p) (by omega) (by omega) (by rw [ByteArray.size_extract]; omega) (by rw [ByteArray.size_extract]; omega)
    rw [← eA] at this
    exact this
   ·have := ih l[i].f3.toNat (s.extract p s.size) (by omega) (by omega) (by rw [ByteArray.size_extract]; omega) (by rw [ByteArray.size_extract]; omega)
    rw [← eB] at this
    exact this
  rw [if_neg k4, if_neg k4, aA]
  by_cases k5 : l[i].f0 = 5
  ·have oB := o4 (.inr k5)
   have eB : l[i].f3 = ((l[i].f3.toNat : Nat) : Int) := by omega
   rw [if_pos k5, if_pos k5, av (BN l s l[i].f0 l[i].f1 l[i].f2 l[i].f3 (mX l n l[i].f2.toNat) (mX l n l[i].f3.toNat) h8 h1 (fun p q hp1 hp2 hp3 => ?_) (fun p q hp1 hp2 hp3 => ?_))]
   ·exact aI _
   ·have := ih l[i].f3.toNat (s.extract p q) (by omega) (by omega) (by rw [ByteArray.size_extract]; omega) (by rw [ByteArray.size_extract]; omega)
    rw [← eB] at this
    exact this
   ·have := ih l[i].f2.toNat (s.extract 0 p ++ s.extract q s.size) (by omega) (by omega) (by rw [ByteArray.size_append, ByteArray.size_extract, ByteArray.size_extract]; omega) (by rw [ByteArray.size_append, ByteArray.size_extract, ByteArray.size_extract]; omega)
    rw [← eA] at this
    exact this
  rw [if_neg k5, if_neg k5, aA]
  by_cases k6 : l[i].f0 = 6
  ·rw [if_pos k6, if_pos k6, ep, ep, av (Bf _), tK]
   exact aI _
  rw [if_neg k6, if_neg k6, aA]
  by_cases k7 : l[i].f0 = 7
  ·rw [if_pos k7, if_pos k7, ep, ep, av (rW _), tK]
   exact aI _
  rw [if_neg k7, if_neg k7, aA]
  by_cases k8 : l[i].f0 = 8
  ·rw [if_pos k8, if_pos k8, ep, ep, av (rX _), tK]
   exact aI _
  rw [if_neg k8, if_neg k8, ep, ep, av (uY _ _)]
  exact aI _
def mq (l : List dD) (s : ByteArray) : Bool := if lX l = true then (if gL s = true then mX l l.length (l.length - 1) s else false) else false
theorem BM (l : List dD) (s : ByteArray) (hl : l.length < 4611686018427387904) : Ev (fun k => mD.f k l s) (mq l s) := by
 unfold mD.f mq
 rw [av (qV l hl), aA]
 split
 ·rename_i hp
  have hlen := wh hp
  rw [av (gX s), aA]
  split
  ·rename_i hw
   have hsz := gG hw
   have e : wrap64 ((l.length : Int) - 1) = ((l.length - 1 : Nat) : Int) := by rw [kL (by omega) (by omega)]; omega
   rw [e, av (vT hp l.length (l.length - 1) s (by omega) (by omega) (by omega) (by omega))]
   exact aI _
  ·exact aI _
 ·exact aI _
theorem BD {l : List dD} (hp : lX l = true) : ∀ (n i : Nat) (s : ByteArray), i < n → i < l.length → 1 ≤ s.size → s.size ≤ 8 → Ev (fun k => bg.f k l (i : Int) s) (mX l n i s) := by
 intro n
 induction n with
 | zero => intro i s h; exact absurd h (Nat.not_lt_zero _)
 | succ n ih =>
  intro i s hn hi h1 h8
  obtain ⟨o1, o2, o3, o4, o5, o6, o7, o8⟩ := uo hi (ug hp i hi)
  have hne : ¬ s.toList = ([] : List UInt8) := fun e => by have := toList_nil.1 e; omega
  have hA : 0 ≤ l[i].f2 ∧ l[i].f2 < (l.length : Int) := by
   by_cases n1 : l[i].f0 = 1
   ·have := (o8 n1).1; omega
   ·have := o3 n1; omega
  rw [← au]
  simp only [bg.f, mX, Da l i hi]
  rw [ep, ep, en hne, ep hA.1, ep hA.2, aA]
  split
  ·rw [jG]; exact aI _
  rename_i n1
  have oA := o3 n1
  have eA : l[i].f2 = ((l[i].f2.toNat : Nat) : Int) := by omega
  rw [aA]
  split
  ·have := ih l[i].f2.toNat (wM s) (by omega) (by omega) (by rw [rM]; exact h1) (by rw [rM]; exact h8)
   rw [← eA] at this
   simp only [oV s (show s.size ≤ 100 by omega), Option.bind_some]
   rw [av this]
   exact aI _
  rw [aA]
  split
  ·rw [av (qM _ _)]
   exact aI _
  rw [aA]
  split
  ·rename_i k4
   have oB := o4 (.inl k4)
   have eB : l[i].f3 = ((l[i].f3.toNat : Nat) : Int) := by omega
   refine gq (oZ (fun k j => bg.l0 k l s j l[i].f0 l[i].f1 l[i].f2 l[i].f3) s.size 1 _ false (fun j hj hj' => ?_) (fun j hb hj r hr => ?_) 1 (Nat.le_refl _) (by omega)) (by rw [Bool.or_false])
   ·rw [← au]
    simp only [bg.l0]
    rw [en]
    exact aI _
   ·have m1 := ih l[i].f2.toNat (s.extract 0 j) (by omega) (by omega) (by rw [ByteArray.size_extract]; omega) (by rw [ByteArray.size_extract]; omega)
    have m2 := ih l[i].f3.toNat (s.extract j s.size) (by omega) (by omega) (by rw [ByteArray.size_extract]; omega) (by rw [ByteArray.size_extract]; omega)
    rw [← eA] at m1
    rw [← eB] at m2
    rw [← au]
    simp only [bg.l0, bD (i := j) (by omega), Int.toNat_natCast]
    rw [ep, ep, ep, av m1, aA]
    split
    ·rename_i h3
     rw [h3, Bool.true_and, av m2, aA]
     split
     ·rename_i h4
      rw [h4, Bool.true_or]
      exact aI _
     ·rename_i h4
      rw [Bool.not_eq_true] at h4
      rw [h4, Bool.false_or]
      exact hr
    ·rename_i h3
     rw [Bool.not_eq_true] at h3
     rw [h3, Bool.false_and, Bool.false_or]
     exact hr
  rw [aA]
  split
  ·rename_i k5
   have oB := o4 (.inr k5)
   have eB : l[i].f3 = ((l[i].f3.toNat : Nat) : Int) := by omega
   refine gq (oZ (fun k j => bg.l1 k l s j l[i].f0 l[i].f1 l[i].f2 l[i].f3) s.size 1 _ false (fun j hj hj' => ?_) (fun j hb hj r hr => ?_) 1 (Nat.le_refl _) (by omega)) (by rw [Bool.or_false])
   ·rw [← au]
    simp only [bg.l1]
    rw [en]
    exact aI _
   ·rw [← au]
    simp only [bg.l1, bD (i := j) (by omega)]
    rw [ep]
    refine oZ (fun k q => bg.l2 k l s (j : Int) q l[i].f0 l[i].f1 l[i].f2 l[i].f3) s.size (j + 1) _ r (fun q hq hq' => ?_) (fun q hqb hq t ht => ?_) (j + 1) (Nat.le_refl _) (by omega)
    ·rw [← au]
     simp only [bg.l2, bD (i := j) (by omega)]
     rw [en]
     exact hr
    ·have m1 := ih l[i].f3.toNat (s.extract j q) (by omega) (by omega) (by rw [ByteArray.size_extract]; omega) (by rw [ByteArray.size_extract]; omega)
     have m2 := ih l[i].f2.toNat (s.extract 0 j ++ s.extract q s.size) (by omega) (by omega) (by rw [ByteArray.size_append, ByteArray.size_extract, ByteArray.size_extract]; omega) (by rw [ByteArray.size_append, ByteArray.size_extract, ByteArray.size_extract]; omega)
     rw [← eB] at m1
     rw [← eA] at m2
     have hz : (s.extract 0 j).size + (s.extract q s.size).size ≤ 9223372036854775807 := by simp only [ByteArray.size_extract]; omega
     rw [← au]
     simp only [bg.l2, bD (i := q) (by omega), Int.toNat_natCast]
     rw [ep, ep, ep, ep, av m1, aA]
     split
     ·rename_i h3
      have c1 : (j : Int) ≤ (s.size : Int) := by omega
      have c2 : (0 : Int) ≤ (q : Int) := by omega
      rw [h3, Bool.true_and]
      simp only [ep c1, if_pos c2, if_pos hz]
      rw [av m2, aA]
      split
      ·rename_i h4
       rw [h4, Bool.true_or]
       exact aI _
      ·rename_i h4
       rw [Bool.not_eq_true] at h4
       rw [h4, Bool.false_or]
       exact ht
     ·rename_i h3
      rw [Bool.not_eq_true] at h3
      rw [h3, Bool.false_and, Bool.false_or]
      exact ht
  rw [aA]
  split
  ·rw [av (Aq _), jG]
   exact aI _
  rw [aA]
  split
  ·rw [av (rT _), jG]
   exact aI _
  rw [aA]
  split
  ·rw [av (rU _), jG]
   exact aI _
  rw [ep, av (uP _ _)]
  exact aI _
theorem Bv (l : List dD) (s : ByteArray) (hl : l.length < 4611686018427387904) : Ev (fun k => iU.f k l s) (mq l s) := by
 unfold iU.f mq
 rw [av (qL l hl), aA]
 split
 ·rename_i hp
  have hlen := wh hp
  rw [av (gW s), aA]
  split
  ·rename_i hw
   have hsz := gG hw
   have e : wrap64 ((l.length : Int) - 1) = ((l.length - 1 : Nat) : Int) := by rw [kL (by omega) (by omega)]; omega
   rw [e, av (BD hp l.length (l.length - 1) s (by omega) (by omega) (by omega) (by omega))]
   exact aI _
  ·exact aI _
 ·exact aI _
def DF (l : List ByteArray) (w : ByteArray) : Bool := l.any (fun x => decide (x = w))
theorem wO (l : List ByteArray) (w : ByteArray) (hl : l.length < 4611686018427387904) : Ev (fun k => gH.f k l w) (DF l w) := by
 refine oJ (fun k i => gH.l0 k l w i) l _ ?_ (fun i hi hp r hr => ?_) (fun i hi hp => ?_)
 ·rw [← au]; simp [gH.l0, aI]
 ·rw [← au]
  simp only [gH.l0, kK ByteArray.empty l i hi, bD (i := i) (by omega), toList_eq]
  rw [ep, ep, en (of_decide_eq_false hp)]
  exact hr
 ·rw [← au]
  simp only [gH.l0, kK ByteArray.empty l i hi, toList_eq]
  rw [ep, ep, ep (of_decide_eq_true hp)]
  exact aI _
def ji (out : List ByteArray) (x : ByteArray) : List ByteArray := if DF out x = true then out else out ++ [x]
def Fx (l : List ByteArray) : List ByteArray := l.foldl ji []
theorem DW (out : List ByteArray) (x : ByteArray) : (ji out x).length ≤ out.length + 1 := by
 unfold ji
 split
 ·omega
 ·simp
theorem ql : ∀ (l out : List ByteArray), (l.foldl ji out).length ≤ out.length + l.length
 | [], out => by simp
 | x :: l, out => by
  have h1 := ql l (ji out x)
  have h2 := DW out x
  simp only [List.foldl_cons, List.length_cons]
  omega
theorem Gc (q : ByteArray → Bool) (l : List ByteArray) (i : Nat) (h : i < l.length) : ((l.take (i + 1)).filter q).foldl ji [] = if q l[i] = true then ji (((l.take i).filter q).foldl ji []) l[i] else ((l.take i).filter q).foldl ji [] := by
 rw [List.take_succ_eq_append_getElem h, List.filter_append, List.foldl_append]
 by_cases hq : q l[i] = true
 ·rw [if_pos hq]; simp [hq]
 ·rw [if_neg hq]; simp [hq]
theorem FW (l : List ByteArray) (w : ByteArray) (hl : l.length < 4611686018427387904) : Ev (fun k => bH.f k l w) (match l.findIdx? (fun x => decide (x = w)) with | some i => (i : Int) | none => -1) := by
 refine rE (fun k i => bH.l0 k l w (l.length : Int) i) l _ ?_ (fun i hi hp r hr => ?_) (fun i hi hp => ?_)
 ·rw [← au]; simp [bH.l0, aI]
 ·rw [← au]
  simp only [bH.l0, kK ByteArray.empty l i hi, bD (i := i) (by omega), toList_eq]
  rw [ep, ep, ep, en (fun e => of_decide_eq_false hp e.symm)]
  exact hr
 ·rw [← au]
  simp only [bH.l0, kK ByteArray.empty l i hi, toList_eq]
  rw [ep, ep, ep, aA, if_pos (of_decide_eq_true hp).symm]
  exact aI _
theorem GX {α : Type} (l : List α) (p : α → Bool) : decide ((match l.findIdx? p with | some i => (i : Int) | none => -1) ≥ 0) = l.any p := by
 cases h : l.findIdx? p with
 | none =>
  have := List.findIdx?_eq_none_iff.1 h
  simp
  intro x hx
  simpa using this x hx
 | some i =>
  obtain ⟨h1, h2, _⟩ := List.findIdx?_eq_some_iff_getElem.1 h
  simp
  exact ⟨l[i], List.getElem_mem h1, h2⟩
theorem CJ (l : List ByteArray) (w : ByteArray) (hl : l.length < 4611686018427387904) : Ev (fun k => eY.f k l w) (DF l w) := by
 unfold eY.f DF
 rw [av (FW l w hl), GX]
 exact aI _
theorem CS (l : List ByteArray) (hl : l.length ≤ 8796093022208) : Ev (fun k => gP.f k l) (Fx l) := by
 unfold gP.f
 refine iB (σ := List ByteArray) (fun k out i => gP.l0 k out l (l.length : Int) i) l.length (fun i out => out = (l.take i).foldl ji []) (fun _ _ => Fx l) (fun out ho => ?_) (fun i out hi ho => ?_) 0 [] (Nat.zero_le _) rfl
 ·rw [List.take_length] at ho
  rw [← au]
  simp only [gP.l0, Int.lt_irrefl, if_false, ho]
  exact aI _
 ·have hlen : out.length ≤ i := by
   have := ql (l.take i) []
   rw [ho]
   simp only [List.length_nil, List.length_take] at this
   omega
  refine .inr ⟨ji out l[i], ?_, rfl, fun r hr => ?_⟩
  ·rw [List.take_succ_eq_append_getElem hi, List.foldl_append, ho]
   rfl
  ·rw [← au]
   simp only [gP.l0, kK ByteArray.empty l i hi, bD (i := i) (by omega)]
   rw [ep, ep, ep, av (CJ out l[i] (by omega)), aA]
   unfold ji at hr
   split
   ·rename_i h
    rw [if_pos h] at hr
    exact hr
   ·rename_i h
    rw [if_neg h] at hr
    rw [ep]
    exact hr
def sN (p : ByteArray) : Bool := decide (1 ≤ p.size ∧ p.size ≤ 8) && (bytesOf p).all (fun c => decide (c = 63) || kQ c)
theorem vZ {p : ByteArray} (h : sN p = true) : 1 ≤ p.size ∧ p.size ≤ 8 := by
 unfold sN at h
 rw [Bool.and_eq_true] at h
 exact of_decide_eq_true h.1
theorem uI (p : ByteArray) : Ev (fun k => bW.f k p) (sN p) := by
 simp only [bW.f, lK, Option.bind_some, aA, decide_eq_true_eq, sN]
 by_cases h : (1 : Int) ≤ p.size ∧ (p.size : Int) ≤ 8
 ·rw [if_pos h]
  have h' : 1 ≤ p.size ∧ p.size ≤ 8 := by omega
  simp only [h', decide_true, Bool.true_and, and_self]
  refine jE (fun k i => bW.l0 k p i) (bytesOf p) _ ?_ (fun i hi hp r hr => ?_) (fun i hi hp => ?_)
  ·rw [← au]; simp [bW.l0, bytesOf_length, aI]
  ·have hi' : i < p.size := by rw [bytesOf_length] at hi; exact hi
   rw [← au]
   simp only [bW.l0, jW p i hi', bD (i := i) (by omega)]
   rw [ep, ep, aA]
   by_cases h63 : (bytesOf p)[i] = 63
   ·rw [if_pos h63]; exact hr
   ·simp [kQ, h63] at hp
    rw [if_neg h63, en, en]
    exact hr
  ·have hi' : i < p.size := by rw [bytesOf_length] at hi; exact hi
   simp only [Bool.or_eq_false_iff, decide_eq_false_iff_not, kQ] at hp
   rw [← au]
   simp only [bW.l0, jW p i hi', bD (i := i) (by omega)]
   rw [ep, ep, en hp.1, aA]
   by_cases h1 : (bytesOf p)[i] < 97
   ·rw [if_pos h1]; exact aI _
   ·rw [if_neg h1, ep]; exact aI _
 ·rw [if_neg h]
  have h' : ¬ (1 ≤ p.size ∧ p.size ≤ 8) := by omega
  simp [h', aI]
def nE (p w : ByteArray) : Bool := if sN p = true then (if gL w = true then (if p.size = w.size then (List.range p.size).all (fun i => decide (bt p (i : Int) = 63) || decide (bt p (i : Int) = bt w (i : Int))) else false) else false) else false
theorem nZ (p w : ByteArray) : Ev (fun k => bE.f k p w) (nE p w) := by
 have hf : Ev (fun k => bE.j0 k p w true) false := by
  rw [← au]
  simp only [bE.j0, if_true]
  exact aI _
 unfold bE.f nE
 rw [av (uI p), aA]
 split
 ·rename_i h1
  have hs := vZ h1
  rw [av (gX w), aA]
  split
  ·by_cases h3 : p.size = w.size
   ·rw [if_pos h3, show ((p.size : Int) != (w.size : Int)) = false by rw [h3]; simp, ← au]
    simp only [bE.j0, Bool.false_eq_true, if_false]
    refine jE (fun k i => bE.l0 k p w i) (List.range p.size) _ ?_ (fun i hi hp r hr => ?_) (fun i hi hp => ?_)
    ·rw [← au]; simp [bE.l0, aI]
    ·rw [List.length_range] at hi
     rw [List.getElem_range] at hp
     rw [← au]
     simp only [bE.l0, bD (i := i) (by omega)]
     rw [ep, ep, aA]
     by_cases h63 : bt p (i : Int) = 63
     ·rw [if_pos h63]; exact hr
     ·have he : bt p (i : Int) = bt w (i : Int) := by simpa [h63] using hp
      rw [if_neg h63, ep, ep he]
      exact hr
    ·rw [List.length_range] at hi
     rw [List.getElem_range] at hp
     simp only [Bool.or_eq_false_iff, decide_eq_false_iff_not] at hp
     rw [← au]
     simp only [bE.l0, bD (i := i) (by omega)]
     rw [ep, ep, en hp.1, ep, en hp.2]
     exact aI _
   ·rw [if_neg h3, show ((p.size : Int) != (w.size : Int)) = true by simp; omega]
    exact hf
  ·exact hf
 ·exact hf
theorem tX (p : ByteArray) : Ev (fun k => bU.f k p) (sN p) := by
 simp only [bU.f, kR, Option.bind_some, aA, decide_eq_true_eq, sN]
 by_cases h : (1 : Int) ≤ p.size ∧ (p.size : Int) ≤ 8
 ·rw [if_pos h]
  have h' : 1 ≤ p.size ∧ p.size ≤ 8 := by omega
  simp only [h', decide_true, Bool.true_and, and_self]
  refine jE (fun k i => bU.l0 k p (p.size : Int) i) (bytesOf p) _ ?_ (fun i hi hp r hr => ?_) (fun i hi hp => ?_)
  ·rw [← au]; simp [bU.l0, bytesOf_length, aI]
  ·have hi' : i < p.size := by rw [bytesOf_length] at hi; exact hi
   rw [← au]
   simp only [bU.l0, jW p i hi', bD (i := i) (by omega), mH, Option.bind_some]
   rw [ep, ep, ep, aA]
   by_cases h63 : (bytesOf p)[i] = 63
   ·rw [if_pos h63]; exact hr
   ·simp [kQ, h63] at hp
    rw [if_neg h63, ep (by simpa using hp)]
    exact hr
  ·have hi' : i < p.size := by rw [bytesOf_length] at hi; exact hi
   simp only [Bool.or_eq_false_iff, decide_eq_false_iff_not, kQ] at hp
   rw [← au]
   simp only [bU.l0, jW p i hi', bD (i := i) (by omega), mH, Option.bind_some]
   rw [ep, ep, ep, en hp.1, en (by simpa using hp.2)]
   exact aI _
 ·rw [if_neg h]
  have h' : ¬ (1 ≤ p.size ∧ p.size ≤ 8) := by omega
  simp [h', aI]
theorem nW (p w : ByteArray) : Ev (fun k => aV.f k p w) (nE p w) := by
 have hf : Ev (fun k => aV.j0 k p w true) false := by
  rw [← au]
  simp only [aV.j0, if_true]
  exact aI _
 unfold aV.f nE
 rw [av (tX p), aA]
 split
 ·rename_i h1
  have hs := vZ h1
  rw [av (gW w), aA]
  split
  ·by_cases h3 : p.size = w.size
   ·rw [if_pos h3, show ((p.size : Int) != (w.size : Int)) = false by rw [h3]; simp, ← au]
    simp only [aV.j0, Bool.false_eq_true, if_false]
    refine jE (fun k i => aV.l0 k p w (p.size : Int) i) (List.range p.size) _ ?_ (fun i hi hp r hr => ?_) (fun i hi hp => ?_)
    ·rw [← au]; simp [aV.l0, aI]
    ·rw [List.length_range] at hi
     rw [List.getElem_range] at hp
     rw [← au]
     simp only [aV.l0, bD (i := i) (by omega)]
     rw [ep, ep, ep, aA]
     by_cases h63 : bt p (i : Int) = 63
     ·rw [if_pos h63]; exact hr
     ·have he : bt p (i : Int) = bt w (i : Int) := by simpa [h63] using hp
      rw [if_neg h63, ep, ep he]
      exact hr
    ·rw [List.length_range] at hi
     rw [List.getElem_range] at hp
     simp only [Bool.or_eq_false_iff, decide_eq_false_iff_not] at hp
     rw [← au]
     simp only [aV.l0, bD (i := i) (by omega)]
     rw [ep, ep, ep, en hp.1, ep, en hp.2]
     exact aI _
   ·rw [if_neg h3, show ((p.size : Int) != (w.size : Int)) = true by simp; omega]
    exact hf
  ·exact hf
 ·exact hf
def qm (how a : Int) (pl : List dD) (d : List S62) (pat w : ByteArray) : Bool := nE pat w && ((decide (Int.tmod how 2 = 0) || hasB d w a) && (decide (how < 2) || mq pl w))
def nP (how a : Int) (pl : List dD) (d : List S62) (l : List ByteArray) (pat : ByteArray) : List ByteArray := if 0 ≤ how ∧ how ≤ 3 then Fx (l.filter (qm how a pl d pat)) else []
theorem sZ (a : Int) (pl : List dD) (d : List S62) (l : List ByteArray) (pat : ByteArray) (how : Int) (hp : pl.length < 4611686018427387904) (hd : d.length < 4611686018427387904) (hl : l.length ≤ 8796093022208) : Ev (fun k => aU.f k a pl d l pat how) (nP how a pl d l pat) := by
 have hend : ∀ (out : List ByteArray) (i : Int), Ev (fun k => aU.j1 k d l pat how out i false a pl) out := by
  intro out i
  rw [← au]
  simp only [aU.j1, Bool.false_eq_true, if_false]
  exact aI _
 have hj3 : ∀ (out : List ByteArray) (i : Nat) (w : ByteArray) (sn py : Bool) (r : List ByteArray), i < 4611686018427387904 → out.length < 8796093022208 → Ev (fun k => aU.l0 k d l pat how (if (nE pat w && (sn && py)) = true then ji out w else out) ((i + 1 : Nat) : Int) a pl) r → Ev (fun k => aU.j3 k d l pat how out (i : Int) w sn py a pl) r := by
  intro out i w sn py r hi ho hr
  rw [← au]
  simp only [aU.j3, bD (i := i) hi]
  rw [av (nZ pat w), aA]
  by_cases h1 : nE pat w = true
  ·rw [if_pos h1, aA]
   by_cases h2 : sn = true
   ·rw [if_pos h2, aA]
    by_cases h3 : py = true
    ·rw [if_pos h3, av (wO out w (by omega)), aA]
     rw [h1, h2, h3] at hr
     simp only [Bool.and_self, if_true] at hr
     unfold ji at hr
     by_cases h4 : DF out w = true
     ·rw [if_pos h4] at hr ⊢
      exact hr
     ·rw [if_neg h4] at hr ⊢
      rw [ep]
      exact hr
    ·rw [if_neg h3]
     rw [if_neg (by simp [h3])] at hr
     exact hr
   ·rw [if_neg h2]
    rw [if_neg (by simp [h2])] at hr
    exact hr
  ·rw [if_neg h1]
   rw [if_neg (by simp [h1])] at hr
   exact hr
 have hj2 : ∀ (out : List ByteArray) (i : Int) (w : ByteArray) (sn : Bool) (r : List ByteArray), Ev (fun k => aU.j3 k d l pat how out i w sn (decide (how < 2) || mq pl w) a pl) r → Ev (fun k => aU.j2 k d l pat how out i w sn a pl) r := by
  intro out i w sn r hr
  rw [← au]
  simp only [aU.j2]
  rw [aA]
  by_cases h : how < 2
  ·rw [if_pos h]
   rw [decide_eq_true h, Bool.true_or] at hr
   exact hr
  ·rw [if_neg h, av (BM pl w hp)]
   rw [decide_eq_false h, Bool.false_or] at hr
   exact hr
 unfold aU.f nP
 by_cases hh : 0 ≤ how ∧ how ≤ 3
 ·rw [if_pos hh]
  refine iB (σ := List ByteArray) (fun k out i => aU.l0 k d l pat how out i a pl) l.length (fun i out => out = ((l.take i).filter (qm how a pl d pat)).foldl ji []) (fun _ _ => Fx (l.filter (qm how a pl d pat))) (fun out ho => ?_) (fun i out hi ho => ?_) 0 [] (Nat.zero_le _) rfl
  ·rw [List.take_length] at ho
   rw [← au]
   simp only [aU.l0, Int.lt_irrefl, if_false]
   rw [ho]
   exact hend _ _
  ·have hlen : out.length ≤ i := by
    have h1 := ql ((l.take i).filter (qm how a pl d pat)) []
    have h2 := List.length_filter_le (qm how a pl d pat) (l.take i)
    rw [ho]
    simp only [List.length_nil, List.length_take] at h1 h2
    omega
   refine .inr ⟨if qm how a pl d pat l[i] = true then ji out l[i] else out, ?_, rfl, fun r hr => ?_⟩
   ·rw [Gc _ l i hi, ← ho]
   ·have hr' := hj2 out (i : Int) l[i] (decide (Int.tmod how 2 = 0) || hasB d l[i] a) r (hj3 out i l[i] _ _ r (by omega) (by omega) hr)
    rw [← au]
    simp only [aU.l0, lK, Option.bind_some, decide_eq_true hh]
    rw [ep, ← au]
    simp only [aU.j1, if_true, kK ByteArray.empty l i hi]
    rw [ep, ep, aA]
    by_cases h : Int.tmod how 2 = 0
    ·rw [if_pos h]
     rw [decide_eq_true h, Bool.true_or] at hr'
     exact hr'
    ·rw [if_neg h, av (uX d l[i] a hd)]
     rw [decide_eq_false h, Bool.false_or] at hr'
     exact hr'
 ·rw [if_neg hh, ← au]
  simp only [aU.l0, lK, Option.bind_some, decide_eq_false hh]
  rw [aA]
  split
  ·exact hend _ _
  ·exact hend _ _
theorem BA (how a : Int) (pl : List dD) (d : List S62) (pat w : ByteArray) (hh : 0 ≤ how ∧ how ≤ 3) (hp : pl.length < 4611686018427387904) (hd : d.length < 4611686018427387904) : Ev (fun k => aT.g how k a pl d pat w) (qm how a pl d pat w) := by
 have hc : how = 0 ∨ how = 1 ∨ how = 2 ∨ how = 3 := by omega
 have f := nW pat w
 have h := uO d w a hd
 have m := Bv pl w hp
 unfold qm
 generalize nE pat w = fb at *
 generalize hasB d w a = hb at *
 generalize mq pl w = mb at *
 rcases hc with rfl | rfl | rfl | rfl
 ·rw [show Int.tmod 0 2 = 0 by decide]
  simp only [aT.g, aT.g0, if_true]
  rw [av f, aA]
  cases fb <;> simp [dQ]
 ·rw [show Int.tmod 1 2 = 1 by decide]
  simp only [aT.g, aT.g1, if_true, show ¬ (1 : Int) = 0 by decide, if_false]
  rw [av f, aA, av h, aA]
  cases fb <;> cases hb <;> simp [dQ]
 ·rw [show Int.tmod 2 2 = 0 by decide]
  simp only [aT.g, aT.g2, if_true, show ¬ (2 : Int) = 0 by decide, show ¬ (2 : Int) = 1 by decide, if_false]
  rw [av f, aA, av m]
  cases fb <;> simp [dQ]
 ·rw [show Int.tmod 3 2 = 1 by decide]
  simp only [aT.g, aT.g3, show ¬ (3 : Int) = 0 by decide, show ¬ (3 : Int) = 1 by decide, show ¬ (3 : Int) = 2 by decide, if_false]
  rw [av f, aA, av h, aA, av m]
  cases fb <;> cases hb <;> simp [dQ]
theorem sK (a : Int) (pl : List dD) (d : List S62) (l : List ByteArray) (pat : ByteArray) (how : Int) (hp : pl.length < 4611686018427387904) (hd : d.length < 4611686018427387904) (hl : l.length ≤ 8796093022208) : Ev (fun k => aT.f k a pl d l pat how) (nP how a pl d l pat) := by
 unfold aT.f nP
 simp only [kR, Option.bind_some, decide_eq_true_eq, aA]
 by_cases hh : 0 ≤ how ∧ how ≤ 3
 ·rw [if_pos hh, if_pos hh, av (BF l _ (qm how a pl d pat) hl (fun s _ => BA how a pl d pat s hh hp hd))]
  exact CS _ (Nat.le_trans (List.length_filter_le _ _) hl)
 ·rw [if_neg hh, if_neg hh]
  exact aI _
def Nb (R C : Int) (i j : Nat) : Prop := ∃ r c r' c' : Int, (0 ≤ r ∧ r < R) ∧ (0 ≤ c ∧ c < C) ∧ (0 ≤ r' ∧ r' < R) ∧ (0 ≤ c' ∧ c' < C) ∧ (i : Int) = r * C + c ∧ (j : Int) = r' * C + c' ∧ ((r' = r - 1 ∧ c' = c) ∨ (r' = r + 1 ∧ c' = c) ∨ (r' = r ∧ c' = c - 1) ∨ (r' = r ∧ c' = c + 1))
def Wh (s : ByteArray) (i : Nat) : Prop := bt s (i : Int) = 46
inductive pR (R C : Int) (s : ByteArray) (a : Nat) : Nat → Prop
 | refl : pR R C s a a
 | step {x y : Nat} : pR R C s a x → Nb R C x y → Wh s y → pR R C s a y
theorem pR.trans {R C : Int} {s : ByteArray} {a x y : Nat} (h1 : pR R C s a x) (h2 : pR R C s x y) : pR R C s a y := by
 induction h2 with
 | refl => exact h1
 | step _ hn hw ih => exact .step ih hn hw
theorem Fj {C r c r' c' : Int} (hc : 0 ≤ c ∧ c < C) (hc' : 0 ≤ c' ∧ c' < C) (h : r * C + c = r' * C + c') : r = r' ∧ c = c' := by
 have h1 : (r * C + c) / C = r := by rw [Int.add_comm, Int.add_mul_ediv_right _ _ (by omega), Int.ediv_eq_zero_of_lt hc.1 hc.2]; omega
 have h2 : (r' * C + c') / C = r' := by rw [Int.add_comm, Int.add_mul_ediv_right _ _ (by omega), Int.ediv_eq_zero_of_lt hc'.1 hc'.2]; omega
 have h3 : r = r' := by rw [← h1, h, h2]
 subst h3
 exact ⟨rfl, by omega⟩
theorem cell_of (C : Int) (i : Nat) : (i : Int) = ((i : Int) / C) * C + (i : Int) % C := by
 have := Int.mul_ediv_add_emod (i : Int) C
 rw [Int.mul_comm]
 omega
theorem Fp {R C : Int} {i : Nat} (hC : 0 < C) (hi : (i : Int) < R * C) : (0 ≤ (i : Int) / C ∧ (i : Int) / C < R) ∧ (0 ≤ (i : Int) % C ∧ (i : Int) % C < C) :=
 ⟨⟨Int.ediv_nonneg (by omega) (by omega), Int.ediv_lt_of_lt_mul hC hi⟩, Int.emod_nonneg _ (by omega), Int.emod_lt_of_pos _ hC⟩
theorem wV {R C r c : Int} (hr : 0 ≤ r ∧ r < R) (hc : 0 ≤ c ∧ c < C) : 0 ≤ r * C + c ∧ r * C + c < R * C := by
 have h1 : 0 ≤ r * C := Int.mul_nonneg hr.1 (by omega)
 have h2 : (r + 1) * C ≤ R * C := Int.mul_le_mul_of_nonneg_right (by omega) (by omega)
 rw [Int.add_mul] at h2
 omega
theorem Nb.lt {R C : Int} {i j : Nat} (h : Nb R C i j) : (j : Int) < R * C := by
 obtain ⟨r, c, r', c', _, _, h3, h4, _, e, _⟩ := h
 have := wV h3 h4
 omega
theorem Nb.symm {R C : Int} {i j : Nat} (h : Nb R C i j) : Nb R C j i := by
 obtain ⟨r, c, r', c', h1, h2, h3, h4, e1, e2, h5⟩ := h
 exact ⟨r', c', r, c, h3, h4, h1, h2, e2, e1, by omega⟩
def cnt (n : Nat) (d : Nat → Bool) : Nat := (List.range n).countP (fun j => !d j)
theorem cnt_mono {n : Nat} {d d' : Nat → Bool} (h : ∀ j, d j = true → d' j = true) : cnt n d' ≤ cnt n d := by
 refine List.countP_mono_left (fun j _ hj => ?_)
 have := h j
 revert hj this
 cases d j <;> cases d' j <;> simp
theorem cnt_lt {d d' : Nat → Bool} (h : ∀ j, d j = true → d' j = true) (i : Nat) (h0 : d i = false) (h1 : d' i = true) : ∀ n, i < n → cnt n d' < cnt n d := by
 intro n
 induction n with
 | zero => intro hi; omega
 | succ n ih =>
  intro hi
  unfold cnt at *
  rw [List.range_succ, List.countP_append, List.countP_append]
  by_cases e : i = n
  ·subst e
   have := cnt_mono (n := i) h
   unfold cnt at this
   simp [h0, h1]
   omega
  ·have h2 := ih (by omega)
   have h3 : List.countP (fun j => !d' j) [n] ≤ List.countP (fun j => !d j) [n] := by
    refine List.countP_mono_left (fun j _ hj => ?_)
    have := h j
    revert hj this
    cases d j <;> cases d' j <;> simp
   omega
theorem Kg (d : Array Bool) (i j : Nat) (hi : i < d.size) : (d.setIfInBounds i true)[j]! = (decide (j = i) || d[j]!) := by
 simp only [getElem!_def, Array.getElem?_setIfInBounds]
 by_cases h : j = i
 ·subst h; simp [hi]
 ·rw [if_neg (by omega)]; simp [h]
def JC (R C : Int) (s : ByteArray) (d : Array Bool) (r c : Int) (d' : Array Bool) : Prop :=
 d'.size = d.size ∧ (∀ j : Nat, d[j]! = true → d'[j]! = true) ∧ (∀ i : Nat, (0 ≤ r ∧ r < R) → (0 ≤ c ∧ c < C) → (i : Int) = r * C + c → Wh s i → d'[i]! = true) ∧
 ∀ j : Nat, d'[j]! = true → d[j]! = false → (∃ i : Nat, (0 ≤ r ∧ r < R) ∧ (0 ≤ c ∧ c < C) ∧ (i : Int) = r * C + c ∧ Wh s i ∧ pR R C s i j) ∧ ∀ y, Nb R C j y → Wh s y → d'[y]! = true
theorem JC.from {R C : Int} {s : ByteArray} {d d' : Array Bool} {r c r1 c1 : Int} {i : Nat} (hr : 0 ≤ r ∧ r < R) (hc : 0 ≤ c ∧ c < C) (hi : (i : Int) = r * C + c) (hn : (r1 = r - 1 ∧ c1 = c) ∨ (r1 = r + 1 ∧ c1 = c) ∨ (r1 = r ∧ c1 = c - 1) ∨ (r1 = r ∧ c1 = c + 1)) (h : JC R C s d r1 c1 d') :
  ∀ j : Nat, d'[j]! = true → d[j]! = false → pR R C s i j ∧ ∀ y, Nb R C j y → Wh s y → d'[y]! = true := by
 intro j h1 h2
 obtain ⟨⟨i1, a1, a2, a3, a4, a5⟩, h3⟩ := h.2.2.2 j h1 h2
 exact ⟨(pR.step .refl ⟨r, c, r1, c1, hr, hc, a1, a2, hi, a3, hn⟩ a4).trans a5, h3⟩
theorem JX {R C : Int} {s : ByteArray} (hs : (s.size : Int) = R * C) : ∀ (m : Nat) (d : Array Bool) (r c : Int), d.size = s.size → cnt s.size (fun j => d[j]!) < m → ∃ d', Ev (fun k => HandForm.dfs R C s k d r c) d' ∧ JC R C s d r c d' := by
 intro m
 induction m with
 | zero => intro d r c _ h; omega
 | succ m ih =>
  intro d r c hd hm
  by_cases hstop : HandForm.qC R C s d r c = true
  ·refine ⟨d, ?_, rfl, fun _ h => h, fun i hr hc hi hw => ?_, fun j h1 h2 => by rw [h1] at h2; cases h2⟩
   ·rw [← au]
    simp only [HandForm.dfs, hstop, if_true]
    exact aI _
   ·unfold HandForm.qC at hstop
    unfold Wh at hw
    rw [if_pos hr, if_pos hc, ← hi, hw] at hstop
    simpa using hstop
  ·have hgo := hstop
   unfold HandForm.qC at hgo
   have hr : 0 ≤ r ∧ r < R := Decidable.byContradiction fun h => hgo (by rw [if_neg h])
   rw [if_pos hr] at hgo
   have hc : 0 ≤ c ∧ c < C := Decidable.byContradiction fun h => hgo (by rw [if_neg h])
   rw [if_pos hc] at hgo
   have hlt := wV hr hc
   obtain ⟨i, hi⟩ : ∃ i : Nat, (i : Int) = r * C + c := ⟨(r * C + c).toNat, by omega⟩
   rw [← hi] at hgo
   simp only [Int.toNat_natCast, Bool.or_eq_true, Bool.not_eq_true', beq_eq_false_iff_ne, not_or, Bool.not_eq_true, ne_eq, Decidable.not_not] at hgo
   obtain ⟨hdi, hwi⟩ := hgo
   have hid : i < d.size := by omega
   have hget := fun j => Kg d i j hid
   have hd0 : (d.setIfInBounds i true).size = s.size := by rw [Array.size_setIfInBounds]; exact hd
   have hsub : ∀ j : Nat, d[j]! = true → (d.setIfInBounds i true)[j]! = true := fun j h => by rw [hget, h, Bool.or_true]
   have hc0 : cnt s.size (fun j => (d.setIfInBounds i true)[j]!) < m := by
    have := cnt_lt (d := fun j => d[j]!) (d' := fun j => (d.setIfInBounds i true)[j]!) hsub i hdi (by show (d.setIfInBounds i true)[i]! = true; rw [hget]; simp) s.size (by omega)
    omega
   obtain ⟨d1, e1, p1⟩ := ih (d.setIfInBounds i true) (r - 1) c hd0 hc0
   have c1 := Nat.lt_of_le_of_lt (cnt_mono (n := s.size) (d := fun j => (d.setIfInBounds i true)[j]!) (d' := fun j => d1[j]!) p1.2.1) hc0
   have z1 : d1.size = s.size := p1.1.trans hd0
   obtain ⟨d2, e2, p2⟩ := ih d1 (r + 1) c z1 c1
   have c2 := Nat.lt_of_le_of_lt (cnt_mono (n := s.size) (d := fun j => d1[j]!) (d' := fun j => d2[j]!) p2.2.1) c1
   have z2 : d2.size = s.size := p2.1.trans z1
   obtain ⟨d3, e3, p3⟩ := ih d2 r (c - 1) z2 c2
   have c3 := Nat.lt_of_le_of_lt (cnt_mono (n := s.size) (d := fun j => d2[j]!) (d' := fun j => d3[j]!) p3.2.1) c2
   have z3 : d3.size = s.size := p3.1.trans z2
   obtain ⟨d4, e4, p4⟩ := ih d3 r (c + 1) z3 c3
   have i4 : d4[i]! = true := p4.2.1 i (p3.2.1 i (p2.2.1 i (p1.2.1 i (by rw [hget]; simp))))
   have clI : ∀ y, Nb R C i y → Wh s y → d4[y]! = true := by
    rintro y ⟨r1, c1, r', c', b1, b2, b3, b4, q1, q2, q3⟩ hw
    obtain ⟨rfl, rfl⟩ := Fj b2 hc (q1.symm.trans hi)
    rcases q3 with ⟨rfl, rfl⟩ | ⟨rfl, rfl⟩ | ⟨rfl, rfl⟩ | ⟨rfl, rfl⟩
    ·exact p4.2.1 y (p3.2.1 y (p2.2.1 y (p1.2.2.1 y b3 b4 q2 hw)))
    ·exact p4.2.1 y (p3.2.1 y (p2.2.2.1 y b3 b4 q2 hw))
    ·exact p4.2.1 y (p3.2.2.1 y b3 b4 q2 hw)
    ·exact p4.2.2.1 y b3 b4 q2 hw
   refine ⟨d4, ?_, by rw [p4.1, z3, hd], fun j h => p4.2.1 j (p3.2.1 j (p2.2.1 j (p1.2.1 j (hsub j h)))), fun i' _ _ hi' _ => ?_, fun j h1 h2 => ?_⟩
   ·rw [← au]
    simp only [HandForm.dfs, hstop, Bool.false_eq_true, if_false, ← hi, Int.toNat_natCast]
    rw [av e1, av e2, av e3]
    exact e4
   ·rw [show i' = i by omega]; exact i4
   ·have : pR R C s i j ∧ ∀ y, Nb R C j y → Wh s y → d4[y]! = true := by
     cases h3 : d3[j]! with
     | false => exact p4.from hr hc hi (by omega) j h1 h3
     | true =>
      have up : (pR R C s i j ∧ ∀ y, Nb R C j y → Wh s y → d3[y]! = true) → pR R C s i j ∧ ∀ y, Nb R C j y → Wh s y → d4[y]! = true := fun q => ⟨q.1, fun y a b => p4.2.1 y (q.2 y a b)⟩
      cases h4 : d2[j]! with
      | false => exact up (p3.from hr hc hi (by omega) j h3 h4)
      | true =>
       have up2 : (pR R C s i j ∧ ∀ y, Nb R C j y → Wh s y → d2[y]! = true) → pR R C s i j ∧ ∀ y, Nb R C j y → Wh s y → d4[y]! = true := fun q => up ⟨q.1, fun y a b => p3.2.1 y (q.2 y a b)⟩
       cases h5 : d1[j]! with
       | false => exact up2 (p2.from hr hc hi (by omega) j h4 h5)
       | true =>
        cases h6 : (d.setIfInBounds i true)[j]! with
        | false =>
         have q := p1.from hr hc hi (by omega) j h5 h6
         exact up2 ⟨q.1, fun y a b => p2.2.1 y (q.2 y a b)⟩
        | true =>
         rw [hget, h2, Bool.or_false] at h6
         have := of_decide_eq_true h6
         subst this
         exact ⟨.refl, clI⟩
    exact ⟨⟨i, hr, hc, hi, hwi, this.1⟩, this.2⟩
def Met (R C : Int) (s : ByteArray) (i j : Nat) : Prop := ∃ a, a < i ∧ Wh s a ∧ pR R C s a j
theorem Met.closed {R C : Int} {s : ByteArray} {i x y : Nat} (h : Met R C s i x) (hn : Nb R C x y) (hw : Wh s y) : Met R C s i y := by
 obtain ⟨a, h1, h2, h3⟩ := h
 exact ⟨a, h1, h2, .step h3 hn hw⟩
theorem Met.succ {R C : Int} {s : ByteArray} {i j : Nat} : Met R C s (i + 1) j ↔ Met R C s i j ∨ (Wh s i ∧ pR R C s i j) := by
 constructor
 ·rintro ⟨a, h1, h2, h3⟩
  by_cases e : a = i
  ·subst e; exact .inr ⟨h2, h3⟩
  ·exact .inl ⟨a, by omega, h2, h3⟩
 ·rintro (⟨a, h1, h2, h3⟩ | ⟨h1, h2⟩)
  ·exact ⟨a, by omega, h2, h3⟩
  ·exact ⟨i, by omega, h1, h2⟩
theorem Met.same {R C : Int} {s : ByteArray} {i j : Nat} (h : Wh s i → Met R C s i i) : Met R C s (i + 1) j ↔ Met R C s i j := by
 rw [Met.succ]
 refine ⟨fun q => q.elim id (fun ⟨h1, h2⟩ => ?_), .inl⟩
 obtain ⟨a, a1, a2, a3⟩ := h h1
 exact ⟨a, a1, a2, a3.trans h2⟩
open Classical in
noncomputable def root (R C : Int) (s : ByteArray) (i : Nat) : Nat := if Wh s i ∧ ¬ Met R C s i i then 1 else 0
noncomputable def roots (R C : Int) (s : ByteArray) (i : Nat) : Nat := ((List.range' i (s.size - i)).map (root R C s)).sum
theorem Ck (R C : Int) (s : ByteArray) : roots R C s s.size = 0 := by simp [roots]
theorem AX (R C : Int) (s : ByteArray) (i : Nat) (hi : i < s.size) : roots R C s i = root R C s i + roots R C s (i + 1) := by
 unfold roots
 rw [show s.size - i = (s.size - (i + 1)) + 1 by omega, List.range'_succ]
 simp
theorem DZ {R C : Int} {s : ByteArray} {i : Nat} (h : Wh s i) (h' : ¬ Met R C s i i) : root R C s i = 1 := by unfold root; rw [if_pos ⟨h, h'⟩]
theorem Dk {R C : Int} {s : ByteArray} {i : Nat} (h : Wh s i → Met R C s i i) : root R C s i = 0 := by unfold root; rw [if_neg (fun q => q.2 (h q.1))]
theorem IQ {R C : Int} {s : ByteArray} (hs : (s.size : Int) = R * C) (hC : 0 < C) (d : Array Bool) (hd : d.size = s.size) (i : Nat) (hi : i < s.size) (hw : Wh s i) (hm : ∀ j : Nat, d[j]! = true ↔ Met R C s i j) :
  ∃ d', Ev (fun k => HandForm.dfs R C s k d ((i : Int) / C) ((i : Int) % C)) d' ∧ d'.size = s.size ∧ ∀ j : Nat, d'[j]! = true ↔ Met R C s (i + 1) j := by
 have hin := Fp hC (show (i : Int) < R * C by omega)
 have hof := cell_of C i
 obtain ⟨d', e, p1, p2, p3, p4⟩ := JX hs _ d ((i : Int) / C) ((i : Int) % C) hd (Nat.lt_succ_self _)
 refine ⟨d', e, p1.trans hd, fun j => ?_⟩
 rw [Met.succ, ← hm]
 constructor
 ·intro h
  cases h0 : d[j]! with
  | true => exact .inl rfl
  | false =>
   obtain ⟨⟨i', _, _, a3, _, a5⟩, _⟩ := p4 j h h0
   rw [show i' = i by omega] at a5
   exact .inr ⟨hw, a5⟩
 ·rintro (h | ⟨_, h⟩)
  ·exact p2 j h
  ·induction h with
   | refl => exact p3 i hin.1 hin.2 hof hw
   | step hx hn hwy ih =>
    rename_i x y
    cases h0 : d[x]! with
    | true => exact p2 y ((hm y).2 (((hm x).1 h0).closed hn hwy))
    | false => exact (p4 x ih h0).2 y hn hwy
theorem HZ {R C : Int} {s : ByteArray} (hs : (s.size : Int) = R * C) (hC : 0 < C) : Ev (fun k => HandForm.parts R C s k (Array.replicate s.size false) 0 0) (roots R C s 0 : Int) := by
 have := iB (σ := Array Bool × Int) (fun k st i => HandForm.parts R C s k st.1 i st.2) s.size (fun i st => st.1.size = s.size ∧ ∀ j : Nat, st.1[j]! = true ↔ Met R C s i j) (fun i st => st.2 + (roots R C s i : Int)) (fun st hst => ?_) (fun i st hi hst => ?_) 0 (Array.replicate s.size false, 0) (Nat.zero_le _) ⟨by simp, fun j => ?_⟩
 ·simpa using this
 ·rw [Ck, ← au]
  simp only [HandForm.parts, Int.lt_irrefl, if_false]
  exact gq (aI _) (by simp)
 ·obtain ⟨hd, hm⟩ := hst
  have hrs := AX R C s i hi
  by_cases hw : Wh s i
  ·cases h0 : st.1[i]! with
   | true =>
    refine .inr ⟨st, ⟨hd, fun j => ?_⟩, ?_, fun r hr => ?_⟩
    ·rw [hm, Met.same (fun _ => (hm i).1 h0)]
    ·rw [hrs, Dk (fun _ => (hm i).1 h0)]; simp
    ·rw [← au]
     unfold Wh at hw
     simp only [HandForm.parts, Int.toNat_natCast, h0, if_true, hw]
     rw [ep]
     exact hr
   | false =>
    have hnm : ¬ Met R C s i i := fun q => by have := (hm i).2 q; rw [h0] at this; cases this
    obtain ⟨d', e, z, hm'⟩ := IQ hs hC st.1 hd i hi hw hm
    refine .inr ⟨(d', st.2 + 1), ⟨z, hm'⟩, ?_, fun r hr => ?_⟩
    ·rw [hrs, DZ hw hnm]; simp; omega
    ·rw [← au]
     unfold Wh at hw
     simp only [HandForm.parts, Int.toNat_natCast, h0, Bool.false_eq_true, if_false, if_true, hw]
     rw [ep, av e]
     exact hr
  ·refine .inr ⟨st, ⟨hd, fun j => ?_⟩, ?_, fun r hr => ?_⟩
   ·rw [hm, Met.same (fun h => absurd h hw)]
   ·rw [hrs, Dk (fun h => absurd h hw)]; simp
   ·rw [← au]
    unfold Wh at hw
    simp only [HandForm.parts, hw, if_false]
    rw [ep]
    exact hr
 ·constructor
  ·intro h
   exfalso
   rw [getElem!_def, Array.getElem?_replicate] at h
   split at h <;> simp_all
  ·rintro ⟨a, h, _⟩
   omega
noncomputable def sP (R C : Int) (s : ByteArray) : Int := if dP R C s = true then (roots R C s 0 : Int) else 0
theorem wG (R C : Int) (s : ByteArray) : Ev (fun k => jL.f k R C s) (sP R C s) := by
 unfold jL.f sP
 rw [av (jA R C s), aA]
 split
 ·rename_i hg
  obtain ⟨_, h2, h3, _⟩ := iM hg
  exact HZ h3 (by omega)
 ·exact aI _
theorem DU {R C : Int} {x : List Bool} (hC : 0 < C) (hx : (x.length : Int) = R * C) (y : Nat) (hy : y < x.length) : HandReach.uh C x (y : Int) = true ↔ ∃ a : Nat, Nb R C a y ∧ x.getD a false = true := by
 have hin := Fp hC (show (y : Int) < R * C by omega)
 have hof := cell_of C y
 unfold HandReach.uh
 constructor
 ·intro h
  simp only [Bool.or_eq_true, Bool.and_eq_true, decide_eq_true_eq] at h
  rcases h with ((⟨h1, h2⟩ | ⟨h1, h2⟩) | ⟨h1, h2⟩) | ⟨h1, h2⟩
  ·have h0 : 0 ≤ ((y : Int) / C) * C := Int.mul_nonneg hin.1.1 (by omega)
   exact ⟨((y : Int) - 1).toNat, ⟨(y : Int) / C, (y : Int) % C - 1, (y : Int) / C, (y : Int) % C, hin.1, by omega, hin.1, hin.2, by omega, hof, by omega⟩, h2⟩
  ·exact ⟨((y : Int) + 1).toNat, ⟨(y : Int) / C, (y : Int) % C + 1, (y : Int) / C, (y : Int) % C, hin.1, by omega, hin.1, hin.2, by omega, hof, by omega⟩, h2⟩
  ·have h3 : 1 ≤ (y : Int) / C := by
    refine Decidable.byContradiction fun q => ?_
    rw [show (y : Int) / C = 0 by omega] at hof
    omega
   have h4 : ((y : Int) / C - 1) * C = (y : Int) / C * C - C := by rw [Int.sub_mul, Int.one_mul]
   exact ⟨((y : Int) - C).toNat, ⟨(y : Int) / C - 1, (y : Int) % C, (y : Int) / C, (y : Int) % C, by omega, hin.2, hin.1, hin.2, by omega, hof, by omega⟩, h2⟩
  ·have h4 : ((y : Int) / C + 1) * C = (y : Int) / C * C + C := by rw [Int.add_mul, Int.one_mul]
   have h3 : (y : Int) / C + 1 < R := by
    refine Decidable.byContradiction fun q => ?_
    have : R * C ≤ ((y : Int) / C + 1) * C := Int.mul_le_mul_of_nonneg_right (by omega) (by omega)
    omega
   exact ⟨((y : Int) + C).toNat, ⟨(y : Int) / C + 1, (y : Int) % C, (y : Int) / C, (y : Int) % C, by omega, hin.2, hin.1, hin.2, by omega, hof, by omega⟩, h2⟩
 ·rintro ⟨a, ⟨r, c, r', c', b1, b2, b3, b4, q1, q2, q3⟩, h2⟩
  obtain ⟨e1, e2⟩ := Fj b4 hin.2 (q2.symm.trans hof)
  subst e1 e2
  have hat : ∀ z : Int, z = a → fG false x z = true := fun z hz => by subst hz; exact h2
  simp only [Bool.or_eq_true, Bool.and_eq_true, decide_eq_true_eq]
  rcases q3 with ⟨e1, e2⟩ | ⟨e1, e2⟩ | ⟨e1, e2⟩ | ⟨e1, e2⟩
  ·have h4 : r * C = (y : Int) / C * C + C := by rw [show r = (y : Int) / C + 1 by omega, Int.add_mul, Int.one_mul]
   have h5 := wV b1 b2
   exact .inr ⟨by omega, hat _ (by omega)⟩
  ·have h4 : r * C = (y : Int) / C * C - C := by rw [show r = (y : Int) / C - 1 by omega, Int.sub_mul, Int.one_mul]
   have h5 := wV b1 b2
   exact .inl (.inr ⟨by omega, hat _ (by omega)⟩)
  ·subst e1
   exact .inl (.inl (.inr ⟨by omega, hat _ (by omega)⟩))
  ·subst e1
   exact .inl (.inl (.inl ⟨by omega, hat _ (by omega)⟩))
def Gv (R C : Int) (s : ByteArray) (x x' : List Bool) : Prop :=
 x'.length = x.length ∧ (∀ j : Nat, x.getD j false = true → x'.getD j false = true) ∧ (∀ a y : Nat, x'.getD a false = true → Nb R C a y → Wh s y → x'.getD y false = true) ∧ ∀ j : Nat, x'.getD j false = true → ∃ a, x.getD a false = true ∧ pR R C s a j
theorem Ai (x : List Bool) (i j : Nat) (b : Bool) (hi : i < x.length) : (x.set i b).getD j false = if j = i then b else x.getD j false := by
 simp only [List.getD_eq_getElem?_getD, List.getElem?_set]
 by_cases h : j = i
 ·subst h; simp [hi]
 ·rw [if_neg (by omega), if_neg h]
theorem getD_lt {x : List Bool} {j : Nat} (h : x.getD j false = true) : j < x.length := by
 refine Decidable.byContradiction fun q => ?_
 rw [List.getD_eq_getElem?_getD, List.getElem?_eq_none (by omega)] at h
 cases h
theorem Ie {R C : Int} {s : ByteArray} (hs : (s.size : Int) = R * C) (hC : 0 < C) : ∀ (m : Nat) (x : List Bool), x.length = s.size → cnt s.size (fun j => x.getD j false) < m → ∃ x', Ev (fun k => HandReach.qp C s k x true) x' ∧ Gv R C s x x' := by
 intro m
 induction m with
 | zero => intro x _ h; omega
 | succ m ih =>
  have inner : ∀ (d i : Nat) (x : List Bool) (g : Bool), i + d = s.size → x.length = s.size → (g = true → cnt s.size (fun j => x.getD j false) < m) → (g = false → cnt s.size (fun j => x.getD j false) < m + 1 ∧ ∀ j, j < i → x.getD j false = true ∨ ¬ Wh s j ∨ HandReach.uh C x (j : Int) = false) →
    ∃ x', Ev (fun k => HandReach.nI C s k x g (i : Int)) x' ∧ Gv R C s x x' := by
   intro d
   induction d with
   | zero =>
    intro i x g hi hx h1 h2
    have hi' : i = s.size := by omega
    subst hi'
    have hlast : ∀ x', Ev (fun k => HandReach.qp C s k x g) x' → Ev (fun k => HandReach.nI C s k x g (s.size : Int)) x' := by
     intro x' hx'
     rw [← au]
     simp only [HandReach.nI]
     rw [en]
     exact hx'
    cases g with
    | true =>
     obtain ⟨x', e, p⟩ := ih x hx (h1 rfl)
     exact ⟨x', hlast x' e, p⟩
    | false =>
     refine ⟨x, hlast x ?_, rfl, fun _ h => h, fun a y ha hn hw => ?_, fun j h => ⟨j, h, .refl⟩⟩
     ·rw [← au]
      simp only [HandReach.qp, Bool.false_eq_true, if_false]
      exact aI _
     ·have hy : y < x.length := by have := hn.lt; omega
      rcases (h2 rfl).2 y (by omega) with h | h | h
      ·exact h
      ·exact absurd hw h
      ·rw [(DU hC (by omega) y hy).2 ⟨a, hn, ha⟩] at h
       cases h
   | succ d ihd =>
    intro i x g hi hx h1 h2
    have hil : i < x.length := by omega
    have hri : fG false x (i : Int) = x.getD i false := rfl
    by_cases hb : x.getD i false = true ∨ ¬ Wh s i
    ·obtain ⟨x', e, p⟩ := ihd (i + 1) x g (by omega) hx h1 (fun hg => ⟨(h2 hg).1, fun j hj => by
      by_cases hji : j = i
      ·subst hji; exact hb.elim .inl (fun q => .inr (.inl q))
      ·exact (h2 hg).2 j (by omega)⟩)
     refine ⟨x', ?_, p⟩
     rw [← au]
     simp only [HandReach.nI, hri]
     rw [ep, aA, if_pos]
     ·exact e
     ·rcases hb with h | h
      ·rw [h, Bool.true_or]
      ·have : (bt s (i : Int) != 46) = true := bne_iff_ne.2 h
       rw [this, Bool.or_true]
    ·have hb1 : x.getD i false = false := by simpa using fun q => hb (.inl q)
     have hb2 : Wh s i := Classical.byContradiction fun q => hb (.inr q)
     have hcond : (x.getD i false || (bt s (i : Int) != 46)) = false := by rw [hb1, show bt s (i : Int) = 46 from hb2]; rfl
     by_cases hn : HandReach.uh C x (i : Int) = true
     ·have hset := fun j => Ai x i j true hil
      have hsub : ∀ j : Nat, x.getD j false = true → (x.set i true).getD j false = true := fun j h => by
       rw [hset]; split
       ·rfl
       ·exact h
      have hcl : cnt s.size (fun j => (x.set i true).getD j false) < m := by
       have h3 := cnt_lt (d := fun j => x.getD j false) (d' := fun j => (x.set i true).getD j false) hsub i hb1 (by show (x.set i true).getD i false = true; rw [hset, if_pos rfl]) s.size (by omega)
       cases g with
       | true => have := h1 rfl; omega
       | false => have := (h2 rfl).1; omega
      obtain ⟨x', e, p1, p2, p3, p4⟩ := ihd (i + 1) (x.set i true) true (by omega) (by rw [List.length_set]; exact hx) (fun _ => hcl) (fun h => by cases h)
      refine ⟨x', ?_, by rw [p1, List.length_set], fun j h => p2 j (hsub j h), p3, fun j h => ?_⟩
      ·rw [← au]
       simp only [HandReach.nI, hri, hcond, Bool.false_eq_true, if_false, hn, if_true, Int.toNat_natCast]
       rw [ep]
       exact e
      ·obtain ⟨a, ha, hc⟩ := p4 j h
       rw [hset] at ha
       by_cases hai : a = i
       ·subst hai
        obtain ⟨b, hb1, hb3⟩ := (DU (R := R) hC (by omega) a hil).1 hn
        exact ⟨b, hb3, (pR.step .refl hb1 hb2).trans hc⟩
       ·rw [if_neg hai] at ha
        exact ⟨a, ha, hc⟩
     ·rw [Bool.not_eq_true] at hn
      obtain ⟨x', e, p⟩ := ihd (i + 1) x g (by omega) hx h1 (fun hg => ⟨(h2 hg).1, fun j hj => by
       by_cases hji : j = i
       ·subst hji; exact .inr (.inr hn)
       ·exact (h2 hg).2 j (by omega)⟩)
      refine ⟨x', ?_, p⟩
      rw [← au]
      simp only [HandReach.nI, hri, hcond, Bool.false_eq_true, if_false, hn]
      rw [ep]
      exact e
  intro x hx hm
  obtain ⟨x', e, p⟩ := inner s.size 0 x false (by omega) hx (fun h => by cases h) (fun _ => ⟨hm, fun j hj => by omega⟩)
  refine ⟨x', ?_, p⟩
  rw [← au]
  simp only [HandReach.qp, if_true]
  exact e
theorem EM {R C : Int} {s : ByteArray} (hg : dP R C s = true) (i : Nat) (hi : i < s.size) : ∃ x', Ev (fun k => jS.f k R C s (List.replicate s.size false) (i : Int)) x' ∧ x'.length = s.size ∧ ∀ j : Nat, x'.getD j false = true ↔ pR R C s i j := by
 obtain ⟨hR, hC, hs, _⟩ := iM hg
 have hl : (List.replicate s.size false).length = s.size := List.length_replicate
 have hset := fun j => Ai (List.replicate s.size false) i j true (by omega)
 have hrep : ∀ j : Nat, (List.replicate s.size false).getD j false = false := fun j => by
  rw [List.getD_eq_getElem?_getD, List.getElem?_replicate]
  split <;> rfl
 obtain ⟨x', e, p1, p2, p3, p4⟩ := Ie hs (by omega) _ ((List.replicate s.size false).set i true) (by rw [List.length_set, hl]) (Nat.lt_succ_self _)
 refine ⟨x', ?_, by rw [p1, List.length_set, hl], fun j => ⟨fun h => ?_, fun h => ?_⟩⟩
 ·unfold jS.f HandReach.Df
  rw [aA, if_pos ⟨hR, hC, hs, by omega, by omega, by omega⟩, Int.toNat_natCast]
  exact e
 ·obtain ⟨a, h1, h2⟩ := p4 j h
  rw [hset, hrep] at h1
  by_cases ha : a = i
  ·subst ha; exact h2
  ·rw [if_neg ha] at h1; cases h1
 ·induction h with
  | refl => exact p2 i (by rw [hset, if_pos rfl])
  | step hx hn hw ih => exact p3 _ _ ih hn hw
theorem Eo {R C : Int} {s : ByteArray} (n : Int) (x one : List Bool) (hx : x.length = s.size) (ho : one.length = s.size) (hsz : s.size ≤ 36) (i : Nat) (r : Int)
  (hr : ∀ x' : List Bool, x'.length = s.size → (∀ j : Nat, x'.getD j false = true ↔ x.getD j false = true ∨ one.getD j false = true) → Ev (fun k => aK.l1 k n x' (wrap64 ((i : Int) + 1)) R C s) r) : Ev (fun k => aK.l3 k n x (i : Int) one 0 R C s) r := by
 refine iB (σ := List Bool) (fun k a j => aK.l3 k n a (i : Int) one j R C s) s.size (fun t a => a.length = s.size ∧ ∀ j : Nat, a.getD j false = true ↔ x.getD j false = true ∨ (j < t ∧ one.getD j false = true)) (fun _ _ => r) (fun a ha => ?_) (fun t a ht ha => ?_) 0 x (Nat.zero_le _) ⟨hx, fun j => by simp⟩
 ·rw [← au]
  simp only [aK.l3]
  rw [en]
  refine hr a ha.1 (fun j => ?_)
  rw [ha.2]
  exact ⟨fun q => q.imp id (·.2), fun q => q.imp id (fun h => ⟨by have := getD_lt h; omega, h⟩)⟩
 ·have htl : t < a.length := by omega
  have hra : fG false a (t : Int) = a.getD t false := rfl
  have hro : fG false one (t : Int) = one.getD t false := rfl
  refine .inr ⟨a.set t (a.getD t false || one.getD t false), ⟨by rw [List.length_set]; exact ha.1, fun j => ?_⟩, rfl, fun r' hr' => ?_⟩
  ·rw [Ai _ _ _ _ htl]
   by_cases hj : j = t
   ·subst hj
    rw [if_pos rfl, Bool.or_eq_true, ha.2]
    constructor
    ·rintro ((h | ⟨h, _⟩) | h)
     ·exact .inl h
     ·omega
     ·exact .inr ⟨by omega, h⟩
    ·rintro (h | ⟨_, h⟩)
     ·exact .inl (.inl h)
     ·exact .inr h
   ·rw [if_neg hj, ha.2]
    exact ⟨fun q => q.imp id (fun h => ⟨by omega, h.2⟩), fun q => q.imp id (fun h => ⟨by omega, h.2⟩)⟩
  ·rw [← au]
   simp only [aK.l3, hra, hro, bD (i := t) (by omega), Int.toNat_natCast]
   rw [ep, ep, aA]
   by_cases h : a.getD t false = true
   ·rw [if_pos h]
    rw [h, Bool.true_or] at hr'
    exact hr'
   ·rw [Bool.not_eq_true] at h
    rw [h, Bool.false_or] at hr'
    rw [if_neg (by rw [h]; exact Bool.false_ne_true), ep]
    exact hr'
theorem En {R C : Int} {s : ByteArray} (n : Int) (x : List Bool) (hx : x.length = s.size) (hsz : s.size ≤ 36) (i : Nat) (one : List Bool) (r : Int) (ho : Ev (fun k => jS.f k R C s (List.replicate s.size false) (i : Int)) one)
  (hr : Ev (fun k => aK.l3 k n x (i : Int) one 0 R C s) r) : Ev (fun k => aK.l2 k n x (i : Int) [] 0 R C s) r := by
 refine iB (σ := List Bool) (fun k a j => aK.l2 k n x (i : Int) a j R C s) s.size (fun t a => a = List.replicate t false) (fun _ _ => r) (fun a ha => ?_) (fun t a ht ha => .inr ⟨a ++ [false], ?_, rfl, fun r' hr' => ?_⟩) 0 [] (Nat.zero_le _) rfl
 ·subst ha
  rw [← au]
  simp only [aK.l2]
  rw [en, av ho]
  exact hr
 ·rw [ha, List.replicate_succ']
 ·have hal : a.length = t := by rw [ha, List.length_replicate]
  rw [← au]
  simp only [aK.l2, bD (i := t) (by omega)]
  rw [ep, ep]
  exact hr'
theorem Em {R C : Int} {s : ByteArray} (hg : dP R C s = true) : Ev (fun k => aK.l1 k 0 (List.replicate s.size false) 0 R C s) (roots R C s 0 : Int) := by
 obtain ⟨hR, hC, hs, _⟩ := iM hg
 have hsz := eZ hg
 have := iB (σ := List Bool × Int) (fun k st i => aK.l1 k st.2 st.1 i R C s) s.size (fun i st => (st.1.length = s.size ∧ 0 ≤ st.2 ∧ st.2 ≤ i) ∧ ∀ j : Nat, st.1.getD j false = true ↔ Met R C s i j) (fun i st => st.2 + (roots R C s i : Int)) (fun st hst => ?_) (fun i st hi hst => ?_) 0 (List.replicate s.size false, 0) (Nat.zero_le _) ⟨⟨by simp, by simp, by simp⟩, fun j => ?_⟩
 ·simpa using this
 ·rw [Ck, ← au]
  simp only [aK.l1, Int.lt_irrefl, if_false]
  rw [← au]
  simp only [aK.j2, Bool.false_eq_true, if_false]
  exact gq (aI _) (by simp)
 ·obtain ⟨⟨hx, hn0, hni⟩, hm⟩ := hst
  have hrs := AX R C s i hi
  have hri : fG false st.1 (i : Int) = st.1.getD i false := rfl
  have start : ∀ b : Bool, (if bt s (i : Int) = 46 then (!(st.1.getD i false)) else false) = b → ∀ r, Ev (fun k => aK.j3 k st.2 st.1 (i : Int) b R C s) r → Ev (fun k => aK.l1 k st.2 st.1 (i : Int) R C s) r := by
   intro b hb r hr
   rw [← au]
   simp only [aK.l1]
   rw [ep, av (iE R C s), hg, ← au]
   simp only [aK.j2, if_true, hri]
   rw [ep, ep, aA]
   by_cases hw : bt s (i : Int) = 46
   ·rw [if_pos hw] at hb ⊢
    rw [ep, hb]
    exact hr
   ·rw [if_neg hw] at hb ⊢
    rw [hb]
    exact hr
  have skip : (Wh s i → Met R C s i i) → (if bt s (i : Int) = 46 then (!(st.1.getD i false)) else false) = false → ∃ s' : List Bool × Int, ((s'.1.length = s.size ∧ 0 ≤ s'.2 ∧ s'.2 ≤ ((i + 1 : Nat) : Int)) ∧ ∀ j : Nat, s'.1.getD j false = true ↔ Met R C s (i + 1) j) ∧ st.2 + (roots R C s i : Int) = s'.2 + (roots R C s (i + 1) : Int) ∧ ∀ r, Ev (fun k => aK.l1 k s'.2 s'.1 ((i + 1 : Nat) : Int) R C s) r → Ev (fun k => aK.l1 k st.2 st.1 (i : Int) R C s) r := by
   intro h hb
   refine ⟨st, ⟨⟨hx, hn0, by omega⟩, fun j => ?_⟩, ?_, fun r hr => start false hb r ?_⟩
   ·rw [hm, Met.same h]
   ·rw [hrs, Dk h]; simp
   ·rw [← au]
    simp only [aK.j3, Bool.false_eq_true, if_false, bD (i := i) (by omega)]
    exact hr
  by_cases hw : Wh s i
  ·cases h0 : st.1.getD i false with
   | true => exact .inr (skip (fun _ => (hm i).1 h0) (by unfold Wh at hw; rw [if_pos hw, h0]; rfl))
   | false =>
    have hnm : ¬ Met R C s i i := fun q => by have := (hm i).2 q; rw [h0] at this; cases this
    obtain ⟨one, e, z, hone⟩ := EM hg i hi
    obtain ⟨x', hx'⟩ : ∃ x' : List Bool, x'.length = s.size ∧ ∀ j : Nat, x'.getD j false = true ↔ st.1.getD j false = true ∨ one.getD j false = true := by
     refine ⟨(List.range s.size).map (fun j => st.1.getD j false || one.getD j false), by simp, fun j => ?_⟩
     by_cases hj : j < s.size
     ·rw [List.getD_eq_getElem?_getD, List.getElem?_map, List.getElem?_range hj]
      simp
     ·rw [List.getD_eq_getElem?_getD, List.getElem?_eq_none (by simp; omega)]
      constructor
      ·intro q
       cases q
      ·intro q
       rcases q with q | q
       ·have := getD_lt q; omega
       ·have := getD_lt q; omega
    have hsame : ∀ y : List Bool, y.length = s.size → (∀ j : Nat, y.getD j false = true ↔ st.1.getD j false = true ∨ one.getD j false = true) → y = x' := by
     intro y hy1 hy2
     refine List.ext_getElem (by omega) (fun j h1 h2 => ?_)
     have e1 : y.getD j false = y[j] := by simp [List.getD_eq_getElem?_getD, List.getElem?_eq_getElem h1]
     have e2 : x'.getD j false = x'[j] := by simp [List.getD_eq_getElem?_getD, List.getElem?_eq_getElem h2]
     rw [← e1, ← e2, Bool.eq_iff_iff, hy2, hx'.2]
    refine .inr ⟨(x', st.2 + 1), ⟨⟨hx'.1, by show 0 ≤ st.2 + 1; omega, by show st.2 + 1 ≤ _; omega⟩, fun j => ?_⟩, ?_, fun r hr => start true (by unfold Wh at hw; rw [if_pos hw, h0]; rfl) r ?_⟩
    ·rw [hx'.2, hm, hone, Met.succ]
     exact ⟨fun q => q.imp id (fun h => ⟨hw, h⟩), fun q => q.imp id (·.2)⟩
    ·rw [hrs, DZ hw hnm]; simp; omega
    ·have e1 : wrap64 (st.2 + 1) = st.2 + 1 := kL (by omega) (by omega)
     rw [← au]
     simp only [aK.j3, if_true, e1]
     refine En _ _ hx hsz.2 i one r e (Eo _ _ one hx z hsz.2 i r (fun y hy1 hy2 => ?_))
     rw [hsame y hy1 hy2, bD (i := i) (by omega)]
     exact hr
  ·exact .inr (skip (fun h => absurd h hw) (by unfold Wh at hw; rw [if_neg hw]))
 ·constructor
  ·intro h
   exfalso
   rw [List.getD_eq_getElem?_getD, List.getElem?_replicate] at h
   split at h <;> simp at h
  ·rintro ⟨a, h, _⟩
   omega
theorem wY {R C : Int} {s : ByteArray} (hsz : s.size < 140737488355328) (r : Int) (hr : Ev (fun k => aK.l1 k 0 (List.replicate s.size false) 0 R C s) r) : Ev (fun k => aK.f k R C s) r := by
 unfold aK.f
 refine iB (σ := List Bool) (fun k a j => aK.l0 k 0 a j R C s) s.size (fun t a => a = List.replicate t false) (fun _ _ => r) (fun a ha => ?_) (fun t a ht ha => .inr ⟨a ++ [false], ?_, rfl, fun r' hr' => ?_⟩) 0 [] (Nat.zero_le _) rfl
 ·subst ha
  rw [← au]
  simp only [aK.l0, Int.lt_irrefl, if_false]
  exact hr
 ·rw [ha, List.replicate_succ']
 ·have hal : a.length = t := by rw [ha, List.length_replicate]
  rw [← au]
  simp only [aK.l0, bD (i := t) (by omega)]
  rw [ep, ep]
  exact hr'
theorem wP (R C : Int) (s : ByteArray) (hsz : s.size < 140737488355328) : Ev (fun k => aK.f k R C s) (sP R C s) := by
 unfold sP
 split
 ·rename_i hg
  exact wY hsz _ (Em hg)
 ·rename_i hg
  rw [Bool.not_eq_true] at hg
  refine wY hsz _ ?_
  have : Ev (fun k => aK.j2 k 0 (List.replicate s.size false) 0 false R C s) 0 := by
   rw [← au]
   simp only [aK.j2, Bool.false_eq_true, if_false]
   exact aI _
  rw [← au]
  simp only [aK.l1]
  rw [aA]
  split
  ·rw [av (iE R C s), hg]
   exact this
  ·exact this
def Im (R C : Int) (s : ByteArray) : Bool := dP R C s && decide (wM s = s)
theorem vO {R C : Int} {s : ByteArray} (hg : dP R C s = true) : Ev (fun k => jR.f k R C s) (R, C, wM s) := by
 have := eZ hg
 unfold jR.f
 rw [av (iE R C s), ep hg, av (pE s (by omega))]
 exact aI _
theorem uR {R C : Int} {s : ByteArray} (hg : dP R C s = true) : Ev (fun k => jO.f k R C s) (R, C, wM s) := by
 have := eZ hg
 unfold jO.f
 rw [av (jA R C s), ep hg]
 simp only [oV s (by omega), Option.bind_some]
 exact aI _
theorem rV (R C : Int) (s : ByteArray) : Ev (fun k => dY.f k R C s) (Im R C s) := by
 unfold dY.f Im
 rw [av (iE R C s), aA]
 split
 ·rename_i hg
  rw [av (vO hg)]
  exact gq (aI _) (by simp [hg, jG])
 ·rename_i hg
  exact gq (aI _) (by simp [hg])
theorem rQ (R C : Int) (s : ByteArray) : Ev (fun k => dW.f k R C s) (Im R C s) := by
 unfold dW.f Im
 rw [av (jA R C s), aA]
 split
 ·rename_i hg
  rw [av (uR hg)]
  exact gq (aI _) (by simp [hg, jG, eq_comm])
 ·rename_i hg
  exact gq (aI _) (by simp [hg])
theorem FU (l : List Int) (x : Int) (hl : l.length < 4611686018427387904) : Ev (fun k => cu.f k l x) (match l.findIdx? (fun y => decide (y = x)) with | some i => (i : Int) | none => -1) := by
 refine rE (fun k i => cu.l0 k l x (l.length : Int) i) l _ ?_ (fun i hi hp r hr => ?_) (fun i hi hp => ?_)
 ·rw [← au]; simp [cu.l0, aI]
 ·rw [← au]
  simp only [cu.l0, mZ l i hi, bD (i := i) (by omega)]
  rw [ep, ep, ep, en (fun e => of_decide_eq_false hp e.symm)]
  exact hr
 ·rw [← au]
  simp only [cu.l0, mZ l i hi]
  rw [ep, ep, ep, aA, if_pos (of_decide_eq_true hp).symm]
  exact aI _
theorem Dy {α : Type} (l : List α) (p : α → Bool) : decide ((match l.findIdx? p with | some i => (i : Int) | none => -1) ≥ 0) = l.any p := by
 cases h : l.findIdx? p with
 | none =>
  have := List.findIdx?_eq_none_iff.1 h
  simp
  intro x hx
  simpa using this x hx
 | some i =>
  obtain ⟨h1, h2, _⟩ := List.findIdx?_eq_some_iff_getElem.1 h
  simp
  exact ⟨l[i], List.getElem_mem h1, h2⟩
theorem CF (l : List Int) (x : Int) (hl : l.length < 4611686018427387904) : Ev (fun k => gI.f k l x) (l.any (fun y => decide (y = x))) := by
 unfold gI.f
 rw [av (FU l x hl), Dy]
 exact aI _
def Aj (C : Int) (c : Int) (x : S92) : Bool := (bQ C x).any (fun y => decide (y = c))
noncomputable def nR (R C : Int) (s : ByteArray) (c : Int) : List Int := (List.range (aR R C s).length).flatMap (fun (i : Nat) => if ((aR R C s)[i]?).any (Aj C c) = true then [(i : Int)] else [])
theorem sG (R C : Int) (s : ByteArray) (c : Int) (i : Nat) : (((List.range (aR R C s).length).take i).flatMap (fun (i : Nat) => if ((aR R C s)[i]?).any (Aj C c) = true then [(i : Int)] else [])).length ≤ 72 := by
 have h1 := nM (fun i : Nat => if ((aR R C s)[i]?).any (Aj C c) = true then [(i : Int)] else []) 1 i (List.range (aR R C s).length) (fun x _ => by split <;> simp)
 have h2 := (dR R C s).2.2
 rw [List.length_range] at h1
 omega
theorem Dn (R C : Int) (s : ByteArray) (c : Int) : (((nR R C s c).length : Int) = 0) ↔ c ∉ ((aR R C s).map (bQ C)).flatten := by
 have : ((nR R C s c).length : Int) = 0 ↔ nR R C s c = [] := by rw [← List.length_eq_zero_iff]; omega
 rw [this]
 unfold nR
 rw [List.flatMap_eq_nil_iff]
 simp only [List.mem_range, List.mem_flatten, List.mem_map]
 constructor
 ·rintro h ⟨l, ⟨x, hx, rfl⟩, hc⟩
  obtain ⟨i, hi, rfl⟩ := List.getElem_of_mem hx
  have := h i hi
  rw [if_pos] at this
  ·cases this
  ·rw [List.getElem?_eq_getElem hi]
   show Aj C c (aR R C s)[i] = true
   exact List.any_eq_true.2 ⟨c, hc, decide_eq_true rfl⟩
 ·intro h i hi
  rw [if_neg]
  rw [List.getElem?_eq_getElem hi]
  intro q
  obtain ⟨y, hy, e⟩ := List.any_eq_true.1 (show Aj C c (aR R C s)[i] = true from q)
  have := of_decide_eq_true e
  subst this
  exact h ⟨_, ⟨_, List.getElem_mem hi, rfl⟩, hy⟩
theorem nV (R C : Int) (s : ByteArray) (c : Int) : Ev (fun k => bZ.f k R C s c) (nR R C s c) := by
 have hlen := (dR R C s).2.2
 have hlr : (List.range (aR R C s).length).length = (aR R C s).length := List.length_range
 unfold bZ.f
 rw [av (iP R C s)]
 refine lM (fun k a i => bZ.l0 k c a (aR R C s) i R C s) (List.range (aR R C s).length) (fun (i : Nat) => if ((aR R C s)[i]?).any (Aj C c) = true then [(i : Int)] else []) 0 (fun a => ?_) (fun i hi a ha r hr => ?_)
 ·rw [← au]; simp only [bZ.l0, hlr, Int.lt_irrefl, if_false]; exact aI _
 ·have hb := sG R C s c i
  have hi' : i < (aR R C s).length := by omega
  have hm := List.getElem_mem hi'
  have hcl : (bQ C (aR R C s)[i]).length < 4611686018427387904 := by rw [gY]; have := ((dR R C s).1 _ hm).2.2.2.1; omega
  rw [List.getElem_range, List.getElem?_eq_getElem hi'] at hr
  rw [← au]
  simp only [bZ.l0, ng _ i hi', bD (i := i) (by omega)]
  rw [ep, ep, av (mg _ hm), av (BP _ c hcl), aA]
  by_cases h : (bQ C (aR R C s)[i]).any (fun y => decide (y = c)) = true
  ·rw [if_pos (show Option.any (Aj C c) (some (aR R C s)[i]) = true from h)] at hr
   rw [if_pos h, ep]
   exact hr
  ·rw [if_neg (show ¬ Option.any (Aj C c) (some (aR R C s)[i]) = true from h), List.append_nil] at hr
   rw [if_neg h]
   exact hr
noncomputable def Dv (R C : Int) (s : ByteArray) (c : Int) : Bool := ((nR R C s c).length : Int) == 2
noncomputable def oq (R C : Int) (s : ByteArray) (x : S92) : Int := (((bQ C x).countP (fun c => !Dv R C s c) : Nat) : Int)
theorem pF (R C : Int) (s : ByteArray) (c : Int) : Ev (fun k => jF.f k R C s c) (Dv R C s c) := by
 unfold jF.f
 rw [av (nV R C s c)]
 exact aI _
theorem oo (R C : Int) (s : ByteArray) (i : Nat) (hi : i < (aR R C s).length) : Ev (fun k => dJ.f k R C s (i : Int)) (oq R C s (aR R C s)[i]) := by
 have hlen := (dR R C s).2.2
 have hm := List.getElem_mem hi
 have ok := (dR R C s).1 _ hm
 have hcl := gY C (aR R C s)[i]
 have hok := ok.2.2.2.1
 have e : wrap64 (((aR R C s).length : Int) - 1) = (aR R C s).length - 1 := kL (by omega) (by omega)
 unfold dJ.f
 rw [av (iP R C s)]
 simp only [lK, Option.bind_some, e, ng _ i hi]
 rw [ep (by simp; omega), ep, ep, av (mg _ hm)]
 unfold oq
 generalize bQ C (aR R C s)[i] = l at hcl
 have := iB (σ := Nat) (fun k a j => dJ.l0 k l (a : Int) j R C s) l.length (fun j a => a ≤ j) (fun j a => ((a + (l.drop j).countP (fun c => !Dv R C s c) : Nat) : Int)) (fun a ha => ?_) (fun j a hj ha => ?_) 0 0 (Nat.zero_le _) (Nat.le_refl _)
 ·simpa using this
 ·rw [← au]
  simp only [dJ.l0, List.drop_length, List.countP_nil, Nat.add_zero, Int.lt_irrefl, if_false]
  exact aI _
 ·rw [List.drop_eq_getElem_cons hj, List.countP_cons]
  have ew : wrap64 ((a : Int) + 1) = ((a + 1 : Nat) : Int) := bD (by omega)
  by_cases h : Dv R C s l[j] = true
  ·refine .inr ⟨a, by omega, by simp [h], fun r hr => ?_⟩
   rw [← au]
   simp only [dJ.l0, mZ l j hj, bD (i := j) (by omega), ew]
   rw [ep, ep, av (pF R C s l[j]), ep h]
   exact hr
  ·refine .inr ⟨a + 1, by omega, by simp [h]; omega, fun r hr => ?_⟩
   rw [← au]
   simp only [dJ.l0, mZ l j hj, bD (i := j) (by omega), ew]
   rw [ep, ep, av (pF R C s l[j]), en h]
   exact hr
theorem Ei (R C : Int) (s : ByteArray) (x : S92) (hx : x ∈ aR R C s) : 0 ≤ oq R C s x ∧ oq R C s x ≤ 6 := by
 have ok := (dR R C s).1 _ hx
 have h1 := gY C x
 have h2 := ok.2.2.2.1
 have h3 : (bQ C x).countP (fun c => !Dv R C s c) ≤ (bQ C x).length := List.countP_le_length
 unfold oq
 omega
theorem wI (R C : Int) (s : ByteArray) (c : Int) : Ev (fun k => fH.f k R C s c) (nR R C s c) := by
 have hlen := (dR R C s).2.2
 have hlr : (List.range (aR R C s).length).length = (aR R C s).length := List.length_range
 have hll : ((aR R C s).map (bQ C)).length = (aR R C s).length := List.length_map _
 unfold fH.f
 rw [av (kV R C s)]
 refine lM (fun k a i => fH.l0 k c a ((aR R C s).map (bQ C)) (((aR R C s).map (bQ C)).length : Int) i) (List.range (aR R C s).length) (fun (i : Nat) => if ((aR R C s)[i]?).any (Aj C c) = true then [(i : Int)] else []) 0 (fun a => ?_) (fun i hi a ha r hr => ?_)
 ·rw [← au]; simp only [fH.l0, hlr, hll, Int.lt_irrefl, if_false]; exact aI _
 ·have hb := sG R C s c i
  have hi' : i < (aR R C s).length := by omega
  have hm := List.getElem_mem hi'
  have hcl : (bQ C (aR R C s)[i]).length < 4611686018427387904 := by rw [gY]; have := ((dR R C s).1 _ hm).2.2.2.1; omega
  have hL : ((aR R C s).map (bQ C))[i]'(by omega) = bQ C (aR R C s)[i] := List.getElem_map _
  rw [List.getElem_range, List.getElem?_eq_getElem hi'] at hr
  rw [← au]
  simp only [fH.l0, CZ ((aR R C s).map (bQ C)) i (by omega), hL, bD (i := i) (by omega)]
  rw [ep, ep, ep, av (CF _ c hcl), aA]
  by_cases h : (bQ C (aR R C s)[i]).any (fun y => decide (y = c)) = true
  ·rw [if_pos (show Option.any (Aj C c) (some (aR R C s)[i]) = true from h)] at hr
   rw [if_pos h, ep]
   exact hr
  ·rw [if_neg (show ¬ Option.any (Aj C c) (some (aR R C s)[i]) = true from h), List.append_nil] at hr
   rw [if_neg h]
   exact hr
theorem oW (R C : Int) (s : ByteArray) (c : Int) : Ev (fun k => jy.f k R C s c) (Dv R C s c) := by
 unfold jy.f
 rw [av (wI R C s c)]
 exact aI _
theorem nY (R C : Int) (s : ByteArray) (i : Nat) (hi : i < (aR R C s).length) : Ev (fun k => dI.f k R C s (i : Int)) (oq R C s (aR R C s)[i]) := by
 have hlen := (dR R C s).2.2
 have hm := List.getElem_mem hi
 have ok := (dR R C s).1 _ hm
 have hcl := gY C (aR R C s)[i]
 have hok := ok.2.2.2.1
 have hll : ((aR R C s).map (bQ C)).length = (aR R C s).length := List.length_map _
 have hL : ((aR R C s).map (bQ C))[i]'(by omega) = bQ C (aR R C s)[i] := List.getElem_map _
 unfold dI.f
 rw [av (kV R C s)]
 simp only [at_eq, Option.bind_some, CZ ((aR R C s).map (bQ C)) i (by omega), hL]
 rw [ep (by simp; omega), ep, ep]
 unfold oq
 generalize bQ C (aR R C s)[i] = l at hcl
 have := iB (σ := Nat) (fun k a j => dI.l0 k (a : Int) l (l.length : Int) j R C s) l.length (fun j a => a ≤ j) (fun j a => ((a + (l.drop j).countP (fun c => !Dv R C s c) : Nat) : Int)) (fun a ha => ?_) (fun j a hj ha => ?_) 0 0 (Nat.zero_le _) (Nat.le_refl _)
 ·simpa using this
 ·rw [← au]
  simp only [dI.l0, List.drop_length, List.countP_nil, Nat.add_zero, Int.lt_irrefl, if_false]
  exact aI _
 ·rw [List.drop_eq_getElem_cons hj, List.countP_cons]
  have ew : wrap64 ((a : Int) + 1) = ((a + 1 : Nat) : Int) := bD (by omega)
  by_cases h : Dv R C s l[j] = true
  ·refine .inr ⟨a, by omega, by simp [h], fun r hr => ?_⟩
   rw [← au]
   simp only [dI.l0, mZ l j hj, bD (i := j) (by omega), ew]
   rw [ep, ep, ep, av (oW R C s l[j]), ep h]
   exact hr
  ·refine .inr ⟨a + 1, by omega, by simp [h]; omega, fun r hr => ?_⟩
   rw [← au]
   simp only [dI.l0, mZ l j hj, bD (i := j) (by omega), ew]
   rw [ep, ep, ep, av (oW R C s l[j]), en h]
   exact hr
noncomputable def EP (R C : Int) (s : ByteArray) : Bool := (aR R C s).any (fun x => decide (x.f3 < 3))
noncomputable def uU (R C : Int) (s : ByteArray) : Bool := (aR R C s).any (fun x => decide (2 * oq R C s x > x.f3))
noncomputable def oI (R C : Int) (s : ByteArray) (c : Nat) : Bool := decide (bt s (c : Int) = 46) && decide (((nR R C s c).length : Int) = 0)
noncomputable def qI (R C : Int) (s : ByteArray) : Int :=
 if dP R C s = true then (if Im R C s = true then (if (sP R C s == 1) = true then (if EP R C s = true then 4 else if (uU R C s || (List.range s.size).any (oI R C s)) = true then 5 else 0) else 3) else 2) else 1
theorem qz {R C : Int} {s : ByteArray} (hg : dP R C s = true) (c : Nat) (hc : c < s.size) : Ev (fun k => kE.f k R C s (c : Int)) (bt s (c : Int) == 46) := by
 have := eZ hg
 have e : wrap64 ((s.size : Int) - 1) = s.size - 1 := kL (by omega) (by omega)
 unfold kE.f
 rw [av (iE R C s), ep hg]
 simp only [lK, Option.bind_some, e]
 rw [ep (by simp; omega), ep, ep]
 exact aI _
theorem vS (R C : Int) (s : ByteArray) : Ev (fun k => fF.f k R C s) (EP R C s) := by
 have hlen := (dR R C s).2.2
 unfold fF.f
 rw [av (iP R C s)]
 refine oJ (fun k i => fF.l0 k (aR R C s) i) (aR R C s) (fun x => decide (x.f3 < 3)) ?_ (fun i hi hp r hr => ?_) (fun i hi hp => ?_)
 ·rw [← au]; simp [fF.l0, aI]
 ·rw [← au]
  simp only [fF.l0, ng _ i hi, bD (i := i) (by omega)]
  rw [ep, ep, en (of_decide_eq_false hp)]
  exact hr
 ·rw [← au]
  simp only [fF.l0, ng _ i hi]
  rw [ep, ep, ep (of_decide_eq_true hp)]
  exact aI _
theorem vR {R C : Int} {s : ByteArray} (hg : dP R C s = true) : Ev (fun k => bG.l1 k 0 R C s) ((List.range s.size).any (oI R C s)) := by
 have hsz := eZ hg
 have hlr : (List.range s.size).length = s.size := List.length_range
 refine oJ (fun k i => bG.l1 k i R C s) (List.range s.size) (oI R C s) ?_ (fun i hi hp r hr => ?_) (fun i hi hp => ?_)
 ·rw [← au]; simp [bG.l1, aI]
 ·have hi' : i < s.size := by omega
  rw [List.getElem_range] at hp
  rw [← au]
  simp only [bG.l1, bD (i := i) (by omega)]
  rw [ep, av (qz hg i hi'), aA]
  unfold oI at hp
  by_cases h : bt s (i : Int) = 46
  ·rw [if_pos (by rw [h]; rfl), av (nV R C s i), aA, if_neg]
   ·exact hr
   ·simpa [h] using hp
  ·rw [if_neg (by simpa using h)]
   exact hr
 ·have hi' : i < s.size := by omega
  rw [List.getElem_range] at hp
  rw [← au]
  simp only [bG.l1, bD (i := i) (by omega)]
  unfold oI at hp
  rw [Bool.and_eq_true, decide_eq_true_eq, decide_eq_true_eq] at hp
  rw [ep, av (qz hg i hi'), ep (by rw [hp.1]; rfl), av (nV R C s i), ep hp.2]
  exact aI _
theorem Ad {α : Type} (l : List α) (p : α → Bool) (i : Nat) (h : i < l.length) : (l.drop i).any p = (p l[i] || (l.drop (i + 1)).any p) := by rw [List.drop_eq_getElem_cons h, List.any_cons]
theorem GU {α : Type} (l : List α) (p : α → Bool) (i : Nat) (h : i < l.length) : (l.drop i).all p = (p l[i] && (l.drop (i + 1)).all p) := by rw [List.drop_eq_getElem_cons h, List.all_cons]
theorem vQ {R C : Int} {s : ByteArray} (hg : dP R C s = true) : Ev (fun k => bG.f k R C s) (uU R C s || (List.range s.size).any (oI R C s)) := by
 have hlen := (dR R C s).2.2
 unfold bG.f
 rw [av (iP R C s)]
 have := mW (fun k i => bG.l0 k (aR R C s) i R C s) (aR R C s).length (fun i => ((aR R C s).drop i).any (fun x => decide (2 * oq R C s x > x.f3)) || (List.range s.size).any (oI R C s)) ?_ (fun i hi => ?_) 0 (Nat.zero_le _)
 ·simpa [uU] using this
 ·rw [← au]
  simp only [bG.l0, Int.lt_irrefl, if_false, List.drop_length, List.any_nil, Bool.false_or]
  exact vR hg
 ·have hu := Ei R C s _ (List.getElem_mem hi)
  have e2 : wrap64 (2 * oq R C s (aR R C s)[i]) = 2 * oq R C s (aR R C s)[i] := kL (by omega) (by omega)
  rw [Ad _ _ _ hi]
  by_cases h : 2 * oq R C s (aR R C s)[i] > (aR R C s)[i].f3
  ·refine .inl ?_
   rw [← au]
   simp only [bG.l0, ng _ i hi]
   rw [ep, av (oo R C s i hi), ep, ep (by rw [e2]; exact h)]
   exact gq (aI _) (by simp [h])
  ·refine .inr ⟨by simp [h], fun r hr => ?_⟩
   rw [← au]
   simp only [bG.l0, ng _ i hi, bD (i := i) (by omega)]
   rw [ep, av (oo R C s i hi), ep, en (by rw [e2]; exact h)]
   exact hr
theorem Bd (R C : Int) (s : ByteArray) (hs : s.size < 140737488355328) : Ev (fun k => lD.f k R C s) (qI R C s) := by
 unfold lD.f qI
 rw [av (iE R C s), aA]
 split
 ·rename_i hg
  rw [av (rV R C s), aA]
  split
  ·have hcon : Ev (fun k => iX.f k R C s) (sP R C s == 1) := by
    unfold iX.f
    rw [av (wP R C s hs)]
    exact aI _
   rw [av hcon, aA]
   split
   ·rw [av (vS R C s), aA]
    split
    ·exact aI _
    ·rw [av (vQ hg), aA]
     split <;> exact aI _
   ·exact aI _
  ·exact aI _
 ·exact aI _
theorem Bw {R C : Int} {s : ByteArray} (hg : dP R C s = true) : Ev (fun k => nG.f k R C s s) ((List.range s.size).any (oI R C s)) := by
 have hsz := eZ hg
 obtain ⟨good, _, hlen⟩ := dR R C s
 have hlr : (List.range s.size).length = s.size := List.length_range
 have hcl : ∀ l ∈ (aR R C s).map (bQ C), l.length ≤ 6 := by
  intro l hl
  obtain ⟨x, hx, rfl⟩ := List.mem_map.1 hl
  rw [gY]
  have := (good x hx).2.2.2.1
  omega
 have hfl : ((aR R C s).map (bQ C)).flatten.length ≤ 6 * 72 := by
  have h1 := Ah (fun l : List Int => l) 6 ((aR R C s).map (bQ C)) hcl
  rw [List.length_map] at h1
  rw [List.flatMap_id'] at h1
  have : 6 * (aR R C s).length ≤ 6 * 72 := Nat.mul_le_mul_left 6 hlen
  omega
 have hcells : ∀ c ∈ ((aR R C s).map (bQ C)).flatten, 0 ≤ c ∧ c < 1000000 := by
  intro c hc
  obtain ⟨l, hl, hcl⟩ := List.mem_flatten.1 hc
  obtain ⟨x, hx, rfl⟩ := List.mem_map.1 hl
  have := oC (good x hx) c hcl
  omega
 unfold nG.f
 rw [av (kV R C s)]
 unfold HandAlone.Cu
 rw [aA, if_pos ⟨by omega, by omega, by rw [List.length_map]; omega, hcells⟩]
 have hnil := fun c : Nat => Dn R C s (c : Int)
 generalize ((aR R C s).map (bQ C)).flatten = S at hnil
 refine oJ (fun k i => HandAlone.oG eG.f S s s k i) (List.range s.size) (oI R C s) ?_ (fun i hi hp r hr => ?_) (fun i hi hp => ?_)
 ·rw [← au]; simp [HandAlone.oG, aI]
 ·rw [List.getElem_range] at hp
  rw [← au]
  simp only [HandAlone.oG]
  unfold oI at hp
  rw [ep, aA]
  by_cases h : bt s (i : Int) = 46
  ·rw [if_pos h, aA, if_pos]
   ·exact hr
   ·rw [h, decide_eq_true rfl, Bool.true_and, decide_eq_false_iff_not, hnil] at hp
    exact Classical.byContradiction hp
  ·rw [if_neg h]
   exact hr
 ·rw [List.getElem_range] at hp
  unfold oI at hp
  rw [Bool.and_eq_true, decide_eq_true_eq, decide_eq_true_eq, hnil] at hp
  rw [← au]
  simp only [HandAlone.oG]
  rw [ep, ep hp.1, en hp.2, ep]
  simp only [mH, hp.1, Option.bind_some]
  exact gq (aI _) rfl
theorem Ap {R C : Int} {s : ByteArray} (hg : dP R C s = true) : Ev (fun k => dF.l1 k (aR R C s) ((aR R C s).length : Int) 0 R C s) (if (uU R C s || (List.range s.size).any (oI R C s)) = true then 5 else 0) := by
 have hlen := (dR R C s).2.2
 have := mW (fun k i => dF.l1 k (aR R C s) ((aR R C s).length : Int) i R C s) (aR R C s).length (fun i => if (((aR R C s).drop i).any (fun x => decide (2 * oq R C s x > x.f3)) || (List.range s.size).any (oI R C s)) = true then (5 : Int) else 0) ?_ (fun i hi => ?_) 0 (Nat.zero_le _)
 ·exact this
 ·rw [← au]
  simp only [dF.l1, Int.lt_irrefl, if_false, List.drop_length, List.any_nil, Bool.false_or]
  rw [av (Bw hg), aA]
  split <;> exact aI _
 ·have hu := Ei R C s _ (List.getElem_mem hi)
  have e2 : wrap64 (2 * oq R C s (aR R C s)[i]) = 2 * oq R C s (aR R C s)[i] := kL (by omega) (by omega)
  rw [Ad _ _ _ hi]
  by_cases h : 2 * oq R C s (aR R C s)[i] > (aR R C s)[i].f3
  ·refine .inl ?_
   rw [← au]
   simp only [dF.l1, ng _ i hi]
   rw [ep, ep, ep, av (nY R C s i hi), ep (by rw [e2]; exact h)]
   exact gq (aI _) (by simp [h])
  ·refine .inr ⟨by simp [h], fun r hr => ?_⟩
   rw [← au]
   simp only [dF.l1, ng _ i hi, bD (i := i) (by omega)]
   rw [ep, ep, ep, av (nY R C s i hi), en (by rw [e2]; exact h)]
   exact hr
theorem Am {R C : Int} {s : ByteArray} (hg : dP R C s = true) : Ev (fun k => dF.l0 k (aR R C s) (aR R C s) ((aR R C s).length : Int) 0 R C s) (if EP R C s = true then 4 else if (uU R C s || (List.range s.size).any (oI R C s)) = true then 5 else 0) := by
 have hlen := (dR R C s).2.2
 have := mW (fun k i => dF.l0 k (aR R C s) (aR R C s) ((aR R C s).length : Int) i R C s) (aR R C s).length (fun i => if ((aR R C s).drop i).any (fun x => decide (x.f3 < 3)) = true then (4 : Int) else if (uU R C s || (List.range s.size).any (oI R C s)) = true then 5 else 0) ?_ (fun i hi => ?_) 0 (Nat.zero_le _)
 ·exact this
 ·rw [← au]
  simp only [dF.l0, Int.lt_irrefl, if_false, List.drop_length, List.any_nil, Bool.false_eq_true]
  exact Ap hg
 ·rw [Ad _ _ _ hi]
  by_cases h : (aR R C s)[i].f3 < 3
  ·refine .inl ?_
   rw [← au]
   simp only [dF.l0, ng _ i hi]
   rw [ep, ep, ep, ep h]
   exact gq (aI _) (by simp [h])
  ·refine .inr ⟨by simp [h], fun r hr => ?_⟩
   rw [← au]
   simp only [dF.l0, ng _ i hi, bD (i := i) (by omega)]
   rw [ep, ep, ep, en h]
   exact hr
theorem Ak (R C : Int) (s : ByteArray) : Ev (fun k => dF.f k R C s) (qI R C s) := by
 unfold dF.f qI
 rw [av (jA R C s), aA]
 split
 ·rename_i hg
  rw [av (rQ R C s), aA]
  split
  ·have hcon : Ev (fun k => iT.f k R C s) (sP R C s == 1) := by
    unfold iT.f
    rw [av (wG R C s)]
    exact aI _
   rw [av hcon, aA]
   split
   ·rw [av (nS R C s)]
    exact Am hg
   ·exact aI _
  ·exact aI _
 ·exact aI _
noncomputable def lN (R C : Int) (s : ByteArray) (l : List S72) (q : List Int) (e : Int) : Bool :=
 decide (qI R C s = 0) && (decide ((l.length : Int) = ((aR R C s).length : Int)) && (decide ((q.length : Int) = ((aR R C s).length : Int)) && (decide (1 ≤ e ∧ e ≤ 9999) && l.all (fun x => lJ x.f0 x.f1))))
theorem pJ {R C : Int} {s : ByteArray} {l : List S72} {q : List Int} {e : Int} (h : lN R C s l q e = true) : qI R C s = 0 ∧ l.length = (aR R C s).length ∧ q.length = (aR R C s).length ∧ (1 ≤ e ∧ e ≤ 9999) ∧ ∀ x ∈ l, lJ x.f0 x.f1 = true := by
 unfold lN at h
 simp only [Bool.and_eq_true, decide_eq_true_eq, List.all_eq_true] at h
 exact ⟨h.1, by have := h.2.1; omega, by have := h.2.2.1; omega, h.2.2.2.1, h.2.2.2.2⟩
theorem qh (R C : Int) (s : ByteArray) (l : List S72) (q : List Int) (e : Int) (hs : s.size < 140737488355328) (hl : l.length < 4611686018427387904) (hx : ∀ x ∈ l, x.f1.length < 4611686018427387904) : Ev (fun k => dS.f k R C s l q e) (lN R C s l q e) := by
 unfold dS.f
 have key : ∀ b : Bool, b = l.all (fun x => lJ x.f0 x.f1) → Ev (fun k => dS.f k R C s l q e) (if b = true then (decide (qI R C s = 0) && (decide ((l.length : Int) = ((aR R C s).length : Int)) && (decide ((q.length : Int) = ((aR R C s).length : Int)) && decide (1 ≤ e ∧ e ≤ 9999)))) else false) := by
  intro b hb
  subst hb
  unfold dS.f
  have := mW (fun k i => dS.l0 k i R C s l q e) l.length (fun i => if (l.drop i).all (fun x => lJ x.f0 x.f1) = true then (decide (qI R C s = 0) && (decide ((l.length : Int) = ((aR R C s).length : Int)) && (decide ((q.length : Int) = ((aR R C s).length : Int)) && decide (1 ≤ e ∧ e ≤ 9999)))) else false) ?_ (fun i hi => ?_) 0 (Nat.zero_le _)
  ·exact this
  ·rw [← au]
   simp only [dS.l0, Int.lt_irrefl, if_false, List.drop_length, List.all_nil, if_true, lK, Option.bind_some]
   rw [av (iP R C s), av (Bd R C s hs), aA]
   by_cases h1 : qI R C s = 0
   ·rw [if_pos h1, aA]
    by_cases h2 : (l.length : Int) = ((aR R C s).length : Int)
    ·rw [if_pos h2, aA]
     by_cases h3 : (q.length : Int) = ((aR R C s).length : Int)
     ·rw [if_pos h3]
      exact gq (aI _) (by rw [decide_eq_true h1, decide_eq_true h2, decide_eq_true h3]; rfl)
     ·rw [if_neg h3]
      exact gq (aI _) (by rw [decide_eq_false h3, Bool.false_and, Bool.and_false, Bool.and_false])
    ·rw [if_neg h2]
     exact gq (aI _) (by rw [decide_eq_false h2, Bool.false_and, Bool.and_false])
   ·rw [if_neg h1]
    exact gq (aI _) (by rw [decide_eq_false h1, Bool.false_and])
  ·have hc := Bg l[i].f0 l[i].f1 (hx _ (List.getElem_mem hi))
   rw [GU _ _ _ hi]
   by_cases h : lJ l[i].f0 l[i].f1 = true
   ·refine .inr ⟨by simp only [h, Bool.true_and], fun r hr => ?_⟩
    rw [← au]
    simp only [dS.l0, sQ _ i hi, bD (i := i) (by omega)]
    rw [ep, ep, av hc, ep h]
    exact hr
   ·refine .inl ?_
    rw [← au]
    simp only [dS.l0, sQ _ i hi]
    rw [ep, ep, av hc, en h]
    exact gq (aI _) (by simp only [h, Bool.false_and, Bool.false_eq_true, if_false])
 refine gq (key _ rfl) ?_
 unfold lN
 cases l.all (fun x => lJ x.f0 x.f1) <;> simp
theorem DV (l : List S72) (x : ByteArray) (hl : l.length < 4611686018427387904) (hx : ∀ x ∈ l, x.f1.length < 4611686018427387904) : Ev (fun k => ku.f k l x) (l.any (fun x => !lJ x.f0 x.f1)) := by
 have hi : Ev (fun k => fP.f k l x) (match l.findIdx? (fun x => !lJ x.f0 x.f1) with | some i => (i : Int) | none => -1) := by
  have h1 : ∀ i (hi : i < l.length), Ev (fun k => jf.f k l[i].f0 l[i].f1) (!lJ l[i].f0 l[i].f1) := by
   intro i hi
   unfold jf.f
   rw [av (Ar _ _ (hx _ (List.getElem_mem hi)))]
   exact aI _
  refine rE (fun k i => fP.l0 k l (l.length : Int) i) l _ ?_ (fun i hi hp r hr => ?_) (fun i hi hp => ?_)
  ·rw [← au]; simp [fP.l0, aI]
  ·rw [← au]
   simp only [fP.l0, sQ _ i hi, bD (i := i) (by omega)]
   rw [ep, ep, ep, av (h1 i hi), en (by rw [hp]; exact Bool.false_ne_true)]
   exact hr
  ·rw [← au]
   simp only [fP.l0, sQ _ i hi]
   rw [ep, ep, ep, av (h1 i hi), ep hp]
   exact aI _
 unfold ku.f
 rw [av hi, Dy]
 exact aI _
theorem pX (R C : Int) (s : ByteArray) (l : List S72) (q : List Int) (e : Int) (hl : l.length < 4611686018427387904) (hx : ∀ x ∈ l, x.f1.length < 4611686018427387904) : Ev (fun k => iY.f k R C s l q e) (lN R C s l q e) := by
 unfold iY.f lN
 rw [av (Ak R C s), aA]
 by_cases h1 : qI R C s = 0
 ·rw [if_pos h1, av (nS R C s), aA, decide_eq_true h1, Bool.true_and]
  by_cases h2 : (l.length : Int) = ((aR R C s).length : Int)
  ·rw [if_pos h2, aA, decide_eq_true h2, Bool.true_and]
   by_cases h3 : (q.length : Int) = ((aR R C s).length : Int)
   ·rw [if_pos h3, decide_eq_true h3, Bool.true_and]
    simp only [kR, Option.bind_some]
    rw [aA]
    by_cases h4 : 1 ≤ e ∧ e ≤ 9999
    ·rw [if_pos (by simpa using h4), av (DV l _ hl hx), decide_eq_true h4, Bool.true_and]
     exact gq (aI _) (by rw [List.not_any_eq_all_not]; simp)
    ·rw [if_neg (by simpa using h4), decide_eq_false h4, Bool.false_and]
     exact aI _
   ·rw [if_neg h3, decide_eq_false h3, Bool.false_and]
    exact aI _
  ·rw [if_neg h2, decide_eq_false h2, Bool.false_and]
   exact aI _
 ·rw [if_neg h1, decide_eq_false h1, Bool.false_and]
  exact aI _
def AJ (l : List Int) : Prop := ∀ c ∈ l, 0 ≤ c ∧ c ≤ 255
theorem jK (l : List Int) (h : AJ l) : bytesOf (strOfNums l) = l := by
 unfold bytesOf
 rw [strOfNums_data, List.map_map]
 have : ∀ c ∈ l, ((fun c : UInt8 => (c.toNat : Int)) ∘ fun n : Int => UInt8.ofNat n.toNat) c = c := by
  intro c hc
  have := h c hc
  simp only [Function.comp_apply, UInt8.toNat_ofNat']
  omega
 conv => rhs; rw [← List.map_id l]
 exact List.map_congr_left (fun c hc => by rw [this c hc]; rfl)
theorem pG (s : ByteArray) : strOfNums (bytesOf s) = s := bytes_inj (jK _ (nN s))
theorem qj (s : ByteArray) (j : Nat) : bt s (j : Int) = (bytesOf s).getD j 0 := by rw [← AQ]; rfl
def wK : List Int → List Int → List Int → List Int
 | b, c :: cs, x :: xs => wK (b.set c.toNat x) cs xs
 | b, _, _ => b
def Grow (b b' : List Int) : Prop := b'.length = b.length ∧ ∀ j : Nat, b'.getD j 0 = b.getD j 0 ∨ (b.getD j 0 = 63 ∧ 97 ≤ b'.getD j 0 ∧ b'.getD j 0 ≤ 122)
theorem Grow.refl (b : List Int) : Grow b b := ⟨rfl, fun _ => .inl rfl⟩
theorem Grow.trans {a b c : List Int} (h1 : Grow a b) (h2 : Grow b c) : Grow a c := by
 refine ⟨h2.1.trans h1.1, fun j => ?_⟩
 have q1 := h1.2 j
 have q2 := h2.2 j
 omega
theorem Cb (l : List Int) (i j : Nat) (x : Int) : (l.set i x).getD j 0 = if j = i ∧ i < l.length then x else l.getD j 0 := by
 simp only [List.getD_eq_getElem?_getD, List.getElem?_set]
 by_cases h : j = i
 ·subst h
  by_cases h2 : j < l.length
  ·simp [h2]
  ·rw [if_pos rfl, if_neg h2, if_neg (fun q => h2 q.2), List.getElem?_eq_none (by omega)]
 ·rw [if_neg (by omega), if_neg (fun q => h q.1)]
theorem GY (b : List Int) (c : Nat) (x : Int) (h : b.getD c 0 = 63 ∨ b.getD c 0 = x) (hx : 97 ≤ x ∧ x ≤ 122) : Grow b (b.set c x) := by
 refine ⟨List.length_set, fun j => ?_⟩
 rw [Cb]
 split
 ·rename_i q
  rw [q.1]
  omega
 ·exact .inl rfl
theorem Ch : ∀ (cs b xs : List Int), (cs.map Int.toNat).Nodup → (∀ i : Nat, i < cs.length → i < xs.length → b.getD (cs.getD i 0).toNat 0 = 63 ∨ b.getD (cs.getD i 0).toNat 0 = xs.getD i 0) → (∀ x ∈ xs, 97 ≤ x ∧ x ≤ 122) → Grow b (wK b cs xs)
 | [], b, xs, _, _, _ => by cases xs <;> exact Grow.refl _
 | c :: cs, b, [], _, _, _ => Grow.refl _
 | c :: cs, b, x :: xs, hn, h, hx => by
  rw [List.map_cons, List.nodup_cons] at hn
  have h0 := h 0 (by simp) (by simp)
  simp only [List.getD_cons_zero] at h0
  refine (GY b c.toNat x h0 (hx x List.mem_cons_self)).trans (Ch cs _ xs hn.2 (fun i hi hj => ?_) (fun y hy => hx y (List.mem_cons_of_mem _ hy)))
  have h1 := h (i + 1) (by simpa using hi) (by simpa using hj)
  simp only [List.getD_cons_succ] at h1
  rw [Cb, if_neg]
  ·exact h1
  ·rintro ⟨q, _⟩
   refine hn.1 (List.mem_map.2 ⟨cs.getD i 0, ?_, q⟩)
   rw [List.getD_eq_getElem?_getD, List.getElem?_eq_getElem hi]
   exact List.getElem_mem hi
theorem Jk (cs b xs : List Int) (hb : AJ b) (hx : AJ xs) : AJ (wK b cs xs) := by
 induction cs generalizing b xs with
 | nil => cases xs <;> exact hb
 | cons c cs ih =>
  cases xs with
  | nil => exact hb
  | cons x xs =>
   refine ih _ _ (fun y hy => ?_) (fun y hy => hx y (List.mem_cons_of_mem _ hy))
   rcases List.mem_or_eq_of_mem_set hy with h | h
   ·exact hb y h
   ·rw [h]; exact hx x List.mem_cons_self
def Gi (f : ByteArray) (cs : List Int) (w : ByteArray) : ByteArray := strOfNums (wK (bytesOf f) cs (bytesOf w))
theorem EI (f : ByteArray) (cs : List Int) (w : ByteArray) : bytesOf (Gi f cs w) = wK (bytesOf f) cs (bytesOf w) := jK _ (Jk _ _ _ (nN f) (nN w))
theorem Cx {C : Int} {s : ByteArray} (hC : 2 ≤ C ∧ C ≤ 6) {x : S92} (ok : Ik C s x) : ((bQ C x).map Int.toNat).Nodup := by
 have hst := vU hC x
 unfold bQ
 rw [List.map_map]
 have hp := List.pairwise_map (f := Int.toNat ∘ fun j : Nat => x.f2 + (j : Int) * stepOf C x) (R := fun a b => a ≠ b) (l := List.range x.f3.toNat)
 refine hp.2 ?_
 refine List.Pairwise.imp_of_mem ?_ List.nodup_range
 intro a b ha hb hab
 have h0 := ok.1
 have ha' := ok.2.2.2.2 a (by omega) (by have := List.mem_range.1 ha; omega)
 have hb' := ok.2.2.2.2 b (by omega) (by have := List.mem_range.1 hb; omega)
 intro q
 simp only [Function.comp_apply] at q
 have e : (a : Int) * stepOf C x = (b : Int) * stepOf C x := by omega
 have := Int.eq_of_mul_eq_mul_right (by omega) e
 omega
theorem wJ {w : ByteArray} (h : gL w = true) : ∀ c ∈ bytesOf w, 97 ≤ c ∧ c ≤ 122 := by
 intro c hc
 unfold gL at h
 rw [Bool.and_eq_true, List.all_eq_true] at h
 have := h.2 c hc
 simpa [kQ] using this
theorem tQ {p w : ByteArray} (h : nE p w = true) : gL w = true ∧ p.size = w.size ∧ ∀ i : Nat, i < p.size → bt p (i : Int) = 63 ∨ bt p (i : Int) = bt w (i : Int) := by
 unfold nE at h
 split at h
 ·split at h
  ·split at h
   ·rename_i h1 h2 h3
    refine ⟨h2, h3, fun i hi => ?_⟩
    have := List.all_eq_true.1 h i (List.mem_range.2 hi)
    simpa using this
   ·cases h
  ·cases h
 ·cases h
theorem Jj {f : ByteArray} {l : List Int} (i : Nat) (hi : i < l.length) : bt (lS f l) (i : Int) = bt f l[i] := by
 rw [qj, lS, jK]
 ·simp [List.getD_eq_getElem?_getD, hi]
 ·intro c hc
  obtain ⟨z, _, rfl⟩ := List.mem_map.1 hc
  exact GK f z
theorem Ib {R C : Int} {s f w : ByteArray} (hf : fC R C s f = true) {x : S92} (hx : x ∈ aR R C s) (h : nE (lS f (bQ C x)) w = true) : Grow (bytesOf f) (bytesOf (Gi f (bQ C x) w)) := by
 obtain ⟨hg, hfs, _⟩ := jo hf
 obtain ⟨h1, h2, h3⟩ := tQ h
 have ok := (dR R C s).1 x hx
 rw [EI]
 refine Ch _ _ _ (Cx (iM hg).2.1 ok) (fun i hi hj => ?_) (wJ h1)
 have h4 := h3 i (by rw [rJ]; exact hi)
 rw [Jj i hi] at h4
 have hc := oC ok _ (List.getElem_mem hi)
 have e1 : (bQ C x).getD i 0 = (bQ C x)[i] := by simp [List.getD_eq_getElem?_getD, List.getElem?_eq_getElem hi]
 have e2 : bt f (bQ C x)[i] = (bytesOf f).getD ((bQ C x)[i]).toNat 0 := by
  rw [← qj]
  congr 1
  omega
 rw [e1, ← e2, ← qj]
 exact h4
theorem IW {f f' : ByteArray} (h : Grow (bytesOf f) (bytesOf f')) (j : Nat) : bt f' (j : Int) = bt f (j : Int) ∨ (bt f (j : Int) = 63 ∧ 97 ≤ bt f' (j : Int) ∧ bt f' (j : Int) ≤ 122) := by
 rw [qj, qj]
 exact h.2 j
theorem FT {f f' : ByteArray} (h : Grow (bytesOf f) (bytesOf f')) : f'.size = f.size := by
 have := h.1
 rw [bytesOf_length, bytesOf_length] at this
 exact this
theorem rC {R C : Int} {s f f' : ByteArray} (hf : fC R C s f = true) (h : Grow (bytesOf f) (bytesOf f')) : fC R C s f' = true := by
 obtain ⟨hg, hfs, ha⟩ := jo hf
 have hs := FT h
 unfold fC
 rw [hg, Bool.true_and, Bool.and_eq_true, List.all_eq_true]
 refine ⟨decide_eq_true (by omega), fun i hi => ?_⟩
 have hi' := List.mem_range.1 hi
 have q := ha i (by omega)
 have g := IW h i
 unfold nD at q ⊢
 have q' := of_decide_eq_true q
 refine decide_eq_true ?_
 omega
theorem ED {f f' : ByteArray} (h : Grow (bytesOf f) (bytesOf f')) : (bytesOf f').countP (fun c => c == 63) ≤ (bytesOf f).countP (fun c => c == 63) ∧ (f' ≠ f → (bytesOf f').countP (fun c => c == 63) < (bytesOf f).countP (fun c => c == 63)) := by
 have key : ∀ b b' : List Int, Grow b b' → b'.countP (fun c => c == 63) ≤ b.countP (fun c => c == 63) ∧ (b' ≠ b → b'.countP (fun c => c == 63) < b.countP (fun c => c == 63)) := by
  intro b
  induction b with
  | nil =>
   intro b' hg
   have : b' = [] := List.eq_nil_of_length_eq_zero hg.1
   subst this
   simp
  | cons x b ih =>
   intro b' hg
   cases b' with
   | nil => have := hg.1; simp at this
   | cons y b' =>
    have h0 := hg.2 0
    simp only [List.getD_cons_zero] at h0
    have ht : Grow b b' := ⟨by have := hg.1; simpa using this, fun j => by have := hg.2 (j + 1); simpa using this⟩
    obtain ⟨i1, i2⟩ := ih b' ht
    rw [List.countP_cons, List.countP_cons]
    rcases h0 with e | ⟨e1, e2, e3⟩
    ·subst e
     refine ⟨by omega, fun hne => ?_⟩
     have := i2 (fun q => hne (by rw [q]))
     omega
    ·have : ¬ y = 63 := by omega
     simp [e1, this]
     omega
 obtain ⟨k1, k2⟩ := key _ _ h
 exact ⟨k1, fun hne => k2 (fun q => hne (bytes_inj q))⟩
theorem kS (l : List Int) : (strOfNums l).data.toList = l.map fun n => UInt8.ofNat n.toNat := rfl
theorem Ez (f : ByteArray) : (bytesOf f).map (fun n => UInt8.ofNat n.toNat) = f.data.toList := by
 have := congrArg (fun s : ByteArray => s.data.toList) (pG f)
 exact this
theorem IL (f : ByteArray) (c : Nat) (hc : c < f.size) (b : Int) : (f.extract 0 c ++ strOfNums [b]) ++ f.extract (c + 1) f.size = strOfNums ((bytesOf f).set c b) := by
 have hd : c < f.data.toList.length := by rw [Array.length_toList]; exact hc
 have hsz : f.data.size = f.data.toList.length := (Array.length_toList).symm
 have hsz2 : f.size = f.data.toList.length := hsz
 refine ByteArray.ext (Array.toList_inj.1 ?_)
 rw [kS, List.map_set, Ez, ByteArray.data_append, ByteArray.data_append, Array.toList_append, Array.toList_append, ByteArray.data_extract, ByteArray.data_extract, Array.toList_extract, Array.toList_extract, kS,
  List.extract_eq_drop_take', List.extract_eq_drop_take', List.set_eq_take_append_cons_drop, if_pos hd, hsz2, List.take_length, List.drop_zero]
 simp
theorem CX (w : ByteArray) (cs : List Int) (hw : cs.length ≤ w.size) (hw2 : w.size ≤ 1000) (f : ByteArray) (hf : f.size ≤ 1000) (hcs : ∀ c ∈ cs, 0 ≤ c ∧ c < f.size) : Ev (fun k => bN.l0 k f w cs 0) (Gi f cs w, true) := by
 have := iB (σ := ByteArray) (fun k a j => bN.l0 k a w cs j) cs.length (fun j a => a.size = f.size) (fun j a => (strOfNums (wK (bytesOf a) (cs.drop j) ((bytesOf w).drop j)), true)) (fun a ha => ?_) (fun j a hj ha => ?_) 0 f (Nat.zero_le _) rfl
 ·exact this
 ·rw [← au]
  simp only [bN.l0, Int.lt_irrefl, if_false, List.drop_length]
  refine gq (aI _) ?_
  rw [show wK (bytesOf a) [] ((bytesOf w).drop cs.length) = bytesOf a by cases (bytesOf w).drop cs.length <;> rfl, pG]
 ·have hjw : j < (bytesOf w).length := by rw [bytesOf_length]; omega
  have hc := hcs _ (List.getElem_mem hj)
  obtain ⟨c, hcn⟩ := Int.eq_ofNat_of_zero_le hc.1
  have hca : c < a.size := by omega
  have hok : AJ ((bytesOf a).set c (bytesOf w)[j]) := by
   intro y hy
   rcases List.mem_or_eq_of_mem_set hy with h | h
   ·exact nN a y h
   ·rw [h]; exact nN w _ (List.getElem_mem hjw)
  have hset := IL a c hca (bytesOf w)[j]
  have hx1 := Af w j (by omega)
  have ew : wrap64 ((c : Int) + 1) = ((c + 1 : Nat) : Int) := bD (by omega)
  have hz1 : (a.extract 0 c).size = c := by rw [ByteArray.size_extract]; omega
  have hz2 : (strOfNums [(bytesOf w)[j]]).size = 1 := by rw [strOfNums_size]; rfl
  have hz3 : (a.extract 0 c ++ strOfNums [(bytesOf w)[j]]).size = c + 1 := by rw [ByteArray.size_append, hz1, hz2]
  have hz4 : (a.extract (c + 1) a.size).size ≤ 1000 := by rw [ByteArray.size_extract]; omega
  refine .inr ⟨strOfNums ((bytesOf a).set c (bytesOf w)[j]), ?_, ?_, fun r hr => ?_⟩
  ·rw [strOfNums_size, List.length_set, bytesOf_length, ha]
  ·rw [jK _ hok, List.drop_eq_getElem_cons hj, List.drop_eq_getElem_cons hjw, wK, hcn, Int.toNat_natCast]
  ·rw [← au]
   simp only [bN.l0, mZ cs j hj, hcn, bD (i := j) (by omega), ew, Int.toNat_natCast, hx1]
   rw [ep, ep, ep, ep, ep, ep, ep, ep, ep, ep, hset]
   exact hr
def EJ (C : Int) (f : ByteArray) (x : S92) (w : ByteArray) : ByteArray × Bool := if nE (lS f (bQ C x)) w = true then (Gi f (bQ C x) w, true) else (f, false)
theorem Ag {C : Int} {f w : ByteArray} {x : S92} (h : nE (lS f (bQ C x)) w = true) : (bQ C x).length = w.size ∧ w.size ≤ 8 := by
 obtain ⟨h1, h2, _⟩ := tQ h
 rw [rJ] at h2
 have := gG h1
 omega
theorem wQ {R C : Int} {s f : ByteArray} (hf : fC R C s f = true) (i : Nat) (hi : i < (aR R C s).length) (w : ByteArray) : Ev (fun k => bN.f k R C s f (i : Int) w) (EJ C f (aR R C s)[i] w) := by
 have hm := List.getElem_mem hi
 obtain ⟨hg, hfs, _⟩ := jo hf
 have hsz := eZ hg
 unfold bN.f EJ
 rw [av (oh hf i hi), av (nZ _ w), aA]
 split
 ·rename_i h
  obtain ⟨z1, z2⟩ := Ag h
  simp only [av (iP R C s), ng _ i hi]
  rw [ep, ep, av (mg _ hm)]
  exact CX w _ (by omega) (by omega) f (by omega) (fun c hc => by have := oC ((dR R C s).1 _ hm) c hc; omega)
 ·exact aI _
theorem Iy (l : List Int) (wd : ByteArray) (d : Array Int) (hl : l.length ≤ wd.size) : ∀ i, i ≤ l.length → wK (HandPut.wrA l wd d i).toList (l.drop i) ((bytesOf wd).drop i) = wK d.toList l (bytesOf wd) := by
 intro i
 induction i with
 | zero => intro _; rfl
 | succ i ih =>
  intro hi
  have hil : i < l.length := by omega
  have hiw : i < (bytesOf wd).length := by rw [bytesOf_length]; omega
  rw [← ih (by omega), List.drop_eq_getElem_cons hil, List.drop_eq_getElem_cons hiw, wK, HandPut.wrA, Array.toList_setIfInBounds, mZ l i hil, jW wd i (by omega)]
theorem sM (f w : ByteArray) (cs : List Int) (hf : f.size ≤ 1000) (hw : cs.length ≤ w.size) (hw2 : w.size ≤ 1000) (hcs : ∀ c ∈ cs, 0 ≤ c ∧ c < f.size) : jg.f f cs w = some (Gi f cs w) := by
 have := Iy cs w (HandSort.nums f).toArray hw cs.length (Nat.le_refl _)
 rw [List.drop_length] at this
 have e : wK (HandPut.wrA cs w (HandSort.nums f).toArray cs.length).toList [] ((bytesOf w).drop cs.length) = (HandPut.wrA cs w (HandSort.nums f).toArray cs.length).toList := by cases (bytesOf w).drop cs.length <;> rfl
 rw [e] at this
 unfold jg.f Gi
 rw [if_pos ⟨hf, hw, hw2, hcs⟩, this]
 rfl
theorem rR {R C : Int} {s f : ByteArray} (hf : fC R C s f = true) (i : Nat) (hi : i < (aR R C s).length) : Ev (fun k => iW.f k R C s f (i : Int)) (lS f (bQ C (aR R C s)[i])) := by
 have hp : qd R C s f = (aR R C s).map (fun x => lS f (bQ C x)) := by unfold qd; rw [if_pos hf]
 have hl : (qd R C s f).length = (aR R C s).length := by rw [hp, List.length_map]
 unfold iW.f
 rw [av (pY R C s f)]
 simp only [at_eq, Option.bind_some]
 rw [ep (by simp; omega), ep, ep, kK ByteArray.empty _ i (by omega)]
 exact gq (aI _) (by simp only [hp, List.getElem_map])
theorem wH {R C : Int} {s f : ByteArray} (hf : fC R C s f = true) (i : Nat) (hi : i < (aR R C s).length) (w : ByteArray) : Ev (fun k => kC.f k R C s f (i : Int) w) (EJ C f (aR R C s)[i] w) := by
 have hm := List.getElem_mem hi
 obtain ⟨hg, hfs, _⟩ := jo hf
 have hsz := eZ hg
 have hll : ((aR R C s).map (bQ C)).length = (aR R C s).length := List.length_map _
 have hL : ((aR R C s).map (bQ C))[i]'(by omega) = bQ C (aR R C s)[i] := List.getElem_map _
 unfold kC.f EJ
 rw [av (rR hf i hi), av (nW _ w), aA]
 split
 ·rename_i h
  obtain ⟨z1, z2⟩ := Ag h
  simp only [av (kV R C s), CZ ((aR R C s).map (bQ C)) i (by omega), hL]
  rw [ep, ep]
  rw [sM f w _ (by omega) (by omega) (by omega) (fun c hc => by have := oC ((dR R C s).1 _ hm) c hc; omega)]
  exact aI _
 ·exact aI _
def Hy (p : ByteArray) : Bool := (bytesOf p).any (fun c => c == 63)
def Cn (C : Int) (f : ByteArray) (d : List S62) (w : List ByteArray) (how : Int) (x : S92) (c : S72) (out : ByteArray) : ByteArray :=
 if Hy (lS f (bQ C x)) = true then (if (nP how c.f0 c.f1 d w (lS f (bQ C x))).length = 1 then (EJ C out x (fG ByteArray.empty (nP how c.f0 c.f1 d w (lS f (bQ C x))) 0)).1 else out) else out
noncomputable def rdStep (R C : Int) (s f : ByteArray) (l : List S72) (d : List S62) (w : List ByteArray) (how : Int) (out : ByteArray) (i : Nat) : ByteArray :=
 match (aR R C s)[i]?, l[i]? with
 | some x, some c => Cn C f d w how x c out
 | _, _ => out
noncomputable def pO (R C : Int) (s f : ByteArray) (l : List S72) (d : List S62) (w : List ByteArray) (how : Int) (i : Nat) (out : ByteArray) : ByteArray := (List.range' i ((aR R C s).length - i)).foldl (rdStep R C s f l d w how) out
noncomputable def ni (R C : Int) (s : ByteArray) (l : List S72) (q : List Int) (e : Int) (f : ByteArray) (d : List S62) (w : List ByteArray) (how : Int) : ByteArray :=
 if lN R C s l q e = true then (if fC R C s f = true then pO R C s f l d w how 0 f else f) else f
theorem Gh {R C : Int} {s f : ByteArray} (hf : fC R C s f = true) {x : S92} (hx : x ∈ aR R C s) (w : ByteArray) : Grow (bytesOf f) (bytesOf (EJ C f x w).1) := by
 unfold EJ
 split
 ·rename_i h
  exact Ib hf hx h
 ·exact Grow.refl _
theorem EU {R C : Int} {s out : ByteArray} (f : ByteArray) (d : List S62) (w : List ByteArray) (how : Int) {x : S92} (c : S72) (hf : fC R C s out = true) (hx : x ∈ aR R C s) : Grow (bytesOf out) (bytesOf (Cn C f d w how x c out)) := by
 unfold Cn
 split
 ·split
  ·exact Gh hf hx _
  ·exact Grow.refl _
 ·exact Grow.refl _
theorem Ci {R C : Int} {s : ByteArray} (f : ByteArray) {l : List S72} (d : List S62) (w : List ByteArray) (how : Int) (out : ByteArray) (i : Nat) (hi : i < (aR R C s).length) (hl : i < l.length) : rdStep R C s f l d w how out i = Cn C f d w how (aR R C s)[i] l[i] out := by
 unfold rdStep
 rw [List.getElem?_eq_getElem hi, List.getElem?_eq_getElem hl]
theorem sU (R C : Int) (s f : ByteArray) (l : List S72) (d : List S62) (w : List ByteArray) (how : Int) (out : ByteArray) : pO R C s f l d w how (aR R C s).length out = out := by simp [pO]
theorem qU (R C : Int) (s f : ByteArray) (l : List S72) (d : List S62) (w : List ByteArray) (how : Int) (i : Nat) (hi : i < (aR R C s).length) (out : ByteArray) : pO R C s f l d w how i out = pO R C s f l d w how (i + 1) (rdStep R C s f l d w how out i) := by
 unfold pO
 rw [show (aR R C s).length - i = ((aR R C s).length - (i + 1)) + 1 by omega, List.range'_succ]
 rfl
theorem qR {R C : Int} {s out : ByteArray} (f : ByteArray) (l : List S72) (d : List S62) (w : List ByteArray) (how : Int) (i : Nat) (hf : fC R C s out = true) : Grow (bytesOf out) (bytesOf (rdStep R C s f l d w how out i)) := by
 unfold rdStep
 split
 ·rename_i x c h1 h2
  exact EU f d w how c hf (List.mem_of_getElem? h1)
 ·exact Grow.refl _
theorem Ea {R C : Int} {s : ByteArray} (f : ByteArray) (l : List S72) (d : List S62) (w : List ByteArray) (how : Int) : ∀ (n i : Nat) (out : ByteArray), i + n = (aR R C s).length → fC R C s out = true → Grow (bytesOf out) (bytesOf (pO R C s f l d w how i out)) := by
 intro n
 induction n with
 | zero => intro i out hi hf; rw [show i = (aR R C s).length by omega, sU]; exact Grow.refl _
 | succ n ih =>
  intro i out hi hf
  rw [qU R C s f l d w how i (by omega)]
  have g := qR f l d w how i hf
  exact g.trans (ih (i + 1) _ (by omega) (rC hf g))
theorem qQ {R C : Int} {s f : ByteArray} {x : S92} (hx : x ∈ aR R C s) : (lS f (bQ C x)).size ≤ 6 := by
 rw [rJ, gY]
 have := ((dR R C s).1 x hx).2.2.2.1
 omega
theorem uZ (R C : Int) (s : ByteArray) (l : List S72) (q : List Int) (e : Int) (f : ByteArray) (d : List S62) (w : List ByteArray) (how : Int) (hs : s.size < 140737488355328) (hl : l.length < 4611686018427387904) (hx : ∀ x ∈ l, x.f1.length < 4611686018427387904) (hd : d.length < 4611686018427387904) (hw : w.length ≤ 8796093022208) :
  Ev (fun k => bF.f k R C s l q e f d w how) (ni R C s l q e f d w how) := by
 have hend : ∀ (out : ByteArray) (i : Int), Ev (fun k => bF.j1 k f d w how out i false R C s l q e) out := by
  intro out i
  rw [← au]
  simp only [bF.j1, Bool.false_eq_true, if_false]
  exact aI _
 have hp := qh R C s l q e hs hl hx
 have hfl := oM R C s f
 unfold bF.f
 by_cases hok : lN R C s l q e = true ∧ fC R C s f = true
 ·have hlen : l.length = (aR R C s).length := (pJ hok.1).2.1
  have hn := (dR R C s).2.2
  have hrb : ni R C s l q e f d w how = pO R C s f l d w how 0 f := by unfold ni; rw [if_pos hok.1, if_pos hok.2]
  rw [hrb]
  refine iB (σ := ByteArray) (fun k out i => bF.l0 k f d w how out i R C s l q e) (aR R C s).length (fun _ out => fC R C s out = true) (fun i out => pO R C s f l d w how i out) (fun out _ => ?_) (fun i out hi hout => .inr ⟨rdStep R C s f l d w how out i, rC hout (qR f l d w how i hout), qU R C s f l d w how i hi out, fun r hr => ?_⟩) 0 f (Nat.zero_le _) hok.2
  ·rw [sU, ← au]
   simp only [bF.l0]
   rw [en]
   exact hend out _
  ·have hil : i < l.length := by omega
   have hm := List.getElem_mem hi
   have hps := qQ (f := f) hm
   have hgs := sZ l[i].f0 l[i].f1 d w (lS f (bQ C (aR R C s)[i])) how (hx _ (List.getElem_mem hil)) hd hw
   rw [Ci f d w how out i hi hil] at hr
   unfold Cn Hy at hr
   rw [← au]
   simp only [bF.l0]
   rw [ep, av hp, ep hok.1, av hfl, hok.2, ← au]
   simp only [bF.j1, if_true, sQ _ i hil, bD (i := i) (by omega)]
   rw [av (oh hok.2 i hi), ep, ep, av hgs, av (qB _ (by omega)), aA]
   split
   ·rename_i ho
    rw [if_pos ho] at hr
    rw [aA]
    generalize nP how l[i].f0 l[i].f1 d w (lS f (bQ C (aR R C s)[i])) = g at hr ⊢
    split
    ·rename_i h1
     rw [if_pos (by omega)] at hr
     rw [ep, av (wQ hout i hi _)]
     exact hr
    ·rename_i h1
     rw [if_neg (by omega)] at hr
     exact hr
   ·rename_i ho
    rw [if_neg ho] at hr
    exact hr
 ·have hrb : ni R C s l q e f d w how = f := by
   unfold ni
   split
   ·rename_i h1
    rw [if_neg (fun h2 => hok ⟨h1, h2⟩)]
   ·rfl
  rw [hrb, ← au]
  simp only [bF.l0]
  rw [aA]
  split
  ·rw [av hp, aA]
   split
   ·rename_i h1
    have : fC R C s f = false := by simpa using fun h2 => hok ⟨h1, h2⟩
    rw [av hfl, this]
    exact hend _ _
   ·exact hend _ _
  ·exact hend _ _
theorem uQ (R C : Int) (s : ByteArray) (l : List S72) (q : List Int) (e : Int) (f : ByteArray) (d : List S62) (w : List ByteArray) (how : Int) (hl : l.length < 4611686018427387904) (hx : ∀ x ∈ l, x.f1.length < 4611686018427387904) (hd : d.length < 4611686018427387904) (hw : w.length ≤ 8796093022208) :
  Ev (fun k => bY.f k R C s l q e f d w how) (ni R C s l q e f d w how) := by
 unfold bY.f ni
 rw [av (pX R C s l q e hl hx), aA]
 split
 ·rename_i hpz
  have hlen : l.length = (aR R C s).length := (pJ hpz).2.1
  have hn := (dR R C s).2.2
  rw [av (pY R C s f)]
  split
  ·rename_i hf
   have hpe : qd R C s f = (aR R C s).map (fun x => lS f (bQ C x)) := by unfold qd; rw [if_pos hf]
   have hpl : (qd R C s f).length = (aR R C s).length := by rw [hpe, List.length_map]
   refine iB (σ := ByteArray) (fun k out i => bY.l0 k d w how out (qd R C s f) ((qd R C s f).length : Int) i R C s l q e) (aR R C s).length (fun _ out => fC R C s out = true) (fun i out => pO R C s f l d w how i out) (fun out _ => ?_) (fun i out hi hout => .inr ⟨rdStep R C s f l d w how out i, rC hout (qR f l d w how i hout), qU R C s f l d w how i hi out, fun r hr => ?_⟩) 0 f (Nat.zero_le _) hf
   ·rw [sU, ← au]
    simp only [bY.l0]
    rw [en]
    exact aI _
   ·have hil : i < l.length := by omega
    have hm := List.getElem_mem hi
    have hps := qQ (f := f) hm
    have hgs := sK l[i].f0 l[i].f1 d w (lS f (bQ C (aR R C s)[i])) how (hx _ (List.getElem_mem hil)) hd hw
    have hpi : fG ByteArray.empty (qd R C s f) (i : Int) = lS f (bQ C (aR R C s)[i]) := by
     rw [kK ByteArray.empty _ i (by omega)]
     simp only [hpe, List.getElem_map]
    rw [Ci f d w how out i hi hil] at hr
    unfold Cn Hy at hr
    have hoz := wz (lS f (bQ C (aR R C s)[i]))
    rw [← au]
    simp only [bY.l0, sQ _ i hil, hpi, bD (i := i) (by omega)]
    rw [ep, ep, ep, av (qO _ (by omega)), aA]
    by_cases ho : ((bytesOf (lS f (bQ C (aR R C s)[i]))).any (fun c => c == 63)) = true
    ·rw [if_pos ho] at hr
     rw [ho, Bool.not_true, beq_eq_false_iff_ne] at hoz
     rw [if_neg hoz, ep, av hgs, aA]
     generalize nP how l[i].f0 l[i].f1 d w (lS f (bQ C (aR R C s)[i])) = g at hr ⊢
     split
     ·rename_i h1
      rw [if_pos (by omega)] at hr
      rw [ep, av (wH hout i hi _)]
      exact hr
     ·rename_i h1
      rw [if_neg (by omega)] at hr
      exact hr
    ·rw [if_neg ho] at hr
     rw [Bool.not_eq_true] at ho
     rw [ho, Bool.not_false, beq_iff_eq] at hoz
     rw [if_pos hoz]
     exact hr
  ·rename_i hf
   have : qd R C s f = [] := by unfold qd; rw [if_neg hf]
   rw [this, ← au]
   simp only [bY.l0, List.length_nil]
   rw [en (by simp)]
   exact aI _
 ·exact aI _
theorem evP {α : Type} {c : Prop} [Decidable c] {f g : Nat → Option α} {r : α} (h : c) : Ev (fun k => if c then f k else g k) r ↔ Ev f r := by rw [ep h]
theorem evN {α : Type} {c : Prop} [Decidable c] {f g : Nat → Option α} {r : α} (h : ¬ c) : Ev (fun k => if c then f k else g k) r ↔ Ev g r := by rw [en h]
def wX (full : ByteArray → Bool) (next : ByteArray → ByteArray) : Nat → ByteArray → Nat → Int
 | 0, _, _ => -1
 | k + 1, f, n => if full f = true then (n : Int) else if next f = f then -1 else wX full next k (next f) (n + 1)
theorem AZ (L : Nat → ByteArray → Int → Option Int) (full : ByteArray → Bool) (next : ByteArray → ByteArray) (good : ByteArray → Prop) (m : ByteArray → Nat) (hn : ∀ f, good f → good (next f) ∧ (next f ≠ f → m (next f) < m f))
  (hfull : ∀ f (n : Nat), good f → n < 4000 → full f = true → Ev (fun k => L k f (n : Int)) (n : Int)) (hstay : ∀ f (n : Nat), good f → n < 4000 → full f = false → next f = f → Ev (fun k => L k f (n : Int)) (-1))
  (hgo : ∀ f (n : Nat), good f → n < 4000 → full f = false → next f ≠ f → ∀ r, Ev (fun k => L k (next f) ((n + 1 : Nat) : Int)) r → Ev (fun k => L k f (n : Int)) r) :
  ∀ (fuel : Nat) (f : ByteArray) (n : Nat), good f → m f < fuel → n + fuel < 4000 → Ev (fun k => L k f (n : Int)) (wX full next fuel f n) := by
 intro fuel
 induction fuel with
 | zero => intro f n _ h; omega
 | succ fuel ih =>
  intro f n hg hm hs
  unfold wX
  by_cases h1 : full f = true
  ·rw [if_pos h1]
   exact hfull f n hg (by omega) h1
  ·rw [if_neg h1]
   replace h1 := Bool.eq_false_iff.mpr h1
   by_cases h2 : next f = f
   ·rw [if_pos h2]
    exact hstay f n hg (by omega) h1 h2
   ·rw [if_neg h2]
    obtain ⟨g1, g2⟩ := hn f hg
    exact hgo f n hg (by omega) h1 h2 _ (ih (next f) (n + 1) g1 (by have := g2 h2; omega) (by omega))
def lQ (R C : Int) (s : ByteArray) : ByteArray := if dP R C s = true then strOfNums ((bytesOf s).map (fun c => if c = 35 then 35 else 63)) else (⟨#[]⟩ : ByteArray)
theorem tO {R C : Int} {s : ByteArray} (h : dP R C s = true) : bytesOf (lQ R C s) = (bytesOf s).map (fun c => if c = 35 then 35 else 63) := by
 unfold lQ
 rw [if_pos h]
 refine jK _ ?_
 intro c hc
 obtain ⟨x, _, rfl⟩ := List.mem_map.mp hc
 split <;> omega
theorem vX {R C : Int} {s : ByteArray} (h : dP R C s = true) : fC R C s (lQ R C s) = true := by
 have hb := tO h
 have hl : (lQ R C s).size = s.size := by rw [← bytesOf_length, hb, List.length_map, bytesOf_length]
 unfold fC
 rw [h, Bool.true_and, Bool.and_eq_true, List.all_eq_true]
 refine ⟨decide_eq_true hl, fun i hi => ?_⟩
 have hi' := List.mem_range.1 hi
 have hbs : i < (bytesOf s).length := by rw [bytesOf_length]; omega
 have e : bt (lQ R C s) (i : Int) = if bt s (i : Int) = 35 then 35 else 63 := by
  rw [qj, qj, hb]
  simp only [List.getD_eq_getElem?_getD, List.getElem?_map, List.getElem?_eq_getElem hbs, Option.map_some, Option.getD_some]
 have hc := CQ h i (by omega)
 unfold nD
 rw [e]
 refine decide_eq_true ?_
 rcases hc with q | q <;> rw [q] <;> simp
noncomputable def uz (R C : Int) (s : ByteArray) (l : List S72) (q : List Int) (e : Int) (d : List S62) (w : List ByteArray) (how : Int) : Int :=
 if lN R C s l q e = true then wX (qo R C s) (fun f => ni R C s l q e f d w how) 1000 (lQ R C s) 0 else -1
theorem AY {R C : Int} {s : ByteArray} (l : List S72) (q : List Int) (e : Int) (d : List S62) (w : List ByteArray) (how : Int) (f : ByteArray) (hf : fC R C s f = true) :
  fC R C s (ni R C s l q e f d w how) = true ∧ (ni R C s l q e f d w how ≠ f → (bytesOf (ni R C s l q e f d w how)).countP (fun c => c == 63) < (bytesOf f).countP (fun c => c == 63)) := by
 unfold ni
 by_cases hp : lN R C s l q e = true
 ·rw [if_pos hp, if_pos hf]
  have g := Ea f l d w how (aR R C s).length 0 f (by omega) hf
  exact ⟨rC hf g, (ED g).2⟩
 ·rw [if_neg hp]
  exact ⟨hf, fun h => absurd rfl h⟩
theorem wC {R C : Int} {s : ByteArray} {l : List S72} {q : List Int} {e : Int} (h : lN R C s l q e = true) : dP R C s = true := by
 have h0 := (pJ h).1
 by_cases hg : dP R C s = true
 ·exact hg
 ·exfalso
  unfold qI at h0
  rw [if_neg hg] at h0
  omega
theorem wB {R C : Int} {s f : ByteArray} (hf : fC R C s f = true) : (bytesOf f).countP (fun c => c == 63) < 1000 := by
 obtain ⟨hg, hs, _⟩ := jo hf
 have := eZ hg
 have h2 := List.countP_le_length (p := fun c : Int => c == 63) (l := bytesOf f)
 rw [bytesOf_length] at h2
 omega
theorem Jo (a b : List Int) : strOfNums (a ++ b) = strOfNums a ++ strOfNums b := by
 apply ByteArray.ext
 rw [ByteArray.data_append]
 apply Array.ext'
 rw [Array.toList_append, kS, kS, kS, List.map_append]
theorem uH (R C : Int) (s : ByteArray) : Ev (fun k => bT.f k R C s) (lQ R C s) := by
 unfold bT.f
 have hg := iE R C s
 have hstop : ∀ (t : ByteArray) (i : Int), Ev (fun k => bT.j1 k t i false R C s) t := by
  intro t i
  rw [← au]
  simp only [bT.j1, Bool.false_eq_true, if_false]
  exact aI _
 by_cases hp : dP R C s = true
 ·have hsz := eZ hp
  rw [hp] at hg
  have e0 : lQ R C s = strOfNums ((bytesOf s).map (fun c => if c = 35 then 35 else 63)) := by unfold lQ; rw [if_pos hp]
  have key := iB (σ := ByteArray) (fun k t i => bT.l0 k t i R C s) s.size (fun i t => t = strOfNums (((bytesOf s).take i).map (fun c => if c = 35 then 35 else 63))) (fun _ _ => lQ R C s)
   (fun t ht => by
    rw [List.take_of_length_le (by rw [bytesOf_length]; omega)] at ht
    rw [← au]
    simp only [bT.l0]
    rw [evN (by omega), e0, ← ht]
    exact hstop _ _)
   (fun i t hi ht => by
    have hib : i < (bytesOf s).length := by rw [bytesOf_length]; exact hi
    have hts : t.size = i := by rw [ht, strOfNums_size, List.length_map, List.length_take]; omega
    have hbt : bt s (i : Int) = (bytesOf s)[i] := jW s i hi
    refine .inr ⟨strOfNums (((bytesOf s).take (i + 1)).map (fun c => if c = 35 then 35 else 63)), rfl, rfl, fun r hr => ?_⟩
    rw [List.take_succ_eq_append_getElem hib, List.map_append, Jo, ← ht] at hr
    rw [← au]
    simp only [bT.l0]
    rw [evP (by omega), av hg, ← au]
    simp only [bT.j1]
    rw [evP trivial, evP (by omega), evP (by omega), hbt]
    by_cases h35 : (bytesOf s)[i] = 35
    ·rw [evP h35, evP (by omega), bD (by omega)]
     simp only [List.map_cons, List.map_nil, h35, if_true] at hr
     exact hr
    ·rw [evN h35, evP (by omega), bD (by omega)]
     simp only [List.map_cons, List.map_nil, if_neg h35] at hr
     exact hr) 0 (⟨#[]⟩ : ByteArray) (Nat.zero_le _) rfl
  exact key
 ·have e0 : lQ R C s = (⟨#[]⟩ : ByteArray) := by unfold lQ; rw [if_neg hp]
  rw [Bool.eq_false_iff.mpr hp] at hg
  rw [e0, ← au]
  simp only [bT.l0]
  by_cases h : (0 : Int) < (s.size : Int)
  ·rw [evP h, av hg]
   exact hstop _ _
  ·rw [evN h]
   exact hstop _ _
theorem tV (R C : Int) (s : ByteArray) : Ev (fun k => jw.f k R C s) (lQ R C s) := by
 unfold jw.f
 rw [av (jA R C s)]
 by_cases hp : dP R C s = true
 ·have hsz := eZ hp
  have hc := (iM hp).2.2.2
  have e : (⟨(HandRepl.pQ 46 63 s.data.toList).toArray⟩ : ByteArray) = lQ R C s := by
   refine bytes_inj ?_
   rw [tO hp]
   unfold bytesOf HandRepl.pQ
   simp only [List.map_map]
   refine List.map_congr_left (fun c hm => ?_)
   have hcc := hc (c.toNat : Int) (List.mem_map.mpr ⟨c, hm, rfl⟩)
   simp only [Function.comp]
   by_cases h46 : c = 46
   ·subst h46
    rfl
   ·have h35 : c.toNat = 35 := by
     rcases hcc with q | q
     ·omega
     ·exact absurd (UInt8.toNat_inj.mp (show c.toNat = (46 : UInt8).toNat by show c.toNat = 46; omega)) h46
    unfold HandRepl.Il
    rw [if_neg h46, if_pos (show (c.toNat : Int) = 35 by omega)]
    omega
  rw [evP hp]
  unfold strings_ReplaceAll.f
  rw [if_pos ⟨rfl, rfl, by omega⟩, e]
  exact aI _
 ·have e0 : lQ R C s = (⟨#[]⟩ : ByteArray) := by unfold lQ; rw [if_neg hp]
  rw [evN hp, e0]
  exact aI _
theorem qX (R C : Int) (s : ByteArray) (l : List S72) (q : List Int) (e : Int) (d : List S62) (w : List ByteArray) (how : Int) (hs : s.size < 140737488355328) (hl : l.length < 4611686018427387904) (hx : ∀ x ∈ l, x.f1.length < 4611686018427387904) (hd : d.length < 4611686018427387904) (hw : w.length ≤ 8796093022208) :
  Ev (fun k => dH.f k R C s l q e d w how) (uz R C s l q e d w how) := by
 unfold dH.f uz
 rw [av (qh R C s l q e hs hl hx)]
 by_cases hp : lN R C s l q e = true
 ·have hg := wC hp
  have hF := vX hg
  rw [evP hp, if_pos hp, av (uH R C s)]
  have hr := fun f => uZ R C s l q e f d w how hs hl hx hd hw
  have hfu := fun f => Bh R C s f
  refine AZ (fun k f n => dH.l0 k d w how f n R C s l q e) (qo R C s) (fun f => ni R C s l q e f d w how) (fun f => fC R C s f = true) (fun f => (bytesOf f).countP (fun c => c == 63)) (fun f hf => AY l q e d w how f hf) ?_ ?_ ?_ 1000 _ 0 hF (wB hF) (by omega)
  ·intro f n _ hn h1
   rw [← au]
   simp only [dH.l0]
   rw [av (hfu f), evP h1]
   exact aI _
  ·intro f n _ hn h1 h2
   rw [← au]
   simp only [dH.l0]
   rw [av (hfu f), evN (by rw [h1]; decide), av (hr f), evP (by rw [h2])]
   exact aI _
  ·intro f n _ hn h1 h2 r h
   rw [← au]
   simp only [dH.l0]
   rw [av (hfu f), evN (by rw [h1]; decide), av (hr f), evN (fun h => h2 (toList_eq.mp h)), bD (by omega)]
   exact h
 ·rw [evN hp, if_neg hp]
  exact aI _
theorem qN (R C : Int) (s : ByteArray) (l : List S72) (q : List Int) (e : Int) (d : List S62) (w : List ByteArray) (how : Int) (hl : l.length < 4611686018427387904) (hx : ∀ x ∈ l, x.f1.length < 4611686018427387904) (hd : d.length < 4611686018427387904) (hw : w.length ≤ 8796093022208) :
  Ev (fun k => dG.f k R C s l q e d w how) (uz R C s l q e d w how) := by
 unfold dG.f uz
 rw [av (pX R C s l q e hl hx)]
 by_cases hp : lN R C s l q e = true
 ·have hg := wC hp
  have hF := vX hg
  rw [evP hp, if_pos hp, av (tV R C s)]
  have hr := fun f => uQ R C s l q e f d w how hl hx hd hw
  have hfu := fun f => Au R C s f
  refine AZ (fun k f n => dG.l0 k d w how f n R C s l q e) (qo R C s) (fun f => ni R C s l q e f d w how) (fun f => fC R C s f = true) (fun f => (bytesOf f).countP (fun c => c == 63)) (fun f hf => AY l q e d w how f hf) ?_ ?_ ?_ 1000 _ 0 hF (wB hF) (by omega)
  ·intro f n _ hn h1
   rw [← au]
   simp only [dG.l0]
   rw [av (hfu f), evP h1]
   exact aI _
  ·intro f n _ hn h1 h2
   rw [← au]
   simp only [dG.l0]
   rw [av (hfu f), evN (by rw [h1]; decide), av (hr f), evP (by rw [h2])]
   exact aI _
  ·intro f n _ hn h1 h2 r h
   rw [← au]
   simp only [dG.l0]
   rw [av (hfu f), evN (by rw [h1]; decide), av (hr f), evN (fun h => h2 (toList_eq.mp h)), bD (by omega)]
   exact h
 ·rw [evN hp, if_neg hp]
  exact aI _
theorem FnExactRoundsNeeded : fD.Pure := by
 intro y d w how ⟨⟨_, _, h0⟩, ⟨h1, h2, h3⟩, ⟨h4, h5, _⟩, _⟩ ⟨i1, i2, i3⟩ ⟨j1, j2, j3⟩ _
 refine Ev.rounds ?_
 unfold fD.f
 have hx : ∀ x ∈ y.f1, x.f1.length ≤ 3518437208883 := fun x hx => by have := (h3 x hx).2.1; omega
 obtain ⟨a, ha, hab⟩ := Ee y.f0.f0 y.f0.f1 y.f0.f2 y.f1 y.f2 y.f3 h0 (by omega) (fun x hx => ⟨by have := (h3 x hx).2.1; omega, fun t ht => ((h3 x hx).2.2.2 t ht).2.1⟩) (by omega) 1048576 (by omega) (by omega)
 rw [av ha, aA]
 split
 ·exact aI _
 obtain ⟨c, hc, hcb⟩ := BQ d (by omega) (fun x hx => (i3 x hx).1) a (by omega) hab
 rw [av hc, aA]
 split
 ·exact aI _
 obtain ⟨e, he, _⟩ := Dp w (by omega) (fun x hx => j3 x hx) c (by omega) hcb
 rw [av he, aA]
 split
 ·exact aI _
 have t1 := Eh y.f0.f0 y.f0.f1 y.f0.f2 y.f1 y.f2 y.f3 (by omega) hx (by omega)
 have t2 := BR d (by omega)
 have t3 := Dq w (by omega)
 have l1 : (y.f1.map oz).length = y.f1.length := List.length_map _
 have l2 : (d.map oD).length = d.length := List.length_map _
 have hx' : ∀ x ∈ y.f1.map oz, x.f1.length < 4611686018427387904 := by
  intro x hm
  obtain ⟨u, hu, rfl⟩ := List.mem_map.1 hm
  have := hx u hu
  simp only [oz, List.length_map]
  omega
 have s := qX y.f0.f0 y.f0.f1 y.f0.f2 (y.f1.map oz) y.f2 y.f3 (d.map oD) w how (by omega) (by omega) hx' (by omega) (by omega)
 have i := qN y.f0.f0 y.f0.f1 y.f0.f2 (y.f1.map oz) y.f2 y.f3 (d.map oD) w how (by omega) hx' (by omega) (by omega)
 have e1 := Dw y.f0.f0 y.f0.f1 y.f0.f2 (y.f1.map oz) y.f2 y.f3 (by omega) hx' (by omega)
 have e2 := Br (d.map oD) (by omega)
 have e3 := CK w (by omega)
 simp only [av t1, av t2, av t3, av s, av i, av e1, av e2, av e3, aA, if_true]
 exact aI _
end Go.Proofs.YthkfjbodohaglaaGreatDoor.Pure
