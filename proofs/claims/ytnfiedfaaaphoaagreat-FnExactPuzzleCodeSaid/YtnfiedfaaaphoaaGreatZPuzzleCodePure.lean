/- The program's PuzzleCode returns what the reference's returns, for every argument; no further condition. -/
import Derived.Test.YtnfiedfaaaphoaaGreatZPuzzleCodeQ
import Derived.Test.YtnfiedfaaaphoaaGreatZPuzzleCodeEv
namespace Go.Proofs.YtnfiedfaaaphoaaGreat.Pure
open Go.RowKit Go.Proofs.YtnfiedfaaaphoaaGreat.PFnExactPuzzleCode Go.Proofs.YtnfiedfaaaphoaaGreatW.PrintWords Go.Proofs.YtnfiedfaaaphoaaGreatW.PrintLast Go.Proofs.YtnfiedfaaaphoaaGreatW.PrintMore Go.Proofs.YtnfiedfaaaphoaaGreat.Sem
set_option linter.unusedVariables false
set_option linter.unusedSimpArgs false
theorem yw (xs : List l8) (i : Nat) (h : i < xs.length) : gq xs (i : Int) = xs[i] := by
 simp [gq, List.getD_eq_getElem?_getD, List.getElem?_eq_getElem h]
theorem zO (xs : List S68) (i : Nat) (h : i < xs.length) : ku xs (i : Int) = xs[i] := by
 simp [ku, List.getD_eq_getElem?_getD, List.getElem?_eq_getElem h]
theorem zD (xs : List S71) (i : Nat) (h : i < xs.length) : kW xs (i : Int) = xs[i] := by
 simp [kW, List.getD_eq_getElem?_getD, List.getElem?_eq_getElem h]
theorem kU (xs : List dI) (i : Nat) (h : i < xs.length) : aM xs (i : Int) = xs[i] := by
 simp [aM, List.getD_eq_getElem?_getD, List.getElem?_eq_getElem h]
theorem rU (xs : List bZ) (i : Nat) (h : i < xs.length) : aj xs (i : Int) = xs[i] := by
 simp [aj, List.getD_eq_getElem?_getD, List.getElem?_eq_getElem h]
theorem yc (xs : List S84) (i : Nat) (h : i < xs.length) : fK xs (i : Int) = xs[i] := by
 simp [fK, List.getD_eq_getElem?_getD, List.getElem?_eq_getElem h]
theorem vK (xs : List S82) (i : Nat) (h : i < xs.length) : dW xs (i : Int) = xs[i] := by
 simp [dW, List.getD_eq_getElem?_getD, List.getElem?_eq_getElem h]
theorem zy (xs : List (List Int)) (i : Nat) (h : i < xs.length) : jg xs (i : Int) = xs[i] := by
 simp [jg, List.getD_eq_getElem?_getD, List.getElem?_eq_getElem h]
theorem mZ (a b c : Int) : bD.f a b c = some (decide (b ≤ a ∧ a ≤ c)) := by
 unfold bD.f
 by_cases h : b ≤ a <;> simp [h]
theorem nG (a b c : Int) : fq.f a b c = some (decide (b ≤ a ∧ a ≤ c)) := by
 unfold fq.f
 by_cases h : b ≤ a <;> simp [h]
theorem at_eq (a b : Int) : lT.f a b = some (decide (0 ≤ a ∧ a < b)) := by
 unfold lT.f
 by_cases h : 0 ≤ a <;> simp [h]
theorem nQ (a : Int) : eP.f a = some (decide (97 ≤ a ∧ a ≤ 122)) := by
 unfold eP.f
 by_cases h : 97 ≤ a <;> simp [h]
theorem yH (l : List ByteArray) (hl : l.length < 4611686018427387904) (hs : ∀ x ∈ l, x.size ≤ 140737488351232) (a : Int) (ha : 0 ≤ a) (ha' : a ≤ 1048576) : ∃ r, Ev (fun k => eu.f k l a) r ∧ r ≤ 1048576 := by
 unfold eu.f
 have w1 : wrap64 (a - (l.length : Int)) = a - l.length := j6 (by omega) (by omega)
 simp only [aA, eY, w1]
 by_cases h : a - (l.length : Int) < 0
 ·exact ⟨-1, by simp [h]⟩
 ·simp only [h, if_false]
  refine qo (fun k b i => eu.l0 k l b i) l 1048576 (fun b => ?_) (fun i hi b hb hb' => ?_) _ (by omega) (by omega)
  ·rw [← ak]
   simp only [eu.l0]
   rw [en]
   exact aH _
  ·have hsz := hs _ (List.getElem_mem hi)
   have w3 : wrap64 (b - (l[i].size : Int)) = b - l[i].size := j6 (by omega) (by omega)
   by_cases h2 : b - (l[i].size : Int) < 0
   ·refine .inl ?_
    rw [← ak]
    simp only [eu.l0, jo ByteArray.empty l i hi, bG (i := i) (by omega), w3]
    simp [aA, eY, hi, h2]
   ·refine .inr ⟨b - l[i].size, by omega, by omega, fun r hr => ?_⟩
    rw [← ak]
    simp only [eu.l0, jo ByteArray.empty l i hi, bG (i := i) (by omega), w3]
    rw [ep, ep, en h2]
    exact hr
theorem xY (l : List ByteArray) (hl : l.length ≤ 8796093022208) : Ev (fun k => dh.f k l) l := by
 unfold dh.f
 rw [ep, ep]
 refine fQ (qC (fun k s i => dh.l0 k l s i) l id (⟨#[]⟩ : ByteArray) (fun s hs => ?_) (fun i hi s hs r hr => ?_)) (by simp)
 ·rw [← ak]
  simp [dh.l0, aH]
 ·rw [← ak]
  simp only [dh.l0, jo ByteArray.empty l i hi, bG (i := i) (by omega)]
  simp [aA, hi, hs]
  exact hr
theorem xW (l : List ByteArray) (hl : l.length < 4611686018427387904) : Ev (fun k => eZ.f k l l) true := by
 unfold eZ.f
 rw [ep rfl]
 refine fQ (lg (fun k i => eZ.l0 k l l i) l (fun _ => true) ?_ (fun i hi hp r hr => ?_) (fun i hi hp => by cases hp)) (by simp)
 ·rw [← ak]; simp [eZ.l0, aH]
 ·rw [← ak]
  simp only [eZ.l0, bG (i := i) (by omega)]
  simp [aA, hi]
  exact hr
theorem wP (l : List S71) (hl : l.length < 4611686018427387904) (hs : ∀ x ∈ l, x.f0.size ≤ 140737488351232) (a : Int) (ha : 0 ≤ a) (ha' : a ≤ 1048576) : ∃ r, Ev (fun k => dQ.f k l a) r ∧ r ≤ 1048576 := by
 unfold dQ.f
 have w1 : wrap64 (a - (l.length : Int)) = a - l.length := j6 (by omega) (by omega)
 simp only [aA, eY, w1]
 by_cases h : a - (l.length : Int) < 0
 ·exact ⟨-1, by simp [h]⟩
 ·simp only [h, if_false]
  refine qo (fun k b i => dQ.l0 k l b i) l 1048576 (fun b => ?_) (fun i hi b hb hb' => ?_) _ (by omega) (by omega)
  ·rw [← ak]
   simp only [dQ.l0]
   rw [en]
   exact aH _
  ·have hsz := hs _ (List.getElem_mem hi)
   have w3 : wrap64 (b - (l[i].f0.size : Int)) = b - l[i].f0.size := j6 (by omega) (by omega)
   by_cases h2 : b - (l[i].f0.size : Int) < 0
   ·refine .inl ?_
    rw [← ak]
    simp only [dQ.l0, jA.f, zD l i hi, bG (i := i) (by omega), w3, if_pos h2, Option.bind_some]
    simp [aA, eY, hi]
   ·refine .inr ⟨b - l[i].f0.size, by omega, by omega, fun r hr => ?_⟩
    rw [← ak]
    simp only [dQ.l0, jA.f, zD l i hi, bG (i := i) (by omega), w3, if_neg h2, Option.bind_some]
    rw [ep, ep]
    exact hr
def ng (x : S71) : S84 := ⟨x.f0, x.f1⟩
theorem xw (l : List S71) (hl : l.length ≤ 5864062014805) : Ev (fun k => bX.f k l) (l.map ng) := by
 unfold bX.f
 rw [ep, ep]
 refine qC (fun k s i => bX.l0 k l s i) l ng z84 (fun s hs => ?_) (fun i hi s hs r hr => ?_)
 ·rw [← ak]
  simp [bX.l0, aH]
 ·rw [← ak]
  simp only [bX.l0, kE.f, zD l i hi, bG (i := i) (by omega), Option.bind_some]
  simp [aA, hi, hs]
  exact hr
theorem xk (l : List S84) (hl : l.length < 4611686018427387904) : Ev (fun k => bO.f k l l) true := by
 unfold bO.f
 rw [ep rfl]
 refine fQ (lg (fun k i => bO.l0 k l l i) l (fun _ => true) ?_ (fun i hi hp r hr => ?_) (fun i hi hp => by cases hp)) (by simp)
 ·rw [← ak]; simp [bO.l0, aH]
 ·rw [← ak]
  simp only [bO.l0, jS.f, bG (i := i) (by omega)]
  simp [aA, hi]
  exact hr
def nI (c : Int) : Bool := decide (97 ≤ c ∧ c ≤ 122)
def gM (s : ByteArray) : Bool := decide (1 ≤ s.size ∧ s.size ≤ 8) && (bytesOf s).all nI
theorem fZ {s : ByteArray} (h : gM s = true) : 1 ≤ s.size ∧ s.size ≤ 8 := by
 simp [gM] at h
 exact h.1
theorem vF {s : ByteArray} (h : gM s = true) : ∀ c ∈ bytesOf s, 97 ≤ c ∧ c ≤ 122 := by
 simp [gM, nI] at h
 exact h.2
theorem gY (s : ByteArray) : Ev (fun k => bH.f k s) (gM s) := by
 simp only [bH.f, mZ, Option.bind_some, aA, decide_eq_true_eq, gM]
 by_cases h : (1 : Int) ≤ s.size ∧ (s.size : Int) ≤ 8
 ·rw [if_pos h]
  have h' : 1 ≤ s.size ∧ s.size ≤ 8 := by omega
  simp only [h', decide_true, Bool.true_and, and_self]
  refine lg (fun k i => bH.l0 k s i) (bytesOf s) nI ?_ (fun i hi hp r hr => ?_) (fun i hi hp => ?_)
  ·rw [← ak]; simp [bH.l0, bytesOf_length, aH]
  ·have hi' : i < s.size := by rw [bytesOf_length] at hi; exact hi
   rw [← ak]
   simp [nI] at hp
   simp only [bH.l0, lH s i hi', bG (i := i) (by omega)]
   rw [ep, ep, en, en]
   exact hr
  ·have hi' : i < s.size := by rw [bytesOf_length] at hi; exact hi
   rw [← ak]
   simp [nI] at hp
   simp only [bH.l0, lH s i hi', bG (i := i) (by omega)]
   rw [ep, ep, aA]
   by_cases h1 : (bytesOf s)[i] < 97
   ·rw [if_pos h1]; exact aH _
   ·rw [if_neg h1, ep]; exact aH _
 ·rw [if_neg h]
  have h' : ¬ (1 ≤ s.size ∧ s.size ≤ 8) := by omega
  simp [h', aH]
theorem gZ (s : ByteArray) : Ev (fun k => bR.f k s) (gM s) := by
 simp only [bR.f, nG, Option.bind_some, aA, decide_eq_true_eq, gM]
 by_cases h : (1 : Int) ≤ s.size ∧ (s.size : Int) ≤ 8
 ·rw [if_pos h]
  have h' : 1 ≤ s.size ∧ s.size ≤ 8 := by omega
  simp only [h', decide_true, Bool.true_and, and_self]
  refine lg (fun k i => bR.l0 k s (s.size : Int) i) (bytesOf s) nI ?_ (fun i hi hp r hr => ?_) (fun i hi hp => ?_)
  ·rw [← ak]; simp [bR.l0, bytesOf_length, aH]
  ·have hi' : i < s.size := by rw [bytesOf_length] at hi; exact hi
   rw [← ak]
   simp [nI] at hp
   simp only [bR.l0, lH s i hi', bG (i := i) (by omega), nQ, Option.bind_some]
   rw [ep, ep, ep, ep (by simpa using hp)]
   exact hr
  ·have hi' : i < s.size := by rw [bytesOf_length] at hi; exact hi
   rw [← ak]
   simp only [nI] at hp
   simp only [bR.l0, lH s i hi', bG (i := i) (by omega), nQ, Option.bind_some]
   rw [ep, ep, ep, en (by rw [hp]; decide)]
   exact aH _
 ·rw [if_neg h]
  have h' : ¬ (1 ≤ s.size ∧ s.size ≤ 8) := by omega
  simp [h', aH]
def Bf (w : ByteArray) (s : Int) (x : S84) : Bool := decide (x.f0 = w ∧ x.f1 = s)
def hasB (l : List S84) (w : ByteArray) (s : Int) : Bool := l.any (Bf w s)
theorem nZ (l : List S84) (w : ByteArray) (s : Int) (hl : l.length < 4611686018427387904) : Ev (fun k => dY.f k l w s) (hasB l w s) := by
 refine nu (fun k i => dY.l0 k l w s i) l _ ?_ (fun i hi hp r hr => ?_) (fun i hi hp => ?_)
 ·rw [← ak]; simp [dY.l0, aH]
 ·rw [← ak]
  simp only [dY.l0, yc l i hi, bG (i := i) (by omega), toList_eq]
  simp [Bf] at hp
  simp [aA, hi]
  split
  ·rw [if_neg (hp ‹_›)]; exact hr
  ·exact hr
 ·rw [← ak]
  simp only [dY.l0, yc l i hi, bG (i := i) (by omega), toList_eq]
  simp [Bf] at hp
  simp [aA, hi, hp, aH]
theorem Bc (l : List S84) (w : ByteArray) (s : Int) (hl : l.length < 4611686018427387904) : Ev (fun k => dO.f k l w s) (match l.findIdx? (Bf w s) with | some i => (i : Int) | none => -1) := by
 refine uj (fun k i => dO.l0 k l (l.length : Int) i w s) l _ ?_ (fun i hi hp r hr => ?_) (fun i hi hp => ?_)
 ·rw [← ak]; simp [dO.l0, aH]
 ·rw [← ak]
  simp only [dO.l0, yc l i hi, bG (i := i) (by omega), jv]
  simp [Bf] at hp
  simp [aA, hi]
  rw [if_neg (by intro h; exact hp h.1.symm h.2.symm)]
  exact hr
 ·rw [← ak]
  simp only [dO.l0, yc l i hi, bG (i := i) (by omega), jv]
  simp [Bf] at hp
  simp [aA, hi, hp, aH]
theorem Dk {α : Type} (l : List α) (p : α → Bool) : decide ((match l.findIdx? p with | some i => (i : Int) | none => -1) ≥ 0) = l.any p := by
 cases h : l.findIdx? p with
 | none =>
  have := List.findIdx?_eq_none_iff.1 h
  simp
  intro x hx
  simpa using this x hx
 | some i =>
  obtain ⟨h1, h2, _⟩ := List.findIdx?_eq_some_iff_getElem.1 h
  simp
  exact ⟨l[i], List.getElem_mem h1, h2⟩
theorem yx (l : List S84) (w : ByteArray) (s : Int) (hl : l.length < 4611686018427387904) : Ev (fun k => iL.f k l w s) (hasB l w s) := by
 unfold iL.f
 rw [au (Bc l w s hl), Dk]
 exact aH _
theorem om (l : List S84) (w : ByteArray) (s : Int) (hl : l.length < 4611686018427387904) : Ev (fun k => iP.f k l w s) (hasB l w s) := by
 unfold iP.f
 rw [au (yx l w s hl)]
 exact aH _
theorem zP (l : List l8) (hl : l.length < 4611686018427387904) (hs : ∀ x ∈ l, x.f1.size ≤ 140737488351232) (a : Int) (ha : 0 ≤ a) (ha' : a ≤ 1048576) : ∃ r, Ev (fun k => fG.f k l a) r ∧ r ≤ 1048576 := by
 unfold fG.f
 have w1 : wrap64 (a - (l.length : Int)) = a - l.length := j6 (by omega) (by omega)
 simp only [aA, eY, w1]
 by_cases h : a - (l.length : Int) < 0
 ·exact ⟨-1, by simp [h]⟩
 ·simp only [h, if_false]
  refine qo (fun k b i => fG.l0 k l b i) l 1048576 (fun b => ?_) (fun i hi b hb hb' => ?_) _ (by omega) (by omega)
  ·rw [← ak]
   simp only [fG.l0]
   rw [en]
   exact aH _
  ·have hsz := hs _ (List.getElem_mem hi)
   have w3 : wrap64 (b - (l[i].f1.size : Int)) = b - l[i].f1.size := j6 (by omega) (by omega)
   by_cases h2 : b - (l[i].f1.size : Int) < 0
   ·refine .inl ?_
    rw [← ak]
    simp only [fG.l0, kJ.f, yw l i hi, bG (i := i) (by omega), w3, if_pos h2, Option.bind_some]
    simp [aA, eY, hi]
   ·refine .inr ⟨b - l[i].f1.size, by omega, by omega, fun r hr => ?_⟩
    rw [← ak]
    simp only [fG.l0, kJ.f, yw l i hi, bG (i := i) (by omega), w3, if_neg h2, Option.bind_some]
    rw [ep, ep]
    exact hr
def toStep (x : l8) : bZ := ⟨x.f0, x.f1, x.f2, x.f3⟩
theorem zw (l : List l8) (hl : l.length ≤ 3518437208883) : Ev (fun k => fB.f k l) (l.map toStep) := by
 unfold fB.f
 rw [ep, ep]
 refine qC (fun k s i => fB.l0 k l s i) l toStep z141 (fun s hs => ?_) (fun i hi s hs r hr => ?_)
 ·rw [← ak]
  simp [fB.l0, aH]
 ·rw [← ak]
  simp only [fB.l0, lM.f, yw l i hi, bG (i := i) (by omega), Option.bind_some]
  simp [aA, hi, hs]
  exact hr
theorem zL (l : List bZ) (hl : l.length < 4611686018427387904) : Ev (fun k => dA.f k l l) true := by
 unfold dA.f
 rw [ep rfl]
 refine fQ (lg (fun k i => dA.l0 k l l i) l (fun _ => true) ?_ (fun i hi hp r hr => ?_) (fun i hi hp => by cases hp)) (by simp)
 ·rw [← ak]; simp [dA.l0, aH]
 ·rw [← ak]
  simp only [dA.l0, lQ.f, bG (i := i) (by omega)]
  simp [aA, hi]
  exact hr
theorem AQ (a0 : Int) (l : List l8) (hl : l.length < 4611686018427387904) (hs : ∀ x ∈ l, x.f1.size ≤ 140737488351232) (a : Int) (ha : 0 ≤ a) (ha' : a ≤ 1048576) : ∃ r, Ev (fun k => kM.f k a0 l a) r ∧ r ≤ 1048576 := by
 obtain ⟨r, hr, hb⟩ := zP l hl hs a ha ha'
 unfold kM.f
 by_cases h : r < 0
 ·exact ⟨-1, by rw [au hr, ep h]; exact aH _, by omega⟩
 ·exact ⟨r, by rw [au hr, en h]; exact aH _, hb⟩
theorem AZ (a0 : Int) (l : List l8) (hl : l.length ≤ 3518437208883) : Ev (fun k => kR.f k a0 l) (a0, l.map toStep) := by
 unfold kR.f
 rw [au (zw l hl)]
 exact aH _
theorem AV (a0 : Int) (l : List bZ) (hl : l.length < 4611686018427387904) : Ev (fun k => kF.f k a0 l a0 l) true := by
 unfold kF.f
 rw [ep rfl, au (zL l hl), ep rfl]
 exact aH _
def vI (l : List bZ) (i : Nat) (two : Bool) (kind A B : Int) : Bool :=
 if kind = 1 then decide (A = 0 ∧ B = 0) else decide (0 ≤ A ∧ A < i) && (if two = true then decide (0 ≤ B ∧ B < i) else decide (B = 0) && (decide (kind = 2) || decide ((aj l A).f0 = 1)))
def mh (l : List bZ) (i : Nat) : Bool :=
 decide (1 ≤ (aj l i).f0 ∧ (aj l i).f0 ≤ 9) && ((if (aj l i).f0 = 1 then gM (aj l i).f1 else decide ((aj l i).f1.size = 0)) && vI l i (decide ((aj l i).f0 = 4 ∨ (aj l i).f0 = 5)) (aj l i).f0 (aj l i).f2 (aj l i).f3)
theorem yQ (l : List bZ) (i : Nat) (hi : i < l.length) (hl : l.length < 4611686018427387904) (two : Bool) (kind : Int) (word : ByteArray) (A B : Int) : Ev (fun k => eT.j1 k l (i : Int) two kind word A B) (vI l i two kind A B) := by
 have e : wrap64 ((i : Int) - 1) = i - 1 := j6 (by omega) (by omega)
 rw [← ak]
 simp only [eT.j1, mZ, Option.bind_some, e, vI, aA]
 by_cases h1 : kind = 1
 ·by_cases h2 : A = 0 <;> simp [h1, h2, eY] <;> rfl
 ·rw [if_neg h1, if_neg h1]
  by_cases h2 : 0 ≤ A ∧ A < (i : Int)
  ·have h2' : 0 ≤ A ∧ A ≤ (i : Int) - 1 := by omega
   simp only [h2, h2', and_self, decide_true, if_true, Bool.true_and]
   cases two
   ·simp only [Bool.false_eq_true, if_false]
    by_cases h3 : B = 0
    ·by_cases h4 : kind = 2
     ·simp [h3, h4, eY]
     ·simp only [h3, h4, if_true, if_false, decide_true, decide_false, Bool.true_and, Bool.false_or]
      rw [if_pos (by omega), eY]
      rfl
    ·simp [h3, eY]
   ·simp only [if_true]
    by_cases h3 : 0 ≤ B ∧ B < (i : Int)
    ·have h3' : 0 ≤ B ∧ B ≤ (i : Int) - 1 := by omega
     simp [h3, h3', eY]
    ·have h3' : ¬ (0 ≤ B ∧ B ≤ (i : Int) - 1) := by omega
     simp [h3, h3', eY]
  ·have h2' : ¬ (0 ≤ A ∧ A ≤ (i : Int) - 1) := by omega
   simp [h2, h2', eY]
theorem pJ (l : List bZ) (i : Nat) (hi : i < l.length) (hl : l.length < 4611686018427387904) (b : Bool) (kind : Int) (word : ByteArray) (A B : Int) : Ev (fun k => eT.j0 k l (i : Int) b kind word A B) (!b && vI l i (decide (kind = 4 ∨ kind = 5)) kind A B) := by
 rw [← ak]
 simp only [eT.j0, aA]
 cases b
 ·simp only [Bool.false_eq_true, if_false, Bool.not_false, Bool.true_and]
  by_cases h : kind = 4
  ·simp only [h, if_true, true_or, decide_true]
   exact yQ l i hi hl _ _ _ _ _
  ·simp only [h, if_false, false_or]
   have := yQ l i hi hl (kind == 5) kind word A B
   exact this
 ·simp [eY]
theorem wN (l : List bZ) (i : Nat) (hi : i < l.length) (hl : l.length < 4611686018427387904) : Ev (fun k => eT.f k l (i : Int)) (mh l i) := by
 unfold eT.f
 rw [ep, ep]
 simp only [mZ, Option.bind_some, decide_eq_true_eq]
 unfold mh
 generalize aj l (i : Int) = s
 rw [aA]
 by_cases h1 : 1 ≤ s.f0 ∧ s.f0 ≤ 9
 ·rw [if_pos h1, au (gY s.f1), aA]
  simp only [h1, and_self, decide_true, Bool.true_and]
  by_cases h2 : s.f0 = 1
  ·simp only [h2, beq_self_eq_true, if_true, aA]
   cases hw : gM s.f1
   ·simp only [Bool.true_bne, Bool.not_false, if_true]
    exact fQ (pJ l i hi hl _ _ _ _ _) (by simp)
   ·simp only [Bool.true_bne, Bool.not_true, Bool.false_eq_true, if_false]
    exact fQ (pJ l i hi hl _ _ _ _ _) (by simp)
  ·have h2' : (s.f0 == 1) = false := by simpa using h2
   simp only [h2, h2', if_false, aA, Bool.false_bne]
   cases hw : gM s.f1
   ·simp only [Bool.false_eq_true, if_false]
    refine fQ (pJ l i hi hl _ _ _ _ _) ?_
    congr 1
    rw [Bool.eq_iff_iff]
    simp [bne, toList_nil]
   ·have hz : ¬ s.f1.size = 0 := by have := fZ hw; omega
    simp only [if_true]
    exact fQ (pJ l i hi hl _ _ _ _ _) (by simp [hz])
 ·rw [if_neg h1]
  simp only [h1, decide_false, Bool.false_and]
  exact fQ (pJ l i hi hl _ _ _ _ _) (by simp)
def lD (l : List bZ) : Bool := decide (1 ≤ l.length ∧ l.length ≤ 9) && (List.range l.length).all (mh l)
theorem uw {l : List bZ} (h : lD l = true) : 1 ≤ l.length ∧ l.length ≤ 9 := by
 simp [lD] at h
 exact h.1
theorem su {l : List bZ} (h : lD l = true) (i : Nat) (hi : i < l.length) : mh l i = true := by
 simp [lD] at h
 exact h.2 i hi
theorem o9 (l : List bZ) (hl : l.length < 4611686018427387904) : Ev (fun k => cZ.f k l) (lD l) := by
 unfold cZ.f
 have hend : ∀ i : Nat, Ev (fun k => cZ.j1 k l (i : Int) false) (decide (1 ≤ l.length ∧ l.length ≤ 9)) := by
  intro i
  rw [← ak]
  simp only [cZ.j1, mZ, Option.bind_some, Bool.false_eq_true, if_false, eY]
  rw [Bool.eq_iff_iff]
  simp
  omega
 have := kC (fun k i => cZ.l0 k l i) l.length (fun i => decide (1 ≤ l.length ∧ l.length ≤ 9) && ((List.range l.length).drop i).all (mh l)) ?_ (fun i hi => ?_) 0 (Nat.zero_le _)
 ·simpa [lD] using this
 ·rw [← ak]
  simp only [cZ.l0]
  rw [en, List.drop_eq_nil_of_le (by simp)]
  simpa using hend l.length
 ·have hd : (List.range l.length).drop i = i :: (List.range l.length).drop (i + 1) := by rw [List.drop_eq_getElem_cons (by simpa using hi)]; simp
  by_cases h9 : l.length ≤ 9
  ·have hu : ∀ r, Ev (fun k => cZ.l0 k l (i : Int)) r ↔ if mh l i = true then Ev (fun k => cZ.l0 k l ((i + 1 : Nat) : Int)) r else Ev (fun _ => some false) r := by
    intro r
    have h9' : decide ((l.length : Int) ≤ 9) = true := by simp; omega
    rw [← ak]
    simp only [cZ.l0, h9']
    rw [ep, ← ak]
    simp only [cZ.j1, if_true, bG (i := i) (by omega)]
    rw [au (wN l i hi hl), aA]
   rw [hd, List.all_cons]
   by_cases ho : mh l i = true
   ·refine .inr ⟨by simp [ho], fun r hr => ?_⟩
    rw [hu, if_pos ho]
    exact hr
   ·refine .inl ?_
    rw [hu, if_neg ho, eY]
    simp [ho]
  ·refine .inl ?_
   have h9' : decide ((l.length : Int) ≤ 9) = false := by simp; omega
   rw [← ak]
   simp only [cZ.l0, h9']
   rw [ep]
   exact fQ (hend i) (by simp [h9])
theorem AY (a : Int) : iW.f a = some (decide (a = 4 ∨ a = 5)) := by
 unfold iW.f
 by_cases h : a = 4
 ·simp [h]
 ·simp [h]; rfl
theorem xV (a : Int) : jr.f a = some (decide (a = 3 ∨ a ≥ 6)) := by
 unfold jr.f
 by_cases h : a = 3 <;> simp [h]
theorem vN (l : List bZ) (i : Nat) (hi : i < l.length) (hl : l.length < 4611686018427387904) (b : Bool) (kind : Int) (word : ByteArray) (A B : Int) (r : Bool) :
  Ev (fun k => bQ.j1 k l (i : Int) l (l.length : Int) (i : Int) b kind word A B) r ↔ if (!b && (if kind = 4 ∨ kind = 5 then decide (0 ≤ B ∧ B < i) else decide (B = 0))) = true then Ev (fun k => bQ.l0 k l l (l.length : Int) ((i + 1 : Nat) : Int)) r else Ev (fun _ => some false) r := by
 rw [← ak]
 simp only [bQ.j1, AY, at_eq, Option.bind_some, bG (i := i) (by omega), aA, decide_eq_true_eq]
 cases b
 ·by_cases h : kind = 4 ∨ kind = 5
  ·by_cases h2 : 0 ≤ B ∧ B < (i : Int) <;> simp [h, h2]
  ·by_cases h2 : B = 0 <;> simp [h, h2]
 ·simp
theorem uI (l : List bZ) (i : Nat) : mh l i = (decide (1 ≤ (aj l i).f0 ∧ (aj l i).f0 ≤ 9) && (if (aj l i).f0 = 1 then gM (aj l i).f1 && decide ((aj l i).f2 = 0 ∧ (aj l i).f3 = 0)
  else decide ((aj l i).f1.size = 0) && (decide (0 ≤ (aj l i).f2 ∧ (aj l i).f2 < i) && (!(decide ((aj l i).f0 = 3 ∨ (aj l i).f0 ≥ 6) && decide (¬ (aj l (aj l i).f2).f0 = 1)) && (if (aj l i).f0 = 4 ∨ (aj l i).f0 = 5 then decide (0 ≤ (aj l i).f3 ∧ (aj l i).f3 < i) else decide ((aj l i).f3 = 0)))))) := by
 unfold mh vI
 generalize aj l (i : Int) = s
 generalize (aj l s.f2).f0 = a
 by_cases h1 : 1 ≤ s.f0 ∧ s.f0 ≤ 9
 ·by_cases h2 : s.f0 = 1
  ·simp [h2]
  ·simp only [h1, h2, and_self, decide_true, Bool.true_and, if_false]
   by_cases h3 : s.f0 = 4 ∨ s.f0 = 5
   ·have h4 : ¬ (s.f0 = 3 ∨ s.f0 ≥ 6) := by omega
    simp [h3, h4]
   ·simp only [h3, decide_false, Bool.false_eq_true, if_false]
    by_cases h4 : s.f0 = 2
    ·have h5 : ¬ (s.f0 = 3 ∨ s.f0 ≥ 6) := by omega
     simp [h4]
    ·have h5 : s.f0 = 3 ∨ s.f0 ≥ 6 := by omega
     by_cases h6 : a = 1 <;> simp [h4, h5, h6]
 ·simp [h1]
theorem pQ (l : List bZ) (hl : l.length < 4611686018427387904) : Ev (fun k => bQ.f k l) (lD l) := by
 unfold bQ.f
 simp only [nG, Option.bind_some, decide_eq_true_eq]
 unfold lD
 rw [aA]
 by_cases hlen : 1 ≤ l.length ∧ l.length ≤ 9
 ·rw [if_pos (by omega)]
  simp only [hlen, and_self, decide_true, Bool.true_and]
  have := kC (fun k i => bQ.l0 k l l (l.length : Int) i) l.length (fun i => ((List.range l.length).drop i).all (mh l)) ?_ (fun i hi => ?_) 0 (Nat.zero_le _)
  ·simpa using this
  ·rw [← ak]
   simp only [bQ.l0]
   rw [en, eY, List.drop_eq_nil_of_le (by simp)]
   simp
  ·have hd : (List.range l.length).drop i = i :: (List.range l.length).drop (i + 1) := by rw [List.drop_eq_getElem_cons (by simpa using hi)]; simp
   have hu : ∀ r, Ev (fun k => bQ.l0 k l l (l.length : Int) (i : Int)) r ↔ if mh l i = true then Ev (fun k => bQ.l0 k l l (l.length : Int) ((i + 1 : Nat) : Int)) r else Ev (fun _ => some false) r := by
    intro r
    rw [← ak]
    simp only [bQ.l0, bG (i := i) (by omega), nG, xV, at_eq, Option.bind_some, uI]
    generalize aj l (i : Int) = s
    simp only [aA, decide_eq_true_eq, au (gZ s.f1), vN l i hi hl, toList_nil]
    rw [if_pos (by omega), if_pos (by omega), if_pos (by omega)]
    by_cases h1 : 1 ≤ s.f0 ∧ s.f0 ≤ 9
    ·by_cases h2 : s.f0 = 1
     ·simp only [h2]
      cases hw : gM s.f1
      ·simp
      ·by_cases h3 : s.f2 = 0
       ·by_cases h4 : s.f3 = 0 <;> simp [h3, h4]
       ·simp [h3]
     ·simp only [h1, h2, and_self, decide_true, Bool.true_and, if_true, if_false]
      by_cases h3 : s.f1.size = 0
      ·by_cases h4 : 0 ≤ s.f2 ∧ s.f2 < (i : Int)
       ·have h4' : s.f2 < (l.length : Int) := by omega
        by_cases h5 : s.f0 = 3 ∨ s.f0 ≥ 6
        ·simp only [h3, h4, h4', h5, and_self, decide_true, if_true, Bool.true_and]
         cases hb : ((aj l s.f2).f0 != 1)
         ·have hb' : (aj l s.f2).f0 = 1 := by simpa using hb
          simp [hb']
         ·have hb' : ¬ (aj l s.f2).f0 = 1 := by simpa using hb
          simp [hb']
        ·simp [h3, h4, h5]
       ·simp [h3, h4]
      ·simp [h3]
    ·simp [h1]
   rw [hd, List.all_cons]
   by_cases ho : mh l i = true
   ·refine .inr ⟨by simp [ho], fun r hr => ?_⟩
    rw [hu, if_pos ho]
    exact hr
   ·refine .inl ?_
    rw [hu, if_neg ho, eY]
    simp [ho]
 ·rw [if_neg (by omega)]
  simp [hlen, eY]
def qx (a : Int) (l : List bZ) : Bool := decide (1 ≤ a ∧ a ≤ 99) && lD l
theorem qg (a : Int) (l : List bZ) (hl : l.length < 4611686018427387904) : Ev (fun k => jG.f k a l) (qx a l) := by
 unfold jG.f qx
 simp only [mZ, Option.bind_some, aA, au (o9 l hl), decide_eq_true_eq]
 by_cases h : 1 ≤ a ∧ a ≤ 99 <;> simp [h, eY]
theorem pE (a : Int) (l : List bZ) (hl : l.length < 4611686018427387904) : Ev (fun k => jI.f k a l) (qx a l) := by
 unfold jI.f qx
 simp only [nG, Option.bind_some, aA, au (pQ l hl), decide_eq_true_eq]
 by_cases h : 1 ≤ a ∧ a ≤ 99 <;> simp [h, eY]
theorem sQ {l : List bZ} {i : Nat} (hi : i < l.length) (h : mh l i = true) : (1 ≤ l[i].f0 ∧ l[i].f0 ≤ 9) ∧ (l[i].f0 = 1 → gM l[i].f1 = true) ∧ (¬ l[i].f0 = 1 → 0 ≤ l[i].f2 ∧ l[i].f2 < i) ∧ (l[i].f0 = 4 ∨ l[i].f0 = 5 → 0 ≤ l[i].f3 ∧ l[i].f3 < i) ∧ (¬ l[i].f0 = 1 → ¬ (l[i].f0 = 4 ∨ l[i].f0 = 5) → l[i].f3 = 0) ∧
  (l[i].f0 = 3 ∨ l[i].f0 ≥ 6 → (aj l l[i].f2).f0 = 1) ∧ (¬ l[i].f0 = 1 → l[i].f1.size = 0) ∧ (l[i].f0 = 1 → l[i].f2 = 0 ∧ l[i].f3 = 0) := by
 rw [uI, rU l i hi] at h
 simp only [Bool.and_eq_true, decide_eq_true_eq] at h
 obtain ⟨h1, h2⟩ := h
 refine ⟨h1, fun e => ?_, fun e => ?_, fun e => ?_, fun e e' => ?_, fun e => ?_, fun e => ?_, fun e => ?_⟩
 ·rw [if_pos e] at h2; simp at h2; exact h2.1
 ·rw [if_neg e] at h2; simp at h2; exact h2.2.1
 ·have e' : ¬ l[i].f0 = 1 := by omega
  rw [if_neg e', if_pos e] at h2; simp at h2; exact h2.2.2.2
 ·rw [if_neg e, if_neg e'] at h2; simp at h2; exact h2.2.2.2
 ·have e' : ¬ l[i].f0 = 1 := by omega
  rw [if_neg e'] at h2; simp at h2
  have h3 := h2.2.2.1
  rcases h3 with h3 | h3
  ·omega
  ·exact h3
 ·rw [if_neg e] at h2; simp at h2; rw [h2.1]; rfl
 ·rw [if_pos e] at h2; simp at h2; exact h2.2
theorem xu (l : List Int) (x : Int) (hl : l.length < 4611686018427387904) : Ev (fun k => gK.f k l x) (l.any (fun y => decide (y = x))) := by
 refine nu (fun k i => gK.l0 k l x i) l _ ?_ (fun i hi hp r hr => ?_) (fun i hi hp => ?_)
 ·rw [← ak]; simp [gK.l0, aH]
 ·rw [← ak]
  simp only [gK.l0, nH l i hi, bG (i := i) (by omega)]
  simp at hp
  simp [aA, hi, hp]
  exact hr
 ·rw [← ak]
  simp only [gK.l0, nH l i hi, bG (i := i) (by omega)]
  simp at hp
  simp [aA, hi, hp, aH]
def qV (c : Int) : Bool := decide (c = 35 ∨ c = 46)
def eO (R C : Int) (s : ByteArray) : Bool := decide ((2 ≤ R ∧ R ≤ 6) ∧ (2 ≤ C ∧ C ≤ 6) ∧ (s.size : Int) = R * C) && (bytesOf s).all qV
theorem jl {R C : Int} {s : ByteArray} (h : eO R C s = true) : (2 ≤ R ∧ R ≤ 6) ∧ (2 ≤ C ∧ C ≤ 6) ∧ (s.size : Int) = R * C ∧ ∀ c ∈ bytesOf s, c = 35 ∨ c = 46 := by
 simp [eO, qV] at h
 exact ⟨h.1.1, h.1.2.1, h.1.2.2, h.2⟩
theorem vC {C : Int} (hC : 2 ≤ C ∧ C ≤ 6) : C = 2 ∨ C = 3 ∨ C = 4 ∨ C = 5 ∨ C = 6 := by omega
theorem rV {R C : Int} (hR : 2 ≤ R ∧ R ≤ 6) (hC : 2 ≤ C ∧ C ≤ 6) : 4 ≤ R * C ∧ R * C ≤ 36 := by
 rcases vC hC with rfl | rfl | rfl | rfl | rfl <;> omega
theorem fV {R C : Int} {s : ByteArray} (h : eO R C s = true) : 4 ≤ s.size ∧ s.size ≤ 36 := by
 obtain ⟨h1, h2, h3, _⟩ := jl h
 have := rV h1 h2
 omega
theorem wQ (R C : Int) (s : ByteArray) (hs : s.size < 4611686018427387904) : Ev (fun k => bI.l0 k 0 R C s) ((bytesOf s).all qV) := by
 refine lg (fun k i => bI.l0 k i R C s) (bytesOf s) qV ?_ (fun i hi hp r hr => ?_) (fun i hi hp => ?_)
 ·rw [← ak]; simp [bI.l0, bytesOf_length, aH]
 ·have hi' : i < s.size := by rw [bytesOf_length] at hi; exact hi
  rw [← ak]
  simp only [qV, decide_eq_true_eq] at hp
  simp only [bI.l0, lH s i hi', bG (i := i) (by omega)]
  rw [ep, ep, aA]
  by_cases h : (bytesOf s)[i] = 35
  ·rw [if_pos h]; exact hr
  ·rw [if_neg h, ep]; exact hr
 ·have hi' : i < s.size := by rw [bytesOf_length] at hi; exact hi
  rw [← ak]
  simp only [qV, decide_eq_false_iff_not] at hp
  simp only [bI.l0, lH s i hi', bG (i := i) (by omega)]
  rw [ep, ep, en, en]
  exact aH _
theorem iD (R C : Int) (s : ByteArray) : Ev (fun k => bI.f k R C s) (eO R C s) := by
 simp only [bI.f, mZ, Option.bind_some, aA, decide_eq_true_eq]
 by_cases hR : 2 ≤ R ∧ R ≤ 6
 ·rw [if_pos hR]
  by_cases hC : 2 ≤ C ∧ C ≤ 6
  ·rw [if_pos hC]
   have hm := rV hR hC
   have e : wrap64 (R * C) = R * C := j6 (by omega) (by omega)
   rw [e, ← ak]
   simp only [bI.j0, aA, bne_iff_ne, ne_eq]
   by_cases hs : (s.size : Int) = R * C
   ·rw [if_neg (not_not_intro hs)]
    exact fQ (wQ R C s (by omega)) (by simp [eO, hR, hC, hs])
   ·rw [if_pos hs]
    exact fQ (aH _) (by simp [eO, hs])
  ·rw [if_neg hC, ← ak]
   simp only [bI.j0, if_true]
   exact fQ (aH _) (by simp [eO, hC])
 ·rw [if_neg hR, ← ak]
  simp only [bI.j0, if_true]
  exact fQ (aH _) (by simp [eO, hR])
theorem wS (R C : Int) (s : ByteArray) (hs : s.size < 4611686018427387904) : Ev (fun k => bn.l0 k (s.size : Int) 0 R C s) ((bytesOf s).all qV) := by
 refine lg (fun k i => bn.l0 k (s.size : Int) i R C s) (bytesOf s) qV ?_ (fun i hi hp r hr => ?_) (fun i hi hp => ?_)
 ·rw [← ak]; simp [bn.l0, bytesOf_length, aH]
 ·have hi' : i < s.size := by rw [bytesOf_length] at hi; exact hi
  rw [← ak]
  simp only [qV, decide_eq_true_eq] at hp
  simp only [bn.l0, lH s i hi', bG (i := i) (by omega)]
  rw [ep, ep, ep, aA]
  by_cases h : (bytesOf s)[i] = 35
  ·rw [if_pos h]; exact hr
  ·rw [if_neg h, ep]; exact hr
 ·have hi' : i < s.size := by rw [bytesOf_length] at hi; exact hi
  rw [← ak]
  simp only [qV, decide_eq_false_iff_not] at hp
  simp only [bn.l0, lH s i hi', bG (i := i) (by omega)]
  rw [ep, ep, ep, en, en]
  exact aH _
theorem jP (R C : Int) (s : ByteArray) : Ev (fun k => bn.f k R C s) (eO R C s) := by
 simp only [bn.f, nG, Option.bind_some, aA, decide_eq_true_eq]
 by_cases hR : 2 ≤ R ∧ R ≤ 6
 ·rw [if_pos hR]
  by_cases hC : 2 ≤ C ∧ C ≤ 6
  ·rw [if_pos hC]
   have hm := rV hR hC
   have e : wrap64 (R * C) = R * C := j6 (by omega) (by omega)
   rw [e, ← ak]
   simp only [bn.j0, aA, bne_iff_ne, ne_eq]
   by_cases hs : (s.size : Int) = R * C
   ·rw [if_neg (not_not_intro hs)]
    exact fQ (wS R C s (by omega)) (by simp [eO, hR, hC, hs])
   ·rw [if_pos hs]
    exact fQ (aH _) (by simp [eO, hs])
  ·rw [if_neg hC, ← ak]
   simp only [bn.j0, if_true]
   exact fQ (aH _) (by simp [eO, hC])
 ·rw [if_neg hR, ← ak]
  simp only [bn.j0, if_true]
  exact fQ (aH _) (by simp [eO, hR])
theorem tL {j st : Int} (hj : 0 ≤ j ∧ j ≤ 6) (hs : 1 ≤ st ∧ st ≤ 6) : 0 ≤ j * st ∧ j * st ≤ 36 := by
 have : st = 1 ∨ st = 2 ∨ st = 3 ∨ st = 4 ∨ st = 5 ∨ st = 6 := by omega
 rcases this with rfl | rfl | rfl | rfl | rfl | rfl <;> omega
theorem CU (R C : Int) (s : ByteArray) (i st p n : Int) (hp : 0 ≤ p ∧ p ≤ 36) (hn : n ≤ 6) (hi : 0 ≤ i ∧ i ≤ 36) (hst : 1 ≤ st ∧ st ≤ 6) (hin : ∀ j, 0 ≤ j → p + j < n → 0 ≤ i + j * st ∧ i + j * st < (s.size : Int)) :
  ∀ (d : Nat) (j : Int), (n - p - j).toNat ≤ d → 0 ≤ j → j ≤ 6 → (∀ j', 0 ≤ j' → j' < j → p + j' < n ∧ bt s (i + j' * st) = 46) →
  ∃ r, Ev (fun k => aY.l0 k i st p n j R C s) r ∧ 0 ≤ r ∧ r ≤ 6 ∧ ∀ j', 0 ≤ j' → j' < r → p + j' < n ∧ bt s (i + j' * st) = 46 := by
 intro d
 induction d with
 | zero =>
  intro j hd h0 h6 hb
  have e1 : wrap64 (p + j) = p + j := j6 (by omega) (by omega)
  refine ⟨j, ?_, h0, h6, hb⟩
  rw [← ak]
  simp only [aY.l0, e1]
  rw [en]
  exact aH _
 | succ d ih =>
  intro j hd h0 h6 hb
  have e1 : wrap64 (p + j) = p + j := j6 (by omega) (by omega)
  by_cases hc : p + j < n
  ·have hm := tL (j := j) (st := st) ⟨h0, h6⟩ hst
   have hj := hin j h0 hc
   have e2 : wrap64 (j * st) = j * st := j6 (by omega) (by omega)
   have e3 : wrap64 (i + j * st) = i + j * st := j6 (by omega) (by omega)
   have e4 : wrap64 (j + 1) = j + 1 := j6 (by omega) (by omega)
   by_cases h46 : bt s (i + j * st) = 46
   ·obtain ⟨r, hr, h⟩ := ih (j + 1) (by omega) (by omega) (by omega) (fun j' h1 h2 => by
     by_cases hh : j' = j
     ·rw [hh]; exact ⟨hc, h46⟩
     ·exact hb j' h1 (by omega))
    refine ⟨r, ?_, h⟩
    rw [← ak]
    simp only [aY.l0, e1, e2, e3, e4]
    rw [ep hc, ep hj.1, ep hj.2, ep h46]
    exact hr
   ·refine ⟨j, ?_, h0, h6, hb⟩
    rw [← ak]
    simp only [aY.l0, e1, e2, e3, e4]
    rw [ep hc, ep hj.1, ep hj.2, en h46]
    exact aH _
  ·refine ⟨j, ?_, h0, h6, hb⟩
   rw [← ak]
   simp only [aY.l0, e1]
   rw [en hc]
   exact aH _
theorem Du (R C : Int) (s : ByteArray) (i st p n : Int) (hp : 0 ≤ p ∧ p ≤ 36) (hn : n ≤ 6) (hi : 0 ≤ i ∧ i ≤ 36) (his : i < (s.size : Int)) (hst : 1 ≤ st ∧ st ≤ 6) (hb : 0 < p → 0 ≤ i - st) (hin : ∀ j, 0 ≤ j → p + j < n → 0 ≤ i + j * st ∧ i + j * st < (s.size : Int)) :
  ∃ r, Ev (fun k => aY.j0 k i st p n R C s) r ∧ 0 ≤ r ∧ r ≤ 6 ∧ ∀ j', 0 ≤ j' → j' < r → p + j' < n ∧ bt s (i + j' * st) = 46 := by
 have hj1 : ∀ b : Bool, ∃ r, Ev (fun k => aY.j1 k i st p n b R C s) r ∧ 0 ≤ r ∧ r ≤ 6 ∧ ∀ j', 0 ≤ j' → j' < r → p + j' < n ∧ bt s (i + j' * st) = 46 := by
  intro b
  cases b with
  | true =>
   refine ⟨0, ?_, by omega, by omega, fun _ _ _ => by omega⟩
   rw [← ak]
   simp only [aY.j1, if_true]
   exact aH _
  | false =>
   obtain ⟨r, hr, h⟩ := CU R C s i st p n hp hn hi hst hin _ 0 (Nat.le_refl _) (by omega) (by omega) (fun _ _ _ => by omega)
   refine ⟨r, ?_, h⟩
   rw [← ak]
   simp only [aY.j1, Bool.false_eq_true, if_false]
   exact hr
 have e1 : wrap64 (i - st) = i - st := j6 (by omega) (by omega)
 by_cases h46 : bt s i = 46
 ·by_cases hp0 : p > 0
  ·obtain ⟨r, hr, h⟩ := hj1 (bt s (i - st) == 46)
   have := hb hp0
   refine ⟨r, ?_, h⟩
   rw [← ak]
   simp only [aY.j0, e1]
   rw [ep hi.1, ep his, ep h46, ep hp0, ep this, ep]
   exact hr
  ·obtain ⟨r, hr, h⟩ := hj1 false
   refine ⟨r, ?_, h⟩
   rw [← ak]
   simp only [aY.j0, e1]
   rw [ep hi.1, ep his, ep h46, en hp0]
   exact hr
 ·obtain ⟨r, hr, h⟩ := hj1 true
  refine ⟨r, ?_, h⟩
  rw [← ak]
  simp only [aY.j0, e1]
  rw [ep hi.1, ep his, en h46]
  exact hr
theorem Dt {R C : Int} {s : ByteArray} (hg : eO R C s = true) (i : Nat) (hi : i < s.size) (b : Bool) :
  ∃ r, Ev (fun k => aY.f k R C s i b) r ∧ 0 ≤ r ∧ r ≤ 6 ∧ ∀ j, 0 ≤ j → j < r → 0 ≤ (i : Int) + j * (if b = true then C else 1) ∧ (i : Int) + j * (if b = true then C else 1) < s.size ∧ bt s ((i : Int) + j * (if b = true then C else 1)) = 46 := by
 obtain ⟨hR, hC, hs, _⟩ := jl hg
 have hm := rV hR hC
 have e1 : Int.tdiv (i : Int) C = (i : Int) / C := Int.tdiv_eq_ediv_of_nonneg (by omega)
 have e2 : Int.tmod (i : Int) C = (i : Int) % C := Int.tmod_eq_emod_of_nonneg (by omega)
 have hi2 : (i : Int) < R * C := by omega
 have hdiv : 0 ≤ (i : Int) / C ∧ (i : Int) / C ≤ 36 ∧ 0 ≤ (i : Int) % C ∧ (i : Int) % C ≤ 36 ∧ (0 < (i : Int) / C → 0 ≤ (i : Int) - C) ∧ (0 < (i : Int) % C → 0 ≤ (i : Int) - 1)
   ∧ (∀ j, 0 ≤ j → (i : Int) / C + j < R → 0 ≤ (i : Int) + j * C ∧ (i : Int) + j * C < R * C) ∧ (∀ j, 0 ≤ j → (i : Int) % C + j < C → 0 ≤ (i : Int) + j * 1 ∧ (i : Int) + j * 1 < R * C) := by
  rcases vC hC with rfl | rfl | rfl | rfl | rfl <;> exact ⟨by omega, by omega, by omega, by omega, by omega, by omega, fun j h1 h2 => by omega, fun j h1 h2 => by omega⟩
 obtain ⟨d1, d2, d3, d4, d5, d6, d7, d8⟩ := hdiv
 have e3 : wrap64 ((i : Int) / C) = (i : Int) / C := j6 (by omega) (by omega)
 have hc0 : ¬ C = 0 := by omega
 cases b with
 | true =>
  obtain ⟨r, hr, h0, h6, h⟩ := Du R C s i C ((i : Int) / C) R ⟨d1, d2⟩ hR.2 (by omega) (by omega) (by omega) d5 (fun j h1 h2 => by rw [hs]; exact d7 j h1 h2)
  refine ⟨r, ?_, h0, h6, fun j h1 h2 => ?_⟩
  ·simp only [aY.f, e1, e3]
   rw [en hc0, ep trivial]
   exact hr
  ·have := h j h1 h2
   have := d7 j h1 this.1
   simp only [if_true]
   omega
 | false =>
  obtain ⟨r, hr, h0, h6, h⟩ := Du R C s i 1 ((i : Int) % C) C ⟨d3, d4⟩ hC.2 (by omega) (by omega) (by omega) d6 (fun j h1 h2 => by rw [hs]; exact d8 j h1 h2)
  refine ⟨r, ?_, h0, h6, fun j h1 h2 => ?_⟩
  ·simp only [aY.f, e2]
   rw [en hc0, en (by simp)]
   exact hr
  ·have := h j h1 h2
   have := d8 j h1 this.1
   simp only [Bool.false_eq_true, if_false]
   omega
noncomputable def rH (R C : Int) (s : ByteArray) (i : Int) (b : Bool) : Int := open Classical in if h : ∃ r, Ev (fun k => aY.f k R C s i b) r then h.choose else 0
theorem rY {R C : Int} {s : ByteArray} (hg : eO R C s = true) (i : Nat) (hi : i < s.size) (b : Bool) : Ev (fun k => aY.f k R C s i b) (rH R C s i b) := by
 obtain ⟨r, hr, _⟩ := Dt hg i hi b
 have hx : ∃ r, Ev (fun k => aY.f k R C s i b) r := ⟨r, hr⟩
 unfold rH
 rw [dif_pos hx]
 exact hx.choose_spec
theorem Af {R C : Int} {s : ByteArray} (hg : eO R C s = true) (i : Nat) (hi : i < s.size) (b : Bool) : 0 ≤ rH R C s i b ∧ rH R C s i b ≤ 6 ∧ ∀ j, 0 ≤ j → j < rH R C s i b → 0 ≤ (i : Int) + j * (if b = true then C else 1) ∧ (i : Int) + j * (if b = true then C else 1) < s.size ∧ bt s ((i : Int) + j * (if b = true then C else 1)) = 46 := by
 obtain ⟨r, hr, h⟩ := Dt hg i hi b
 rw [Bj (rY hg i hi b) hr]
 exact h
theorem BA : ∀ k, (∀ a b c d e f g, dX.j0 k a b c d e f g = aY.j0 k a b c d e f g) ∧ (∀ a b c d x e f g, dX.j1 k a b c d x e f g = aY.j1 k a b c d x e f g) ∧ ∀ a b c d x e f g, dX.l0 k a b c d x e f g = aY.l0 k a b c d x e f g := by
 intro k
 induction k with
 | zero => exact ⟨fun _ _ _ _ _ _ _ => rfl, fun _ _ _ _ _ _ _ _ => rfl, fun _ _ _ _ _ _ _ _ => rfl⟩
 | succ k ih =>
  obtain ⟨h1, h2, h3⟩ := ih
  refine ⟨fun a b c d e f g => ?_, fun a b c d x e f g => ?_, fun a b c d x e f g => ?_⟩
  ·simp only [dX.j0, aY.j0, h2]
  ·simp only [dX.j1, aY.j1, h3]
  ·simp only [dX.l0, aY.l0, h3]
theorem run_eq (k : Nat) (R C : Int) (s : ByteArray) (i : Int) (b : Bool) : dX.f k R C s i b = aY.f k R C s i b := by
 simp only [dX.f, aY.f, (BA k).1]
def slA (n i a : Int) : List dI := if a ≥ 2 then [⟨n, false, i, a⟩] else []
def slD (n i d : Int) : List dI := if d ≥ 2 then [⟨n, true, i, d⟩] else []
def oU (a d n : Int) : Int := if a ≥ 2 ∨ d ≥ 2 then n + 1 else n
def ow (a d : Int) (i : Nat) (st : List dI × Int) : List dI × Int := ((st.1 ++ slA (oU a d st.2) i a) ++ slD (oU a d st.2) i d, oU a d st.2)
noncomputable def mM (R C : Int) (s : ByteArray) (st : List dI × Int) (i : Nat) : List dI × Int := ow (rH R C s i false) (rH R C s i true) i st
noncomputable def slW (R C : Int) (s : ByteArray) (i : Nat) (st : List dI × Int) : List dI × Int := (List.range' i (s.size - i)).foldl (mM R C s) st
noncomputable def aV (R C : Int) (s : ByteArray) : List dI := if eO R C s = true then (slW R C s 0 ([], 0)).1 else []
theorem yh (R C : Int) (s : ByteArray) (st : List dI × Int) : slW R C s s.size st = st := by simp [slW]
theorem wI (R C : Int) (s : ByteArray) (i : Nat) (hi : i < s.size) (st : List dI × Int) : slW R C s i st = slW R C s (i + 1) (mM R C s st i) := by
 unfold slW
 rw [show s.size - i = (s.size - (i + 1)) + 1 by omega, List.range'_succ]
 rfl
theorem BU (a d n : Int) : n ≤ oU a d n ∧ oU a d n ≤ n + 1 := by unfold oU; split <;> omega
theorem zh (a d : Int) (i : Nat) (st : List dI × Int) : (ow a d i st).1.length ≤ st.1.length + 2 := by
 have h1 : (slA (oU a d st.2) i a).length ≤ 1 := by unfold slA; split <;> simp
 have h2 : (slD (oU a d st.2) i d).length ≤ 1 := by unfold slD; split <;> simp
 simp only [ow, List.length_append]
 omega
def y8 (i : Nat) (st : List dI × Int) : Prop := st.1.length ≤ 2 * i ∧ 0 ≤ st.2 ∧ st.2 ≤ i
theorem rE (R C : Int) (s : ByteArray) (i : Nat) (st : List dI × Int) (h : y8 i st) : y8 (i + 1) (mM R C s st i) := by
 obtain ⟨h1, h2, h3⟩ := h
 have := zh (rH R C s i false) (rH R C s i true) i st
 have := BU (rH R C s i false) (rH R C s i true) st.2
 refine ⟨?_, ?_, ?_⟩
 ·unfold mM; omega
 ·unfold mM ow; dsimp only; omega
 ·unfold mM ow; dsimp only; omega
theorem oM {R C : Int} {s : ByteArray} (a d : Int) (i : Nat) (hi : i < 36) (l : List dI) (n : Int) (hl : l.length ≤ 72) (r : List dI)
  (hr : Ev (fun k => aR.l0 k ((l ++ slA n i a) ++ slD n i d) n ((i + 1 : Nat) : Int) R C s) r) : Ev (fun k => aR.j3 k l n i a d R C s) r := by
 rw [← ak]
 simp only [aR.j3, bG (i := i) (by omega), Option.bind_some, aA]
 by_cases a2 : a ≥ 2 <;> by_cases d2 : d ≥ 2 <;> simp only [slA, slD, a2, d2, if_true, if_false, List.append_nil] at hr ⊢
 ·rw [if_pos (by omega), if_pos (by rw [List.length_append]; simp; omega)]
  exact hr
 ·rw [if_pos (by omega)]
  exact hr
 ·rw [if_pos (by omega)]
  exact hr
 ·exact hr
theorem vw {R C : Int} {s : ByteArray} (hg : eO R C s = true) : Ev (fun k => aR.l0 k [] 0 0 R C s) (slW R C s 0 ([], 0)).1 := by
 have hsz := fV hg
 refine iE (σ := List dI × Int) (fun k st i => aR.l0 k st.1 st.2 i R C s) s.size y8 (fun i st => (slW R C s i st).1) (fun st hst => ?_) (fun i st hi hst => .inr ⟨mM R C s st i, rE R C s i st hst, ?_, fun r hr => ?_⟩) 0 ([], 0) (Nat.zero_le _) ⟨by simp, by simp, by simp⟩
 ·rw [yh, ← ak]
  simp only [aR.l0, Int.lt_irrefl, if_false]
  rw [← ak]
  simp only [aR.j1, Bool.false_eq_true, if_false]
  exact aH _
 ·rw [wI R C s i hi]
 ·obtain ⟨h1, h2, h3⟩ := hst
  have ha := rY hg i hi false
  have hd := rY hg i hi true
  unfold mM ow at hr
  generalize rH R C s i false = a at ha hr
  generalize rH R C s i true = d at hd hr
  have hn1 : wrap64 (st.2 + 1) = st.2 + 1 := j6 (by omega) (by omega)
  rw [← ak]
  simp only [aR.l0]
  rw [ep, au (iD R C s), hg, ← ak]
  simp only [aR.j1, if_true]
  rw [au ha, au hd, aA]
  have hj2 : ∀ b : Bool, b = decide (a ≥ 2 ∨ d ≥ 2) → Ev (fun k => aR.j2 k st.1 st.2 i a d b R C s) r := by
   intro b hb
   rw [← ak]
   simp only [aR.j2, hn1]
   rw [aA]
   by_cases h : a ≥ 2 ∨ d ≥ 2
   ·rw [if_pos (by rw [hb]; simpa using h)]
    simp only [oU, if_pos h] at hr
    exact oM a d i (by omega) st.1 _ (by omega) r hr
   ·rw [if_neg (by rw [hb]; simpa using h)]
    simp only [oU, if_neg h] at hr
    exact oM a d i (by omega) st.1 _ (by omega) r hr
  by_cases a2 : a ≥ 2
  ·rw [if_pos a2]
   exact hj2 _ (by simp [a2])
  ·rw [if_neg a2]
   exact hj2 _ (by simp only [a2, false_or])
theorem iF (R C : Int) (s : ByteArray) : Ev (fun k => aR.f k R C s) (aV R C s) := by
 unfold aV
 split
 ·rename_i hg
  exact vw hg
 ·rename_i hg
  simp only [aR.f]
  rw [← ak]
  simp only [aR.l0]
  rw [Bool.not_eq_true] at hg
  have : Ev (fun k => aR.j1 k [] 0 0 false R C s) [] := by
   rw [← ak]
   simp only [aR.j1, Bool.false_eq_true, if_false]
   exact aH _
  rw [aA]
  split
  ·rw [au (iD R C s), hg]
   exact this
  ·exact this
theorem xQ {n i a : Int} {x : dI} (h : x ∈ slA n i a) : x = ⟨n, false, i, a⟩ ∧ a ≥ 2 := by
 unfold slA at h
 split at h
 ·exact ⟨List.mem_singleton.1 h, ‹_›⟩
 ·simp at h
theorem Ab {n i a : Int} {x : dI} (h : x ∈ slD n i a) : x = ⟨n, true, i, a⟩ ∧ a ≥ 2 := by
 unfold slD at h
 split at h
 ·exact ⟨List.mem_singleton.1 h, ‹_›⟩
 ·simp at h
def stepOf (C : Int) (x : dI) : Int := if x.f1 = true then C else 1
def CG (C : Int) (s : ByteArray) (x : dI) : Prop := 0 ≤ x.f2 ∧ x.f2 < s.size ∧ 2 ≤ x.f3 ∧ x.f3 ≤ 6 ∧ ∀ j, 0 ≤ j → j < x.f3 → 0 ≤ x.f2 + j * stepOf C x ∧ x.f2 + j * stepOf C x < s.size ∧ bt s (x.f2 + j * stepOf C x) = 46
theorem zl {R C : Int} {s : ByteArray} (hg : eO R C s = true) : ∀ (n i : Nat) (st : List dI × Int), i + n = s.size → y8 i st → (∀ x ∈ st.1, CG C s x ∧ x.f2 < i) → st.1.Nodup →
  (∀ x ∈ (slW R C s i st).1, CG C s x) ∧ (slW R C s i st).1.Nodup ∧ (slW R C s i st).1.length ≤ 72 := by
 have hsz := fV hg
 intro n
 induction n with
 | zero =>
  intro i st hi hv hx hnd
  have : i = s.size := by omega
  subst this
  rw [yh]
  exact ⟨fun x h => (hx x h).1, hnd, by have := hv.1; omega⟩
 | succ n ih =>
  intro i st hi hv hx hnd
  rw [wI R C s i (by omega)]
  have ia := Af hg i (by omega) false
  have id := Af hg i (by omega) true
  refine ih (i + 1) _ (by omega) (rE R C s i st hv) ?_ ?_
  ·intro x h
   unfold mM ow at h
   simp only [List.mem_append] at h
   rcases h with (h | h) | h
   ·have := hx x h
    exact ⟨this.1, by omega⟩
   ·obtain ⟨rfl, h2⟩ := xQ h
    refine ⟨⟨by show (0 : Int) ≤ (i : Int); omega, by show (i : Int) < (s.size : Int); omega, h2, ia.2.1, fun j h1 h3 => ?_⟩, by show (i : Int) < ((i + 1 : Nat) : Int); omega⟩
    have := ia.2.2 j h1 h3
    simpa [stepOf] using this
   ·obtain ⟨rfl, h2⟩ := Ab h
    refine ⟨⟨by show (0 : Int) ≤ (i : Int); omega, by show (i : Int) < (s.size : Int); omega, h2, id.2.1, fun j h1 h3 => ?_⟩, by show (i : Int) < ((i + 1 : Nat) : Int); omega⟩
    have := id.2.2 j h1 h3
    simpa [stepOf] using this
  ·unfold mM ow
   dsimp only
   rw [List.nodup_append, List.nodup_append]
   refine ⟨⟨hnd, ?_, ?_⟩, ?_, ?_⟩
   ·unfold slA; split <;> simp
   ·intro x h1 y h2 he
    obtain ⟨rfl, _⟩ := xQ h2
    have := (hx x h1).2
    rw [he] at this
    simp at this
   ·unfold slD; split <;> simp
   ·intro x h1 y h2 he
    obtain ⟨rfl, _⟩ := Ab h2
    rcases List.mem_append.1 h1 with h1 | h1
    ·have := (hx x h1).2
     rw [he] at this
     simp at this
    ·obtain ⟨rfl, _⟩ := xQ h1
     simp at he
theorem dV (R C : Int) (s : ByteArray) : (∀ x ∈ aV R C s, CG C s x) ∧ (aV R C s).Nodup ∧ (aV R C s).length ≤ 72 := by
 unfold aV
 split
 ·rename_i hg
  exact zl hg s.size 0 ([], 0) (by omega) ⟨by simp, by simp, by simp⟩ (by simp) (by simp)
 ·simp
theorem uF {R C : Int} {s : ByteArray} {x : dI} (h : x ∈ aV R C s) : eO R C s = true := by
 unfold aV at h
 split at h
 ·assumption
 ·simp at h
theorem oQ {R C : Int} {s : ByteArray} (a d : Int) (i : Nat) (hi : i < 36) (l : List dI) (n : Int) (hl : l.length ≤ 72) (r : List dI)
  (hr : Ev (fun k => aU.l0 k ((l ++ slA n i a) ++ slD n i d) n (s.size : Int) ((i + 1 : Nat) : Int) R C s) r) : Ev (fun k => aU.j2 k l n i a d (s.size : Int) i R C s) r := by
 rw [← ak]
 simp only [aU.j2, bG (i := i) (by omega), Option.bind_some, aA]
 by_cases a2 : a ≥ 2 <;> by_cases d2 : d ≥ 2 <;> simp only [slA, slD, a2, d2, if_true, if_false, List.append_nil] at hr ⊢
 ·rw [if_pos (by omega), if_pos (by rw [List.length_append]; simp; omega)]
  exact hr
 ·rw [if_pos (by omega)]
  exact hr
 ·rw [if_pos (by omega)]
  exact hr
 ·exact hr
theorem wB {R C : Int} {s : ByteArray} (hg : eO R C s = true) : Ev (fun k => aU.l0 k [] 0 (s.size : Int) 0 R C s) (slW R C s 0 ([], 0)).1 := by
 have hsz := fV hg
 refine iE (σ := List dI × Int) (fun k st i => aU.l0 k st.1 st.2 (s.size : Int) i R C s) s.size y8 (fun i st => (slW R C s i st).1) (fun st hst => ?_) (fun i st hi hst => .inr ⟨mM R C s st i, rE R C s i st hst, ?_, fun r hr => ?_⟩) 0 ([], 0) (Nat.zero_le _) ⟨by simp, by simp, by simp⟩
 ·rw [yh, ← ak]
  simp only [aU.l0, Int.lt_irrefl, if_false]
  exact aH _
 ·rw [wI R C s i hi]
 ·obtain ⟨h1, h2, h3⟩ := hst
  have ha := rY hg i hi false
  have hd := rY hg i hi true
  unfold mM ow at hr
  generalize rH R C s i false = a at ha hr
  generalize rH R C s i true = d at hd hr
  have hn1 : wrap64 (st.2 + 1) = st.2 + 1 := j6 (by omega) (by omega)
  rw [← ak]
  simp only [aU.l0, run_eq]
  rw [ep, au ha, au hd, aA]
  have hj2 : ∀ b : Bool, b = decide (a ≥ 2 ∨ d ≥ 2) → Ev (fun k => aU.j1 k st.1 st.2 i a d (s.size : Int) i b R C s) r := by
   intro b hb
   rw [← ak]
   simp only [aU.j1, hn1]
   rw [aA]
   by_cases h : a ≥ 2 ∨ d ≥ 2
   ·rw [if_pos (by rw [hb]; simpa using h)]
    simp only [oU, if_pos h] at hr
    exact oQ a d i (by omega) st.1 _ (by omega) r hr
   ·rw [if_neg (by rw [hb]; simpa using h)]
    simp only [oU, if_neg h] at hr
    exact oQ a d i (by omega) st.1 _ (by omega) r hr
  by_cases a2 : a ≥ 2
  ·rw [if_pos a2]
   exact hj2 _ (by simp [a2])
  ·rw [if_neg a2]
   exact hj2 _ (by simp only [a2, false_or])
theorem oW (R C : Int) (s : ByteArray) : Ev (fun k => aU.f k R C s) (aV R C s) := by
 unfold aV aU.f
 rw [au (jP R C s), aA]
 split
 ·rename_i hg
  exact wB hg
 ·exact aH _
def dG (C : Int) (x : dI) : List Int := (List.range x.f3.toNat).map (fun (j : Nat) => x.f2 + (j : Int) * stepOf C x)
theorem gB (C : Int) (x : dI) : (dG C x).length = x.f3.toNat := by simp [dG]
theorem wM (C : Int) (x : dI) (j : Nat) (h : j < (dG C x).length) : (dG C x)[j] = x.f2 + (j : Int) * stepOf C x := by simp [dG]
theorem qw {C : Int} {s : ByteArray} {x : dI} (h : CG C s x) : ∀ c ∈ dG C x, 0 ≤ c ∧ c < s.size ∧ bt s c = 46 := by
 intro c hc
 obtain ⟨j, hj, rfl⟩ := List.mem_map.1 hc
 have := List.mem_range.1 hj
 exact h.2.2.2.2 j (by omega) (by omega)
theorem xD {C : Int} (hC : 2 ≤ C ∧ C ≤ 6) (x : dI) : 1 ≤ stepOf C x ∧ stepOf C x ≤ 6 := by unfold stepOf; split <;> omega
theorem uR {R C : Int} {s : ByteArray} (hC : 2 ≤ C ∧ C ≤ 6) (x : dI) (hx : 0 ≤ x.f2 ∧ x.f2 ≤ 36 ∧ 0 ≤ x.f3 ∧ x.f3 ≤ 6) (l : List dI) (i : Nat) (hi : i < 4611686018427387903) (acc : List Int) (hacc : acc.length ≤ 100000) (r : List Int)
  (hr : Ev (fun k => bL.l0 k (acc ++ dG C x) l ((i + 1 : Nat) : Int) R C s x.f0 x.f1 x.f2 x.f3) r) : Ev (fun k => bL.l1 k acc l i 0 R C s x.f0 x.f1 x.f2 x.f3) r := by
 have hl := gB C x
 have hst := xD hC x
 refine iE (σ := List Int) (fun k a j => bL.l1 k a l i j R C s x.f0 x.f1 x.f2 x.f3) (dG C x).length (fun j a => a = acc ++ (dG C x).take j) (fun _ _ => r) (fun a ha => ?_) (fun j a hj ha => .inr ⟨a ++ [(dG C x)[j]], ?_, rfl, fun r' hr' => ?_⟩) 0 acc (Nat.zero_le _) (by simp)
 ·rw [List.take_length] at ha
  subst ha
  rw [← ak]
  simp only [bL.l1, bG (i := i) (by omega)]
  rw [en]
  exact hr
 ·rw [ha, List.take_succ_eq_append_getElem hj, List.append_assoc]
 ·have hal : a.length ≤ 200000 := by rw [ha, List.length_append, List.length_take]; omega
  have hm := tL (j := (j : Int)) (st := stepOf C x) (by omega) hst
  rw [wM] at hr'
  rw [← ak]
  simp only [bL.l1, bG (i := j) (by omega)]
  rw [ep, aA]
  unfold stepOf at hm hr'
  by_cases hd : x.f1 = true
  ·simp only [hd, if_true] at hm hr' ⊢
   have e1 : wrap64 ((j : Int) * C) = j * C := j6 (by omega) (by omega)
   have e2 : wrap64 (x.f2 + (j : Int) * C) = x.f2 + j * C := j6 (by omega) (by omega)
   rw [e1, e2, ep]
   exact hr'
  ·rw [Bool.not_eq_true] at hd
   simp only [hd, Bool.false_eq_true, if_false, Int.mul_one] at hm hr' ⊢
   have e2 : wrap64 (x.f2 + (j : Int)) = x.f2 + j := j6 (by omega) (by omega)
   rw [e2, ep]
   exact hr'
theorem AJ {α β : Type} [DecidableEq α] (l : List α) (x : α) (c : List β) (h : x ∉ l) : l.flatMap (fun y => if y = x then c else []) = [] := by
 rw [List.flatMap_eq_nil_iff]
 intro y hy
 rw [if_neg]
 rintro rfl
 exact h hy
theorem xL {α β : Type} [DecidableEq α] (x : α) (c : List β) : ∀ l : List α, l.Nodup → x ∈ l → l.flatMap (fun y => if y = x then c else []) = c
 | [], _, h => by cases h
 | y :: l, hn, h => by
  rw [List.nodup_cons] at hn
  rw [List.flatMap_cons]
  by_cases he : y = x
  ·subst he
   rw [if_pos rfl, AJ l y c hn.1, List.append_nil]
  ·rw [if_neg he, List.nil_append]
   refine xL x c l hn.2 ?_
   rcases List.mem_cons.1 h with h | h
   ·exact absurd h.symm he
   ·exact h
theorem wG {α β : Type} (f : α → List β) (n : Nat) : ∀ l : List α, (∀ x ∈ l, (f x).length ≤ n) → (l.flatMap f).length ≤ n * l.length
 | [], _ => by simp
 | x :: l, h => by
  have h1 := wG f n l (fun y hy => h y (List.mem_cons_of_mem _ hy))
  have h2 := h x List.mem_cons_self
  rw [List.flatMap_cons, List.length_append, List.length_cons, Nat.mul_succ]
  omega
theorem mD {α β : Type} (f : α → List β) (n i : Nat) (l : List α) (h : ∀ x ∈ l, (f x).length ≤ n) : ((l.take i).flatMap f).length ≤ n * l.length := by
 have h1 := wG f n (l.take i) (fun x hx => h x (List.mem_of_mem_take hx))
 have h2 : (l.take i).length ≤ l.length := by rw [List.length_take]; omega
 exact Nat.le_trans h1 (Nat.mul_le_mul_left n h2)
theorem mJ {R C : Int} {s : ByteArray} (x : dI) (hx : x ∈ aV R C s) : Ev (fun k => bL.f k R C s x.f0 x.f1 x.f2 x.f3) (dG C x) := by
 obtain ⟨good, hnd, hlen⟩ := dV R C s
 have hg := uF hx
 have hC := (jl hg).2.1
 have hsz := fV hg
 have ok := good x hx
 unfold bL.f
 rw [au (iF R C s)]
 generalize aV R C s = l at hx hnd hlen
 letI : DecidableEq dI := fun _ _ => Classical.propDecidable _
 have hfl : ∀ y ∈ l, (if y = x then dG C x else []).length ≤ 6 := by
  intro y _
  split
  ·rw [gB]; have := ok.2.2.2.1; omega
  ·simp
 refine fQ (jf (fun k a i => bL.l0 k a l i R C s x.f0 x.f1 x.f2 x.f3) l (fun y => if y = x then dG C x else []) 0 (fun a => ?_) (fun i hi a ha r hr => ?_)) (xL x _ l hnd hx)
 ·rw [← ak]; simp only [bL.l0, Int.lt_irrefl, if_false]; exact aH _
 ·have hb := mD _ 6 i l hfl
  rw [← ak]
  simp only [bL.l0, kU l i hi, bG (i := i) (by omega)]
  rw [ep, ep, aA]
  by_cases he : l[i] = x
  ·simp only [he, if_true] at hr ⊢
   rw [if_neg (by simp)]
   exact uR hC x ⟨ok.1, by have := ok.2.1; omega, by have := ok.2.2.1; omega, ok.2.2.2.1⟩ l i (by omega) a (by omega) r hr
  ·simp only [he, if_false, List.append_nil] at hr
   rw [if_pos]
   ·exact hr
   ·generalize l[i] = y at he
    obtain ⟨y0, y1, y2, y3⟩ := y
    obtain ⟨x0, x1, x2, x3⟩ := x
    simp only [dI.mk.injEq, not_and] at he
    simp only [Bool.or_eq_true, Bool.not_eq_true', beq_eq_false_iff_ne, ne_eq]
    by_cases h0 : y0 = x0
    ·by_cases h1 : y1 = x1
     ·by_cases h2 : y2 = x2
      ·exact .inr (.inr (.inr (he h0 h1 h2)))
      ·exact .inr (.inr (.inl h2))
     ·exact .inr (.inl h1)
    ·exact .inl h0
theorem wO {R C : Int} {s : ByteArray} (x : dI) (hx : x ∈ aV R C s) : Ev (fun k => eU.f k R C s x.f0 x.f1 x.f2 x.f3) (dG C x) := by
 obtain ⟨good, hnd, hlen⟩ := dV R C s
 have hg := uF hx
 have hC := (jl hg).2.1
 have hsz := fV hg
 have ok := good x hx
 have hl := gB C x
 have hst := xD hC x
 have q1 := ok.1
 have q2 := ok.2.1
 have q3 := ok.2.2.1
 have q4 := ok.2.2.2.1
 have key : Ev (fun k => eU.j0 k (stepOf C x) x.f0 x.f1 x.f2 x.f3) (dG C x) := by
  rw [← ak]
  simp only [eU.j0]
  refine iE (σ := List Int) (fun k a j => eU.l0 k (stepOf C x) a x.f3 j x.f0 x.f1 x.f2 x.f3) (dG C x).length (fun j a => a = (dG C x).take j) (fun _ _ => dG C x) (fun a ha => ?_) (fun j a hj ha => .inr ⟨a ++ [(dG C x)[j]], ?_, rfl, fun r' hr' => ?_⟩) 0 [] (Nat.zero_le _) (by simp)
  ·rw [List.take_length] at ha
   subst ha
   rw [← ak]
   simp only [eU.l0]
   rw [en]
   exact aH _
  ·rw [ha, List.take_succ_eq_append_getElem hj]
  ·have hal : a.length ≤ 6 := by rw [ha, List.length_take]; omega
   have hm := tL (j := (j : Int)) (st := stepOf C x) (by omega) hst
   rw [wM] at hr'
   have e1 : wrap64 ((j : Int) * stepOf C x) = j * stepOf C x := j6 (by omega) (by omega)
   have e2 : wrap64 (x.f2 + (j : Int) * stepOf C x) = x.f2 + j * stepOf C x := j6 (by omega) (by omega)
   rw [← ak]
   simp only [eU.l0, bG (i := j) (by omega), e1, e2]
   rw [ep, ep]
   exact hr'
 unfold eU.f
 unfold stepOf at key
 rw [aA]
 by_cases hd : x.f1 = true
 ·rw [if_pos hd] at key ⊢
  exact key
 ·rw [if_neg hd] at key ⊢
  exact key
theorem l5 (R C : Int) (s : ByteArray) : Ev (fun k => eD.f k R C s) ((aV R C s).map (dG C)) := by
 obtain ⟨good, hnd, hlen⟩ := dV R C s
 unfold eD.f
 rw [au (oW R C s)]
 refine fQ (jf (fun k a i => eD.l0 k a (aV R C s) ((aV R C s).length : Int) i R C s) (aV R C s) (fun x => [dG C x]) 0 (fun a => ?_) (fun i hi a ha r hr => ?_)) List.map_eq_flatMap.symm
 ·rw [← ak]; simp only [eD.l0, Int.lt_irrefl, if_false]; exact aH _
 ·have hb := mD (fun x : dI => [dG C x]) 1 i (aV R C s) (fun _ _ => by simp)
  rw [← ak]
  simp only [eD.l0, kU _ i hi, bG (i := i) (by omega)]
  rw [ep, ep, ep, au (wO _ (List.getElem_mem hi)), ep]
  exact hr
def nD (c f : Int) : Bool := decide ((c = 35 ↔ f = 35) ∧ (f = 35 ∨ f = 63 ∨ (97 ≤ f ∧ f ≤ 122)))
def jE (R C : Int) (s f : ByteArray) : Bool := eO R C s && (decide (f.size = s.size) && (List.range f.size).all (fun i => nD (bt s i) (bt f i)))
theorem mF {R C : Int} {s f : ByteArray} (h : jE R C s f = true) : eO R C s = true ∧ f.size = s.size ∧ ∀ i : Nat, i < f.size → nD (bt s i) (bt f i) = true := by
 simpa [jE] using h
theorem zW {R C : Int} {s : ByteArray} (hg : eO R C s = true) (i : Nat) (hi : i < s.size) : bt s (i : Int) = 35 ∨ bt s (i : Int) = 46 := by
 rw [lH s i hi]
 exact (jl hg).2.2.2 _ (List.getElem_mem _)
theorem nY {R C : Int} {s f : ByteArray} (k i : Nat) (hi : i < f.size) (hs : i < s.size) (h36 : i < 1000) (hc : bt s (i : Int) = 35 ∨ bt s (i : Int) = 46) :
  bK.l0 (k + 1) f i R C s = if nD (bt s i) (bt f i) = true then bK.l0 k f ((i + 1 : Nat) : Int) R C s else some false := by
 have h1 : (i : Int) < (f.size : Int) := by omega
 have h2 : (0 : Int) ≤ (i : Int) := by omega
 have h3 : (i : Int) < (s.size : Int) := by omega
 simp only [bK.l0, bG (i := i) (by omega), h1, h2, h3, if_true]
 generalize bK.l0 k f ((i + 1 : Nat) : Int) R C s = Y
 generalize bt s (i : Int) = c at hc ⊢
 generalize bt f (i : Int) = x
 simp only [nD, decide_eq_true_eq]
 repeat' split
 all_goals first | rfl | (exfalso; omega)
theorem xq {R C : Int} {s f : ByteArray} (hg : eO R C s = true) (hf : f.size = s.size) : Ev (fun k => bK.l0 k f 0 R C s) ((List.range f.size).all (fun i => nD (bt s i) (bt f i))) := by
 have hsz := fV hg
 refine lg (fun k i => bK.l0 k f i R C s) (List.range f.size) (fun i => nD (bt s i) (bt f i)) ?_ (fun i hi hp r hr => ?_) (fun i hi hp => ?_)
 ·rw [← ak]; simp [bK.l0, aH]
 ·rw [List.length_range] at hi
  rw [List.getElem_range] at hp
  rw [← ak]
  simp only [nY _ i hi (by omega) (by omega) (zW hg i (by omega)), hp, if_true]
  exact hr
 ·rw [List.length_range] at hi
  rw [List.getElem_range] at hp
  rw [← ak]
  simp only [nY _ i hi (by omega) (by omega) (zW hg i (by omega)), hp, Bool.false_eq_true, if_false]
  exact aH _
theorem lS (R C : Int) (s f : ByteArray) : Ev (fun k => bK.f k R C s f) (jE R C s f) := by
 unfold bK.f
 rw [au (iD R C s), aA]
 by_cases hg : eO R C s = true
 ·rw [if_pos hg, ← ak]
  simp only [bK.j0, aA, bne_iff_ne, ne_eq]
  by_cases hf : f.size = s.size
  ·rw [if_neg (by omega)]
   exact fQ (xq hg hf) (by simp [jE, hg, hf])
  ·rw [if_pos (by omega)]
   exact fQ (aH _) (by simp [jE, hf])
 ·rw [if_neg hg, ← ak]
  simp only [bK.j0, if_true]
  exact fQ (aH _) (by simp [jE, hg])
theorem nW {R C : Int} {s f : ByteArray} (k i : Nat) (hi : i < f.size) (hs : i < s.size) (h36 : i < 1000) :
  bY.l0 (k + 1) f (f.size : Int) i R C s = if nD (bt s i) (bt f i) = true then bY.l0 k f (f.size : Int) ((i + 1 : Nat) : Int) R C s else some false := by
 have h1 : (i : Int) < (f.size : Int) := by omega
 have h2 : (0 : Int) ≤ (i : Int) := by omega
 have h3 : (i : Int) < (s.size : Int) := by omega
 simp only [bY.l0, bG (i := i) (by omega), h1, h2, h3, if_true, nQ, Option.bind_some, decide_eq_true_eq]
 generalize bY.l0 k f (f.size : Int) ((i + 1 : Nat) : Int) R C s = Y
 generalize bt s (i : Int) = c
 generalize bt f (i : Int) = x
 by_cases he : (c = 35 ↔ x = 35)
 ·have e : ((c == 35) != (x == 35)) = false := by rw [bne_eq_false_iff_eq, Bool.eq_iff_iff, beq_iff_eq, beq_iff_eq]; exact he
  rw [e]
  simp only [nD, decide_eq_true_eq, Bool.false_eq_true, if_false]
  repeat' split
  all_goals first | rfl | (exfalso; omega)
 ·have e : ((c == 35) != (x == 35)) = true := by
   rw [bne_iff_ne]
   intro q
   rw [Bool.eq_iff_iff, beq_iff_eq, beq_iff_eq] at q
   exact he q
  rw [e, if_pos rfl, if_neg]
  simp only [nD, decide_eq_true_eq]
  exact fun q => he q.1
theorem wY {R C : Int} {s f : ByteArray} (hg : eO R C s = true) (hf : f.size = s.size) : Ev (fun k => bY.l0 k f (f.size : Int) 0 R C s) ((List.range f.size).all (fun i => nD (bt s i) (bt f i))) := by
 have hsz := fV hg
 refine lg (fun k i => bY.l0 k f (f.size : Int) i R C s) (List.range f.size) (fun i => nD (bt s i) (bt f i)) ?_ (fun i hi hp r hr => ?_) (fun i hi hp => ?_)
 ·rw [← ak]; simp [bY.l0, aH]
 ·rw [List.length_range] at hi
  rw [List.getElem_range] at hp
  rw [← ak]
  simp only [nW (R := R) (C := C) (s := s) (f := f) _ i hi (by omega) (by omega), hp, if_true]
  exact hr
 ·rw [List.length_range] at hi
  rw [List.getElem_range] at hp
  rw [← ak]
  simp only [nW (R := R) (C := C) (s := s) (f := f) _ i hi (by omega) (by omega), hp, Bool.false_eq_true, if_false]
  exact aH _
theorem qh (R C : Int) (s f : ByteArray) : Ev (fun k => bY.f k R C s f) (jE R C s f) := by
 unfold bY.f
 rw [au (jP R C s), aA]
 by_cases hg : eO R C s = true
 ·rw [if_pos hg, ← ak]
  simp only [bY.j0, aA, bne_iff_ne, ne_eq]
  by_cases hf : f.size = s.size
  ·rw [if_neg (by omega)]
   exact fQ (wY hg hf) (by simp [jE, hg, hf])
  ·rw [if_pos (by omega)]
   exact fQ (aH _) (by simp [jE, hf])
 ·rw [if_neg hg, ← ak]
  simp only [bY.j0, if_true]
  exact fQ (aH _) (by simp [jE, hg])
def oF (f : ByteArray) (l : List Int) : ByteArray := strOfNums (l.map (bt f))
theorem tZ (a b : List Int) : strOfNums (a ++ b) = strOfNums a ++ strOfNums b := by
 refine ByteArray.ext (Array.toList_inj.1 ?_)
 rw [ByteArray.data_append, Array.toList_append, strOfNums_data, strOfNums_data, strOfNums_data, List.map_append]
theorem y7 (f : ByteArray) (hf : f.size ≤ 1000000) (c : Int) (h0 : 0 ≤ c) (h1 : c < f.size) : f.extract c.toNat (wrap64 (c + 1)).toNat = strOfNums [bt f c] := by
 have e : wrap64 (c + 1) = c + 1 := by unfold wrap64; omega
 have hc : c.toNat < f.size := by omega
 have hd : c.toNat < f.data.toList.length := by rw [Array.length_toList]; exact hc
 refine ByteArray.ext (Array.toList_inj.1 ?_)
 rw [e, show (c + 1).toNat = c.toNat + 1 by omega, strOfNums_data, ByteArray.data_extract, Array.toList_extract]
 have hb : bt f c = ((f.data.toList[c.toNat]).toNat : Int) := by
  unfold bt
  rw [dif_pos hc]
  rfl
 rw [List.extract_eq_drop_take', List.drop_take, List.drop_eq_getElem_cons hd]
 simp [hb]
theorem tK (f : ByteArray) (l : List Int) : (oF f l).size = l.length := by rw [oF, strOfNums_size, List.length_map]
theorem Ak (f : ByteArray) (l : List Int) (c : Int) : oF f (l ++ [c]) = oF f l ++ strOfNums [bt f c] := by
 rw [oF, List.map_append, tZ]; rfl
theorem rz (f : ByteArray) (l : List Int) (hl : l.length ≤ 100000) (hf : f.size ≤ 1000000) (hc : ∀ c ∈ l, 0 ≤ c ∧ c < f.size) : Ev (fun k => bg.l0 k f (⟨#[]⟩ : ByteArray) l 0) (oF f l) := by
 refine iE (σ := ByteArray) (fun k a i => bg.l0 k f a l i) l.length (fun i a => a = oF f (l.take i)) (fun _ _ => oF f l) (fun a ha => ?_) (fun i a hi ha => .inr ⟨a ++ strOfNums [bt f l[i]], ?_, rfl, fun r hr => ?_⟩) 0 _ (Nat.zero_le _) rfl
 ·rw [List.take_length] at ha
  rw [← ak]
  simp only [bg.l0, Int.lt_irrefl, if_false, ha]
  exact aH _
 ·rw [ha, List.take_succ_eq_append_getElem hi, Ak]
 ·have hcc := hc _ (List.getElem_mem hi)
  have hx := y7 f hf l[i] hcc.1 hcc.2
  have ew : wrap64 (l[i] + 1) = l[i] + 1 := by unfold wrap64; omega
  have hz : (strOfNums [bt f l[i]]).size = 1 := by rw [strOfNums_size]; rfl
  have has : a.size ≤ 100000 := by rw [ha, tK, List.length_take]; omega
  rw [← ak]
  simp only [bg.l0, nH l i hi, bG (i := i) (by omega), hx]
  rw [ep, ep, ep hcc.1, ep, ep, ep]
  exact hr
theorem qG {R C : Int} {s f : ByteArray} (hf : jE R C s f = true) (i : Nat) (hi : i < (aV R C s).length) : Ev (fun k => bg.f k R C s f i) (oF f (dG C (aV R C s)[i])) := by
 obtain ⟨good, hnd, hlen⟩ := dV R C s
 obtain ⟨hg, hfs, _⟩ := mF hf
 have hsz := fV hg
 have hm := List.getElem_mem hi
 have ok := good _ hm
 have e : wrap64 (((aV R C s).length : Int) - 1) = (aV R C s).length - 1 := j6 (by omega) (by omega)
 unfold bg.f
 rw [au (iF R C s), au (lS R C s f), ep hf]
 simp only [mZ, Option.bind_some, e]
 rw [← ak]
 simp only [bg.j0, kU _ i hi]
 rw [en (by simp; omega), ep, ep, au (mJ _ hm)]
 exact rz f _ (by rw [gB]; have := ok.2.2.2.1; omega) (by omega) (fun c hc => by have := qw ok c hc; omega)
theorem rQ (f : ByteArray) (l : List Int) (hl : l.length ≤ 100000) (hc : ∀ c ∈ l, 0 ≤ c ∧ c < f.size) : Ev (fun k => dZ.f k f l) (oF f l) := by
 unfold dZ.f
 refine iE (σ := List Int) (fun k a i => dZ.l0 k f a l (l.length : Int) i) l.length (fun i a => a = (l.take i).map (bt f)) (fun _ _ => oF f l) (fun a ha => ?_) (fun i a hi ha => .inr ⟨a ++ [bt f l[i]], ?_, rfl, fun r hr => ?_⟩) 0 _ (Nat.zero_le _) rfl
 ·rw [List.take_length] at ha
  rw [← ak]
  simp only [dZ.l0, Int.lt_irrefl, if_false, ha]
  exact aH _
 ·rw [ha, List.take_succ_eq_append_getElem hi, List.map_append]; rfl
 ·have hcc := hc _ (List.getElem_mem hi)
  have has : a.length ≤ 100000 := by rw [ha, List.length_map, List.length_take]; omega
  rw [← ak]
  simp only [dZ.l0, nH l i hi, bG (i := i) (by omega)]
  rw [ep, ep, ep, ep hcc.1, ep hcc.2, ep]
  exact hr
noncomputable def mI (R C : Int) (s f : ByteArray) : List ByteArray := if jE R C s f = true then (aV R C s).map (fun x => oF f (dG C x)) else []
theorem xG (R C : Int) (s f : ByteArray) : (mI R C s f).length ≤ 72 := by
 have := (dV R C s).2.2
 unfold mI
 split <;> simp; omega
theorem tN (R C : Int) (s f : ByteArray) : Ev (fun k => fA.f k R C s f) (mI R C s f) := by
 unfold fA.f mI
 rw [au (qh R C s f), aA]
 split
 ·rename_i hf
  obtain ⟨good, hnd, hlen⟩ := dV R C s
  obtain ⟨hg, hfs, _⟩ := mF hf
  rw [au (l5 R C s)]
  have hll : ((aV R C s).map (dG C)).length = (aV R C s).length := List.length_map _
  refine fQ (jf (fun k a i => fA.l0 k f a ((aV R C s).map (dG C)) (((aV R C s).map (dG C)).length : Int) i) ((aV R C s).map (dG C)) (fun l => [oF f l]) 0 (fun a => ?_) (fun i hi a ha r hr => ?_)) (by rw [← List.map_eq_flatMap, List.map_map]; rfl)
  ·rw [← ak]; simp only [fA.l0, Int.lt_irrefl, if_false]; exact aH _
  ·have hb := mD (fun l : List Int => [oF f l]) 1 i ((aV R C s).map (dG C)) (fun _ _ => by simp)
   have hi' : i < (aV R C s).length := by omega
   have ok := good _ (List.getElem_mem hi')
   have hL : ((aV R C s).map (dG C))[i] = dG C (aV R C s)[i] := List.getElem_map _
   have hr1 := rQ f ((aV R C s).map (dG C))[i] (by rw [hL, gB]; have := ok.2.2.2.1; omega) (fun c hc => by rw [hL] at hc; have := qw ok c hc; omega)
   rw [← ak]
   simp only [fA.l0, zy _ i hi, bG (i := i) (by omega)]
   rw [ep, ep, ep, au hr1, ep]
   exact hr
 ·exact aH _
theorem oN (f : ByteArray) (hf : f.size < 4611686018427387904) : Ev (fun k => fD.f k f) ((bytesOf f).any (fun c => c == 63)) := by
 refine nu (fun k i => fD.l0 k f i) (bytesOf f) _ ?_ (fun i hi hp r hr => ?_) (fun i hi hp => ?_)
 ·rw [← ak]; simp [fD.l0, bytesOf_length, aH]
 ·have hi' : i < f.size := by rw [bytesOf_length] at hi; exact hi
  rw [← ak]
  simp only [beq_eq_false_iff_ne] at hp
  simp only [fD.l0, lH f i hi', bG (i := i) (by omega)]
  rw [ep, ep, en hp]
  exact hr
 ·have hi' : i < f.size := by rw [bytesOf_length] at hi; exact hi
  rw [← ak]
  simp only [beq_iff_eq] at hp
  simp only [fD.l0, lH f i hi', bG (i := i) (by omega)]
  rw [ep, ep, ep hp]
  exact aH _
def xX (f : ByteArray) : Int := ((bytesOf f).countP (fun c => c == 63) : Nat)
theorem uG (f : ByteArray) : (xX f == 0) = !((bytesOf f).any (fun c => c == 63)) := by
 unfold xX
 rw [Bool.eq_iff_iff]
 simp [List.countP_eq_zero]
theorem pF (f : ByteArray) (hf : f.size < 4611686018427387904) : Ev (fun k => fE.f k f) (xX f) := by
 have hbl := bytesOf_length f
 have := iE (σ := Nat) (fun k a i => fE.l0 k f (a : Int) (f.size : Int) i) (bytesOf f).length (fun i a => a ≤ i) (fun i a => ((a + ((bytesOf f).drop i).countP (fun c => c == 63) : Nat) : Int)) (fun a ha => ?_) (fun i a hi ha => ?_) 0 0 (Nat.zero_le _) (Nat.le_refl _)
 ·unfold fE.f xX
  simpa using this
 ·rw [← ak]
  simp only [fE.l0, List.drop_length, List.countP_nil, Nat.add_zero]
  rw [en]
  exact aH _
 ·have hi' : i < f.size := by omega
  rw [List.drop_eq_getElem_cons hi, List.countP_cons]
  have ew : wrap64 ((a : Int) + 1) = ((a + 1 : Nat) : Int) := bG (by omega)
  by_cases h : (bytesOf f)[i] = 63
  ·refine .inr ⟨a + 1, by omega, by simp [h]; omega, fun r hr => ?_⟩
   rw [← ak]
   simp only [fE.l0, lH f i hi', bG (i := i) (by omega), ew]
   rw [ep, ep, ep, ep h]
   exact hr
  ·refine .inr ⟨a, by omega, by simp [h], fun r hr => ?_⟩
   rw [← ak]
   simp only [fE.l0, lH f i hi', bG (i := i) (by omega), ew]
   rw [ep, ep, ep, en h]
   exact hr
def oD (R C : Int) (s f : ByteArray) : Bool := jE R C s f && !((bytesOf f).any (fun c => c == 63))
theorem sD {R C : Int} {s f : ByteArray} (h : jE R C s f = true) : 4 ≤ f.size ∧ f.size ≤ 36 := by
 obtain ⟨h1, h2, _⟩ := mF h
 have := fV h1
 omega
theorem wK (R C : Int) (s f : ByteArray) : Ev (fun k => kN.f k R C s f) (oD R C s f) := by
 unfold kN.f oD
 rw [au (lS R C s f), aA]
 by_cases h : jE R C s f = true
 ·have := sD h
  rw [if_pos h, au (oN f (by omega)), h, Bool.true_and]
  exact aH _
 ·rw [if_neg h]
  exact fQ (aH _) (by simp [h])
theorem vO (R C : Int) (s f : ByteArray) : Ev (fun k => kQ.f k R C s f) (oD R C s f) := by
 unfold kQ.f oD
 rw [au (qh R C s f), aA]
 by_cases h : jE R C s f = true
 ·have := sD h
  rw [if_pos h, au (pF f (by omega)), h, Bool.true_and, ← uG]
  exact aH _
 ·rw [if_neg h]
  exact fQ (aH _) (by simp [h])
theorem uz {α : Type} (q : α → Bool) (l : List α) : l.flatMap (fun s => if q s = true then [s] else []) = l.filter q := by
 induction l with
 | nil => rfl
 | cons x l ih => rw [List.flatMap_cons, ih, List.filter_cons]; split <;> simp
theorem xJ {α β : Type} (f : α → List β) (h : ∀ x, (f x).length ≤ 1) (l : List α) : (l.flatMap f).length ≤ l.length := by
 induction l with
 | nil => simp
 | cons x l ih => have := h x; simp only [List.flatMap_cons, List.length_append, List.length_cons]; omega
theorem qU (l : List ByteArray) (p : Nat → ByteArray → Option Bool) (q : ByteArray → Bool) (hl : l.length ≤ 8796093022208) (hp : ∀ s ∈ l, Ev (fun k => p k s) (q s)) : Ev (fun k => fU.f k l p) (l.filter q) := by
 rw [← uz]
 refine jf (fun k x i => fU.l0 k p x l (l.length : Int) i) l (fun s => if q s = true then [s] else []) 0 (fun x => ?_) (fun i hi x hx r hr => ?_)
 ·rw [← ak]; simp [fU.l0, aH]
 ·have hx' := xJ (fun s => if q s = true then [s] else []) (fun x => by split <;> simp) (l.take i)
  rw [List.length_take] at hx'
  rw [← ak]
  simp only [fU.l0, jo ByteArray.empty l i hi, bG (i := i) (by omega)]
  rw [ep, ep, ep, au (hp _ (List.getElem_mem hi)), aA]
  split
  ·rename_i hq
   rw [if_pos hq] at hr
   rw [ep]
   exact hr
  ·rename_i hq
   rw [if_neg hq, List.append_nil] at hr
   exact hr
theorem Bb (R C : Int) (s : ByteArray) (a : Int) (hs : s.size ≤ 140737488351232) (h0 : 0 ≤ a) (h1 : a ≤ 1048576) : ∃ r, kG.f R C s a = some r ∧ r ≤ 1048576 := by
 unfold kG.f
 rw [j6 (by omega) (by omega)]
 split
 ·exact ⟨_, rfl, by omega⟩
 ·exact ⟨_, rfl, by omega⟩
theorem zK (l : List S68) (hl : l.length < 4611686018427387904) (hs : ∀ x ∈ l, x.f1.length < 4611686018427387904 ∧ ∀ y ∈ x.f1, y.f1.size ≤ 140737488351232) (a : Int) (ha : 0 ≤ a) (ha' : a ≤ 1048576) : ∃ r, Ev (fun k => fJ.f k l a) r ∧ r ≤ 1048576 := by
 unfold fJ.f
 have w1 : wrap64 (a - (l.length : Int)) = a - l.length := j6 (by omega) (by omega)
 simp only [aA, eY, w1]
 by_cases h : a - (l.length : Int) < 0
 ·exact ⟨-1, by simp [h]⟩
 ·simp only [h, if_false]
  refine qo (fun k b i => fJ.l0 k l b i) l 1048576 (fun b => ?_) (fun i hi b hb hb' => ?_) _ (by omega) (by omega)
  ·rw [← ak]
   simp only [fJ.l0]
   rw [en]
   exact aH _
  ·have hsz := hs _ (List.getElem_mem hi)
   obtain ⟨r, hr, hrb⟩ := AQ l[i].f0 l[i].f1 hsz.1 hsz.2 b hb hb'
   by_cases h2 : r < 0
   ·refine .inl ?_
    rw [← ak]
    simp only [fJ.l0, zO l i hi]
    rw [ep, ep, au hr, ep h2]
    exact aH _
   ·refine .inr ⟨r, by omega, hrb, fun q hq => ?_⟩
    rw [← ak]
    simp only [fJ.l0, zO l i hi, bG (i := i) (by omega)]
    rw [ep, ep, au hr, en h2]
    exact hq
def nO (x : S68) : S82 := ⟨x.f0, x.f1.map toStep⟩
theorem zC (l : List S68) (hl : l.length ≤ 8796093022208) (hs : ∀ x ∈ l, x.f1.length ≤ 3518437208883) : Ev (fun k => dR.f k l) (l.map nO) := by
 unfold dR.f
 rw [ep, ep]
 refine qC (fun k s i => dR.l0 k l s i) l nO z82 (fun s hs => ?_) (fun i hi s hs' r hr => ?_)
 ·rw [← ak]
  simp [dR.l0, aH]
 ·rw [← ak]
  simp only [dR.l0, zO l i hi, bG (i := i) (by omega)]
  rw [ep, ep, au (AZ _ _ (hs _ (List.getElem_mem hi))), ep]
  exact hr
theorem zo (l : List S82) (hl : l.length < 4611686018427387904) (hs : ∀ x ∈ l, x.f1.length < 4611686018427387904) : Ev (fun k => dB.f k l l) true := by
 unfold dB.f
 rw [ep rfl]
 refine fQ (lg (fun k i => dB.l0 k l l i) l (fun _ => true) ?_ (fun i hi hp r hr => ?_) (fun i hi hp => by cases hp)) (by simp)
 ·rw [← ak]; simp [dB.l0, aH]
 ·rw [← ak]
  simp only [dB.l0, vK l i hi, bG (i := i) (by omega)]
  rw [ep, ep, ep, au (AV _ _ (hs _ (List.getElem_mem hi))), ep rfl]
  exact hr
def za (s : ByteArray) : ByteArray := if gM s = true then s.extract 0 1 else (⟨#[]⟩ : ByteArray)
theorem wo (s : ByteArray) : Ev (fun k => jT.f k s) (za s) := by
 unfold jT.f za
 rw [au (gY s), aA]
 split
 ·rename_i h
  have := fZ h
  rw [ep, ep]
  exact aH _
 ·exact aH _
theorem vX (s : ByteArray) : Ev (fun k => jV.f k s) (za s) := by
 unfold jV.f za
 rw [au (gZ s), aA]
 split
 ·rename_i h
  have := fZ h
  rw [ep, ep]
  exact aH _
 ·exact aH _
theorem zR (a b : List Int) : strOfNums (a ++ b) = strOfNums a ++ strOfNums b := by
 refine ByteArray.ext (Array.toList_inj.1 ?_)
 rw [ByteArray.data_append, Array.toList_append, strOfNums_data, strOfNums_data, strOfNums_data, List.map_append]
theorem yZ (s : ByteArray) (i : Nat) (h : i < s.size) : s.extract i (i + 1) = strOfNums [(bytesOf s)[i]'(by rw [bytesOf_length]; exact h)] := by
 have hd : i < s.data.toList.length := by rw [Array.length_toList]; exact h
 refine ByteArray.ext (Array.toList_inj.1 ?_)
 rw [strOfNums_data, ByteArray.data_extract, Array.toList_extract, List.extract_eq_drop_take', List.drop_take, List.drop_eq_getElem_cons hd]
 simp [bytesOf]
def uM (s : ByteArray) : ByteArray := strOfNums (bytesOf s).reverse
theorem ql (s : ByteArray) : (uM s).size = s.size := by rw [uM, strOfNums_size, List.length_reverse, bytesOf_length]
theorem nR (s : ByteArray) (hs : s.size ≤ 100) : Ev (fun k => dM.f k s) (uM s) := by
 unfold dM.f
 refine iE (σ := ByteArray) (fun k a i => dM.l0 k s a i) s.size (fun i a => a = strOfNums ((bytesOf s).take i).reverse) (fun _ _ => uM s) (fun a ha => ?_) (fun i a hi ha => ?_) 0 _ (Nat.zero_le _) rfl
 ·rw [List.take_of_length_le (by rw [bytesOf_length]; exact Nat.le_refl _)] at ha
  rw [← ak]
  simp only [dM.l0, Int.lt_irrefl, if_false, ha]
  exact aH _
 ·have hb : i < (bytesOf s).length := by rw [bytesOf_length]; exact hi
  refine .inr ⟨strOfNums [(bytesOf s)[i]] ++ a, ?_, rfl, fun r hr => ?_⟩
  ·rw [List.take_succ_eq_append_getElem hb, List.reverse_append, zR, ha]
   rfl
  ·have h1 : (strOfNums [(bytesOf s)[i]]).size = 1 := by rw [strOfNums_size]; rfl
   have h2 : a.size ≤ 100 := by rw [ha, strOfNums_size, List.length_reverse, List.length_take]; omega
   rw [← ak]
   simp only [dM.l0, bG (i := i) (by omega), Int.toNat_natCast, yZ s i hi]
   rw [ep, ep, ep, ep, ep, ep]
   exact hr
theorem nM (s : ByteArray) (hs : s.size ≤ 100) : gJ.f s = some (uM s) := by
 unfold gJ.f uM
 rw [if_pos hs]
def xK (s : ByteArray) : ByteArray := strOfNums ((bytesOf s).mergeSort (fun x y => decide (x ≤ y)))
def bucket (xs : List Int) (c : Nat) : List Int := xs.filter (fun b => decide (b = 97 + (c : Int)))
theorem sS (xs : List Int) (a : Int) : ∀ n : Nat, List.count a ((List.range n).flatMap (bucket xs)) = if 97 ≤ a ∧ a < 97 + (n : Int) then List.count a xs else 0
 | 0 => by rw [if_neg (by omega)]; rfl
 | n + 1 => by
  rw [List.range_succ, List.flatMap_append, List.count_append, sS xs a n]
  have hb : List.count a (([n] : List Nat).flatMap (bucket xs)) = if a = 97 + (n : Int) then List.count a xs else 0 := by
   simp only [List.flatMap_cons, List.flatMap_nil, List.append_nil, bucket]
   split
   ·rename_i h
    exact List.count_filter (by simpa using h)
   ·rename_i h
    refine List.count_eq_zero.2 (fun hm => h ?_)
    have := (List.mem_filter.1 hm).2
    simpa using this
  rw [hb]
  by_cases h1 : a = 97 + (n : Int)
  ·rw [if_pos h1, if_neg (by omega), if_pos (by omega)]
   omega
  ·rw [if_neg h1]
   by_cases h2 : 97 ≤ a ∧ a < 97 + (n : Int)
   ·rw [if_pos h2, if_pos (by omega)]
    omega
   ·rw [if_neg h2, if_neg (by omega)]
theorem wT (xs : List Int) (h : ∀ x ∈ xs, 97 ≤ x ∧ x ≤ 122) : (List.range 26).flatMap (bucket xs) = xs.mergeSort (fun x y => decide (x ≤ y)) := by
 have hperm : ((List.range 26).flatMap (bucket xs)).Perm xs := by
  rw [List.perm_iff_count]
  intro a
  rw [sS]
  split
  ·rfl
  ·rename_i hn
   refine (List.count_eq_zero.2 (fun hm => hn ?_)).symm
   have := h a hm
   omega
 refine List.Perm.eq_of_pairwise (le := fun x y => decide (x ≤ y) = true) ?_ ?_ ?_ (hperm.trans (List.mergeSort_perm _ _).symm)
 ·intro a b _ _ h1 h2
  have h1 := of_decide_eq_true h1
  have h2 := of_decide_eq_true h2
  omega
 ·rw [List.pairwise_flatMap]
  refine ⟨fun c _ => ?_, ?_⟩
  ·rw [List.pairwise_iff_getElem]
   intro i j hi hj _
   have e1 := (List.mem_filter.1 (List.getElem_mem hi)).2
   have e2 := (List.mem_filter.1 (List.getElem_mem hj)).2
   have e1 := of_decide_eq_true e1
   have e2 := of_decide_eq_true e2
   exact decide_eq_true (by omega)
  ·refine List.Pairwise.imp ?_ (List.pairwise_lt_range (n := 26))
   intro a b hab x hx y hy
   have e1 := of_decide_eq_true (List.mem_filter.1 hx).2
   have e2 := of_decide_eq_true (List.mem_filter.1 hy).2
   exact decide_eq_true (by omega)
 ·refine List.pairwise_mergeSort ?_ ?_ _
  ·intro a b c h1 h2
   have h1 := of_decide_eq_true h1
   have h2 := of_decide_eq_true h2
   exact decide_eq_true (by omega)
  ·intro a b
   by_cases h : a ≤ b
   ·simp [h]
   ·have : b ≤ a := by omega
    simp [this]
theorem mQ (s : ByteArray) (hw : gM s = true) : Ev (fun k => aT.f k s) (xK s) := by
 have hsz := fZ hw
 have hlet := vF hw
 have hlen : (bytesOf s).length = s.size := bytesOf_length s
 unfold aT.f xK
 rw [← wT (bytesOf s) hlet]
 have hinner : ∀ (c : Nat) (a : ByteArray) (r : ByteArray), c < 26 → a.size ≤ 1000 → Ev (fun k => aT.l0 k s (a ++ strOfNums (bucket (bytesOf s) c)) (97 + ((c + 1 : Nat) : Int))) r → Ev (fun k => aT.l1 k s a (97 + (c : Int)) 0) r := by
  intro c a r hc ha hr
  refine iE (σ := ByteArray) (fun k b j => aT.l1 k s b (97 + (c : Int)) j) s.size (fun j b => b = a ++ strOfNums (bucket ((bytesOf s).take j) c)) (fun _ _ => r) (fun b hb => ?_) (fun j b hj hb => ?_) 0 _ (Nat.zero_le _) (by simp [bucket, strOfNums]; exact (ByteArray.append_empty (b := a)).symm)
  ·rw [List.take_of_length_le (by omega)] at hb
   have e : wrap32 (97 + (c : Int) + 1) = 97 + ((c + 1 : Nat) : Int) := by unfold wrap32; omega
   rw [← ak]
   simp only [aT.l1, e, Int.lt_irrefl, if_false, hb]
   exact hr
  ·have hj' : j < (bytesOf s).length := by omega
   have hx := hlet _ (List.getElem_mem hj')
   have hsb : b.size ≤ 1000 + j := by
    rw [hb, ByteArray.size_append, strOfNums_size, bucket]
    have := List.length_filter_le (fun b => decide (b = 97 + (c : Int))) ((bytesOf s).take j)
    rw [List.length_take] at this
    omega
   have e : wrap32 (bt s (j : Int)) = (bytesOf s)[j] := by rw [lH s j hj]; unfold wrap32; omega
   have htk : bucket ((bytesOf s).take (j + 1)) c = bucket ((bytesOf s).take j) c ++ (if (bytesOf s)[j] = 97 + (c : Int) then [(bytesOf s)[j]] else []) := by
    rw [List.take_succ_eq_append_getElem hj', bucket, bucket, List.filter_append, List.filter_cons, List.filter_nil]
    simp only [decide_eq_true_eq]
   refine .inr ⟨a ++ strOfNums (bucket ((bytesOf s).take (j + 1)) c), rfl, rfl, fun q hq => ?_⟩
   rw [← ak]
   simp only [aT.l1, e, bG (i := j) (by omega), Int.toNat_natCast, yZ s j hj]
   rw [ep, ep, aA]
   rw [htk, zR, ← ByteArray.append_assoc, ← hb] at hq
   split
   ·rename_i h1
    rw [if_pos h1] at hq
    rw [ep, ep, ep (by rw [strOfNums_size]; simp; omega)]
    exact hq
   ·rename_i h1
    rw [if_neg h1, show strOfNums ([] : List Int) = ByteArray.empty from rfl, ByteArray.append_empty] at hq
    exact hq
 refine iE (σ := ByteArray) (fun k a i => aT.l0 k s a (97 + i)) 26 (fun i a => a = strOfNums ((List.range i).flatMap (bucket (bytesOf s))) ∧ a.size ≤ 8 * i) (fun _ _ => strOfNums ((List.range 26).flatMap (bucket (bytesOf s)))) (fun a ha => ?_) (fun i a hi ha => ?_) 0 _ (Nat.zero_le _) ⟨rfl, Nat.le_refl _⟩
 ·rw [← ak]
  simp only [aT.l0]
  rw [en, ← ak]
  simp only [aT.j1, Bool.false_eq_true, if_false, ha.1]
  exact aH _
 ·have hbl : (bucket (bytesOf s) i).length ≤ 8 := by
   rw [bucket]
   have := List.length_filter_le (fun b => decide (b = 97 + (i : Int))) (bytesOf s)
   omega
  refine .inr ⟨a ++ strOfNums (bucket (bytesOf s) i), ⟨?_, ?_⟩, rfl, fun r hr => ?_⟩
  ·rw [List.range_succ, List.flatMap_append, zR, ← ha.1]
   simp only [List.flatMap_cons, List.flatMap_nil, List.append_nil]
  ·have := ha.2
   rw [ByteArray.size_append, strOfNums_size]
   omega
  ·rw [← ak]
   simp only [aT.l0]
   rw [ep, au (gY s), hw, ← ak]
   simp only [aT.j1, if_true]
   exact hinner i a r hi (by have := ha.2; omega) hr
theorem mR (s : ByteArray) (hw : gM s = true) : Ev (fun k => ig.f k s) (xK s) := by
 have hsz := fZ hw
 unfold ig.f xK
 rw [au (gZ s), hw, ep rfl, ep, Go.Proofs.YtnfiedfaaaphoaaGreat.HandSort.Bd]
 exact aH _
def uZ (a b : ByteArray) : Bool := if gM a = true then (if gM b = true then (if a = b then false else decide (xK a = xK b)) else false) else false
theorem pU (a b : ByteArray) : Ev (fun k => gN.f k a b) (uZ a b) := by
 unfold gN.f uZ
 rw [au (gY a), aA]
 split
 ·rename_i h1
  rw [au (gY b), aA]
  split
  ·rename_i h2
   simp only [toList_eq, aA]
   split
   ·exact aH _
   ·rw [au (mQ a h1), au (mQ b h2), jv]
    exact aH _
  ·exact aH _
 ·exact aH _
theorem pO (a b : ByteArray) : Ev (fun k => gL.f k a b) (uZ a b) := by
 unfold gL.f uZ
 rw [au (gZ a), aA]
 split
 ·rename_i h1
  rw [au (gZ b), aA]
  split
  ·rename_i h2
   simp only [toList_eq, aA]
   split
   ·exact aH _
   ·rw [au (mR a h1), au (mR b h2), jv]
    exact aH _
  ·exact aH _
 ·exact aH _
def sG (s : ByteArray) : ByteArray := if gM s = true then s.extract 1 s.size else (⟨#[]⟩ : ByteArray)
theorem qI (s : ByteArray) : Ev (fun k => iy.f k s) (sG s) := by
 unfold iy.f sG
 rw [au (gY s), aA]
 split
 ·rename_i h
  have := fZ h
  rw [ep]
  exact aH _
 ·exact aH _
theorem qH (s : ByteArray) : Ev (fun k => iq.f k s) (sG s) := by
 unfold iq.f sG
 rw [au (gZ s), aA]
 split
 ·rename_i h
  have := fZ h
  rw [ep]
  exact aH _
 ·exact aH _
def sV (s : ByteArray) : ByteArray := if gM s = true then s.extract 0 (s.size - 1) else (⟨#[]⟩ : ByteArray)
theorem qL (s : ByteArray) : Ev (fun k => iw.f k s) (sV s) := by
 unfold iw.f sV
 rw [au (gY s), aA]
 split
 ·rename_i h
  have := fZ h
  have e : wrap64 ((s.size : Int) - 1) = ((s.size - 1 : Nat) : Int) := by rw [j6 (by omega) (by omega)]; omega
  rw [e, ep, ep]
  exact aH _
 ·exact aH _
theorem qK (s : ByteArray) : Ev (fun k => iA.f k s) (sV s) := by
 unfold iA.f sV
 rw [au (gZ s), aA]
 split
 ·rename_i h
  have := fZ h
  have e : wrap64 ((s.size : Int) - 1) = ((s.size - 1 : Nat) : Int) := by rw [j6 (by omega) (by omega)]; omega
  rw [e, ep, ep]
  exact aH _
 ·exact aH _
theorem nN (L : Nat → Int → Option Bool) (n b : Nat) (f : Nat → Bool) (R : Bool) (hend : ∀ i : Nat, n ≤ i → i ≤ n + b → Ev (fun k => L k (i : Int)) R)
  (hstep : ∀ i : Nat, b ≤ i → i < n → ∀ r, Ev (fun k => L k ((i + 1 : Nat) : Int)) r → Ev (fun k => L k (i : Int)) (f i || r)) : ∀ a : Nat, b ≤ a → a ≤ n + b → Ev (fun k => L k (a : Int)) ((List.range' a (n - a)).any f || R) := by
 have key : ∀ d a : Nat, n - a = d → b ≤ a → a ≤ n + b → Ev (fun k => L k (a : Int)) ((List.range' a d).any f || R) := by
  intro d
  induction d with
  | zero =>
   intro a h hb ha
   exact fQ (hend a (by omega) ha) (by simp)
  | succ d ih =>
   intro a h hb ha
   have := hstep a hb (by omega) _ (ih (a + 1) (by omega) (by omega) (by omega))
   rw [List.range'_succ, List.any_cons, Bool.or_assoc]
   exact this
 intro a hb ha
 exact key _ a rfl hb ha
def sW (p w : ByteArray) : Bool := if gM p = true then (if gM w = true then (List.range' 1 (w.size - p.size - 1)).any (fun i => decide (w.extract i (i + p.size) = p)) else false) else false
theorem uo (p w : ByteArray) : Ev (fun k => cK.f k p w) (sW p w) := by
 unfold cK.f sW
 rw [au (gY p), aA]
 split
 ·rename_i h1
  rw [au (gY w), ← ak]
  simp only [cK.j0]
  rw [aA]
  by_cases h2 : gM w = true
  ·have s1 := fZ h1
   have s2 := fZ h2
   rw [if_neg (by rw [h2]; decide), if_pos h2]
   have e : ∀ i : Nat, i ≤ 20 → wrap64 ((i : Int) + (p.size : Int)) = ((i + p.size : Nat) : Int) := fun i hi => by rw [j6 (by omega) (by omega)]; omega
   refine fQ (nN (fun k i => cK.l0 k p w i) (w.size - p.size) 1 _ false (fun i hi hi' => ?_) (fun i hb hi r hr => ?_) 1 (Nat.le_refl _) (by omega)) (by rw [Bool.or_false])
   ·rw [← ak]
    simp only [cK.l0, e i (by omega)]
    rw [en]
    exact aH _
   ·rw [← ak]
    simp only [cK.l0, e i (by omega), bG (i := i) (by omega), Int.toNat_natCast, toList_eq]
    rw [ep, ep, ep, ep, aA]
    split
    ·rename_i h3
     rw [decide_eq_true h3, Bool.true_or]
     exact aH _
    ·rename_i h3
     rw [decide_eq_false h3, Bool.false_or]
     exact hr
  ·rw [if_pos (by simpa using h2), if_neg h2]
   exact aH _
 ·rw [← ak]
  simp only [cK.j0, if_true]
  exact aH _
theorem ug (p w : ByteArray) : Ev (fun k => cB.f k p w) (sW p w) := by
 unfold cB.f sW
 rw [au (gZ p), aA]
 split
 ·rename_i h1
  rw [au (gZ w), ← ak]
  simp only [cB.j0]
  rw [aA]
  by_cases h2 : gM w = true
  ·have s1 := fZ h1
   have s2 := fZ h2
   rw [if_neg (by rw [h2]; decide), if_pos h2]
   have e : ∀ i : Nat, i ≤ 20 → wrap64 ((i : Int) + (p.size : Int)) = ((i + p.size : Nat) : Int) := fun i hi => by rw [j6 (by omega) (by omega)]; omega
   refine fQ (nN (fun k i => cB.l0 k p w i) (w.size - p.size) 1 _ false (fun i hi hi' => ?_) (fun i hb hi r hr => ?_) 1 (Nat.le_refl _) (by omega)) (by rw [Bool.or_false])
   ·rw [← ak]
    simp only [cB.l0, e i (by omega)]
    rw [en]
    exact aH _
   ·rw [← ak]
    simp only [cB.l0, e i (by omega), bG (i := i) (by omega), Int.toNat_natCast, toList_eq]
    rw [ep, ep, ep, ep, aA]
    split
    ·rename_i h3
     rw [decide_eq_true h3, Bool.true_or]
     exact aH _
    ·rename_i h3
     rw [decide_eq_false h3, Bool.false_or]
     exact hr
  ·rw [if_pos (by simpa using h2), if_neg h2]
   exact aH _
 ·rw [← ak]
  simp only [cB.j0, if_true]
  exact aH _
theorem yE {Q : Nat → Nat → Prop} (n : Nat) (h : ∀ p, p < n → ∃ K, ∀ k, K ≤ k → Q p k) : ∃ K, ∀ p, p < n → ∀ k, K ≤ k → Q p k := by
 induction n with
 | zero => exact ⟨0, fun p hp => absurd hp (Nat.not_lt_zero _)⟩
 | succ n ih =>
  obtain ⟨K, hK⟩ := ih (fun p hp => h p (by omega))
  obtain ⟨K', hK'⟩ := h n (by omega)
  refine ⟨max K K', fun p hp k hk => ?_⟩
  by_cases e : p = n
  ·subst e
   exact hK' k (by omega)
  ·exact hK p (by omega) k (by omega)
theorem Ba (M M' : Nat → List bZ → Int → ByteArray → Option Bool) (l : List bZ) (s : ByteArray) (a0 : Int) (a1 : ByteArray) (a2 a3 : Int) (hs : s.size ≤ 100)
  (h : ∀ j p, 1 ≤ p → p < s.size → M j l a2 (s.extract 0 p) = M' j l a2 (s.extract 0 p) ∧ M j l a3 (s.extract p s.size) = M' j l a3 (s.extract p s.size)) :
  ∀ (k x : Nat), 1 ≤ x → x ≤ 100 → bT.l0 M k l s (x : Int) a0 a1 a2 a3 = bT.l0 M' k l s (x : Int) a0 a1 a2 a3 := by
 intro k
 induction k with
 | zero => intro x _ _; rfl
 | succ k ih =>
  intro x h1 h2
  simp only [bT.l0]
  by_cases hx : (x : Int) < (s.size : Int)
  ·have hp := h k x h1 (by omega)
   simp only [bG (i := x) (by omega), Int.toNat_natCast, hp.1, hp.2, ih (x + 1) (by omega) (by omega)]
  ·rw [if_neg hx, if_neg hx]
theorem uJ (l : List bZ) (s : ByteArray) (a0 : Int) (a1 : ByteArray) (a2 a3 : Int) (f g : ByteArray → Bool) (hs : s.size ≤ 8) (h1 : 1 ≤ s.size)
  (hf : ∀ p, 1 ≤ p → p < s.size → Ev (fun k => bM.f k l a2 (s.extract 0 p)) (f (s.extract 0 p)))
  (hg : ∀ p, 1 ≤ p → p < s.size → Ev (fun k => bM.f k l a3 (s.extract p s.size)) (g (s.extract p s.size))) :
  Ev (fun k => bT.f (fun _ => bM.f k) k l a0 a1 a2 a3 s) ((List.range' 1 (s.size - 1)).any (fun p => f (s.extract 0 p) && g (s.extract p s.size))) := by
 obtain ⟨K, hK⟩ := yE (Q := fun p k => 1 ≤ p → bM.f k l a2 (s.extract 0 p) = some (f (s.extract 0 p)) ∧ bM.f k l a3 (s.extract p s.size) = some (g (s.extract p s.size))) s.size (fun p hp => by
  by_cases h : 1 ≤ p
  ·obtain ⟨K1, k1⟩ := hf p h hp
   obtain ⟨K2, k2⟩ := hg p h hp
   exact ⟨max K1 K2, fun k hk _ => ⟨k1 k (by omega), k2 k (by omega)⟩⟩
  ·exact ⟨0, fun _ _ h' => absurd h' h⟩)
 let M' : Nat → List bZ → Int → ByteArray → Option Bool := fun _ => bM.f K
 have hM' : ∀ p, 1 ≤ p → p < s.size → M' 0 l a2 (s.extract 0 p) = some (f (s.extract 0 p)) ∧ M' 0 l a3 (s.extract p s.size) = some (g (s.extract p s.size)) := fun p h hp => hK p hp K (Nat.le_refl _) h
 have hev : Ev (fun k => bT.l0 M' k l s 1 a0 a1 a2 a3) ((List.range' 1 (s.size - 1)).any (fun p => f (s.extract 0 p) && g (s.extract p s.size))) := by
  refine fQ (nN (fun k i => bT.l0 M' k l s i a0 a1 a2 a3) s.size 1 _ false (fun i hi hi' => ?_) (fun i hb hi r hr => ?_) 1 (Nat.le_refl _) (by omega)) (by rw [Bool.or_false])
  ·rw [← ak]
   simp only [bT.l0]
   rw [en]
   exact aH _
  ·have hm := hM' i hb hi
   have hm1 : ∀ k, M' k l a2 (s.extract 0 i) = some (f (s.extract 0 i)) := fun k => hm.1
   have hm2 : ∀ k, M' k l a3 (s.extract i s.size) = some (g (s.extract i s.size)) := fun k => hm.2
   rw [← ak]
   simp only [bT.l0, bG (i := i) (by omega), Int.toNat_natCast, hm1, hm2, Option.bind_some]
   rw [ep, ep, ep, aA]
   split
   ·rename_i h3
    rw [h3, Bool.true_and, aA]
    split
    ·rename_i h4
     rw [h4, Bool.true_or]
     exact aH _
    ·rename_i h4
     rw [Bool.not_eq_true] at h4
     rw [h4, Bool.false_or]
     exact hr
   ·rename_i h3
    rw [Bool.not_eq_true] at h3
    rw [h3, Bool.false_and, Bool.false_or]
    exact hr
 obtain ⟨K2, hK2⟩ := hev
 refine ⟨max K K2, fun k hk => ?_⟩
 show bT.l0 _ k l s 1 a0 a1 a2 a3 = _
 have := Ba (fun _ => bM.f k) M' l s a0 a1 a2 a3 (by omega) (fun j p h hp => by
  have e1 := hK p hp k (by omega) h
  have e2 := hM' p h hp
  exact ⟨e1.1.trans e2.1.symm, e1.2.trans e2.2.symm⟩) k 1 (Nat.le_refl _) (by omega)
 rw [show ((1 : Nat) : Int) = 1 from rfl] at this
 rw [this]
 exact hK2 k (by omega)
theorem Cy (M M' : Nat → List bZ → Int → ByteArray → Option Bool) (l : List bZ) (s : ByteArray) (a0 : Int) (a1 : ByteArray) (a2 a3 : Int) (hs : s.size ≤ 100)
  (h : ∀ j p q, 1 ≤ p → p < q → q < s.size → M j l a3 (s.extract p q) = M' j l a3 (s.extract p q) ∧ M j l a2 (s.extract 0 p ++ s.extract q s.size) = M' j l a2 (s.extract 0 p ++ s.extract q s.size)) :
  ∀ k : Nat, (∀ x : Nat, 1 ≤ x → x ≤ 100 → bJ.l0 M k l s (x : Int) a0 a1 a2 a3 = bJ.l0 M' k l s (x : Int) a0 a1 a2 a3) ∧ (∀ x y : Nat, 1 ≤ x → x < y → x ≤ 100 → y ≤ 102 → bJ.l1 M k l s (x : Int) (y : Int) a0 a1 a2 a3 = bJ.l1 M' k l s (x : Int) (y : Int) a0 a1 a2 a3) := by
 intro k
 induction k with
 | zero => exact ⟨fun x _ _ => by simp only [bJ.l0], fun x y _ _ _ _ => by simp only [bJ.l1]⟩
 | succ k ih =>
  refine ⟨fun x h1 h2 => ?_, fun x y h1 h2 h3 h4 => ?_⟩
  ·simp only [bJ.l0, bG (i := x) (by omega)]
   by_cases hx : (x : Int) < (s.size : Int)
   ·rw [if_pos hx, if_pos hx, ih.2 x (x + 1) h1 (by omega) h2 (by omega)]
   ·rw [if_neg hx, if_neg hx]
  ·simp only [bJ.l1, bG (i := x) (by omega), bG (i := y) (by omega), Int.toNat_natCast]
   by_cases hy : (y : Int) < (s.size : Int)
   ·have hp := h k x y h1 h2 (by omega)
    simp only [hp.1, hp.2, ih.2 x (y + 1) h1 (by omega) h3 (by omega)]
    rw [if_pos hy, if_pos hy]
   ·rw [if_neg hy, if_neg hy]
    by_cases hx : x + 1 ≤ 100
    ·exact ih.1 (x + 1) (by omega) hx
    ·cases k with
     | zero => simp only [bJ.l0]
     | succ k =>
      simp only [bJ.l0]
      rw [if_neg (by omega), if_neg (by omega)]
theorem wW (l : List bZ) (s : ByteArray) (a0 : Int) (a1 : ByteArray) (a2 a3 : Int) (f g : ByteArray → Bool) (hs : s.size ≤ 8) (h1 : 1 ≤ s.size)
  (hg : ∀ p q, 1 ≤ p → p < q → q < s.size → Ev (fun k => bM.f k l a3 (s.extract p q)) (g (s.extract p q)))
  (hf : ∀ p q, 1 ≤ p → p < q → q < s.size → Ev (fun k => bM.f k l a2 (s.extract 0 p ++ s.extract q s.size)) (f (s.extract 0 p ++ s.extract q s.size))) :
  Ev (fun k => bJ.f (fun _ => bM.f k) k l a0 a1 a2 a3 s) ((List.range' 1 (s.size - 1)).any (fun p => (List.range' (p + 1) (s.size - (p + 1))).any (fun q => g (s.extract p q) && f (s.extract 0 p ++ s.extract q s.size)))) := by
 obtain ⟨K, hK⟩ := yE (Q := fun p k => ∀ q, q < s.size → 1 ≤ p → p < q → bM.f k l a3 (s.extract p q) = some (g (s.extract p q)) ∧ bM.f k l a2 (s.extract 0 p ++ s.extract q s.size) = some (f (s.extract 0 p ++ s.extract q s.size))) s.size (fun p hp => by
  obtain ⟨K, hK⟩ := yE (Q := fun q k => 1 ≤ p → p < q → bM.f k l a3 (s.extract p q) = some (g (s.extract p q)) ∧ bM.f k l a2 (s.extract 0 p ++ s.extract q s.size) = some (f (s.extract 0 p ++ s.extract q s.size))) s.size (fun q hq => by
   by_cases h : 1 ≤ p ∧ p < q
   ·obtain ⟨K1, k1⟩ := hg p q h.1 h.2 hq
    obtain ⟨K2, k2⟩ := hf p q h.1 h.2 hq
    exact ⟨max K1 K2, fun k hk _ _ => ⟨k1 k (by omega), k2 k (by omega)⟩⟩
   ·exact ⟨0, fun _ _ h' h'' => absurd ⟨h', h''⟩ h⟩)
  exact ⟨K, fun k hk q hq => hK q hq k hk⟩)
 let M' : Nat → List bZ → Int → ByteArray → Option Bool := fun _ => bM.f K
 have hM' : ∀ p q, 1 ≤ p → p < q → q < s.size → M' 0 l a3 (s.extract p q) = some (g (s.extract p q)) ∧ M' 0 l a2 (s.extract 0 p ++ s.extract q s.size) = some (f (s.extract 0 p ++ s.extract q s.size)) := fun p q h h' hq => hK p (by omega) K (Nat.le_refl _) q hq h h'
 have hev : Ev (fun k => bJ.l0 M' k l s 1 a0 a1 a2 a3) ((List.range' 1 (s.size - 1)).any (fun p => (List.range' (p + 1) (s.size - (p + 1))).any (fun q => g (s.extract p q) && f (s.extract 0 p ++ s.extract q s.size)))) := by
  refine fQ (nN (fun k i => bJ.l0 M' k l s i a0 a1 a2 a3) s.size 1 _ false (fun i hi hi' => ?_) (fun i hb hi r hr => ?_) 1 (Nat.le_refl _) (by omega)) (by rw [Bool.or_false])
  ·rw [← ak]
   simp only [bJ.l0]
   rw [en]
   exact aH _
  ·rw [← ak]
   simp only [bJ.l0, bG (i := i) (by omega)]
   rw [ep]
   refine nN (fun k j => bJ.l1 M' k l s (i : Int) j a0 a1 a2 a3) s.size (i + 1) _ r (fun j hj hj' => ?_) (fun j hjb hj q hq => ?_) (i + 1) (Nat.le_refl _) (by omega)
   ·rw [← ak]
    simp only [bJ.l1, bG (i := i) (by omega)]
    rw [en]
    exact hr
   ·have hm := hM' i j hb (by omega) hj
    have hm1 : ∀ k, M' k l a3 (s.extract i j) = some (g (s.extract i j)) := fun k => hm.1
    have hm2 : ∀ k, M' k l a2 (s.extract 0 i ++ s.extract j s.size) = some (f (s.extract 0 i ++ s.extract j s.size)) := fun k => hm.2
    have hz : (s.extract 0 i).size + (s.extract j s.size).size ≤ 9223372036854775807 := by simp only [ByteArray.size_extract]; omega
    rw [← ak]
    simp only [bJ.l1, bG (i := j) (by omega), Int.toNat_natCast, hm1, hm2, Option.bind_some]
    rw [ep, ep, ep, ep, aA]
    split
    ·rename_i h3
     have c1 : (i : Int) ≤ (s.size : Int) := by omega
     have c2 : (0 : Int) ≤ (j : Int) := by omega
     rw [h3, Bool.true_and]
     simp only [ep c1, if_pos c2, if_pos hz]
     split
     ·rename_i h4
      rw [h4, Bool.true_or]
      exact aH _
     ·rename_i h4
      rw [Bool.not_eq_true] at h4
      rw [h4, Bool.false_or]
      exact hq
    ·rename_i h3
     rw [Bool.not_eq_true] at h3
     rw [h3, Bool.false_and, Bool.false_or]
     exact hq
 obtain ⟨K2, hK2⟩ := hev
 refine ⟨max K K2, fun k hk => ?_⟩
 show bJ.l0 _ k l s 1 a0 a1 a2 a3 = _
 have := (Cy (fun _ => bM.f k) M' l s a0 a1 a2 a3 (by omega) (fun j p q h h' hq => by
  have e1 := hK p (by omega) k (by omega) q hq h h'
  have e2 := hM' p q h h' hq
  exact ⟨e1.1.trans e2.1.symm, e1.2.trans e2.2.symm⟩) k).1 1 (Nat.le_refl _) (by omega)
 rw [show ((1 : Nat) : Int) = 1 from rfl] at this
 rw [this]
 exact hK2 k (by omega)
def lV (l : List bZ) : Nat → Nat → ByteArray → Bool
 | 0, _, _ => false
 | n + 1, i, s =>
  if (aj l i).f0 = 1 then decide (s = (aj l i).f1)
  else if (aj l i).f0 = 2 then lV l n (aj l i).f2.toNat (uM s)
  else if (aj l i).f0 = 3 then uZ (aj l (aj l i).f2).f1 s
  else if (aj l i).f0 = 4 then (List.range' 1 (s.size - 1)).any (fun p => lV l n (aj l i).f2.toNat (s.extract 0 p) && lV l n (aj l i).f3.toNat (s.extract p s.size))
  else if (aj l i).f0 = 5 then (List.range' 1 (s.size - 1)).any (fun p => (List.range' (p + 1) (s.size - (p + 1))).any (fun q => lV l n (aj l i).f3.toNat (s.extract p q) && lV l n (aj l i).f2.toNat (s.extract 0 p ++ s.extract q s.size)))
  else if (aj l i).f0 = 6 then decide (s = za (aj l (aj l i).f2).f1)
  else if (aj l i).f0 = 7 then decide (s = sG (aj l (aj l i).f2).f1)
  else if (aj l i).f0 = 8 then decide (s = sV (aj l (aj l i).f2).f1)
  else sW s (aj l (aj l i).f2).f1
theorem sI (a b : ByteArray) : (a.toList == b.toList) = decide (b = a) := by
 rw [jv]
 by_cases h : a = b
 ·subst h; rfl
 ·rw [decide_eq_false h, decide_eq_false (fun e => h e.symm)]
theorem uq {l : List bZ} (hp : lD l = true) : ∀ (n i : Nat) (s : ByteArray), i < n → i < l.length → 1 ≤ s.size → s.size ≤ 8 → Ev (fun k => bM.f k l (i : Int) s) (lV l n i s) := by
 intro n
 induction n with
 | zero => intro i s h; exact absurd h (Nat.not_lt_zero _)
 | succ n ih =>
  intro i s hn hi h1 h8
  obtain ⟨o1, o2, o3, o4, o5, o6, o7, o8⟩ := sQ hi (su hp i hi)
  rw [← ak]
  simp only [bM.f, lV, rU l i hi]
  rw [ep, ep, aA]
  by_cases n1 : l[i].f0 = 1
  ·rw [if_pos n1, if_pos n1, sI]; exact aH _
  rw [if_neg n1, if_neg n1, aA]
  have oA := o3 n1
  have eA : l[i].f2 = ((l[i].f2.toNat : Nat) : Int) := by omega
  by_cases n2 : l[i].f0 = 2
  ·rw [if_pos n2, if_pos n2, au (nR s (by omega))]
   have := ih l[i].f2.toNat (uM s) (by omega) (by omega) (by rw [ql]; exact h1) (by rw [ql]; exact h8)
   rw [← eA] at this
   rw [au this]
   exact aH _
  rw [if_neg n2, if_neg n2, aA]
  by_cases n3 : l[i].f0 = 3
  ·rw [if_pos n3, if_pos n3, ep, ep, au (pU _ _)]
   exact aH _
  rw [if_neg n3, if_neg n3, aA]
  by_cases k4 : l[i].f0 = 4
  ·have oB := o4 (.inl k4)
   have eB : l[i].f3 = ((l[i].f3.toNat : Nat) : Int) := by omega
   rw [if_pos k4, if_pos k4, au (uJ l s l[i].f0 l[i].f1 l[i].f2 l[i].f3 (lV l n l[i].f2.toNat) (lV l n l[i].f3.toNat) h8 h1 (fun p hp1 hp2 => ?_) (fun p hp1 hp2 => ?_))]
   ·exact aH _
   ·have := ih l[i].f2.toNat (s.extract 0 p) (by omega) (by omega) (by rw [ByteArray.size_extract]; omega) (by rw [ByteArray.size_extract]; omega)
    rw [← eA] at this
    exact this
   ·have := ih l[i].f3.toNat (s.extract p s.size) (by omega) (by omega) (by rw [ByteArray.size_extract]; omega) (by rw [ByteArray.size_extract]; omega)
    rw [← eB] at this
    exact this
  rw [if_neg k4, if_neg k4, aA]
  by_cases k5 : l[i].f0 = 5
  ·have oB := o4 (.inr k5)
   have eB : l[i].f3 = ((l[i].f3.toNat : Nat) : Int) := by omega
   rw [if_pos k5, if_pos k5, au (wW l s l[i].f0 l[i].f1 l[i].f2 l[i].f3 (lV l n l[i].f2.toNat) (lV l n l[i].f3.toNat) h8 h1 (fun p q hp1 hp2 hp3 => ?_) (fun p q hp1 hp2 hp3 => ?_))]
   ·exact aH _
   ·have := ih l[i].f3.toNat (s.extract p q) (by omega) (by omega) (by rw [ByteArray.size_extract]; omega) (by rw [ByteArray.size_extract]; omega)
    rw [← eB] at this
    exact this
   ·have := ih l[i].f2.toNat (s.extract 0 p ++ s.extract q s.size) (by omega) (by omega) (by rw [ByteArray.size_append, ByteArray.size_extract, ByteArray.size_extract]; omega) (by rw [ByteArray.size_append, ByteArray.size_extract, ByteArray.size_extract]; omega)
    rw [← eA] at this
    exact this
  rw [if_neg k5, if_neg k5, aA]
  by_cases k6 : l[i].f0 = 6
  ·rw [if_pos k6, if_pos k6, ep, ep, au (wo _), sI]
   exact aH _
  rw [if_neg k6, if_neg k6, aA]
  by_cases k7 : l[i].f0 = 7
  ·rw [if_pos k7, if_pos k7, ep, ep, au (qI _), sI]
   exact aH _
  rw [if_neg k7, if_neg k7, aA]
  by_cases k8 : l[i].f0 = 8
  ·rw [if_pos k8, if_pos k8, ep, ep, au (qL _), sI]
   exact aH _
  rw [if_neg k8, if_neg k8, ep, ep, au (uo _ _)]
  exact aH _
def l9 (l : List bZ) (s : ByteArray) : Bool := if lD l = true then (if gM s = true then lV l l.length (l.length - 1) s else false) else false
theorem qO (l : List bZ) (s : ByteArray) (hl : l.length < 4611686018427387904) : Ev (fun k => ko.f k l s) (l9 l s) := by
 unfold ko.f l9
 rw [au (o9 l hl), aA]
 split
 ·rename_i hp
  have hlen := uw hp
  rw [au (gY s), aA]
  split
  ·rename_i hw
   have hsz := fZ hw
   have e : wrap64 ((l.length : Int) - 1) = ((l.length - 1 : Nat) : Int) := by rw [j6 (by omega) (by omega)]; omega
   rw [e, au (uq hp l.length (l.length - 1) s (by omega) (by omega) (by omega) (by omega))]
   exact aH _
  ·exact aH _
 ·exact aH _
theorem wR {l : List bZ} (hp : lD l = true) : ∀ (n i : Nat) (s : ByteArray), i < n → i < l.length → 1 ≤ s.size → s.size ≤ 8 → Ev (fun k => aW.f k l (i : Int) s) (lV l n i s) := by
 intro n
 induction n with
 | zero => intro i s h; exact absurd h (Nat.not_lt_zero _)
 | succ n ih =>
  intro i s hn hi h1 h8
  obtain ⟨o1, o2, o3, o4, o5, o6, o7, o8⟩ := sQ hi (su hp i hi)
  have hne : ¬ s.toList = ([] : List UInt8) := fun e => by have := toList_nil.1 e; omega
  have hA : 0 ≤ l[i].f2 ∧ l[i].f2 < (l.length : Int) := by
   by_cases n1 : l[i].f0 = 1
   ·have := (o8 n1).1; omega
   ·have := o3 n1; omega
  rw [← ak]
  simp only [aW.f, lV, rU l i hi]
  rw [ep, ep, en hne, ep hA.1, ep hA.2, aA]
  split
  ·rw [jv]; exact aH _
  rename_i n1
  have oA := o3 n1
  have eA : l[i].f2 = ((l[i].f2.toNat : Nat) : Int) := by omega
  rw [aA]
  split
  ·have := ih l[i].f2.toNat (uM s) (by omega) (by omega) (by rw [ql]; exact h1) (by rw [ql]; exact h8)
   rw [← eA] at this
   simp only [nM s (show s.size ≤ 100 by omega), Option.bind_some]
   rw [au this]
   exact aH _
  rw [aA]
  split
  ·rw [au (pO _ _)]
   exact aH _
  rw [aA]
  split
  ·rename_i k4
   have oB := o4 (.inl k4)
   have eB : l[i].f3 = ((l[i].f3.toNat : Nat) : Int) := by omega
   refine fQ (nN (fun k j => aW.l0 k l s j l[i].f0 l[i].f1 l[i].f2 l[i].f3) s.size 1 _ false (fun j hj hj' => ?_) (fun j hb hj r hr => ?_) 1 (Nat.le_refl _) (by omega)) (by rw [Bool.or_false])
   ·rw [← ak]
    simp only [aW.l0]
    rw [en]
    exact aH _
   ·have m1 := ih l[i].f2.toNat (s.extract 0 j) (by omega) (by omega) (by rw [ByteArray.size_extract]; omega) (by rw [ByteArray.size_extract]; omega)
    have m2 := ih l[i].f3.toNat (s.extract j s.size) (by omega) (by omega) (by rw [ByteArray.size_extract]; omega) (by rw [ByteArray.size_extract]; omega)
    rw [← eA] at m1
    rw [← eB] at m2
    rw [← ak]
    simp only [aW.l0, bG (i := j) (by omega), Int.toNat_natCast]
    rw [ep, ep, ep, au m1, aA]
    split
    ·rename_i h3
     rw [h3, Bool.true_and, au m2, aA]
     split
     ·rename_i h4
      rw [h4, Bool.true_or]
      exact aH _
     ·rename_i h4
      rw [Bool.not_eq_true] at h4
      rw [h4, Bool.false_or]
      exact hr
    ·rename_i h3
     rw [Bool.not_eq_true] at h3
     rw [h3, Bool.false_and, Bool.false_or]
     exact hr
  rw [aA]
  split
  ·rename_i k5
   have oB := o4 (.inr k5)
   have eB : l[i].f3 = ((l[i].f3.toNat : Nat) : Int) := by omega
   refine fQ (nN (fun k j => aW.l1 k l s j l[i].f0 l[i].f1 l[i].f2 l[i].f3) s.size 1 _ false (fun j hj hj' => ?_) (fun j hb hj r hr => ?_) 1 (Nat.le_refl _) (by omega)) (by rw [Bool.or_false])
   ·rw [← ak]
    simp only [aW.l1]
    rw [en]
    exact aH _
   ·rw [← ak]
    simp only [aW.l1, bG (i := j) (by omega)]
    rw [ep]
    refine nN (fun k q => aW.l2 k l s (j : Int) q l[i].f0 l[i].f1 l[i].f2 l[i].f3) s.size (j + 1) _ r (fun q hq hq' => ?_) (fun q hqb hq t ht => ?_) (j + 1) (Nat.le_refl _) (by omega)
    ·rw [← ak]
     simp only [aW.l2, bG (i := j) (by omega)]
     rw [en]
     exact hr
    ·have m1 := ih l[i].f3.toNat (s.extract j q) (by omega) (by omega) (by rw [ByteArray.size_extract]; omega) (by rw [ByteArray.size_extract]; omega)
     have m2 := ih l[i].f2.toNat (s.extract 0 j ++ s.extract q s.size) (by omega) (by omega) (by rw [ByteArray.size_append, ByteArray.size_extract, ByteArray.size_extract]; omega) (by rw [ByteArray.size_append, ByteArray.size_extract, ByteArray.size_extract]; omega)
     rw [← eB] at m1
     rw [← eA] at m2
     have hz : (s.extract 0 j).size + (s.extract q s.size).size ≤ 9223372036854775807 := by simp only [ByteArray.size_extract]; omega
     rw [← ak]
     simp only [aW.l2, bG (i := q) (by omega), Int.toNat_natCast]
     rw [ep, ep, ep, ep, au m1, aA]
     split
     ·rename_i h3
      have c1 : (j : Int) ≤ (s.size : Int) := by omega
      have c2 : (0 : Int) ≤ (q : Int) := by omega
      rw [h3, Bool.true_and]
      simp only [ep c1, if_pos c2, if_pos hz]
      rw [au m2, aA]
      split
      ·rename_i h4
       rw [h4, Bool.true_or]
       exact aH _
      ·rename_i h4
       rw [Bool.not_eq_true] at h4
       rw [h4, Bool.false_or]
       exact ht
     ·rename_i h3
      rw [Bool.not_eq_true] at h3
      rw [h3, Bool.false_and, Bool.false_or]
      exact ht
  rw [aA]
  split
  ·rw [au (vX _), jv]
   exact aH _
  rw [aA]
  split
  ·rw [au (qH _), jv]
   exact aH _
  rw [aA]
  split
  ·rw [au (qK _), jv]
   exact aH _
  rw [ep, au (ug _ _)]
  exact aH _
theorem qY (l : List bZ) (s : ByteArray) (hl : l.length < 4611686018427387904) : Ev (fun k => kg.f k l s) (l9 l s) := by
 unfold kg.f l9
 rw [au (pQ l hl), aA]
 split
 ·rename_i hp
  have hlen := uw hp
  rw [au (gZ s), aA]
  split
  ·rename_i hw
   have hsz := fZ hw
   have e : wrap64 ((l.length : Int) - 1) = ((l.length - 1 : Nat) : Int) := by rw [j6 (by omega) (by omega)]; omega
   rw [e, au (wR hp l.length (l.length - 1) s (by omega) (by omega) (by omega) (by omega))]
   exact aH _
  ·exact aH _
 ·exact aH _
def nL (a : Int) (p : List bZ) (d : List S84) (s : ByteArray) : Bool := if qx a p = true then (if hasB d s a = true then l9 p s else false) else false
theorem tQ (a : Int) (p : List bZ) (d : List S84) (s : ByteArray) (hl : p.length < 4611686018427387904) (hd : d.length < 4611686018427387904) : Ev (fun k => iR.f k a p d s) (nL a p d s) := by
 unfold iR.f nL
 rw [au (qg a p hl), aA]
 split
 ·rw [au (nZ d s a hd), aA]
  split
  ·rw [au (qO p s hl)]
   exact aH _
  ·exact aH _
 ·exact aH _
theorem uh (a : Int) (p : List bZ) (d : List S84) (s : ByteArray) (hl : p.length < 4611686018427387904) (hd : d.length < 4611686018427387904) : Ev (fun k => iQ.f k a p d s) (nL a p d s) := by
 unfold iQ.f nL
 rw [au (pE a p hl), aA]
 split
 ·rw [au (om d s a hd), aA]
  split
  ·rw [au (qY p s hl)]
   exact aH _
  ·exact aH _
 ·exact aH _
def lu (l : List ByteArray) (w : ByteArray) : Bool := l.any (fun x => decide (x = w))
theorem lF (l : List ByteArray) (w : ByteArray) (hl : l.length < 4611686018427387904) : Ev (fun k => cu.f k l w) (lu l w) := by
 refine nu (fun k i => cu.l0 k l w i) l _ ?_ (fun i hi hp r hr => ?_) (fun i hi hp => ?_)
 ·rw [← ak]; simp [cu.l0, aH]
 ·rw [← ak]
  simp only [cu.l0, jo ByteArray.empty l i hi, bG (i := i) (by omega), toList_eq]
  rw [ep, ep, en (of_decide_eq_false hp)]
  exact hr
 ·rw [← ak]
  simp only [cu.l0, jo ByteArray.empty l i hi, toList_eq]
  rw [ep, ep, ep (of_decide_eq_true hp)]
  exact aH _
def iI (out : List ByteArray) (x : ByteArray) : List ByteArray := if lu out x = true then out else out ++ [x]
def l6 (l : List ByteArray) : List ByteArray := l.foldl iI []
theorem yT (out : List ByteArray) (x : ByteArray) : (iI out x).length ≤ out.length + 1 := by
 unfold iI
 split
 ·omega
 ·simp
theorem mY : ∀ (l out : List ByteArray), (l.foldl iI out).length ≤ out.length + l.length
 | [], out => by simp
 | x :: l, out => by
  have h1 := mY l (iI out x)
  have h2 := yT out x
  simp only [List.foldl_cons, List.length_cons]
  omega
theorem Bz (l : List ByteArray) : (l6 l).length ≤ l.length := by
 have := mY l []
 simpa [l6] using this
theorem AP (q : ByteArray → Bool) (l : List ByteArray) (i : Nat) (h : i < l.length) : ((l.take (i + 1)).filter q).foldl iI [] = if q l[i] = true then iI (((l.take i).filter q).foldl iI []) l[i] else ((l.take i).filter q).foldl iI [] := by
 rw [List.take_succ_eq_append_getElem h, List.filter_append, List.foldl_append]
 by_cases hq : q l[i] = true
 ·rw [if_pos hq]; simp [hq]
 ·rw [if_neg hq]; simp [hq]
theorem Au (l : List ByteArray) (w : ByteArray) (hl : l.length < 4611686018427387904) : Ev (fun k => bF.f k l w) (match l.findIdx? (fun x => decide (x = w)) with | some i => (i : Int) | none => -1) := by
 refine uj (fun k i => bF.l0 k l w (l.length : Int) i) l _ ?_ (fun i hi hp r hr => ?_) (fun i hi hp => ?_)
 ·rw [← ak]; simp [bF.l0, aH]
 ·rw [← ak]
  simp only [bF.l0, jo ByteArray.empty l i hi, bG (i := i) (by omega), toList_eq]
  rw [ep, ep, ep, en (fun e => of_decide_eq_false hp e.symm)]
  exact hr
 ·rw [← ak]
  simp only [bF.l0, jo ByteArray.empty l i hi, toList_eq]
  rw [ep, ep, ep, aA, if_pos (of_decide_eq_true hp).symm]
  exact aH _
theorem Cv {α : Type} (l : List α) (p : α → Bool) : decide ((match l.findIdx? p with | some i => (i : Int) | none => -1) ≥ 0) = l.any p := by
 cases h : l.findIdx? p with
 | none =>
  have := List.findIdx?_eq_none_iff.1 h
  simp
  intro x hx
  simpa using this x hx
 | some i =>
  obtain ⟨h1, h2, _⟩ := List.findIdx?_eq_some_iff_getElem.1 h
  simp
  exact ⟨l[i], List.getElem_mem h1, h2⟩
theorem oH (l : List ByteArray) (w : ByteArray) (hl : l.length < 4611686018427387904) : Ev (fun k => bS.f k l w) (lu l w) := by
 unfold bS.f lu
 rw [au (Au l w hl), Cv]
 exact aH _
theorem rZ (l : List ByteArray) (hl : l.length ≤ 8796093022208) : Ev (fun k => gF.f k l) (l6 l) := by
 unfold gF.f
 refine iE (σ := List ByteArray) (fun k out i => gF.l0 k out l (l.length : Int) i) l.length (fun i out => out = (l.take i).foldl iI []) (fun _ _ => l6 l) (fun out ho => ?_) (fun i out hi ho => ?_) 0 [] (Nat.zero_le _) rfl
 ·rw [List.take_length] at ho
  rw [← ak]
  simp only [gF.l0, Int.lt_irrefl, if_false, ho]
  exact aH _
 ·have hlen : out.length ≤ i := by
   have := mY (l.take i) []
   rw [ho]
   simp only [List.length_nil, List.length_take] at this
   omega
  refine .inr ⟨iI out l[i], ?_, rfl, fun r hr => ?_⟩
  ·rw [List.take_succ_eq_append_getElem hi, List.foldl_append, ho]
   rfl
  ·rw [← ak]
   simp only [gF.l0, jo ByteArray.empty l i hi, bG (i := i) (by omega)]
   rw [ep, ep, ep, au (oH out l[i] (by omega)), aA]
   unfold iI at hr
   split
   ·rename_i h
    rw [if_pos h] at hr
    exact hr
   ·rename_i h
    rw [if_neg h] at hr
    rw [ep]
    exact hr
theorem rP (a : Int) (p : List bZ) (d : List S84) (l : List ByteArray) (hp : p.length < 4611686018427387904) (hd : d.length < 4611686018427387904) (hl : l.length ≤ 8796093022208) : Ev (fun k => bE.f k a p d l) (l6 (l.filter (nL a p d))) := by
 unfold bE.f
 refine iE (σ := List ByteArray) (fun k out i => bE.l0 k d l out i a p) l.length (fun i out => out = ((l.take i).filter (nL a p d)).foldl iI []) (fun _ _ => l6 (l.filter (nL a p d))) (fun out ho => ?_) (fun i out hi ho => ?_) 0 [] (Nat.zero_le _) rfl
 ·rw [List.take_length] at ho
  rw [← ak]
  simp only [bE.l0, Int.lt_irrefl, if_false, ho]
  exact aH _
 ·have hlen : out.length ≤ i := by
   have h1 := mY ((l.take i).filter (nL a p d)) []
   have h2 := List.length_filter_le (nL a p d) (l.take i)
   rw [ho]
   simp only [List.length_nil, List.length_take] at h1 h2
   omega
  refine .inr ⟨if nL a p d l[i] = true then iI out l[i] else out, ?_, rfl, fun r hr => ?_⟩
  ·rw [AP _ l i hi, ← ho]
  ·rw [← ak]
   simp only [bE.l0, jo ByteArray.empty l i hi, bG (i := i) (by omega)]
   rw [ep, ep, au (tQ a p d l[i] hp hd), aA]
   split
   ·rename_i h1
    rw [if_pos h1] at hr
    unfold iI at hr
    rw [au (lF out l[i] (by omega)), aA]
    split
    ·rename_i h
     rw [if_pos h] at hr
     exact hr
    ·rename_i h
     rw [if_neg h] at hr
     rw [ep]
     exact hr
   ·rename_i h1
    rw [if_neg h1] at hr
    exact hr
theorem rR (a : Int) (p : List bZ) (d : List S84) (l : List ByteArray) (hp : p.length < 4611686018427387904) (hd : d.length < 4611686018427387904) (hl : l.length ≤ 8796093022208) : Ev (fun k => iC.f k a p d l) (l6 (l.filter (nL a p d))) := by
 unfold iC.f
 rw [au (qU l _ (nL a p d) hl (fun s _ => uh a p d s hp hd))]
 exact rZ _ (Nat.le_trans (List.length_filter_le _ _) hl)
def tV (l : List bZ) : List ByteArray := l.flatMap (fun x => if x.f0 = 1 then [x.f1] else [])
theorem vU {α β : Type} (f : α → List β) (h : ∀ x, (f x).length ≤ 1) (l : List α) : (l.flatMap f).length ≤ l.length := by
 induction l with
 | nil => simp
 | cons x l ih => have := h x; simp only [List.flatMap_cons, List.length_append, List.length_cons]; omega
theorem xB (l : List bZ) : (tV l).length ≤ l.length := vU _ (fun x => by split <;> simp) l
theorem sj (l : List bZ) (hl : l.length ≤ 8796093022208) : Ev (fun k => dU.f k l) (tV l) := by
 refine jf (fun k x i => dU.l0 k l x i) l (fun x => if x.f0 = 1 then [x.f1] else []) 0 (fun x => ?_) (fun i hi x hx r hr => ?_)
 ·rw [← ak]; simp [dU.l0, aH]
 ·have hx' := vU (fun x : bZ => if x.f0 = 1 then [x.f1] else []) (fun x => by split <;> simp) (l.take i)
  rw [List.length_take] at hx'
  rw [← ak]
  simp only [dU.l0, rU l i hi, bG (i := i) (by omega)]
  rw [ep, ep, aA]
  split
  ·rename_i h
   rw [if_pos h] at hr
   rw [ep]
   exact hr
  ·rename_i h
   rw [if_neg h, List.append_nil] at hr
   exact hr
theorem sJ (l : List bZ) (hl : l.length ≤ 8796093022208) : Ev (fun k => d9.f k l) (tV l) := by
 refine jf (fun k x i => d9.l0 k x l (l.length : Int) i) l (fun x => if x.f0 = 1 then [x.f1] else []) 0 (fun x => ?_) (fun i hi x hx r hr => ?_)
 ·rw [← ak]; simp [d9.l0, aH]
 ·have hx' := vU (fun x : bZ => if x.f0 = 1 then [x.f1] else []) (fun x => by split <;> simp) (l.take i)
  rw [List.length_take] at hx'
  rw [← ak]
  simp only [d9.l0, rU l i hi, bG (i := i) (by omega)]
  rw [ep, ep, ep, aA]
  split
  ·rename_i h
   rw [if_pos h] at hr
   rw [ep]
   exact hr
  ·rename_i h
   rw [if_neg h, List.append_nil] at hr
   exact hr
theorem yM (t : List ByteArray) (a : ByteArray) : Ev (fun k => bA.f k t [a]) (decide (t = [a])) := by
 unfold bA.f
 rw [aA]
 split
 ·rename_i h
  match t, h with
  | [x], _ =>
   rw [← ak]
   simp only [bA.l0, toList_eq]
   rw [ep (by simp), ep, ep (by simp), ep (by simp), aA]
   have e1 : dD ByteArray.empty [x] 0 = x := rfl
   have e2 : dD ByteArray.empty [a] 0 = a := rfl
   rw [e1, e2]
   by_cases hx : x = a
   ·rw [if_pos hx, ← ak]
    have e3 : wrap64 ((0 : Int) + 1) = 1 := by rw [j6 (by omega) (by omega)]; rfl
    simp only [bA.l0, e3]
    rw [en (by simp)]
    exact fQ (aH _) (by simp [hx])
   ·rw [if_neg hx]
    exact fQ (aH _) (by simp [hx])
 ·rename_i h
  exact fQ (aH _) (decide_eq_false (fun e => h (by rw [e]))).symm
def rM (a : Int) (p : List bZ) (d : List S84) (l : List ByteArray) (s : ByteArray) : Int :=
 if qx a p = true then (if hasB d s a = true then (if l9 p s = true then (if lu (tV p) s = true then 4 else (if l6 (l.filter (nL a p d)) = [s] then 0 else 5)) else 3) else 2) else 1
theorem tT (a : Int) (p : List bZ) (d : List S84) (l : List ByteArray) (s : ByteArray) (hp : p.length ≤ 8796093022208) (hd : d.length < 4611686018427387904) (hl : l.length ≤ 8796093022208) : Ev (fun k => jL.f k a p d l s) (rM a p d l s) := by
 have hu := xB p
 unfold jL.f rM
 rw [au (qg a p (by omega)), aA]
 split
 ·rw [au (nZ d s a hd), aA]
  split
  ·rw [au (qO p s (by omega)), aA]
   split
   ·rw [au (sj p hp), au (lF (tV p) s (by omega)), aA]
    split
    ·exact aH _
    ·rw [au (rP a p d l (by omega) hd hl)]
     generalize l6 (l.filter (nL a p d)) = t
     rw [aA]
     split
     ·rename_i h
      match t, h with
      | [x], _ =>
       rw [ep (by simp), show dD ByteArray.empty [x] 0 = x from rfl]
       simp only [toList_eq, aA]
       by_cases hx : x = s
       ·rw [if_pos hx, if_pos (by rw [hx])]; exact aH _
       ·rw [if_neg hx, if_neg (by simpa using hx)]; exact aH _
     ·rename_i h
      rw [if_neg (fun e => h (by rw [e]; rfl))]
      exact aH _
   ·exact aH _
  ·exact aH _
 ·exact aH _
theorem tO (a : Int) (p : List bZ) (d : List S84) (l : List ByteArray) (s : ByteArray) (hp : p.length ≤ 8796093022208) (hd : d.length < 4611686018427387904) (hl : l.length ≤ 8796093022208) : Ev (fun k => jO.f k a p d l s) (rM a p d l s) := by
 have hu := xB p
 unfold jO.f rM
 rw [au (pE a p (by omega)), aA]
 split
 ·rw [au (om d s a hd), aA]
  split
  ·rw [au (qY p s (by omega)), aA]
   split
   ·rw [au (sJ p hp), au (oH (tV p) s (by omega)), aA]
    split
    ·exact aH _
    ·rw [au (rR a p d l (by omega) hd hl), au (yM _ s), aA]
     simp only [decide_eq_true_eq]
     split
     ·exact aH _
     ·exact aH _
   ·exact aH _
  ·exact aH _
 ·exact aH _
def Nb (R C : Int) (i j : Nat) : Prop := ∃ r c r' c' : Int, (0 ≤ r ∧ r < R) ∧ (0 ≤ c ∧ c < C) ∧ (0 ≤ r' ∧ r' < R) ∧ (0 ≤ c' ∧ c' < C) ∧ (i : Int) = r * C + c ∧ (j : Int) = r' * C + c' ∧ ((r' = r - 1 ∧ c' = c) ∨ (r' = r + 1 ∧ c' = c) ∨ (r' = r ∧ c' = c - 1) ∨ (r' = r ∧ c' = c + 1))
def Wh (s : ByteArray) (i : Nat) : Prop := bt s (i : Int) = 46
inductive oo (R C : Int) (s : ByteArray) (a : Nat) : Nat → Prop
 | refl : oo R C s a a
 | step {x y : Nat} : oo R C s a x → Nb R C x y → Wh s y → oo R C s a y
theorem oo.trans {R C : Int} {s : ByteArray} {a x y : Nat} (h1 : oo R C s a x) (h2 : oo R C s x y) : oo R C s a y := by
 induction h2 with
 | refl => exact h1
 | step _ hn hw ih => exact .step ih hn hw
theorem Aj {C r c r' c' : Int} (hc : 0 ≤ c ∧ c < C) (hc' : 0 ≤ c' ∧ c' < C) (h : r * C + c = r' * C + c') : r = r' ∧ c = c' := by
 have h1 : (r * C + c) / C = r := by rw [Int.add_comm, Int.add_mul_ediv_right _ _ (by omega), Int.ediv_eq_zero_of_lt hc.1 hc.2]; omega
 have h2 : (r' * C + c') / C = r' := by rw [Int.add_comm, Int.add_mul_ediv_right _ _ (by omega), Int.ediv_eq_zero_of_lt hc'.1 hc'.2]; omega
 have h3 : r = r' := by rw [← h1, h, h2]
 subst h3
 exact ⟨rfl, by omega⟩
theorem cell_of (C : Int) (i : Nat) : (i : Int) = ((i : Int) / C) * C + (i : Int) % C := by
 have := Int.mul_ediv_add_emod (i : Int) C
 rw [Int.mul_comm]
 omega
theorem Aa {R C : Int} {i : Nat} (hC : 0 < C) (hi : (i : Int) < R * C) : (0 ≤ (i : Int) / C ∧ (i : Int) / C < R) ∧ (0 ≤ (i : Int) % C ∧ (i : Int) % C < C) :=
 ⟨⟨Int.ediv_nonneg (by omega) (by omega), Int.ediv_lt_of_lt_mul hC hi⟩, Int.emod_nonneg _ (by omega), Int.emod_lt_of_pos _ hC⟩
theorem uY {R C r c : Int} (hr : 0 ≤ r ∧ r < R) (hc : 0 ≤ c ∧ c < C) : 0 ≤ r * C + c ∧ r * C + c < R * C := by
 have h1 : 0 ≤ r * C := Int.mul_nonneg hr.1 (by omega)
 have h2 : (r + 1) * C ≤ R * C := Int.mul_le_mul_of_nonneg_right (by omega) (by omega)
 rw [Int.add_mul] at h2
 omega
theorem Nb.lt {R C : Int} {i j : Nat} (h : Nb R C i j) : (j : Int) < R * C := by
 obtain ⟨r, c, r', c', _, _, h3, h4, _, e, _⟩ := h
 have := uY h3 h4
 omega
theorem Nb.symm {R C : Int} {i j : Nat} (h : Nb R C i j) : Nb R C j i := by
 obtain ⟨r, c, r', c', h1, h2, h3, h4, e1, e2, h5⟩ := h
 exact ⟨r', c', r, c, h3, h4, h1, h2, e2, e1, by omega⟩
def cnt (n : Nat) (d : Nat → Bool) : Nat := (List.range n).countP (fun j => !d j)
theorem cnt_mono {n : Nat} {d d' : Nat → Bool} (h : ∀ j, d j = true → d' j = true) : cnt n d' ≤ cnt n d := by
 refine List.countP_mono_left (fun j _ hj => ?_)
 have := h j
 revert hj this
 cases d j <;> cases d' j <;> simp
theorem cnt_lt {d d' : Nat → Bool} (h : ∀ j, d j = true → d' j = true) (i : Nat) (h0 : d i = false) (h1 : d' i = true) : ∀ n, i < n → cnt n d' < cnt n d := by
 intro n
 induction n with
 | zero => intro hi; omega
 | succ n ih =>
  intro hi
  unfold cnt at *
  rw [List.range_succ, List.countP_append, List.countP_append]
  by_cases e : i = n
  ·subst e
   have := cnt_mono (n := i) h
   unfold cnt at this
   simp [h0, h1]
   omega
  ·have h2 := ih (by omega)
   have h3 : List.countP (fun j => !d' j) [n] ≤ List.countP (fun j => !d j) [n] := by
    refine List.countP_mono_left (fun j _ hj => ?_)
    have := h j
    revert hj this
    cases d j <;> cases d' j <;> simp
   omega
theorem DX (d : Array Bool) (i j : Nat) (hi : i < d.size) : (d.setIfInBounds i true)[j]! = (decide (j = i) || d[j]!) := by
 simp only [getElem!_def, Array.getElem?_setIfInBounds]
 by_cases h : j = i
 ·subst h; simp [hi]
 ·rw [if_neg (by omega)]; simp [h]
def DI (R C : Int) (s : ByteArray) (d : Array Bool) (r c : Int) (d' : Array Bool) : Prop :=
 d'.size = d.size ∧ (∀ j : Nat, d[j]! = true → d'[j]! = true) ∧ (∀ i : Nat, (0 ≤ r ∧ r < R) → (0 ≤ c ∧ c < C) → (i : Int) = r * C + c → Wh s i → d'[i]! = true) ∧
 ∀ j : Nat, d'[j]! = true → d[j]! = false → (∃ i : Nat, (0 ≤ r ∧ r < R) ∧ (0 ≤ c ∧ c < C) ∧ (i : Int) = r * C + c ∧ Wh s i ∧ oo R C s i j) ∧ ∀ y, Nb R C j y → Wh s y → d'[y]! = true
theorem DI.from {R C : Int} {s : ByteArray} {d d' : Array Bool} {r c r1 c1 : Int} {i : Nat} (hr : 0 ≤ r ∧ r < R) (hc : 0 ≤ c ∧ c < C) (hi : (i : Int) = r * C + c) (hn : (r1 = r - 1 ∧ c1 = c) ∨ (r1 = r + 1 ∧ c1 = c) ∨ (r1 = r ∧ c1 = c - 1) ∨ (r1 = r ∧ c1 = c + 1)) (h : DI R C s d r1 c1 d') :
  ∀ j : Nat, d'[j]! = true → d[j]! = false → oo R C s i j ∧ ∀ y, Nb R C j y → Wh s y → d'[y]! = true := by
 intro j h1 h2
 obtain ⟨⟨i1, a1, a2, a3, a4, a5⟩, h3⟩ := h.2.2.2 j h1 h2
 exact ⟨(oo.step .refl ⟨r, c, r1, c1, hr, hc, a1, a2, hi, a3, hn⟩ a4).trans a5, h3⟩
theorem DZ {R C : Int} {s : ByteArray} (hs : (s.size : Int) = R * C) : ∀ (m : Nat) (d : Array Bool) (r c : Int), d.size = s.size → cnt s.size (fun j => d[j]!) < m → ∃ d', Ev (fun k => HandForm.dfs R C s k d r c) d' ∧ DI R C s d r c d' := by
 intro m
 induction m with
 | zero => intro d r c _ h; omega
 | succ m ih =>
  intro d r c hd hm
  by_cases hstop : HandForm.oP R C s d r c = true
  ·refine ⟨d, ?_, rfl, fun _ h => h, fun i hr hc hi hw => ?_, fun j h1 h2 => by rw [h1] at h2; cases h2⟩
   ·rw [← ak]
    simp only [HandForm.dfs, hstop, if_true]
    exact aH _
   ·unfold HandForm.oP at hstop
    unfold Wh at hw
    rw [if_pos hr, if_pos hc, ← hi, hw] at hstop
    simpa using hstop
  ·have hgo := hstop
   unfold HandForm.oP at hgo
   have hr : 0 ≤ r ∧ r < R := Decidable.byContradiction fun h => hgo (by rw [if_neg h])
   rw [if_pos hr] at hgo
   have hc : 0 ≤ c ∧ c < C := Decidable.byContradiction fun h => hgo (by rw [if_neg h])
   rw [if_pos hc] at hgo
   have hlt := uY hr hc
   obtain ⟨i, hi⟩ : ∃ i : Nat, (i : Int) = r * C + c := ⟨(r * C + c).toNat, by omega⟩
   rw [← hi] at hgo
   simp only [Int.toNat_natCast, Bool.or_eq_true, Bool.not_eq_true', beq_eq_false_iff_ne, not_or, Bool.not_eq_true, ne_eq, Decidable.not_not] at hgo
   obtain ⟨hdi, hwi⟩ := hgo
   have hid : i < d.size := by omega
   have hget := fun j => DX d i j hid
   have hd0 : (d.setIfInBounds i true).size = s.size := by rw [Array.size_setIfInBounds]; exact hd
   have hsub : ∀ j : Nat, d[j]! = true → (d.setIfInBounds i true)[j]! = true := fun j h => by rw [hget, h, Bool.or_true]
   have hc0 : cnt s.size (fun j => (d.setIfInBounds i true)[j]!) < m := by
    have := cnt_lt (d := fun j => d[j]!) (d' := fun j => (d.setIfInBounds i true)[j]!) hsub i hdi (by show (d.setIfInBounds i true)[i]! = true; rw [hget]; simp) s.size (by omega)
    omega
   obtain ⟨d1, e1, p1⟩ := ih (d.setIfInBounds i true) (r - 1) c hd0 hc0
   have c1 := Nat.lt_of_le_of_lt (cnt_mono (n := s.size) (d := fun j => (d.setIfInBounds i true)[j]!) (d' := fun j => d1[j]!) p1.2.1) hc0
   have z1 : d1.size = s.size := p1.1.trans hd0
   obtain ⟨d2, e2, p2⟩ := ih d1 (r + 1) c z1 c1
   have c2 := Nat.lt_of_le_of_lt (cnt_mono (n := s.size) (d := fun j => d1[j]!) (d' := fun j => d2[j]!) p2.2.1) c1
   have z2 : d2.size = s.size := p2.1.trans z1
   obtain ⟨d3, e3, p3⟩ := ih d2 r (c - 1) z2 c2
   have c3 := Nat.lt_of_le_of_lt (cnt_mono (n := s.size) (d := fun j => d2[j]!) (d' := fun j => d3[j]!) p3.2.1) c2
   have z3 : d3.size = s.size := p3.1.trans z2
   obtain ⟨d4, e4, p4⟩ := ih d3 r (c + 1) z3 c3
   have i4 : d4[i]! = true := p4.2.1 i (p3.2.1 i (p2.2.1 i (p1.2.1 i (by rw [hget]; simp))))
   have clI : ∀ y, Nb R C i y → Wh s y → d4[y]! = true := by
    rintro y ⟨r1, c1, r', c', b1, b2, b3, b4, q1, q2, q3⟩ hw
    obtain ⟨rfl, rfl⟩ := Aj b2 hc (q1.symm.trans hi)
    rcases q3 with ⟨rfl, rfl⟩ | ⟨rfl, rfl⟩ | ⟨rfl, rfl⟩ | ⟨rfl, rfl⟩
    ·exact p4.2.1 y (p3.2.1 y (p2.2.1 y (p1.2.2.1 y b3 b4 q2 hw)))
    ·exact p4.2.1 y (p3.2.1 y (p2.2.2.1 y b3 b4 q2 hw))
    ·exact p4.2.1 y (p3.2.2.1 y b3 b4 q2 hw)
    ·exact p4.2.2.1 y b3 b4 q2 hw
   refine ⟨d4, ?_, by rw [p4.1, z3, hd], fun j h => p4.2.1 j (p3.2.1 j (p2.2.1 j (p1.2.1 j (hsub j h)))), fun i' _ _ hi' _ => ?_, fun j h1 h2 => ?_⟩
   ·rw [← ak]
    simp only [HandForm.dfs, hstop, Bool.false_eq_true, if_false, ← hi, Int.toNat_natCast]
    rw [au e1, au e2, au e3]
    exact e4
   ·rw [show i' = i by omega]; exact i4
   ·have : oo R C s i j ∧ ∀ y, Nb R C j y → Wh s y → d4[y]! = true := by
     cases h3 : d3[j]! with
     | false => exact p4.from hr hc hi (by omega) j h1 h3
     | true =>
      have up : (oo R C s i j ∧ ∀ y, Nb R C j y → Wh s y → d3[y]! = true) → oo R C s i j ∧ ∀ y, Nb R C j y → Wh s y → d4[y]! = true := fun q => ⟨q.1, fun y a b => p4.2.1 y (q.2 y a b)⟩
      cases h4 : d2[j]! with
      | false => exact up (p3.from hr hc hi (by omega) j h3 h4)
      | true =>
       have up2 : (oo R C s i j ∧ ∀ y, Nb R C j y → Wh s y → d2[y]! = true) → oo R C s i j ∧ ∀ y, Nb R C j y → Wh s y → d4[y]! = true := fun q => up ⟨q.1, fun y a b => p3.2.1 y (q.2 y a b)⟩
       cases h5 : d1[j]! with
       | false => exact up2 (p2.from hr hc hi (by omega) j h4 h5)
       | true =>
        cases h6 : (d.setIfInBounds i true)[j]! with
        | false =>
         have q := p1.from hr hc hi (by omega) j h5 h6
         exact up2 ⟨q.1, fun y a b => p2.2.1 y (q.2 y a b)⟩
        | true =>
         rw [hget, h2, Bool.or_false] at h6
         have := of_decide_eq_true h6
         subst this
         exact ⟨.refl, clI⟩
    exact ⟨⟨i, hr, hc, hi, hwi, this.1⟩, this.2⟩
def Met (R C : Int) (s : ByteArray) (i j : Nat) : Prop := ∃ a, a < i ∧ Wh s a ∧ oo R C s a j
theorem Met.closed {R C : Int} {s : ByteArray} {i x y : Nat} (h : Met R C s i x) (hn : Nb R C x y) (hw : Wh s y) : Met R C s i y := by
 obtain ⟨a, h1, h2, h3⟩ := h
 exact ⟨a, h1, h2, .step h3 hn hw⟩
theorem Met.succ {R C : Int} {s : ByteArray} {i j : Nat} : Met R C s (i + 1) j ↔ Met R C s i j ∨ (Wh s i ∧ oo R C s i j) := by
 constructor
 ·rintro ⟨a, h1, h2, h3⟩
  by_cases e : a = i
  ·subst e; exact .inr ⟨h2, h3⟩
  ·exact .inl ⟨a, by omega, h2, h3⟩
 ·rintro (⟨a, h1, h2, h3⟩ | ⟨h1, h2⟩)
  ·exact ⟨a, by omega, h2, h3⟩
  ·exact ⟨i, by omega, h1, h2⟩
theorem Met.same {R C : Int} {s : ByteArray} {i j : Nat} (h : Wh s i → Met R C s i i) : Met R C s (i + 1) j ↔ Met R C s i j := by
 rw [Met.succ]
 refine ⟨fun q => q.elim id (fun ⟨h1, h2⟩ => ?_), .inl⟩
 obtain ⟨a, a1, a2, a3⟩ := h h1
 exact ⟨a, a1, a2, a3.trans h2⟩
open Classical in
noncomputable def root (R C : Int) (s : ByteArray) (i : Nat) : Nat := if Wh s i ∧ ¬ Met R C s i i then 1 else 0
noncomputable def roots (R C : Int) (s : ByteArray) (i : Nat) : Nat := ((List.range' i (s.size - i)).map (root R C s)).sum
theorem xM (R C : Int) (s : ByteArray) : roots R C s s.size = 0 := by simp [roots]
theorem vJ (R C : Int) (s : ByteArray) (i : Nat) (hi : i < s.size) : roots R C s i = root R C s i + roots R C s (i + 1) := by
 unfold roots
 rw [show s.size - i = (s.size - (i + 1)) + 1 by omega, List.range'_succ]
 simp
theorem yS {R C : Int} {s : ByteArray} {i : Nat} (h : Wh s i) (h' : ¬ Met R C s i i) : root R C s i = 1 := by unfold root; rw [if_pos ⟨h, h'⟩]
theorem yA {R C : Int} {s : ByteArray} {i : Nat} (h : Wh s i → Met R C s i i) : root R C s i = 0 := by unfold root; rw [if_neg (fun q => q.2 (h q.1))]
theorem CY {R C : Int} {s : ByteArray} (hs : (s.size : Int) = R * C) (hC : 0 < C) (d : Array Bool) (hd : d.size = s.size) (i : Nat) (hi : i < s.size) (hw : Wh s i) (hm : ∀ j : Nat, d[j]! = true ↔ Met R C s i j) :
  ∃ d', Ev (fun k => HandForm.dfs R C s k d ((i : Int) / C) ((i : Int) % C)) d' ∧ d'.size = s.size ∧ ∀ j : Nat, d'[j]! = true ↔ Met R C s (i + 1) j := by
 have hin := Aa hC (show (i : Int) < R * C by omega)
 have hof := cell_of C i
 obtain ⟨d', e, p1, p2, p3, p4⟩ := DZ hs _ d ((i : Int) / C) ((i : Int) % C) hd (Nat.lt_succ_self _)
 refine ⟨d', e, p1.trans hd, fun j => ?_⟩
 rw [Met.succ, ← hm]
 constructor
 ·intro h
  cases h0 : d[j]! with
  | true => exact .inl rfl
  | false =>
   obtain ⟨⟨i', _, _, a3, _, a5⟩, _⟩ := p4 j h h0
   rw [show i' = i by omega] at a5
   exact .inr ⟨hw, a5⟩
 ·rintro (h | ⟨_, h⟩)
  ·exact p2 j h
  ·induction h with
   | refl => exact p3 i hin.1 hin.2 hof hw
   | step hx hn hwy ih =>
    rename_i x y
    cases h0 : d[x]! with
    | true => exact p2 y ((hm y).2 (((hm x).1 h0).closed hn hwy))
    | false => exact (p4 x ih h0).2 y hn hwy
theorem Cg {R C : Int} {s : ByteArray} (hs : (s.size : Int) = R * C) (hC : 0 < C) : Ev (fun k => HandForm.parts R C s k (Array.replicate s.size false) 0 0) (roots R C s 0 : Int) := by
 have := iE (σ := Array Bool × Int) (fun k st i => HandForm.parts R C s k st.1 i st.2) s.size (fun i st => st.1.size = s.size ∧ ∀ j : Nat, st.1[j]! = true ↔ Met R C s i j) (fun i st => st.2 + (roots R C s i : Int)) (fun st hst => ?_) (fun i st hi hst => ?_) 0 (Array.replicate s.size false, 0) (Nat.zero_le _) ⟨by simp, fun j => ?_⟩
 ·simpa using this
 ·rw [xM, ← ak]
  simp only [HandForm.parts, Int.lt_irrefl, if_false]
  exact fQ (aH _) (by simp)
 ·obtain ⟨hd, hm⟩ := hst
  have hrs := vJ R C s i hi
  by_cases hw : Wh s i
  ·cases h0 : st.1[i]! with
   | true =>
    refine .inr ⟨st, ⟨hd, fun j => ?_⟩, ?_, fun r hr => ?_⟩
    ·rw [hm, Met.same (fun _ => (hm i).1 h0)]
    ·rw [hrs, yA (fun _ => (hm i).1 h0)]; simp
    ·rw [← ak]
     unfold Wh at hw
     simp only [HandForm.parts, Int.toNat_natCast, h0, if_true, hw]
     rw [ep]
     exact hr
   | false =>
    have hnm : ¬ Met R C s i i := fun q => by have := (hm i).2 q; rw [h0] at this; cases this
    obtain ⟨d', e, z, hm'⟩ := CY hs hC st.1 hd i hi hw hm
    refine .inr ⟨(d', st.2 + 1), ⟨z, hm'⟩, ?_, fun r hr => ?_⟩
    ·rw [hrs, yS hw hnm]; simp; omega
    ·rw [← ak]
     unfold Wh at hw
     simp only [HandForm.parts, Int.toNat_natCast, h0, Bool.false_eq_true, if_false, if_true, hw]
     rw [ep, au e]
     exact hr
  ·refine .inr ⟨st, ⟨hd, fun j => ?_⟩, ?_, fun r hr => ?_⟩
   ·rw [hm, Met.same (fun h => absurd h hw)]
   ·rw [hrs, yA (fun h => absurd h hw)]; simp
   ·rw [← ak]
    unfold Wh at hw
    simp only [HandForm.parts, hw, if_false]
    rw [ep]
    exact hr
 ·constructor
  ·intro h
   exfalso
   rw [getElem!_def, Array.getElem?_replicate] at h
   split at h <;> simp_all
  ·rintro ⟨a, h, _⟩
   omega
noncomputable def rJ (R C : Int) (s : ByteArray) : Int := if eO R C s = true then (roots R C s 0 : Int) else 0
theorem uO (R C : Int) (s : ByteArray) : Ev (fun k => jF.f k R C s) (rJ R C s) := by
 unfold jF.f rJ
 rw [au (jP R C s), aA]
 split
 ·rename_i hg
  obtain ⟨_, h2, h3, _⟩ := jl hg
  exact Cg h3 (by omega)
 ·exact aH _
theorem y9 {R C : Int} {x : List Bool} (hC : 0 < C) (hx : (x.length : Int) = R * C) (y : Nat) (hy : y < x.length) : HandReach.rT C x (y : Int) = true ↔ ∃ a : Nat, Nb R C a y ∧ x.getD a false = true := by
 have hin := Aa hC (show (y : Int) < R * C by omega)
 have hof := cell_of C y
 unfold HandReach.rT
 constructor
 ·intro h
  simp only [Bool.or_eq_true, Bool.and_eq_true, decide_eq_true_eq] at h
  rcases h with ((⟨h1, h2⟩ | ⟨h1, h2⟩) | ⟨h1, h2⟩) | ⟨h1, h2⟩
  ·have h0 : 0 ≤ ((y : Int) / C) * C := Int.mul_nonneg hin.1.1 (by omega)
   exact ⟨((y : Int) - 1).toNat, ⟨(y : Int) / C, (y : Int) % C - 1, (y : Int) / C, (y : Int) % C, hin.1, by omega, hin.1, hin.2, by omega, hof, by omega⟩, h2⟩
  ·exact ⟨((y : Int) + 1).toNat, ⟨(y : Int) / C, (y : Int) % C + 1, (y : Int) / C, (y : Int) % C, hin.1, by omega, hin.1, hin.2, by omega, hof, by omega⟩, h2⟩
  ·have h3 : 1 ≤ (y : Int) / C := by
    refine Decidable.byContradiction fun q => ?_
    rw [show (y : Int) / C = 0 by omega] at hof
    omega
   have h4 : ((y : Int) / C - 1) * C = (y : Int) / C * C - C := by rw [Int.sub_mul, Int.one_mul]
   exact ⟨((y : Int) - C).toNat, ⟨(y : Int) / C - 1, (y : Int) % C, (y : Int) / C, (y : Int) % C, by omega, hin.2, hin.1, hin.2, by omega, hof, by omega⟩, h2⟩
  ·have h4 : ((y : Int) / C + 1) * C = (y : Int) / C * C + C := by rw [Int.add_mul, Int.one_mul]
   have h3 : (y : Int) / C + 1 < R := by
    refine Decidable.byContradiction fun q => ?_
    have : R * C ≤ ((y : Int) / C + 1) * C := Int.mul_le_mul_of_nonneg_right (by omega) (by omega)
    omega
   exact ⟨((y : Int) + C).toNat, ⟨(y : Int) / C + 1, (y : Int) % C, (y : Int) / C, (y : Int) % C, by omega, hin.2, hin.1, hin.2, by omega, hof, by omega⟩, h2⟩
 ·rintro ⟨a, ⟨r, c, r', c', b1, b2, b3, b4, q1, q2, q3⟩, h2⟩
  obtain ⟨e1, e2⟩ := Aj b4 hin.2 (q2.symm.trans hof)
  subst e1 e2
  have hat : ∀ z : Int, z = a → dD false x z = true := fun z hz => by subst hz; exact h2
  simp only [Bool.or_eq_true, Bool.and_eq_true, decide_eq_true_eq]
  rcases q3 with ⟨e1, e2⟩ | ⟨e1, e2⟩ | ⟨e1, e2⟩ | ⟨e1, e2⟩
  ·have h4 : r * C = (y : Int) / C * C + C := by rw [show r = (y : Int) / C + 1 by omega, Int.add_mul, Int.one_mul]
   have h5 := uY b1 b2
   exact .inr ⟨by omega, hat _ (by omega)⟩
  ·have h4 : r * C = (y : Int) / C * C - C := by rw [show r = (y : Int) / C - 1 by omega, Int.sub_mul, Int.one_mul]
   have h5 := uY b1 b2
   exact .inl (.inr ⟨by omega, hat _ (by omega)⟩)
  ·subst e1
   exact .inl (.inl (.inr ⟨by omega, hat _ (by omega)⟩))
  ·subst e1
   exact .inl (.inl (.inl ⟨by omega, hat _ (by omega)⟩))
def Ct (R C : Int) (s : ByteArray) (x x' : List Bool) : Prop :=
 x'.length = x.length ∧ (∀ j : Nat, x.getD j false = true → x'.getD j false = true) ∧ (∀ a y : Nat, x'.getD a false = true → Nb R C a y → Wh s y → x'.getD y false = true) ∧ ∀ j : Nat, x'.getD j false = true → ∃ a, x.getD a false = true ∧ oo R C s a j
theorem vo (x : List Bool) (i j : Nat) (b : Bool) (hi : i < x.length) : (x.set i b).getD j false = if j = i then b else x.getD j false := by
 simp only [List.getD_eq_getElem?_getD, List.getElem?_set]
 by_cases h : j = i
 ·subst h; simp [hi]
 ·rw [if_neg (by omega), if_neg h]
theorem getD_lt {x : List Bool} {j : Nat} (h : x.getD j false = true) : j < x.length := by
 refine Decidable.byContradiction fun q => ?_
 rw [List.getD_eq_getElem?_getD, List.getElem?_eq_none (by omega)] at h
 cases h
theorem Cm {R C : Int} {s : ByteArray} (hs : (s.size : Int) = R * C) (hC : 0 < C) : ∀ (m : Nat) (x : List Bool), x.length = s.size → cnt s.size (fun j => x.getD j false) < m → ∃ x', Ev (fun k => HandReach.ou C s k x true) x' ∧ Ct R C s x x' := by
 intro m
 induction m with
 | zero => intro x _ h; omega
 | succ m ih =>
  have inner : ∀ (d i : Nat) (x : List Bool) (g : Bool), i + d = s.size → x.length = s.size → (g = true → cnt s.size (fun j => x.getD j false) < m) → (g = false → cnt s.size (fun j => x.getD j false) < m + 1 ∧ ∀ j, j < i → x.getD j false = true ∨ ¬ Wh s j ∨ HandReach.rT C x (j : Int) = false) →
    ∃ x', Ev (fun k => HandReach.mo C s k x g (i : Int)) x' ∧ Ct R C s x x' := by
   intro d
   induction d with
   | zero =>
    intro i x g hi hx h1 h2
    have hi' : i = s.size := by omega
    subst hi'
    have hlast : ∀ x', Ev (fun k => HandReach.ou C s k x g) x' → Ev (fun k => HandReach.mo C s k x g (s.size : Int)) x' := by
     intro x' hx'
     rw [← ak]
     simp only [HandReach.mo]
     rw [en]
     exact hx'
    cases g with
    | true =>
     obtain ⟨x', e, p⟩ := ih x hx (h1 rfl)
     exact ⟨x', hlast x' e, p⟩
    | false =>
     refine ⟨x, hlast x ?_, rfl, fun _ h => h, fun a y ha hn hw => ?_, fun j h => ⟨j, h, .refl⟩⟩
     ·rw [← ak]
      simp only [HandReach.ou, Bool.false_eq_true, if_false]
      exact aH _
     ·have hy : y < x.length := by have := hn.lt; omega
      rcases (h2 rfl).2 y (by omega) with h | h | h
      ·exact h
      ·exact absurd hw h
      ·rw [(y9 hC (by omega) y hy).2 ⟨a, hn, ha⟩] at h
       cases h
   | succ d ihd =>
    intro i x g hi hx h1 h2
    have hil : i < x.length := by omega
    have hri : dD false x (i : Int) = x.getD i false := rfl
    by_cases hb : x.getD i false = true ∨ ¬ Wh s i
    ·obtain ⟨x', e, p⟩ := ihd (i + 1) x g (by omega) hx h1 (fun hg => ⟨(h2 hg).1, fun j hj => by
      by_cases hji : j = i
      ·subst hji; exact hb.elim .inl (fun q => .inr (.inl q))
      ·exact (h2 hg).2 j (by omega)⟩)
     refine ⟨x', ?_, p⟩
     rw [← ak]
     simp only [HandReach.mo, hri]
     rw [ep, aA, if_pos]
     ·exact e
     ·rcases hb with h | h
      ·rw [h, Bool.true_or]
      ·have : (bt s (i : Int) != 46) = true := bne_iff_ne.2 h
       rw [this, Bool.or_true]
    ·have hb1 : x.getD i false = false := by simpa using fun q => hb (.inl q)
     have hb2 : Wh s i := Classical.byContradiction fun q => hb (.inr q)
     have hcond : (x.getD i false || (bt s (i : Int) != 46)) = false := by rw [hb1, show bt s (i : Int) = 46 from hb2]; rfl
     by_cases hn : HandReach.rT C x (i : Int) = true
     ·have hset := fun j => vo x i j true hil
      have hsub : ∀ j : Nat, x.getD j false = true → (x.set i true).getD j false = true := fun j h => by
       rw [hset]; split
       ·rfl
       ·exact h
      have hcl : cnt s.size (fun j => (x.set i true).getD j false) < m := by
       have h3 := cnt_lt (d := fun j => x.getD j false) (d' := fun j => (x.set i true).getD j false) hsub i hb1 (by show (x.set i true).getD i false = true; rw [hset, if_pos rfl]) s.size (by omega)
       cases g with
       | true => have := h1 rfl; omega
       | false => have := (h2 rfl).1; omega
      obtain ⟨x', e, p1, p2, p3, p4⟩ := ihd (i + 1) (x.set i true) true (by omega) (by rw [List.length_set]; exact hx) (fun _ => hcl) (fun h => by cases h)
      refine ⟨x', ?_, by rw [p1, List.length_set], fun j h => p2 j (hsub j h), p3, fun j h => ?_⟩
      ·rw [← ak]
       simp only [HandReach.mo, hri, hcond, Bool.false_eq_true, if_false, hn, if_true, Int.toNat_natCast]
       rw [ep]
       exact e
      ·obtain ⟨a, ha, hc⟩ := p4 j h
       rw [hset] at ha
       by_cases hai : a = i
       ·subst hai
        obtain ⟨b, hb1, hb3⟩ := (y9 (R := R) hC (by omega) a hil).1 hn
        exact ⟨b, hb3, (oo.step .refl hb1 hb2).trans hc⟩
       ·rw [if_neg hai] at ha
        exact ⟨a, ha, hc⟩
     ·rw [Bool.not_eq_true] at hn
      obtain ⟨x', e, p⟩ := ihd (i + 1) x g (by omega) hx h1 (fun hg => ⟨(h2 hg).1, fun j hj => by
       by_cases hji : j = i
       ·subst hji; exact .inr (.inr hn)
       ·exact (h2 hg).2 j (by omega)⟩)
      refine ⟨x', ?_, p⟩
      rw [← ak]
      simp only [HandReach.mo, hri, hcond, Bool.false_eq_true, if_false, hn]
      rw [ep]
      exact e
  intro x hx hm
  obtain ⟨x', e, p⟩ := inner s.size 0 x false (by omega) hx (fun h => by cases h) (fun _ => ⟨hm, fun j hj => by omega⟩)
  refine ⟨x', ?_, p⟩
  rw [← ak]
  simp only [HandReach.ou, if_true]
  exact e
theorem zn {R C : Int} {s : ByteArray} (hg : eO R C s = true) (i : Nat) (hi : i < s.size) : ∃ x', Ev (fun k => jK.f k R C s (List.replicate s.size false) (i : Int)) x' ∧ x'.length = s.size ∧ ∀ j : Nat, x'.getD j false = true ↔ oo R C s i j := by
 obtain ⟨hR, hC, hs, _⟩ := jl hg
 have hl : (List.replicate s.size false).length = s.size := List.length_replicate
 have hset := fun j => vo (List.replicate s.size false) i j true (by omega)
 have hrep : ∀ j : Nat, (List.replicate s.size false).getD j false = false := fun j => by
  rw [List.getD_eq_getElem?_getD, List.getElem?_replicate]
  split <;> rfl
 obtain ⟨x', e, p1, p2, p3, p4⟩ := Cm hs (by omega) _ ((List.replicate s.size false).set i true) (by rw [List.length_set, hl]) (Nat.lt_succ_self _)
 refine ⟨x', ?_, by rw [p1, List.length_set, hl], fun j => ⟨fun h => ?_, fun h => ?_⟩⟩
 ·unfold jK.f HandReach.yG
  rw [aA, if_pos ⟨hR, hC, hs, by omega, by omega, by omega⟩, Int.toNat_natCast]
  exact e
 ·obtain ⟨a, h1, h2⟩ := p4 j h
  rw [hset, hrep] at h1
  by_cases ha : a = i
  ·subst ha; exact h2
  ·rw [if_neg ha] at h1; cases h1
 ·induction h with
  | refl => exact p2 i (by rw [hset, if_pos rfl])
  | step hx hn hw ih => exact p3 _ _ ih hn hw
theorem zq {R C : Int} {s : ByteArray} (n : Int) (x one : List Bool) (hx : x.length = s.size) (ho : one.length = s.size) (hsz : s.size ≤ 36) (i : Nat) (r : Int)
  (hr : ∀ x' : List Bool, x'.length = s.size → (∀ j : Nat, x'.getD j false = true ↔ x.getD j false = true ∨ one.getD j false = true) → Ev (fun k => aK.l1 k n x' (wrap64 ((i : Int) + 1)) R C s) r) : Ev (fun k => aK.l3 k n x (i : Int) one 0 R C s) r := by
 refine iE (σ := List Bool) (fun k a j => aK.l3 k n a (i : Int) one j R C s) s.size (fun t a => a.length = s.size ∧ ∀ j : Nat, a.getD j false = true ↔ x.getD j false = true ∨ (j < t ∧ one.getD j false = true)) (fun _ _ => r) (fun a ha => ?_) (fun t a ht ha => ?_) 0 x (Nat.zero_le _) ⟨hx, fun j => by simp⟩
 ·rw [← ak]
  simp only [aK.l3]
  rw [en]
  refine hr a ha.1 (fun j => ?_)
  rw [ha.2]
  exact ⟨fun q => q.imp id (·.2), fun q => q.imp id (fun h => ⟨by have := getD_lt h; omega, h⟩)⟩
 ·have htl : t < a.length := by omega
  have hra : dD false a (t : Int) = a.getD t false := rfl
  have hro : dD false one (t : Int) = one.getD t false := rfl
  refine .inr ⟨a.set t (a.getD t false || one.getD t false), ⟨by rw [List.length_set]; exact ha.1, fun j => ?_⟩, rfl, fun r' hr' => ?_⟩
  ·rw [vo _ _ _ _ htl]
   by_cases hj : j = t
   ·subst hj
    rw [if_pos rfl, Bool.or_eq_true, ha.2]
    constructor
    ·rintro ((h | ⟨h, _⟩) | h)
     ·exact .inl h
     ·omega
     ·exact .inr ⟨by omega, h⟩
    ·rintro (h | ⟨_, h⟩)
     ·exact .inl (.inl h)
     ·exact .inr h
   ·rw [if_neg hj, ha.2]
    exact ⟨fun q => q.imp id (fun h => ⟨by omega, h.2⟩), fun q => q.imp id (fun h => ⟨by omega, h.2⟩)⟩
  ·rw [← ak]
   simp only [aK.l3, hra, hro, bG (i := t) (by omega), Int.toNat_natCast]
   rw [ep, ep, aA]
   by_cases h : a.getD t false = true
   ·rw [if_pos h]
    rw [h, Bool.true_or] at hr'
    exact hr'
   ·rw [Bool.not_eq_true] at h
    rw [h, Bool.false_or] at hr'
    rw [if_neg (by rw [h]; exact Bool.false_ne_true), ep]
    exact hr'
theorem zu {R C : Int} {s : ByteArray} (n : Int) (x : List Bool) (hx : x.length = s.size) (hsz : s.size ≤ 36) (i : Nat) (one : List Bool) (r : Int) (ho : Ev (fun k => jK.f k R C s (List.replicate s.size false) (i : Int)) one)
  (hr : Ev (fun k => aK.l3 k n x (i : Int) one 0 R C s) r) : Ev (fun k => aK.l2 k n x (i : Int) [] 0 R C s) r := by
 refine iE (σ := List Bool) (fun k a j => aK.l2 k n x (i : Int) a j R C s) s.size (fun t a => a = List.replicate t false) (fun _ _ => r) (fun a ha => ?_) (fun t a ht ha => .inr ⟨a ++ [false], ?_, rfl, fun r' hr' => ?_⟩) 0 [] (Nat.zero_le _) rfl
 ·subst ha
  rw [← ak]
  simp only [aK.l2]
  rw [en, au ho]
  exact hr
 ·rw [ha, List.replicate_succ']
 ·have hal : a.length = t := by rw [ha, List.length_replicate]
  rw [← ak]
  simp only [aK.l2, bG (i := t) (by omega)]
  rw [ep, ep]
  exact hr'
theorem zk {R C : Int} {s : ByteArray} (hg : eO R C s = true) : Ev (fun k => aK.l1 k 0 (List.replicate s.size false) 0 R C s) (roots R C s 0 : Int) := by
 obtain ⟨hR, hC, hs, _⟩ := jl hg
 have hsz := fV hg
 have := iE (σ := List Bool × Int) (fun k st i => aK.l1 k st.2 st.1 i R C s) s.size (fun i st => (st.1.length = s.size ∧ 0 ≤ st.2 ∧ st.2 ≤ i) ∧ ∀ j : Nat, st.1.getD j false = true ↔ Met R C s i j) (fun i st => st.2 + (roots R C s i : Int)) (fun st hst => ?_) (fun i st hi hst => ?_) 0 (List.replicate s.size false, 0) (Nat.zero_le _) ⟨⟨by simp, by simp, by simp⟩, fun j => ?_⟩
 ·simpa using this
 ·rw [xM, ← ak]
  simp only [aK.l1, Int.lt_irrefl, if_false]
  rw [← ak]
  simp only [aK.j2, Bool.false_eq_true, if_false]
  exact fQ (aH _) (by simp)
 ·obtain ⟨⟨hx, hn0, hni⟩, hm⟩ := hst
  have hrs := vJ R C s i hi
  have hri : dD false st.1 (i : Int) = st.1.getD i false := rfl
  have start : ∀ b : Bool, (if bt s (i : Int) = 46 then (!(st.1.getD i false)) else false) = b → ∀ r, Ev (fun k => aK.j3 k st.2 st.1 (i : Int) b R C s) r → Ev (fun k => aK.l1 k st.2 st.1 (i : Int) R C s) r := by
   intro b hb r hr
   rw [← ak]
   simp only [aK.l1]
   rw [ep, au (iD R C s), hg, ← ak]
   simp only [aK.j2, if_true, hri]
   rw [ep, ep, aA]
   by_cases hw : bt s (i : Int) = 46
   ·rw [if_pos hw] at hb ⊢
    rw [ep, hb]
    exact hr
   ·rw [if_neg hw] at hb ⊢
    rw [hb]
    exact hr
  have skip : (Wh s i → Met R C s i i) → (if bt s (i : Int) = 46 then (!(st.1.getD i false)) else false) = false → ∃ s' : List Bool × Int, ((s'.1.length = s.size ∧ 0 ≤ s'.2 ∧ s'.2 ≤ ((i + 1 : Nat) : Int)) ∧ ∀ j : Nat, s'.1.getD j false = true ↔ Met R C s (i + 1) j) ∧ st.2 + (roots R C s i : Int) = s'.2 + (roots R C s (i + 1) : Int) ∧ ∀ r, Ev (fun k => aK.l1 k s'.2 s'.1 ((i + 1 : Nat) : Int) R C s) r → Ev (fun k => aK.l1 k st.2 st.1 (i : Int) R C s) r := by
   intro h hb
   refine ⟨st, ⟨⟨hx, hn0, by omega⟩, fun j => ?_⟩, ?_, fun r hr => start false hb r ?_⟩
   ·rw [hm, Met.same h]
   ·rw [hrs, yA h]; simp
   ·rw [← ak]
    simp only [aK.j3, Bool.false_eq_true, if_false, bG (i := i) (by omega)]
    exact hr
  by_cases hw : Wh s i
  ·cases h0 : st.1.getD i false with
   | true => exact .inr (skip (fun _ => (hm i).1 h0) (by unfold Wh at hw; rw [if_pos hw, h0]; rfl))
   | false =>
    have hnm : ¬ Met R C s i i := fun q => by have := (hm i).2 q; rw [h0] at this; cases this
    obtain ⟨one, e, z, hone⟩ := zn hg i hi
    obtain ⟨x', hx'⟩ : ∃ x' : List Bool, x'.length = s.size ∧ ∀ j : Nat, x'.getD j false = true ↔ st.1.getD j false = true ∨ one.getD j false = true := by
     refine ⟨(List.range s.size).map (fun j => st.1.getD j false || one.getD j false), by simp, fun j => ?_⟩
     by_cases hj : j < s.size
     ·rw [List.getD_eq_getElem?_getD, List.getElem?_map, List.getElem?_range hj]
      simp
     ·rw [List.getD_eq_getElem?_getD, List.getElem?_eq_none (by simp; omega)]
      constructor
      ·intro q
       cases q
      ·intro q
       rcases q with q | q
       ·have := getD_lt q; omega
       ·have := getD_lt q; omega
    have hsame : ∀ y : List Bool, y.length = s.size → (∀ j : Nat, y.getD j false = true ↔ st.1.getD j false = true ∨ one.getD j false = true) → y = x' := by
     intro y hy1 hy2
     refine List.ext_getElem (by omega) (fun j h1 h2 => ?_)
     have e1 : y.getD j false = y[j] := by simp [List.getD_eq_getElem?_getD, List.getElem?_eq_getElem h1]
     have e2 : x'.getD j false = x'[j] := by simp [List.getD_eq_getElem?_getD, List.getElem?_eq_getElem h2]
     rw [← e1, ← e2, Bool.eq_iff_iff, hy2, hx'.2]
    refine .inr ⟨(x', st.2 + 1), ⟨⟨hx'.1, by show 0 ≤ st.2 + 1; omega, by show st.2 + 1 ≤ _; omega⟩, fun j => ?_⟩, ?_, fun r hr => start true (by unfold Wh at hw; rw [if_pos hw, h0]; rfl) r ?_⟩
    ·rw [hx'.2, hm, hone, Met.succ]
     exact ⟨fun q => q.imp id (fun h => ⟨hw, h⟩), fun q => q.imp id (·.2)⟩
    ·rw [hrs, yS hw hnm]; simp; omega
    ·have e1 : wrap64 (st.2 + 1) = st.2 + 1 := j6 (by omega) (by omega)
     rw [← ak]
     simp only [aK.j3, if_true, e1]
     refine zu _ _ hx hsz.2 i one r e (zq _ _ one hx z hsz.2 i r (fun y hy1 hy2 => ?_))
     rw [hsame y hy1 hy2, bG (i := i) (by omega)]
     exact hr
  ·exact .inr (skip (fun h => absurd h hw) (by unfold Wh at hw; rw [if_neg hw]))
 ·constructor
  ·intro h
   exfalso
   rw [List.getD_eq_getElem?_getD, List.getElem?_replicate] at h
   split at h <;> simp at h
  ·rintro ⟨a, h, _⟩
   omega
theorem vM {R C : Int} {s : ByteArray} (hsz : s.size < 140737488355328) (r : Int) (hr : Ev (fun k => aK.l1 k 0 (List.replicate s.size false) 0 R C s) r) : Ev (fun k => aK.f k R C s) r := by
 unfold aK.f
 refine iE (σ := List Bool) (fun k a j => aK.l0 k 0 a j R C s) s.size (fun t a => a = List.replicate t false) (fun _ _ => r) (fun a ha => ?_) (fun t a ht ha => .inr ⟨a ++ [false], ?_, rfl, fun r' hr' => ?_⟩) 0 [] (Nat.zero_le _) rfl
 ·subst ha
  rw [← ak]
  simp only [aK.l0, Int.lt_irrefl, if_false]
  exact hr
 ·rw [ha, List.replicate_succ']
 ·have hal : a.length = t := by rw [ha, List.length_replicate]
  rw [← ak]
  simp only [aK.l0, bG (i := t) (by omega)]
  rw [ep, ep]
  exact hr'
theorem uU (R C : Int) (s : ByteArray) (hsz : s.size < 140737488355328) : Ev (fun k => aK.f k R C s) (rJ R C s) := by
 unfold rJ
 split
 ·rename_i hg
  exact vM hsz _ (zk hg)
 ·rename_i hg
  rw [Bool.not_eq_true] at hg
  refine vM hsz _ ?_
  have : Ev (fun k => aK.j2 k 0 (List.replicate s.size false) 0 false R C s) 0 := by
   rw [← ak]
   simp only [aK.j2, Bool.false_eq_true, if_false]
   exact aH _
  rw [← ak]
  simp only [aK.l1]
  rw [aA]
  split
  ·rw [au (iD R C s), hg]
   exact this
  ·exact this
def BP (R C : Int) (s : ByteArray) : Bool := eO R C s && decide (uM s = s)
theorem tY {R C : Int} {s : ByteArray} (hg : eO R C s = true) : Ev (fun k => jJ.f k R C s) (R, C, uM s) := by
 have := fV hg
 unfold jJ.f
 rw [au (iD R C s), ep hg, au (nR s (by omega))]
 exact aH _
theorem um {R C : Int} {s : ByteArray} (hg : eO R C s = true) : Ev (fun k => jM.f k R C s) (R, C, uM s) := by
 have := fV hg
 unfold jM.f
 rw [au (jP R C s), ep hg]
 simp only [nM s (by omega), Option.bind_some]
 exact aH _
theorem qM (R C : Int) (s : ByteArray) : Ev (fun k => dN.f k R C s) (BP R C s) := by
 unfold dN.f BP
 rw [au (iD R C s), aA]
 split
 ·rename_i hg
  rw [au (tY hg)]
  exact fQ (aH _) (by simp [hg, jv])
 ·rename_i hg
  exact fQ (aH _) (by simp [hg])
theorem qJ (R C : Int) (s : ByteArray) : Ev (fun k => dP.f k R C s) (BP R C s) := by
 unfold dP.f BP
 rw [au (jP R C s), aA]
 split
 ·rename_i hg
  rw [au (um hg)]
  exact fQ (aH _) (by simp [hg, jv, eq_comm])
 ·rename_i hg
  exact fQ (aH _) (by simp [hg])
theorem Av (l : List Int) (x : Int) (hl : l.length < 4611686018427387904) : Ev (fun k => bV.f k l x) (match l.findIdx? (fun y => decide (y = x)) with | some i => (i : Int) | none => -1) := by
 refine uj (fun k i => bV.l0 k l x (l.length : Int) i) l _ ?_ (fun i hi hp r hr => ?_) (fun i hi hp => ?_)
 ·rw [← ak]; simp [bV.l0, aH]
 ·rw [← ak]
  simp only [bV.l0, nH l i hi, bG (i := i) (by omega)]
  rw [ep, ep, ep, en (fun e => of_decide_eq_false hp e.symm)]
  exact hr
 ·rw [← ak]
  simp only [bV.l0, nH l i hi]
  rw [ep, ep, ep, aA, if_pos (of_decide_eq_true hp).symm]
  exact aH _
theorem BN {α : Type} (l : List α) (p : α → Bool) : decide ((match l.findIdx? p with | some i => (i : Int) | none => -1) ≥ 0) = l.any p := by
 cases h : l.findIdx? p with
 | none =>
  have := List.findIdx?_eq_none_iff.1 h
  simp
  intro x hx
  simpa using this x hx
 | some i =>
  obtain ⟨h1, h2, _⟩ := List.findIdx?_eq_some_iff_getElem.1 h
  simp
  exact ⟨l[i], List.getElem_mem h1, h2⟩
theorem yD (l : List Int) (x : Int) (hl : l.length < 4611686018427387904) : Ev (fun k => fO.f k l x) (l.any (fun y => decide (y = x))) := by
 unfold fO.f
 rw [au (Av l x hl), BN]
 exact aH _
def wH (C : Int) (c : Int) (x : dI) : Bool := (dG C x).any (fun y => decide (y = c))
noncomputable def mH (R C : Int) (s : ByteArray) (c : Int) : List Int := (List.range (aV R C s).length).flatMap (fun (i : Nat) => if ((aV R C s)[i]?).any (wH C c) = true then [(i : Int)] else [])
theorem qN (R C : Int) (s : ByteArray) (c : Int) (i : Nat) : (((List.range (aV R C s).length).take i).flatMap (fun (i : Nat) => if ((aV R C s)[i]?).any (wH C c) = true then [(i : Int)] else [])).length ≤ 72 := by
 have h1 := mD (fun i : Nat => if ((aV R C s)[i]?).any (wH C c) = true then [(i : Int)] else []) 1 i (List.range (aV R C s).length) (fun x _ => by split <;> simp)
 have h2 := (dV R C s).2.2
 rw [List.length_range] at h1
 omega
theorem yj (R C : Int) (s : ByteArray) (c : Int) : (((mH R C s c).length : Int) = 0) ↔ c ∉ ((aV R C s).map (dG C)).flatten := by
 have : ((mH R C s c).length : Int) = 0 ↔ mH R C s c = [] := by rw [← List.length_eq_zero_iff]; omega
 rw [this]
 unfold mH
 rw [List.flatMap_eq_nil_iff]
 simp only [List.mem_range, List.mem_flatten, List.mem_map]
 constructor
 ·rintro h ⟨l, ⟨x, hx, rfl⟩, hc⟩
  obtain ⟨i, hi, rfl⟩ := List.getElem_of_mem hx
  have := h i hi
  rw [if_pos] at this
  ·cases this
  ·rw [List.getElem?_eq_getElem hi]
   show wH C c (aV R C s)[i] = true
   exact List.any_eq_true.2 ⟨c, hc, decide_eq_true rfl⟩
 ·intro h i hi
  rw [if_neg]
  rw [List.getElem?_eq_getElem hi]
  intro q
  obtain ⟨y, hy, e⟩ := List.any_eq_true.1 (show wH C c (aV R C s)[i] = true from q)
  have := of_decide_eq_true e
  subst this
  exact h ⟨_, ⟨_, List.getElem_mem hi, rfl⟩, hy⟩
theorem mO (R C : Int) (s : ByteArray) (c : Int) : Ev (fun k => bU.f k R C s c) (mH R C s c) := by
 have hlen := (dV R C s).2.2
 have hlr : (List.range (aV R C s).length).length = (aV R C s).length := List.length_range
 unfold bU.f
 rw [au (iF R C s)]
 refine jf (fun k a i => bU.l0 k c a (aV R C s) i R C s) (List.range (aV R C s).length) (fun (i : Nat) => if ((aV R C s)[i]?).any (wH C c) = true then [(i : Int)] else []) 0 (fun a => ?_) (fun i hi a ha r hr => ?_)
 ·rw [← ak]; simp only [bU.l0, hlr, Int.lt_irrefl, if_false]; exact aH _
 ·have hb := qN R C s c i
  have hi' : i < (aV R C s).length := by omega
  have hm := List.getElem_mem hi'
  have hcl : (dG C (aV R C s)[i]).length < 4611686018427387904 := by rw [gB]; have := ((dV R C s).1 _ hm).2.2.2.1; omega
  rw [List.getElem_range, List.getElem?_eq_getElem hi'] at hr
  rw [← ak]
  simp only [bU.l0, kU _ i hi', bG (i := i) (by omega)]
  rw [ep, ep, au (mJ _ hm), au (xu _ c hcl), aA]
  by_cases h : (dG C (aV R C s)[i]).any (fun y => decide (y = c)) = true
  ·rw [if_pos (show Option.any (wH C c) (some (aV R C s)[i]) = true from h)] at hr
   rw [if_pos h, ep]
   exact hr
  ·rw [if_neg (show ¬ Option.any (wH C c) (some (aV R C s)[i]) = true from h), List.append_nil] at hr
   rw [if_neg h]
   exact hr
noncomputable def yV (R C : Int) (s : ByteArray) (c : Int) : Bool := ((mH R C s c).length : Int) == 2
noncomputable def mU (R C : Int) (s : ByteArray) (x : dI) : Int := (((dG C x).countP (fun c => !yV R C s c) : Nat) : Int)
theorem nS (R C : Int) (s : ByteArray) (c : Int) : Ev (fun k => jq.f k R C s c) (yV R C s c) := by
 unfold jq.f
 rw [au (mO R C s c)]
 exact aH _
theorem mP (R C : Int) (s : ByteArray) (i : Nat) (hi : i < (aV R C s).length) : Ev (fun k => dx.f k R C s (i : Int)) (mU R C s (aV R C s)[i]) := by
 have hlen := (dV R C s).2.2
 have hm := List.getElem_mem hi
 have ok := (dV R C s).1 _ hm
 have hcl := gB C (aV R C s)[i]
 have hok := ok.2.2.2.1
 have e : wrap64 (((aV R C s).length : Int) - 1) = (aV R C s).length - 1 := j6 (by omega) (by omega)
 unfold dx.f
 rw [au (iF R C s)]
 simp only [mZ, Option.bind_some, e, kU _ i hi]
 rw [ep (by simp; omega), ep, ep, au (mJ _ hm)]
 unfold mU
 generalize dG C (aV R C s)[i] = l at hcl
 have := iE (σ := Nat) (fun k a j => dx.l0 k l (a : Int) j R C s) l.length (fun j a => a ≤ j) (fun j a => ((a + (l.drop j).countP (fun c => !yV R C s c) : Nat) : Int)) (fun a ha => ?_) (fun j a hj ha => ?_) 0 0 (Nat.zero_le _) (Nat.le_refl _)
 ·simpa using this
 ·rw [← ak]
  simp only [dx.l0, List.drop_length, List.countP_nil, Nat.add_zero, Int.lt_irrefl, if_false]
  exact aH _
 ·rw [List.drop_eq_getElem_cons hj, List.countP_cons]
  have ew : wrap64 ((a : Int) + 1) = ((a + 1 : Nat) : Int) := bG (by omega)
  by_cases h : yV R C s l[j] = true
  ·refine .inr ⟨a, by omega, by simp [h], fun r hr => ?_⟩
   rw [← ak]
   simp only [dx.l0, nH l j hj, bG (i := j) (by omega), ew]
   rw [ep, ep, au (nS R C s l[j]), ep h]
   exact hr
  ·refine .inr ⟨a + 1, by omega, by simp [h]; omega, fun r hr => ?_⟩
   rw [← ak]
   simp only [dx.l0, nH l j hj, bG (i := j) (by omega), ew]
   rw [ep, ep, au (nS R C s l[j]), en h]
   exact hr
theorem yX (R C : Int) (s : ByteArray) (x : dI) (hx : x ∈ aV R C s) : 0 ≤ mU R C s x ∧ mU R C s x ≤ 6 := by
 have ok := (dV R C s).1 _ hx
 have h1 := gB C x
 have h2 := ok.2.2.2.1
 have h3 : (dG C x).countP (fun c => !yV R C s c) ≤ (dG C x).length := List.countP_le_length
 unfold mU
 omega
theorem uP (R C : Int) (s : ByteArray) (c : Int) : Ev (fun k => fC.f k R C s c) (mH R C s c) := by
 have hlen := (dV R C s).2.2
 have hlr : (List.range (aV R C s).length).length = (aV R C s).length := List.length_range
 have hll : ((aV R C s).map (dG C)).length = (aV R C s).length := List.length_map _
 unfold fC.f
 rw [au (l5 R C s)]
 refine jf (fun k a i => fC.l0 k c a ((aV R C s).map (dG C)) (((aV R C s).map (dG C)).length : Int) i) (List.range (aV R C s).length) (fun (i : Nat) => if ((aV R C s)[i]?).any (wH C c) = true then [(i : Int)] else []) 0 (fun a => ?_) (fun i hi a ha r hr => ?_)
 ·rw [← ak]; simp only [fC.l0, hlr, hll, Int.lt_irrefl, if_false]; exact aH _
 ·have hb := qN R C s c i
  have hi' : i < (aV R C s).length := by omega
  have hm := List.getElem_mem hi'
  have hcl : (dG C (aV R C s)[i]).length < 4611686018427387904 := by rw [gB]; have := ((dV R C s).1 _ hm).2.2.2.1; omega
  have hL : ((aV R C s).map (dG C))[i]'(by omega) = dG C (aV R C s)[i] := List.getElem_map _
  rw [List.getElem_range, List.getElem?_eq_getElem hi'] at hr
  rw [← ak]
  simp only [fC.l0, zy ((aV R C s).map (dG C)) i (by omega), hL, bG (i := i) (by omega)]
  rw [ep, ep, ep, au (yD _ c hcl), aA]
  by_cases h : (dG C (aV R C s)[i]).any (fun y => decide (y = c)) = true
  ·rw [if_pos (show Option.any (wH C c) (some (aV R C s)[i]) = true from h)] at hr
   rw [if_pos h, ep]
   exact hr
  ·rw [if_neg (show ¬ Option.any (wH C c) (some (aV R C s)[i]) = true from h), List.append_nil] at hr
   rw [if_neg h]
   exact hr
theorem nT (R C : Int) (s : ByteArray) (c : Int) : Ev (fun k => jw.f k R C s c) (yV R C s c) := by
 unfold jw.f
 rw [au (uP R C s c)]
 exact aH _
theorem mV (R C : Int) (s : ByteArray) (i : Nat) (hi : i < (aV R C s).length) : Ev (fun k => dz.f k R C s (i : Int)) (mU R C s (aV R C s)[i]) := by
 have hlen := (dV R C s).2.2
 have hm := List.getElem_mem hi
 have ok := (dV R C s).1 _ hm
 have hcl := gB C (aV R C s)[i]
 have hok := ok.2.2.2.1
 have hll : ((aV R C s).map (dG C)).length = (aV R C s).length := List.length_map _
 have hL : ((aV R C s).map (dG C))[i]'(by omega) = dG C (aV R C s)[i] := List.getElem_map _
 unfold dz.f
 rw [au (l5 R C s)]
 simp only [at_eq, Option.bind_some, zy ((aV R C s).map (dG C)) i (by omega), hL]
 rw [ep (by simp; omega), ep, ep]
 unfold mU
 generalize dG C (aV R C s)[i] = l at hcl
 have := iE (σ := Nat) (fun k a j => dz.l0 k (a : Int) l (l.length : Int) j R C s) l.length (fun j a => a ≤ j) (fun j a => ((a + (l.drop j).countP (fun c => !yV R C s c) : Nat) : Int)) (fun a ha => ?_) (fun j a hj ha => ?_) 0 0 (Nat.zero_le _) (Nat.le_refl _)
 ·simpa using this
 ·rw [← ak]
  simp only [dz.l0, List.drop_length, List.countP_nil, Nat.add_zero, Int.lt_irrefl, if_false]
  exact aH _
 ·rw [List.drop_eq_getElem_cons hj, List.countP_cons]
  have ew : wrap64 ((a : Int) + 1) = ((a + 1 : Nat) : Int) := bG (by omega)
  by_cases h : yV R C s l[j] = true
  ·refine .inr ⟨a, by omega, by simp [h], fun r hr => ?_⟩
   rw [← ak]
   simp only [dz.l0, nH l j hj, bG (i := j) (by omega), ew]
   rw [ep, ep, ep, au (nT R C s l[j]), ep h]
   exact hr
  ·refine .inr ⟨a + 1, by omega, by simp [h]; omega, fun r hr => ?_⟩
   rw [← ak]
   simp only [dz.l0, nH l j hj, bG (i := j) (by omega), ew]
   rw [ep, ep, ep, au (nT R C s l[j]), en h]
   exact hr
noncomputable def zf (R C : Int) (s : ByteArray) : Bool := (aV R C s).any (fun x => decide (x.f3 < 3))
noncomputable def tF (R C : Int) (s : ByteArray) : Bool := (aV R C s).any (fun x => decide (2 * mU R C s x > x.f3))
noncomputable def nE (R C : Int) (s : ByteArray) (c : Nat) : Bool := decide (bt s (c : Int) = 46) && decide (((mH R C s c).length : Int) = 0)
noncomputable def yP (R C : Int) (s : ByteArray) : Int :=
 if eO R C s = true then (if BP R C s = true then (if (rJ R C s == 1) = true then (if zf R C s = true then 4 else if (tF R C s || (List.range s.size).any (nE R C s)) = true then 5 else 0) else 3) else 2) else 1
theorem oV {R C : Int} {s : ByteArray} (hg : eO R C s = true) (c : Nat) (hc : c < s.size) : Ev (fun k => kr.f k R C s (c : Int)) (bt s (c : Int) == 46) := by
 have := fV hg
 have e : wrap64 ((s.size : Int) - 1) = s.size - 1 := j6 (by omega) (by omega)
 unfold kr.f
 rw [au (iD R C s), ep hg]
 simp only [mZ, Option.bind_some, e]
 rw [ep (by simp; omega), ep, ep]
 exact aH _
theorem tJ (R C : Int) (s : ByteArray) : Ev (fun k => fu.f k R C s) (zf R C s) := by
 have hlen := (dV R C s).2.2
 unfold fu.f
 rw [au (iF R C s)]
 refine nu (fun k i => fu.l0 k (aV R C s) i) (aV R C s) (fun x => decide (x.f3 < 3)) ?_ (fun i hi hp r hr => ?_) (fun i hi hp => ?_)
 ·rw [← ak]; simp [fu.l0, aH]
 ·rw [← ak]
  simp only [fu.l0, kU _ i hi, bG (i := i) (by omega)]
  rw [ep, ep, en (of_decide_eq_false hp)]
  exact hr
 ·rw [← ak]
  simp only [fu.l0, kU _ i hi]
  rw [ep, ep, ep (of_decide_eq_true hp)]
  exact aH _
theorem tu {R C : Int} {s : ByteArray} (hg : eO R C s = true) : Ev (fun k => bB.l1 k 0 R C s) ((List.range s.size).any (nE R C s)) := by
 have hsz := fV hg
 have hlr : (List.range s.size).length = s.size := List.length_range
 refine nu (fun k i => bB.l1 k i R C s) (List.range s.size) (nE R C s) ?_ (fun i hi hp r hr => ?_) (fun i hi hp => ?_)
 ·rw [← ak]; simp [bB.l1, aH]
 ·have hi' : i < s.size := by omega
  rw [List.getElem_range] at hp
  rw [← ak]
  simp only [bB.l1, bG (i := i) (by omega)]
  rw [ep, au (oV hg i hi'), aA]
  unfold nE at hp
  by_cases h : bt s (i : Int) = 46
  ·rw [if_pos (by rw [h]; rfl), au (mO R C s i), aA, if_neg]
   ·exact hr
   ·simpa [h] using hp
  ·rw [if_neg (by simpa using h)]
   exact hr
 ·have hi' : i < s.size := by omega
  rw [List.getElem_range] at hp
  rw [← ak]
  simp only [bB.l1, bG (i := i) (by omega)]
  unfold nE at hp
  rw [Bool.and_eq_true, decide_eq_true_eq, decide_eq_true_eq] at hp
  rw [ep, au (oV hg i hi'), ep (by rw [hp.1]; rfl), au (mO R C s i), ep hp.2]
  exact aH _
theorem vk {α : Type} (l : List α) (p : α → Bool) (i : Nat) (h : i < l.length) : (l.drop i).any p = (p l[i] || (l.drop (i + 1)).any p) := by rw [List.drop_eq_getElem_cons h, List.any_cons]
theorem tX {R C : Int} {s : ByteArray} (hg : eO R C s = true) : Ev (fun k => bB.f k R C s) (tF R C s || (List.range s.size).any (nE R C s)) := by
 have hlen := (dV R C s).2.2
 unfold bB.f
 rw [au (iF R C s)]
 have := kC (fun k i => bB.l0 k (aV R C s) i R C s) (aV R C s).length (fun i => ((aV R C s).drop i).any (fun x => decide (2 * mU R C s x > x.f3)) || (List.range s.size).any (nE R C s)) ?_ (fun i hi => ?_) 0 (Nat.zero_le _)
 ·simpa [tF] using this
 ·rw [← ak]
  simp only [bB.l0, Int.lt_irrefl, if_false, List.drop_length, List.any_nil, Bool.false_or]
  exact tu hg
 ·have hu := yX R C s _ (List.getElem_mem hi)
  have e2 : wrap64 (2 * mU R C s (aV R C s)[i]) = 2 * mU R C s (aV R C s)[i] := j6 (by omega) (by omega)
  rw [vk _ _ _ hi]
  by_cases h : 2 * mU R C s (aV R C s)[i] > (aV R C s)[i].f3
  ·refine .inl ?_
   rw [← ak]
   simp only [bB.l0, kU _ i hi]
   rw [ep, au (mP R C s i hi), ep, ep (by rw [e2]; exact h)]
   exact fQ (aH _) (by simp [h])
  ·refine .inr ⟨by simp [h], fun r hr => ?_⟩
   rw [← ak]
   simp only [bB.l0, kU _ i hi, bG (i := i) (by omega)]
   rw [ep, au (mP R C s i hi), ep, en (by rw [e2]; exact h)]
   exact hr
theorem vB (R C : Int) (s : ByteArray) (hs : s.size < 140737488355328) : Ev (fun k => kL.f k R C s) (yP R C s) := by
 unfold kL.f yP
 rw [au (iD R C s), aA]
 split
 ·rename_i hg
  rw [au (qM R C s), aA]
  split
  ·have hcon : Ev (fun k => iM.f k R C s) (rJ R C s == 1) := by
    unfold iM.f
    rw [au (uU R C s hs)]
    exact aH _
   rw [au hcon, aA]
   split
   ·rw [au (tJ R C s), aA]
    split
    ·exact aH _
    ·rw [au (tX hg), aA]
     split <;> exact aH _
   ·exact aH _
  ·exact aH _
 ·exact aH _
theorem wU {R C : Int} {s : ByteArray} (hg : eO R C s = true) : Ev (fun k => mg.f k R C s s) ((List.range s.size).any (nE R C s)) := by
 have hsz := fV hg
 obtain ⟨good, _, hlen⟩ := dV R C s
 have hlr : (List.range s.size).length = s.size := List.length_range
 have hcl : ∀ l ∈ (aV R C s).map (dG C), l.length ≤ 6 := by
  intro l hl
  obtain ⟨x, hx, rfl⟩ := List.mem_map.1 hl
  rw [gB]
  have := (good x hx).2.2.2.1
  omega
 have hfl : ((aV R C s).map (dG C)).flatten.length ≤ 6 * 72 := by
  have h1 := wG (fun l : List Int => l) 6 ((aV R C s).map (dG C)) hcl
  rw [List.length_map] at h1
  rw [List.flatMap_id'] at h1
  have : 6 * (aV R C s).length ≤ 6 * 72 := Nat.mul_le_mul_left 6 hlen
  omega
 have hcells : ∀ c ∈ ((aV R C s).map (dG C)).flatten, 0 ≤ c ∧ c < 1000000 := by
  intro c hc
  obtain ⟨l, hl, hcl⟩ := List.mem_flatten.1 hc
  obtain ⟨x, hx, rfl⟩ := List.mem_map.1 hl
  have := qw (good x hx) c hcl
  omega
 unfold mg.f
 rw [au (l5 R C s)]
 unfold HandAlone.yt
 rw [aA, if_pos ⟨by omega, by omega, by rw [List.length_map]; omega, hcells⟩]
 have hnil := fun c : Nat => yj R C s (c : Int)
 generalize ((aV R C s).map (dG C)).flatten = S at hnil
 refine nu (fun k i => HandAlone.nA eP.f S s s k i) (List.range s.size) (nE R C s) ?_ (fun i hi hp r hr => ?_) (fun i hi hp => ?_)
 ·rw [← ak]; simp [HandAlone.nA, aH]
 ·rw [List.getElem_range] at hp
  rw [← ak]
  simp only [HandAlone.nA]
  unfold nE at hp
  rw [ep, aA]
  by_cases h : bt s (i : Int) = 46
  ·rw [if_pos h, aA, if_pos]
   ·exact hr
   ·rw [h, decide_eq_true rfl, Bool.true_and, decide_eq_false_iff_not, hnil] at hp
    exact Classical.byContradiction hp
  ·rw [if_neg h]
   exact hr
 ·rw [List.getElem_range] at hp
  unfold nE at hp
  rw [Bool.and_eq_true, decide_eq_true_eq, decide_eq_true_eq, hnil] at hp
  rw [← ak]
  simp only [HandAlone.nA]
  rw [ep, ep hp.1, en hp.2, ep]
  simp only [nQ, hp.1, Option.bind_some]
  exact fQ (aH _) rfl
theorem wm {R C : Int} {s : ByteArray} (hg : eO R C s = true) : Ev (fun k => dw.l1 k (aV R C s) ((aV R C s).length : Int) 0 R C s) (if (tF R C s || (List.range s.size).any (nE R C s)) = true then 5 else 0) := by
 have hlen := (dV R C s).2.2
 have := kC (fun k i => dw.l1 k (aV R C s) ((aV R C s).length : Int) i R C s) (aV R C s).length (fun i => if (((aV R C s).drop i).any (fun x => decide (2 * mU R C s x > x.f3)) || (List.range s.size).any (nE R C s)) = true then (5 : Int) else 0) ?_ (fun i hi => ?_) 0 (Nat.zero_le _)
 ·exact this
 ·rw [← ak]
  simp only [dw.l1, Int.lt_irrefl, if_false, List.drop_length, List.any_nil, Bool.false_or]
  rw [au (wU hg), aA]
  split <;> exact aH _
 ·have hu := yX R C s _ (List.getElem_mem hi)
  have e2 : wrap64 (2 * mU R C s (aV R C s)[i]) = 2 * mU R C s (aV R C s)[i] := j6 (by omega) (by omega)
  rw [vk _ _ _ hi]
  by_cases h : 2 * mU R C s (aV R C s)[i] > (aV R C s)[i].f3
  ·refine .inl ?_
   rw [← ak]
   simp only [dw.l1, kU _ i hi]
   rw [ep, ep, ep, au (mV R C s i hi), ep (by rw [e2]; exact h)]
   exact fQ (aH _) (by simp [h])
  ·refine .inr ⟨by simp [h], fun r hr => ?_⟩
   rw [← ak]
   simp only [dw.l1, kU _ i hi, bG (i := i) (by omega)]
   rw [ep, ep, ep, au (mV R C s i hi), en (by rw [e2]; exact h)]
   exact hr
theorem vG {R C : Int} {s : ByteArray} (hg : eO R C s = true) : Ev (fun k => dw.l0 k (aV R C s) (aV R C s) ((aV R C s).length : Int) 0 R C s) (if zf R C s = true then 4 else if (tF R C s || (List.range s.size).any (nE R C s)) = true then 5 else 0) := by
 have hlen := (dV R C s).2.2
 have := kC (fun k i => dw.l0 k (aV R C s) (aV R C s) ((aV R C s).length : Int) i R C s) (aV R C s).length (fun i => if ((aV R C s).drop i).any (fun x => decide (x.f3 < 3)) = true then (4 : Int) else if (tF R C s || (List.range s.size).any (nE R C s)) = true then 5 else 0) ?_ (fun i hi => ?_) 0 (Nat.zero_le _)
 ·exact this
 ·rw [← ak]
  simp only [dw.l0, Int.lt_irrefl, if_false, List.drop_length, List.any_nil, Bool.false_eq_true]
  exact wm hg
 ·rw [vk _ _ _ hi]
  by_cases h : (aV R C s)[i].f3 < 3
  ·refine .inl ?_
   rw [← ak]
   simp only [dw.l0, kU _ i hi]
   rw [ep, ep, ep, ep h]
   exact fQ (aH _) (by simp [h])
  ·refine .inr ⟨by simp [h], fun r hr => ?_⟩
   rw [← ak]
   simp only [dw.l0, kU _ i hi, bG (i := i) (by omega)]
   rw [ep, ep, ep, en h]
   exact hr
theorem vW (R C : Int) (s : ByteArray) : Ev (fun k => dw.f k R C s) (yP R C s) := by
 unfold dw.f yP
 rw [au (jP R C s), aA]
 split
 ·rename_i hg
  rw [au (qJ R C s), aA]
  split
  ·have hcon : Ev (fun k => iN.f k R C s) (rJ R C s == 1) := by
    unfold iN.f
    rw [au (uO R C s)]
    exact aH _
   rw [au hcon, aA]
   split
   ·rw [au (oW R C s)]
    exact vG hg
   ·exact aH _
  ·exact aH _
 ·exact aH _
def Dy (l : List Int) : Prop := ∀ c ∈ l, 0 ≤ c ∧ c ≤ 255
theorem rO (l : List Int) (h : Dy l) : bytesOf (strOfNums l) = l := by
 unfold bytesOf
 rw [strOfNums_data, List.map_map]
 have : ∀ c ∈ l, ((fun c : UInt8 => (c.toNat : Int)) ∘ fun n : Int => UInt8.ofNat n.toNat) c = c := by
  intro c hc
  have := h c hc
  simp only [Function.comp_apply, UInt8.toNat_ofNat']
  omega
 conv => rhs; rw [← List.map_id l]
 exact List.map_congr_left (fun c hc => by rw [this c hc]; rfl)
def qb (l : List ByteArray) (i : Nat) : Bool := lu (l.take i) (dD ByteArray.empty l (i : Int))
def xA (l : List ByteArray) : Int := (((List.range l.length).countP (qb l) : Nat) : Int)
theorem vL (l : List ByteArray) (y x : ByteArray) : lu (l ++ [y]) x = (lu l x || decide (y = x)) := by simp [lu]
theorem wz (l : List ByteArray) (i : Nat) (h : i < l.length) : l6 (l.take (i + 1)) = iI (l6 (l.take i)) l[i] := by
 rw [List.take_succ_eq_append_getElem h, l6, List.foldl_append]
 rfl
theorem BI (l : List ByteArray) : ∀ i, i ≤ l.length → ∀ x, lu (l6 (l.take i)) x = lu (l.take i) x := by
 intro i
 induction i with
 | zero => intro _ x; rfl
 | succ i ih =>
  intro hi x
  have ih' := ih (by omega)
  rw [wz l i (by omega), List.take_succ_eq_append_getElem (by omega), vL]
  unfold iI
  by_cases h : lu (l6 (l.take i)) l[i] = true
  ·rw [if_pos h, ih']
   by_cases e : l[i] = x
   ·subst e
    rw [ih'] at h
    rw [h, Bool.true_or]
   ·rw [decide_eq_false e, Bool.or_false]
  ·rw [if_neg h, vL, ih']
theorem Aw (l : List ByteArray) : ∀ i, i ≤ l.length → (l6 (l.take i)).length + (List.range i).countP (qb l) = i := by
 intro i
 induction i with
 | zero => intro _; rfl
 | succ i ih =>
  intro hi
  have ih' := ih (by omega)
  have hr : dD ByteArray.empty l (i : Int) = l[i] := jo ByteArray.empty l i (by omega)
  rw [wz l i (by omega), List.range_succ, List.countP_append]
  unfold iI
  have hw : qb l i = lu (l6 (l.take i)) l[i] := by rw [BI l i (by omega)]; unfold qb; rw [hr]
  by_cases h : lu (l6 (l.take i)) l[i] = true
  ·rw [if_pos h]
   have : List.countP (qb l) [i] = 1 := by simp [hw, h]
   omega
  ·rw [if_neg h]
   have : List.countP (qb l) [i] = 0 := by simp [hw, h]
   rw [List.length_append]
   simp only [List.length_cons, List.length_nil]
   omega
theorem Cb (l : List ByteArray) : (l.length : Int) - ((l6 l).length : Int) = xA l := by
 have := Aw l l.length (Nat.le_refl _)
 rw [List.take_length] at this
 unfold xA
 omega
theorem sF (l : List ByteArray) (hl : l.length < 4611686018427387904) : Ev (fun k => dS.f k l) (xA l) := by
 unfold dS.f xA
 have := iE (σ := Nat) (fun k a i => dS.l0 k l (a : Int) i) l.length (fun i a => a = (List.range i).countP (qb l)) (fun _ _ => (((List.range l.length).countP (qb l) : Nat) : Int)) (fun a ha => ?_) (fun i a hi ha => ?_) 0 0 (Nat.zero_le _) rfl
 ·exact this
 ·subst ha
  rw [← ak]
  simp only [dS.l0, Int.lt_irrefl, if_false]
  exact aH _
 ·have hle : a ≤ i := by rw [ha]; have := List.countP_le_length (p := qb l) (l := List.range i); rw [List.length_range] at this; exact this
  have hr : lu (l.take i) (dD ByteArray.empty l (i : Int)) = qb l i := rfl
  have hw := lF (l.take i) (dD ByteArray.empty l (i : Int)) (by rw [List.length_take]; omega)
  by_cases h : qb l i = true
  ·refine .inr ⟨a + 1, ?_, rfl, fun r hr' => ?_⟩
   ·rw [List.range_succ, List.countP_append, ha]
    simp [h]
   ·rw [← ak]
    simp only [dS.l0, bG (i := i) (by omega), bG (i := a) (by omega), Int.toNat_natCast]
    rw [ep, ep, ep, au hw, ep (by rw [hr]; exact h)]
    exact hr'
  ·refine .inr ⟨a, ?_, rfl, fun r hr' => ?_⟩
   ·rw [List.range_succ, List.countP_append, ha]
    simp [h]
   ·rw [← ak]
    simp only [dS.l0, bG (i := i) (by omega), Int.toNat_natCast]
    rw [ep, ep, ep, au hw, en (by rw [hr]; exact h)]
    exact hr'
theorem sK (l : List ByteArray) (hl : l.length ≤ 8796093022208) : Ev (fun k => jy.f k l) (xA l) := by
 unfold jy.f
 have := Bz l
 rw [au (rZ l hl), j6 (by omega) (by omega), Cb]
 exact aH _
def uD (p : ByteArray) : Bool := !((bytesOf p).any (fun c => c == 63))
noncomputable def jd (R C : Int) (s f : ByteArray) : List ByteArray := (mI R C s f).filter uD
theorem r9 (R C : Int) (s f : ByteArray) : (jd R C s f).length ≤ 72 := Nat.le_trans (List.length_filter_le _ _) (xG R C s f)
theorem xE {R C : Int} {s f p : ByteArray} (h : p ∈ mI R C s f) : jE R C s f = true ∧ ∃ x ∈ aV R C s, p = oF f (dG C x) ∧ p.size ≤ 6 := by
 unfold mI at h
 split at h
 ·rename_i hf
  obtain ⟨x, hx, rfl⟩ := List.mem_map.1 h
  have ok := (dV R C s).1 x hx
  refine ⟨hf, x, hx, rfl, ?_⟩
  rw [tK, gB]
  have := ok.2.2.2.1
  omega
 ·cases h
theorem Br (f : ByteArray) (c : Int) (h0 : 0 ≤ c) (h1 : c < f.size) : bt f c ∈ bytesOf f := by
 obtain ⟨n, rfl⟩ := Int.eq_ofNat_of_zero_le h0
 rw [lH f n (by omega)]
 exact List.getElem_mem _
theorem qQ {R C : Int} {s f : ByteArray} (h : oD R C s f = true) : jd R C s f = mI R C s f ∧ (mI R C s f).length = (aV R C s).length := by
 unfold oD at h
 rw [Bool.and_eq_true] at h
 obtain ⟨hf, ho⟩ := h
 obtain ⟨hg, hfs, _⟩ := mF hf
 refine ⟨List.filter_eq_self.2 (fun p hp => ?_), by unfold mI; rw [if_pos hf, List.length_map]⟩
 obtain ⟨_, x, hx, rfl, _⟩ := xE hp
 have ok := (dV R C s).1 x hx
 unfold uD
 rw [Bool.not_eq_true', List.any_eq_false]
 intro c hc
 rw [oF, rO] at hc
 ·obtain ⟨z, hz, rfl⟩ := List.mem_map.1 hc
  have hzc := qw ok z hz
  rw [Bool.not_eq_true', List.any_eq_false] at ho
  exact ho _ (Br f z hzc.1 (by omega))
 ·intro c hc
  obtain ⟨z, _, rfl⟩ := List.mem_map.1 hc
  exact BD f z
theorem uK (R C : Int) (s f : ByteArray) : Ev (fun k => bW.f k R C s f) (jd R C s f) := by
 obtain ⟨good, hnd, hlen⟩ := dV R C s
 unfold bW.f
 rw [au (iF R C s)]
 have hend : ∀ (a : List ByteArray) (i : Int), Ev (fun k => bW.j1 k f a (aV R C s) i false R C s) a := by
  intro a i
  rw [← ak]
  simp only [bW.j1, Bool.false_eq_true, if_false]
  exact aH _
 by_cases hf : jE R C s f = true
 ·have hpl : (mI R C s f).length = (aV R C s).length := by unfold mI; rw [if_pos hf, List.length_map]
  refine fQ (jf (fun k a i => bW.l0 k f a (aV R C s) i R C s) (mI R C s f) (fun p => if uD p = true then [p] else []) 0 (fun a => ?_) (fun i hi a ha r hr => ?_)) (uz uD _)
  ·rw [hpl, ← ak]
   simp only [bW.l0, Int.lt_irrefl, if_false]
   exact hend a _
  ·have hx' := xJ (fun s => if uD s = true then [s] else []) (fun x => by split <;> simp) ((mI R C s f).take i)
   rw [List.length_take] at hx'
   have hi' : i < (aV R C s).length := by omega
   have hp : (mI R C s f)[i] = oF f (dG C (aV R C s)[i]) := by
    unfold mI
    simp only [hf, if_true, List.getElem_map]
   have hsz : (oF f (dG C (aV R C s)[i])).size < 4611686018427387904 := by
    rw [tK, gB]
    have := (good _ (List.getElem_mem hi')).2.2.2.1
    omega
   rw [hp] at hr
   rw [← ak]
   simp only [bW.l0]
   rw [ep, au (lS R C s f), hf, ← ak]
   simp only [bW.j1, if_true, bG (i := i) (by omega)]
   rw [au (qG hf i hi'), au (oN _ hsz), aA]
   by_cases ho : ((bytesOf (oF f (dG C (aV R C s)[i]))).any (fun c => c == 63)) = true
   ·rw [if_pos ho]
    unfold uD at hr
    simp only [ho, Bool.not_true, Bool.false_eq_true, if_false, List.append_nil] at hr
    exact hr
   ·rw [if_neg ho, ep]
    rw [Bool.not_eq_true] at ho
    unfold uD at hr
    simp only [ho, Bool.not_false, if_true] at hr
    exact hr
 ·have : jd R C s f = [] := by unfold jd mI; rw [if_neg hf]; rfl
  rw [this]
  rw [Bool.not_eq_true] at hf
  rw [← ak]
  simp only [bW.l0]
  rw [aA]
  split
  ·rw [au (lS R C s f), hf]
   exact hend _ _
  ·exact hend _ _
theorem uS (R C : Int) (s f : ByteArray) : Ev (fun k => kS.f k R C s f) (jd R C s f) := by
 unfold kS.f jd
 have hl := xG R C s f
 rw [au (tN R C s f)]
 refine qU _ _ uD (by omega) (fun p hp => ?_)
 obtain ⟨_, _, _, _, hsz⟩ := xE hp
 unfold iT.f
 rw [au (pF p (by omega)), uG]
 exact aH _
def ny (l : List S82) (d : List S84) (w ws : List ByteArray) (i : Nat) : Bool := (l[i]?).any (fun x => decide (rM x.f0 x.f1 d w (dD ByteArray.empty ws (i : Int)) = 0))
noncomputable def zV (R C : Int) (s f : ByteArray) (l : List S82) (d : List S84) (w : List ByteArray) : Int :=
 if yP R C s = 0 then (if oD R C s f = true then (if (l.length : Int) = ((aV R C s).length : Int) then (if xA (jd R C s f) = 0 then
  (if (jd R C s f).all (lu w) = true then (if (List.range (jd R C s f).length).all (ny l d w (jd R C s f)) = true then 0 else 6) else 5) else 4) else 3) else 2) else 1
theorem vH (n i : Nat) (q : Nat → Bool) (h : i < n) : ((List.range n).drop i).all q = (q i && ((List.range n).drop (i + 1)).all q) := by
 rw [List.drop_eq_getElem_cons (by rw [List.length_range]; exact h), List.all_cons, List.getElem_range]
theorem rC (R C : Int) (s f : ByteArray) (l : List S82) (d : List S84) (w : List ByteArray) (hs : s.size < 140737488355328) (hx : ∀ x ∈ l, x.f1.length ≤ 8796093022208) (hd : d.length < 4611686018427387904) (hw : w.length ≤ 8796093022208) :
  Ev (fun k => aZ.f k R C s f l d w) (zV R C s f l d w) := by
 unfold aZ.f zV
 have hwl := r9 R C s f
 rw [au (uK R C s f), au (vB R C s hs), aA]
 split
 ·rw [au (wK R C s f), aA]
  split
  ·rename_i hfull
   rw [au (iF R C s), aA]
   split
   ·rename_i hll
    have hwf := qQ hfull
    have hlw : (jd R C s f).length = l.length := by rw [hwf.1, hwf.2]; omega
    rw [au (sF _ (by omega)), aA]
    split
    ·generalize jd R C s f = ws at hwl hlw
     have l1 : Ev (fun k => aZ.l1 k l d w ws 0) (if (List.range ws.length).all (ny l d w ws) = true then 0 else 6) := by
      have := kC (fun k i => aZ.l1 k l d w ws i) ws.length (fun i => if ((List.range ws.length).drop i).all (ny l d w ws) = true then (0 : Int) else 6) ?_ (fun i hi => ?_) 0 (Nat.zero_le _)
      ·exact this
      ·rw [← ak]
       simp only [aZ.l1, Int.lt_irrefl, if_false, List.drop_of_length_le (show (List.range ws.length).length ≤ ws.length by rw [List.length_range]; exact Nat.le_refl _), List.all_nil, if_true]
       exact aH _
      ·have hil : i < l.length := by omega
       have hfa : ny l d w ws i = decide (rM l[i].f0 l[i].f1 d w (dD ByteArray.empty ws (i : Int)) = 0) := by unfold ny; rw [List.getElem?_eq_getElem hil]; rfl
       have hfc := tT l[i].f0 l[i].f1 d w (dD ByteArray.empty ws (i : Int)) (hx _ (List.getElem_mem hil)) hd hw
       rw [vH _ _ _ hi]
       by_cases h : rM l[i].f0 l[i].f1 d w (dD ByteArray.empty ws (i : Int)) = 0
       ·refine .inr ⟨by rw [hfa, decide_eq_true h, Bool.true_and], fun r hr => ?_⟩
        rw [← ak]
        simp only [aZ.l1, vK _ i hil, bG (i := i) (by omega)]
        rw [ep, ep, ep, au hfc, ep h]
        exact hr
       ·refine .inl ?_
        rw [← ak]
        simp only [aZ.l1, vK _ i hil]
        rw [ep, ep, ep, au hfc, en h]
        exact fQ (aH _) (by rw [hfa, decide_eq_false h]; rfl)
     have := kC (fun k i => aZ.l0 k l d w ws i) ws.length (fun i => if (ws.drop i).all (lu w) = true then (if (List.range ws.length).all (ny l d w ws) = true then (0 : Int) else 6) else 5) ?_ (fun i hi => ?_) 0 (Nat.zero_le _)
     ·exact this
     ·rw [← ak]
      simp only [aZ.l0, Int.lt_irrefl, if_false, List.drop_length, List.all_nil, if_true]
      exact l1
     ·have hhw := lF w ws[i] (by omega)
      rw [List.drop_eq_getElem_cons hi, List.all_cons]
      by_cases h : lu w ws[i] = true
      ·refine .inr ⟨by rw [h, Bool.true_and], fun r hr => ?_⟩
       rw [← ak]
       simp only [aZ.l0, jo ByteArray.empty ws i hi, bG (i := i) (by omega)]
       rw [ep, ep, au hhw, ep h]
       exact hr
      ·refine .inl ?_
       rw [← ak]
       simp only [aZ.l0, jo ByteArray.empty ws i hi]
       rw [ep, ep, au hhw, en h]
       exact fQ (aH _) (by rw [Bool.not_eq_true] at h; rw [h]; rfl)
    ·exact aH _
   ·exact aH _
  ·exact aH _
 ·exact aH _
theorem uL (l : List ByteArray) (x : ByteArray) (hl : l.length < 4611686018427387904) : Ev (fun k => jZ.f k l x) (lu l x) := by
 unfold jZ.f
 rw [au (oH l x hl)]
 exact aH _
theorem ru (R C : Int) (s f : ByteArray) (l : List S82) (d : List S84) (w : List ByteArray) (hx : ∀ x ∈ l, x.f1.length ≤ 8796093022208) (hd : d.length < 4611686018427387904) (hw : w.length ≤ 8796093022208) :
  Ev (fun k => bf.f k R C s f l d w) (zV R C s f l d w) := by
 unfold bf.f zV
 have hwl := r9 R C s f
 rw [au (uS R C s f), au (vW R C s), aA]
 split
 ·rw [au (vO R C s f), aA]
  split
  ·rename_i hfull
   have hwf := qQ hfull
   have hlen : (jd R C s f).length = (aV R C s).length := by rw [hwf.1, hwf.2]
   rw [aA, hlen]
   split
   ·rename_i hll
    have hlw : (jd R C s f).length = l.length := by omega
    rw [← hlen, au (sK _ (by omega)), aA]
    split
    ·generalize jd R C s f = ws at hwl hlw
     have l1 : Ev (fun k => bf.l1 k d w ws l (l.length : Int) 0) (if (List.range ws.length).all (ny l d w ws) = true then 0 else 6) := by
      have := kC (fun k i => bf.l1 k d w ws l (l.length : Int) i) ws.length (fun i => if ((List.range ws.length).drop i).all (ny l d w ws) = true then (0 : Int) else 6) ?_ (fun i hi => ?_) 0 (Nat.zero_le _)
      ·exact this
      ·rw [hlw, ← ak]
       simp only [bf.l1, Int.lt_irrefl, if_false, List.drop_of_length_le (show (List.range l.length).length ≤ l.length by rw [List.length_range]; exact Nat.le_refl _), List.all_nil, if_true]
       exact aH _
      ·have hil : i < l.length := by omega
       have hfa : ny l d w ws i = decide (rM l[i].f0 l[i].f1 d w (dD ByteArray.empty ws (i : Int)) = 0) := by unfold ny; rw [List.getElem?_eq_getElem hil]; rfl
       have hfc := tO l[i].f0 l[i].f1 d w (dD ByteArray.empty ws (i : Int)) (hx _ (List.getElem_mem hil)) hd hw
       rw [vH _ _ _ hi]
       by_cases h : rM l[i].f0 l[i].f1 d w (dD ByteArray.empty ws (i : Int)) = 0
       ·refine .inr ⟨by rw [hfa, decide_eq_true h, Bool.true_and], fun r hr => ?_⟩
        rw [← ak]
        simp only [bf.l1, vK _ i hil, bG (i := i) (by omega)]
        rw [ep, ep, ep, ep, au hfc, ep h]
        exact hr
       ·refine .inl ?_
        rw [← ak]
        simp only [bf.l1, vK _ i hil]
        rw [ep, ep, ep, ep, au hfc, en h]
        exact fQ (aH _) (by rw [hfa, decide_eq_false h]; rfl)
     have := kC (fun k i => bf.l0 k l d w ws ws (ws.length : Int) i) ws.length (fun i => if (ws.drop i).all (lu w) = true then (if (List.range ws.length).all (ny l d w ws) = true then (0 : Int) else 6) else 5) ?_ (fun i hi => ?_) 0 (Nat.zero_le _)
     ·exact this
     ·rw [← ak]
      simp only [bf.l0, Int.lt_irrefl, if_false, List.drop_length, List.all_nil, if_true]
      exact l1
     ·have hhw := uL w ws[i] (by omega)
      rw [List.drop_eq_getElem_cons hi, List.all_cons]
      by_cases h : lu w ws[i] = true
      ·refine .inr ⟨by rw [h, Bool.true_and], fun r hr => ?_⟩
       rw [← ak]
       simp only [bf.l0, jo ByteArray.empty ws i hi, bG (i := i) (by omega)]
       rw [ep, ep, ep, au hhw, ep h]
       exact hr
      ·refine .inl ?_
       rw [← ak]
       simp only [bf.l0, jo ByteArray.empty ws i hi]
       rw [ep, ep, ep, au hhw, en h]
       exact fQ (aH _) (by rw [Bool.not_eq_true] at h; rw [h]; rfl)
    ·exact aH _
   ·exact aH _
  ·exact aH _
 ·exact aH _
theorem nP : fF.Pure := by
 intro g f l d w ⟨_, _, h0⟩ _ ⟨h1, h2, h3⟩ ⟨i1, i2, i3⟩ ⟨j1, j2, j3⟩
 refine Ev.rounds ?_
 unfold fF.f
 rw [aA]
 split
 ·exact aH _
 have hx : ∀ x ∈ l, x.f1.length ≤ 3518437208883 := fun x hx => by have := (h3 x hx).2.1; omega
 obtain ⟨a, ha, hab⟩ := Bb g.f0 g.f1 g.f2 1048576 h0 (by omega) (by omega)
 simp only [ha, Option.bind_some]
 rw [aA]
 split
 ·exact aH _
 obtain ⟨b, hb, hbb⟩ := zK l (by omega) (fun x hx => ⟨by have := (h3 x hx).2.1; omega, fun t ht => ((h3 x hx).2.2.2 t ht).2.1⟩) a (by omega) hab
 rw [au hb, aA]
 split
 ·exact aH _
 obtain ⟨c, hc, hcb⟩ := wP d (by omega) (fun x hx => (i3 x hx).1) b (by omega) hbb
 rw [au hc, aA]
 split
 ·exact aH _
 obtain ⟨e, he, _⟩ := yH w (by omega) (fun x hx => j3 x hx) c (by omega) hcb
 rw [au he, aA]
 split
 ·exact aH _
 have t1 := zC l (by omega) hx
 have t2 := xw d (by omega)
 have t3 := xY w (by omega)
 have l1 : (l.map nO).length = l.length := List.length_map _
 have l2 : (d.map ng).length = d.length := List.length_map _
 have hx' : ∀ x ∈ l.map nO, x.f1.length ≤ 8796093022208 := by
  intro x hm
  obtain ⟨u, hu, rfl⟩ := List.mem_map.1 hm
  have := hx u hu
  simp only [nO, List.length_map]
  omega
 have s := rC g.f0 g.f1 g.f2 f (l.map nO) (d.map ng) w (by omega) hx' (by omega) (by omega)
 have i := ru g.f0 g.f1 g.f2 f (l.map nO) (d.map ng) w hx' (by omega) (by omega)
 have e1 := zo (l.map nO) (by omega) (fun x hm => by have := hx' x hm; omega)
 have e2 := xk (d.map ng) (by omega)
 have e3 := xW w (by omega)
 simp only [jU.f, Option.bind_some, au t1, au t2, au t3, au s, au i, au e1, au e2, au e3, aA, if_true]
 exact aH _
end Go.Proofs.YtnfiedfaaaphoaaGreat.Pure
