/- The program's HasOneSolution returns what the reference's returns, for every argument; no further condition. -/
import Derived.Test.YtdbefmkcondbgaaGreatDoorZHaOnSoQ
import Derived.Test.YtdbefmkcondbgaaGreatDoorZHaOnSoEv
namespace Go.Proofs.YtdbefmkcondbgaaGreatDoor.Pure
open Go.RowKit Go.Proofs.YtdbefmkcondbgaaGreatDoor.PFnExactHasOneSolution Go.Proofs.Yw.PrintWords Go.Proofs.Yw.PrintLast Go.Proofs.Yw.PrintMore Go.Proofs.YtdbefmkcondbgaaGreatDoor.Sem Go.Proofs.YtdbefmkcondbgaaGreatDoor.Sq
set_option linter.unusedVariables false
set_option linter.unusedSimpArgs false
theorem Dy (xs : List nU) (i : Nat) (h : i < xs.length) : iy xs (i : Int) = xs[i] := by
 simp [iy, List.getD_eq_getElem?_getD, List.getElem?_eq_getElem h]
theorem FH (xs : List S66) (i : Nat) (h : i < xs.length) : lu xs (i : Int) = xs[i] := by
 simp [lu, List.getD_eq_getElem?_getD, List.getElem?_eq_getElem h]
theorem FE (xs : List S51) (i : Nat) (h : i < xs.length) : mJ xs (i : Int) = xs[i] := by
 simp [mJ, List.getD_eq_getElem?_getD, List.getElem?_eq_getElem h]
theorem Dz (xs : List dU) (i : Nat) (h : i < xs.length) : au xs (i : Int) = xs[i] := by
 simp [au, List.getD_eq_getElem?_getD, List.getElem?_eq_getElem h]
theorem nQ (xs : List S98) (i : Nat) (h : i < xs.length) : aU xs (i : Int) = xs[i] := by
 simp [aU, List.getD_eq_getElem?_getD, List.getElem?_eq_getElem h]
theorem tT (xs : List S75) (i : Nat) (h : i < xs.length) : fV xs (i : Int) = xs[i] := by
 simp [fV, List.getD_eq_getElem?_getD, List.getElem?_eq_getElem h]
theorem DC (xs : List S57) (i : Nat) (h : i < xs.length) : gP xs (i : Int) = xs[i] := by
 simp [gP, List.getD_eq_getElem?_getD, List.getElem?_eq_getElem h]
theorem Dx (xs : List (List aj)) (i : Nat) (h : i < xs.length) : nO xs (i : Int) = xs[i] := by
 simp [nO, List.getD_eq_getElem?_getD, List.getElem?_eq_getElem h]
theorem FD (xs : List (List Int)) (i : Nat) (h : i < xs.length) : jL xs (i : Int) = xs[i] := by
 simp [jL, List.getD_eq_getElem?_getD, List.getElem?_eq_getElem h]
theorem mD (a b c : Int) : bF.f a b c = some (decide (b ≤ a ∧ a ≤ c)) := by
 unfold bF.f
 by_cases h : b ≤ a <;> simp [h]
theorem lJ (a b c : Int) : dJ.f a b c = some (decide (b ≤ a ∧ a ≤ c)) := by
 unfold dJ.f
 by_cases h : b ≤ a <;> simp [h]
theorem at_eq (a b : Int) : nK.f a b = some (decide (0 ≤ a ∧ a < b)) := by
 unfold nK.f
 by_cases h : 0 ≤ a <;> simp [h]
theorem ni (a : Int) : fC.f a = some (decide (97 ≤ a ∧ a ≤ 122)) := by
 unfold fC.f
 by_cases h : 97 ≤ a <;> simp [h]
theorem GD (l : List Int) (hl : l.length < 4611686018427387904) : Ev (fun k => iD.f k l l) true := by
 unfold iD.f
 rw [ep rfl]
 refine gI (jX (fun k i => iD.l0 k l l i) l (fun _ => true) ?_ (fun i hi hp r hr => ?_) (fun i hi hp => by cases hp)) (by simp)
 ·rw [← av]; simp [iD.l0, aG]
 ·rw [← av]
  simp only [iD.l0, bH (i := i) (by omega)]
  simp [aD, hi]
  exact hr
theorem HZ (l : List Int) (hl : l.length ≤ 17592186044416) : Ev (fun k => gQ.f k l) l := by
 unfold gQ.f
 rw [ep, ep]
 refine gI (qz (fun k s i => gQ.l0 k l s i) l id 0 (fun s hs => ?_) (fun i hi s hs r hr => ?_)) (by simp)
 ·rw [← av]
  simp [gQ.l0, aG]
 ·rw [← av]
  simp only [gQ.l0, nP l i hi, bH (i := i) (by omega)]
  simp [aD, hi, hs]
  exact hr
theorem DW (l : List aj) (hl : l.length < 4611686018427387904) (hs : ∀ x ∈ l, x.size ≤ 140737488351232) (a : Int) (ha : 0 ≤ a) (ha' : a ≤ 1048576) : ∃ r, Ev (fun k => fG.f k l a) r ∧ r ≤ 1048576 := by
 unfold fG.f
 have w1 : wrap64 (a - (l.length : Int)) = a - l.length := lD (by omega) (by omega)
 simp only [aD, eU, w1]
 by_cases h : a - (l.length : Int) < 0
 ·exact ⟨-1, by simp [h]⟩
 ·simp only [h, if_false]
  refine rX (fun k b i => fG.l0 k l b i) l 1048576 (fun b => ?_) (fun i hi b hb hb' => ?_) _ (by omega) (by omega)
  ·rw [← av]
   simp only [fG.l0]
   rw [en]
   exact aG _
  ·have hsz := hs _ (gM hi)
   have w3 : wrap64 (b - (l[i].size : Int)) = b - l[i].size := lD (by omega) (by omega)
   by_cases h2 : b - (l[i].size : Int) < 0
   ·refine .inl ?_
    rw [← av]
    simp only [fG.l0, jY ByteArray.empty l i hi, bH (i := i) (by omega), w3]
    simp [aD, eU, hi, h2]
   ·refine .inr ⟨b - l[i].size, by omega, by omega, fun r hr => ?_⟩
    rw [← av]
    simp only [fG.l0, jY ByteArray.empty l i hi, bH (i := i) (by omega), w3]
    rw [ep, ep, en h2]
    exact hr
theorem DY (l : List aj) (hl : l.length ≤ 8796093022208) : Ev (fun k => dV.f k l) l := by
 unfold dV.f
 rw [ep, ep]
 refine gI (qz (fun k s i => dV.l0 k l s i) l id (⟨#[]⟩ : aj) (fun s hs => ?_) (fun i hi s hs r hr => ?_)) (by simp)
 ·rw [← av]
  simp [dV.l0, aG]
 ·rw [← av]
  simp only [dV.l0, jY ByteArray.empty l i hi, bH (i := i) (by omega)]
  simp [aD, hi, hs]
  exact hr
theorem Dm (l : List aj) (hl : l.length < 4611686018427387904) : Ev (fun k => fK.f k l l) true := by
 unfold fK.f
 rw [ep rfl]
 refine gI (jX (fun k i => fK.l0 k l l i) l (fun _ => true) ?_ (fun i hi hp r hr => ?_) (fun i hi hp => by cases hp)) (by simp)
 ·rw [← av]; simp [fK.l0, aG]
 ·rw [← av]
  simp only [fK.l0, bH (i := i) (by omega)]
  simp [aD, hi]
  exact hr
theorem Ct (l : List S51) (hl : l.length < 4611686018427387904) (hs : ∀ x ∈ l, x.f0.size ≤ 140737488351232) (a : Int) (ha : 0 ≤ a) (ha' : a ≤ 1048576) : ∃ r, Ev (fun k => fB.f k l a) r ∧ r ≤ 1048576 := by
 unfold fB.f
 have w1 : wrap64 (a - (l.length : Int)) = a - l.length := lD (by omega) (by omega)
 simp only [aD, eU, w1]
 by_cases h : a - (l.length : Int) < 0
 ·exact ⟨-1, by simp [h]⟩
 ·simp only [h, if_false]
  refine rX (fun k b i => fB.l0 k l b i) l 1048576 (fun b => ?_) (fun i hi b hb hb' => ?_) _ (by omega) (by omega)
  ·rw [← av]
   simp only [fB.l0]
   rw [en]
   exact aG _
  ·have hsz := hs _ (gM hi)
   have w3 : wrap64 (b - (l[i].f0.size : Int)) = b - l[i].f0.size := lD (by omega) (by omega)
   by_cases h2 : b - (l[i].f0.size : Int) < 0
   ·refine .inl ?_
    rw [← av]
    simp only [fB.l0, jW.f, FE l i hi, bH (i := i) (by omega), w3, if_pos h2, Option.bind_some]
    simp [aD, eU, hi]
   ·refine .inr ⟨b - l[i].f0.size, by omega, by omega, fun r hr => ?_⟩
    rw [← av]
    simp only [fB.l0, jW.f, FE l i hi, bH (i := i) (by omega), w3, if_neg h2, Option.bind_some]
    rw [ep, ep]
    exact hr
def nD (x : S51) : S57 := ⟨x.f0, x.f1⟩
theorem Cu (l : List S51) (hl : l.length ≤ 5864062014805) : Ev (fun k => dD.f k l) (l.map nD) := by
 unfold dD.f
 rw [ep, ep]
 refine qz (fun k s i => dD.l0 k l s i) l nD z57 (fun s hs => ?_) (fun i hi s hs r hr => ?_)
 ·rw [← av]
  simp [dD.l0, aG]
 ·rw [← av]
  simp only [dD.l0, lW.f, FE l i hi, bH (i := i) (by omega), Option.bind_some]
  simp [aD, hi, hs]
  exact hr
theorem BU (l : List S57) (hl : l.length < 4611686018427387904) : Ev (fun k => bZ.f k l l) true := by
 unfold bZ.f
 rw [ep rfl]
 refine gI (jX (fun k i => bZ.l0 k l l i) l (fun _ => true) ?_ (fun i hi hp r hr => ?_) (fun i hi hp => by cases hp)) (by simp)
 ·rw [← av]; simp [bZ.l0, aG]
 ·rw [← av]
  simp only [bZ.l0, kS.f, bH (i := i) (by omega)]
  simp [aD, hi]
  exact hr
def lH (c : Int) : Bool := decide (97 ≤ c ∧ c ≤ 122)
def iw (s : aj) : Bool := decide (1 ≤ s.size ∧ s.size ≤ 8) && (bytesOf s).all lH
theorem gV {s : aj} (h : iw s = true) : 1 ≤ s.size ∧ s.size ≤ 8 := by
 simp [iw] at h
 exact h.1
theorem Bh {s : aj} (h : iw s = true) : ∀ c ∈ bytesOf s, 97 ≤ c ∧ c ≤ 122 := by
 simp [iw, lH] at h
 exact h.2
theorem iN (s : aj) : Ev (fun k => bG.f k s) (iw s) := by
 simp only [bG.f, mD, Option.bind_some, aD, decide_eq_true_eq, iw]
 by_cases h : (1 : Int) ≤ s.size ∧ (s.size : Int) ≤ 8
 ·rw [if_pos h]
  have h' : 1 ≤ s.size ∧ s.size ≤ 8 := by omega
  simp only [h', decide_true, Bool.true_and, and_self]
  refine jX (fun k i => bG.l0 k s i) (bytesOf s) lH ?_ (fun i hi hp r hr => ?_) (fun i hi hp => ?_)
  ·rw [← av]; simp [bG.l0, bytesOf_length, aG]
  ·have hi' : i < s.size := by rw [bytesOf_length] at hi; exact hi
   rw [← av]
   simp [lH] at hp
   simp only [bG.l0, mI s i hi', bH (i := i) (by omega)]
   rw [ep, ep, en, en]
   exact hr
  ·have hi' : i < s.size := by rw [bytesOf_length] at hi; exact hi
   rw [← av]
   simp [lH] at hp
   simp only [bG.l0, mI s i hi', bH (i := i) (by omega)]
   rw [ep, ep, aD]
   by_cases h1 : (bytesOf s)[i] < 97
   ·rw [if_pos h1]; exact aG _
   ·rw [if_neg h1, ep]; exact aG _
 ·rw [if_neg h]
  have h' : ¬ (1 ≤ s.size ∧ s.size ≤ 8) := by omega
  simp [h', aG]
theorem iL (s : aj) : Ev (fun k => bQ.f k s) (iw s) := by
 simp only [bQ.f, lJ, Option.bind_some, aD, decide_eq_true_eq, iw]
 by_cases h : (1 : Int) ≤ s.size ∧ (s.size : Int) ≤ 8
 ·rw [if_pos h]
  have h' : 1 ≤ s.size ∧ s.size ≤ 8 := by omega
  simp only [h', decide_true, Bool.true_and, and_self]
  refine jX (fun k i => bQ.l0 k s (s.size : Int) i) (bytesOf s) lH ?_ (fun i hi hp r hr => ?_) (fun i hi hp => ?_)
  ·rw [← av]; simp [bQ.l0, bytesOf_length, aG]
  ·have hi' : i < s.size := by rw [bytesOf_length] at hi; exact hi
   rw [← av]
   simp [lH] at hp
   simp only [bQ.l0, mI s i hi', bH (i := i) (by omega), ni, Option.bind_some]
   rw [ep, ep, ep, ep (by simpa using hp)]
   exact hr
  ·have hi' : i < s.size := by rw [bytesOf_length] at hi; exact hi
   rw [← av]
   simp only [lH] at hp
   simp only [bQ.l0, mI s i hi', bH (i := i) (by omega), ni, Option.bind_some]
   rw [ep, ep, ep, en (by rw [hp]; decide)]
   exact aG _
 ·rw [if_neg h]
  have h' : ¬ (1 ≤ s.size ∧ s.size ≤ 8) := by omega
  simp [h', aG]
def GH (w : aj) (s : Int) (x : S57) : Bool := decide (x.f0 = w ∧ x.f1 = s)
def hasB (l : List S57) (w : aj) (s : Int) : Bool := l.any (GH w s)
theorem wu (l : List S57) (w : aj) (s : Int) (hl : l.length < 4611686018427387904) : Ev (fun k => fQ.f k l w s) (hasB l w s) := by
 refine qy (fun k i => fQ.l0 k l w s i) l _ ?_ (fun i hi hp r hr => ?_) (fun i hi hp => ?_)
 ·rw [← av]; simp [fQ.l0, aG]
 ·rw [← av]
  simp only [fQ.l0, DC l i hi, bH (i := i) (by omega), toList_eq]
  simp [GH] at hp
  simp [aD, hi]
  split
  ·rw [if_neg (hp ‹_›)]; exact hr
  ·exact hr
 ·rw [← av]
  simp only [fQ.l0, DC l i hi, bH (i := i) (by omega), toList_eq]
  simp [GH] at hp
  simp [aD, hi, hp, aG]
theorem GU (l : List S57) (w : aj) (s : Int) (hl : l.length < 4611686018427387904) : Ev (fun k => fq.f k l w s) (match l.findIdx? (GH w s) with | some i => (i : Int) | none => -1) := by
 refine qA (fun k i => fq.l0 k l (l.length : Int) i w s) l _ ?_ (fun i hi hp r hr => ?_) (fun i hi hp => ?_)
 ·rw [← av]; simp [fq.l0, aG]
 ·rw [← av]
  simp only [fq.l0, DC l i hi, bH (i := i) (by omega), kg]
  simp [GH] at hp
  simp [aD, hi]
  rw [if_neg (by intro h; exact hp h.1.symm h.2.symm)]
  exact hr
 ·rw [← av]
  simp only [fq.l0, DC l i hi, bH (i := i) (by omega), kg]
  simp [GH] at hp
  simp [aD, hi, hp, aG]
theorem JJ {α : Type} (l : List α) (p : α → Bool) : decide ((match l.findIdx? p with | some i => (i : Int) | none => -1) ≥ 0) = l.any p := by
 cases h : l.findIdx? p with
 | none =>
  have := List.findIdx?_eq_none_iff.1 h
  simp
  intro x hx
  simpa using this x hx
 | some i =>
  obtain ⟨h1, h2, _⟩ := List.findIdx?_eq_some_iff_getElem.1 h
  simp
  exact ⟨l[i], gM h1, h2⟩
theorem Dj (l : List S57) (w : aj) (s : Int) (hl : l.length < 4611686018427387904) : Ev (fun k => jw.f k l w s) (hasB l w s) := by
 unfold jw.f
 rw [ay (GU l w s hl), JJ]
 exact aG _
theorem vS (l : List S57) (w : aj) (s : Int) (hl : l.length < 4611686018427387904) : Ev (fun k => iB.f k l w s) (hasB l w s) := by
 unfold iB.f
 rw [ay (Dj l w s hl)]
 exact aG _
theorem FR (l : List nU) (hl : l.length < 4611686018427387904) (hs : ∀ x ∈ l, x.f1.size ≤ 140737488351232) (a : Int) (ha : 0 ≤ a) (ha' : a ≤ 1048576) : ∃ r, Ev (fun k => gK.f k l a) r ∧ r ≤ 1048576 := by
 unfold gK.f
 have w1 : wrap64 (a - (l.length : Int)) = a - l.length := lD (by omega) (by omega)
 simp only [aD, eU, w1]
 by_cases h : a - (l.length : Int) < 0
 ·exact ⟨-1, by simp [h]⟩
 ·simp only [h, if_false]
  refine rX (fun k b i => gK.l0 k l b i) l 1048576 (fun b => ?_) (fun i hi b hb hb' => ?_) _ (by omega) (by omega)
  ·rw [← av]
   simp only [gK.l0]
   rw [en]
   exact aG _
  ·have hsz := hs _ (gM hi)
   have w3 : wrap64 (b - (l[i].f1.size : Int)) = b - l[i].f1.size := lD (by omega) (by omega)
   by_cases h2 : b - (l[i].f1.size : Int) < 0
   ·refine .inl ?_
    rw [← av]
    simp only [gK.l0, lU.f, Dy l i hi, bH (i := i) (by omega), w3, if_pos h2, Option.bind_some]
    simp [aD, eU, hi]
   ·refine .inr ⟨b - l[i].f1.size, by omega, by omega, fun r hr => ?_⟩
    rw [← av]
    simp only [gK.l0, lU.f, Dy l i hi, bH (i := i) (by omega), w3, if_neg h2, Option.bind_some]
    rw [ep, ep]
    exact hr
def toStep (x : nU) : dU := ⟨x.f0, x.f1, x.f2, x.f3⟩
theorem FV (l : List nU) (hl : l.length ≤ 3518437208883) : Ev (fun k => gF.f k l) (l.map toStep) := by
 unfold gF.f
 rw [ep, ep]
 refine qz (fun k s i => gF.l0 k l s i) l toStep z116 (fun s hs => ?_) (fun i hi s hs r hr => ?_)
 ·rw [← av]
  simp [gF.l0, aG]
 ·rw [← av]
  simp only [gF.l0, nA.f, Dy l i hi, bH (i := i) (by omega), Option.bind_some]
  simp [aD, hi, hs]
  exact hr
theorem Fu (l : List dU) (hl : l.length < 4611686018427387904) : Ev (fun k => eO.f k l l) true := by
 unfold eO.f
 rw [ep rfl]
 refine gI (jX (fun k i => eO.l0 k l l i) l (fun _ => true) ?_ (fun i hi hp r hr => ?_) (fun i hi hp => by cases hp)) (by simp)
 ·rw [← av]; simp [eO.l0, aG]
 ·rw [← av]
  simp only [eO.l0, nu.f, bH (i := i) (by omega)]
  simp [aD, hi]
  exact hr
theorem Hy (a0 : Int) (l : List nU) (hl : l.length < 4611686018427387904) (hs : ∀ x ∈ l, x.f1.size ≤ 140737488351232) (a : Int) (ha : 0 ≤ a) (ha' : a ≤ 1048576) : ∃ r, Ev (fun k => lQ.f k a0 l a) r ∧ r ≤ 1048576 := by
 obtain ⟨r, hr, hb⟩ := FR l hl hs a ha ha'
 unfold lQ.f
 by_cases h : r < 0
 ·exact ⟨-1, by rw [ay hr, ep h]; exact aG _, by omega⟩
 ·exact ⟨r, by rw [ay hr, en h]; exact aG _, hb⟩
theorem HY (a0 : Int) (l : List nU) (hl : l.length ≤ 3518437208883) : Ev (fun k => lV.f k a0 l) (a0, l.map toStep) := by
 unfold lV.f
 rw [ay (FV l hl)]
 exact aG _
theorem GA (a0 : Int) (l : List dU) (hl : l.length < 4611686018427387904) : Ev (fun k => lN.f k a0 l a0 l) true := by
 unfold lN.f
 rw [ep rfl, ay (Fu l hl), ep rfl]
 exact aG _
def Bo (l : List dU) (i : Nat) (two : Bool) (kind A B : Int) : Bool :=
 if kind = 1 then decide (A = 0 ∧ B = 0) else decide (0 ≤ A ∧ A < i) && (if two = true then decide (0 ≤ B ∧ B < i) else decide (B = 0) && (decide (kind = 2) || decide ((au l A).f0 = 1)))
def nX (l : List dU) (i : Nat) : Bool :=
 decide (1 ≤ (au l i).f0 ∧ (au l i).f0 ≤ 9) && ((if (au l i).f0 = 1 then iw (au l i).f1 else decide ((au l i).f1.size = 0)) && Bo l i (decide ((au l i).f0 = 4 ∨ (au l i).f0 = 5)) (au l i).f0 (au l i).f2 (au l i).f3)
theorem Ey (l : List dU) (i : Nat) (hi : i < l.length) (hl : l.length < 4611686018427387904) (two : Bool) (kind : Int) (word : aj) (A B : Int) : Ev (fun k => fJ.j1 k l (i : Int) two kind word A B) (Bo l i two kind A B) := by
 have e : wrap64 ((i : Int) - 1) = i - 1 := lD (by omega) (by omega)
 rw [← av]
 simp only [fJ.j1, mD, Option.bind_some, e, Bo, aD]
 by_cases h1 : kind = 1
 ·by_cases h2 : A = 0 <;> simp [h1, h2, eU] <;> rfl
 ·rw [if_neg h1, if_neg h1]
  by_cases h2 : 0 ≤ A ∧ A < (i : Int)
  ·have h2' : 0 ≤ A ∧ A ≤ (i : Int) - 1 := by omega
   simp only [h2, h2', and_self, decide_true, if_true, Bool.true_and]
   cases two
   ·simp only [Bool.false_eq_true, if_false]
    by_cases h3 : B = 0
    ·by_cases h4 : kind = 2
     ·simp [h3, h4, eU]
     ·simp only [h3, h4, if_true, if_false, decide_true, decide_false, Bool.true_and, Bool.false_or]
      rw [if_pos (by omega), eU]
      rfl
    ·simp [h3, eU]
   ·simp only [if_true]
    by_cases h3 : 0 ≤ B ∧ B < (i : Int)
    ·have h3' : 0 ≤ B ∧ B ≤ (i : Int) - 1 := by omega
     simp [h3, h3', eU]
    ·have h3' : ¬ (0 ≤ B ∧ B ≤ (i : Int) - 1) := by omega
     simp [h3, h3', eU]
  ·have h2' : ¬ (0 ≤ A ∧ A ≤ (i : Int) - 1) := by omega
   simp [h2, h2', eU]
theorem rO (l : List dU) (i : Nat) (hi : i < l.length) (hl : l.length < 4611686018427387904) (b : Bool) (kind : Int) (word : aj) (A B : Int) : Ev (fun k => fJ.j0 k l (i : Int) b kind word A B) (!b && Bo l i (decide (kind = 4 ∨ kind = 5)) kind A B) := by
 rw [← av]
 simp only [fJ.j0, aD]
 cases b
 ·simp only [Bool.false_eq_true, if_false, Bool.not_false, Bool.true_and]
  by_cases h : kind = 4
  ·simp only [h, if_true, true_or, decide_true]
   exact Ey l i hi hl _ _ _ _ _
  ·simp only [h, if_false, false_or]
   have := Ey l i hi hl (kind == 5) kind word A B
   exact this
 ·simp [eU]
theorem Cq (l : List dU) (i : Nat) (hi : i < l.length) (hl : l.length < 4611686018427387904) : Ev (fun k => fJ.f k l (i : Int)) (nX l i) := by
 unfold fJ.f
 rw [ep, ep]
 simp only [mD, Option.bind_some, decide_eq_true_eq]
 unfold nX
 generalize au l (i : Int) = s
 rw [aD]
 by_cases h1 : 1 ≤ s.f0 ∧ s.f0 ≤ 9
 ·rw [if_pos h1, ay (iN s.f1), aD]
  simp only [h1, and_self, decide_true, Bool.true_and]
  by_cases h2 : s.f0 = 1
  ·simp only [h2, beq_self_eq_true, if_true, aD]
   cases hw : iw s.f1
   ·simp only [Bool.true_bne, Bool.not_false, if_true]
    exact gI (rO l i hi hl _ _ _ _ _) (by simp)
   ·simp only [Bool.true_bne, Bool.not_true, Bool.false_eq_true, if_false]
    exact gI (rO l i hi hl _ _ _ _ _) (by simp)
  ·have h2' : (s.f0 == 1) = false := by simpa using h2
   simp only [h2, h2', if_false, aD, Bool.false_bne]
   cases hw : iw s.f1
   ·simp only [Bool.false_eq_true, if_false]
    refine gI (rO l i hi hl _ _ _ _ _) ?_
    congr 1
    rw [Bool.eq_iff_iff]
    simp [bne, toList_nil]
   ·have hz : ¬ s.f1.size = 0 := by have := gV hw; omega
    simp only [if_true]
    exact gI (rO l i hi hl _ _ _ _ _) (by simp [hz])
 ·rw [if_neg h1]
  simp only [h1, decide_false, Bool.false_and]
  exact gI (rO l i hi hl _ _ _ _ _) (by simp)
def mR (l : List dU) : Bool := decide (1 ≤ l.length ∧ l.length ≤ 9) && (List.range l.length).all (nX l)
theorem wN {l : List dU} (h : mR l = true) : 1 ≤ l.length ∧ l.length ≤ 9 := by
 simp [mR] at h
 exact h.1
theorem uD {l : List dU} (h : mR l = true) (i : Nat) (hi : i < l.length) : nX l i = true := by
 simp [mR] at h
 exact h.2 i hi
theorem rP (l : List dU) (hl : l.length < 4611686018427387904) : Ev (fun k => dS.f k l) (mR l) := by
 unfold dS.f
 have hend : ∀ i : Nat, Ev (fun k => dS.j1 k l (i : Int) false) (decide (1 ≤ l.length ∧ l.length ≤ 9)) := by
  intro i
  rw [← av]
  simp only [dS.j1, mD, Option.bind_some, Bool.false_eq_true, if_false, eU]
  rw [Bool.eq_iff_iff]
  simp
  omega
 have := mP (fun k i => dS.l0 k l i) l.length (fun i => decide (1 ≤ l.length ∧ l.length ≤ 9) && ((List.range l.length).drop i).all (nX l)) ?_ (fun i hi => ?_) 0 (Nat.zero_le _)
 ·simpa [mR] using this
 ·rw [← av]
  simp only [dS.l0]
  rw [en, List.drop_eq_nil_of_le (by simp)]
  simpa using hend l.length
 ·have hd : (List.range l.length).drop i = i :: (List.range l.length).drop (i + 1) := by rw [List.drop_eq_getElem_cons (by simpa using hi)]; simp
  by_cases h9 : l.length ≤ 9
  ·have hu : ∀ r, Ev (fun k => dS.l0 k l (i : Int)) r ↔ if nX l i = true then Ev (fun k => dS.l0 k l ((i + 1 : Nat) : Int)) r else Ev (fun _ => some false) r := by
    intro r
    have h9' : decide ((l.length : Int) ≤ 9) = true := by simp; omega
    rw [← av]
    simp only [dS.l0, h9']
    rw [ep, ← av]
    simp only [dS.j1, if_true, bH (i := i) (by omega)]
    rw [ay (Cq l i hi hl), aD]
   rw [hd, List.all_cons]
   by_cases ho : nX l i = true
   ·refine .inr ⟨by simp [ho], fun r hr => ?_⟩
    rw [hu, if_pos ho]
    exact hr
   ·refine .inl ?_
    rw [hu, if_neg ho, eU]
    simp [ho]
  ·refine .inl ?_
   have h9' : decide ((l.length : Int) ≤ 9) = false := by simp; omega
   rw [← av]
   simp only [dS.l0, h9']
   rw [ep]
   exact gI (hend i) (by simp [h9])
theorem GX (a : Int) : jC.f a = some (decide (a = 4 ∨ a = 5)) := by
 unfold jC.f
 by_cases h : a = 4
 ·simp [h]
 ·simp [h]; rfl
theorem Dt (a : Int) : jU.f a = some (decide (a = 3 ∨ a ≥ 6)) := by
 unfold jU.f
 by_cases h : a = 3 <;> simp [h]
theorem Bf (l : List dU) (i : Nat) (hi : i < l.length) (hl : l.length < 4611686018427387904) (b : Bool) (kind : Int) (word : aj) (A B : Int) (r : Bool) :
  Ev (fun k => dn.j1 k l (i : Int) l (l.length : Int) (i : Int) b kind word A B) r ↔ if (!b && (if kind = 4 ∨ kind = 5 then decide (0 ≤ B ∧ B < i) else decide (B = 0))) = true then Ev (fun k => dn.l0 k l l (l.length : Int) ((i + 1 : Nat) : Int)) r else Ev (fun _ => some false) r := by
 rw [← av]
 simp only [dn.j1, GX, at_eq, Option.bind_some, bH (i := i) (by omega), aD, decide_eq_true_eq]
 cases b
 ·by_cases h : kind = 4 ∨ kind = 5
  ·by_cases h2 : 0 ≤ B ∧ B < (i : Int) <;> simp [h, h2]
  ·by_cases h2 : B = 0 <;> simp [h, h2]
 ·simp
theorem wQ (l : List dU) (i : Nat) : nX l i = (decide (1 ≤ (au l i).f0 ∧ (au l i).f0 ≤ 9) && (if (au l i).f0 = 1 then iw (au l i).f1 && decide ((au l i).f2 = 0 ∧ (au l i).f3 = 0)
  else decide ((au l i).f1.size = 0) && (decide (0 ≤ (au l i).f2 ∧ (au l i).f2 < i) && (!(decide ((au l i).f0 = 3 ∨ (au l i).f0 ≥ 6) && decide (¬ (au l (au l i).f2).f0 = 1)) && (if (au l i).f0 = 4 ∨ (au l i).f0 = 5 then decide (0 ≤ (au l i).f3 ∧ (au l i).f3 < i) else decide ((au l i).f3 = 0)))))) := by
 unfold nX Bo
 generalize au l (i : Int) = s
 generalize (au l s.f2).f0 = a
 by_cases h1 : 1 ≤ s.f0 ∧ s.f0 ≤ 9
 ·by_cases h2 : s.f0 = 1
  ·simp [h2]
  ·simp only [h1, h2, and_self, decide_true, Bool.true_and, if_false]
   by_cases h3 : s.f0 = 4 ∨ s.f0 = 5
   ·have h4 : ¬ (s.f0 = 3 ∨ s.f0 ≥ 6) := by omega
    simp [h3, h4]
   ·simp only [h3, decide_false, Bool.false_eq_true, if_false]
    by_cases h4 : s.f0 = 2
    ·have h5 : ¬ (s.f0 = 3 ∨ s.f0 ≥ 6) := by omega
     simp [h4]
    ·have h5 : s.f0 = 3 ∨ s.f0 ≥ 6 := by omega
     by_cases h6 : a = 1 <;> simp [h4, h5, h6]
 ·simp [h1]
theorem rJ (l : List dU) (hl : l.length < 4611686018427387904) : Ev (fun k => dn.f k l) (mR l) := by
 unfold dn.f
 simp only [lJ, Option.bind_some, decide_eq_true_eq]
 unfold mR
 rw [aD]
 by_cases hlen : 1 ≤ l.length ∧ l.length ≤ 9
 ·rw [if_pos (by omega)]
  simp only [hlen, and_self, decide_true, Bool.true_and]
  have := mP (fun k i => dn.l0 k l l (l.length : Int) i) l.length (fun i => ((List.range l.length).drop i).all (nX l)) ?_ (fun i hi => ?_) 0 (Nat.zero_le _)
  ·simpa using this
  ·rw [← av]
   simp only [dn.l0]
   rw [en, eU, List.drop_eq_nil_of_le (by simp)]
   simp
  ·have hd : (List.range l.length).drop i = i :: (List.range l.length).drop (i + 1) := by rw [List.drop_eq_getElem_cons (by simpa using hi)]; simp
   have hu : ∀ r, Ev (fun k => dn.l0 k l l (l.length : Int) (i : Int)) r ↔ if nX l i = true then Ev (fun k => dn.l0 k l l (l.length : Int) ((i + 1 : Nat) : Int)) r else Ev (fun _ => some false) r := by
    intro r
    rw [← av]
    simp only [dn.l0, bH (i := i) (by omega), lJ, Dt, at_eq, Option.bind_some, wQ]
    generalize au l (i : Int) = s
    simp only [aD, decide_eq_true_eq, ay (iL s.f1), Bf l i hi hl, toList_nil]
    rw [if_pos (by omega), if_pos (by omega), if_pos (by omega)]
    by_cases h1 : 1 ≤ s.f0 ∧ s.f0 ≤ 9
    ·by_cases h2 : s.f0 = 1
     ·simp only [h2]
      cases hw : iw s.f1
      ·simp
      ·by_cases h3 : s.f2 = 0
       ·by_cases h4 : s.f3 = 0 <;> simp [h3, h4]
       ·simp [h3]
     ·simp only [h1, h2, and_self, decide_true, Bool.true_and, if_true, if_false]
      by_cases h3 : s.f1.size = 0
      ·by_cases h4 : 0 ≤ s.f2 ∧ s.f2 < (i : Int)
       ·have h4' : s.f2 < (l.length : Int) := by omega
        by_cases h5 : s.f0 = 3 ∨ s.f0 ≥ 6
        ·simp only [h3, h4, h4', h5, and_self, decide_true, if_true, Bool.true_and]
         cases hb : ((au l s.f2).f0 != 1)
         ·have hb' : (au l s.f2).f0 = 1 := by simpa using hb
          simp [hb']
         ·have hb' : ¬ (au l s.f2).f0 = 1 := by simpa using hb
          simp [hb']
        ·simp [h3, h4, h5]
       ·simp [h3, h4]
      ·simp [h3]
    ·simp [h1]
   rw [hd, List.all_cons]
   by_cases ho : nX l i = true
   ·refine .inr ⟨by simp [ho], fun r hr => ?_⟩
    rw [hu, if_pos ho]
    exact hr
   ·refine .inl ?_
    rw [hu, if_neg ho, eU]
    simp [ho]
 ·rw [if_neg (by omega)]
  simp [hlen, eU]
def mq (a : Int) (l : List dU) : Bool := decide (1 ≤ a ∧ a ≤ 99) && mR l
theorem BH (a : Int) (l : List dU) (hl : l.length < 4611686018427387904) : Ev (fun k => lY.f k a l) (mq a l) := by
 unfold lY.f mq
 simp only [mD, Option.bind_some, aD, ay (rP l hl), decide_eq_true_eq]
 by_cases h : 1 ≤ a ∧ a ≤ 99 <;> simp [h, eU]
theorem Bd (a : Int) (l : List dU) (hl : l.length < 4611686018427387904) : Ev (fun k => lK.f k a l) (mq a l) := by
 unfold lK.f mq
 simp only [lJ, Option.bind_some, aD, ay (rJ l hl), decide_eq_true_eq]
 by_cases h : 1 ≤ a ∧ a ≤ 99 <;> simp [h, eU]
theorem uI {l : List dU} {i : Nat} (hi : i < l.length) (h : nX l i = true) : (1 ≤ l[i].f0 ∧ l[i].f0 ≤ 9) ∧ (l[i].f0 = 1 → iw l[i].f1 = true) ∧ (¬ l[i].f0 = 1 → 0 ≤ l[i].f2 ∧ l[i].f2 < i) ∧ (l[i].f0 = 4 ∨ l[i].f0 = 5 → 0 ≤ l[i].f3 ∧ l[i].f3 < i) ∧ (¬ l[i].f0 = 1 → ¬ (l[i].f0 = 4 ∨ l[i].f0 = 5) → l[i].f3 = 0) ∧
  (l[i].f0 = 3 ∨ l[i].f0 ≥ 6 → (au l l[i].f2).f0 = 1) ∧ (¬ l[i].f0 = 1 → l[i].f1.size = 0) ∧ (l[i].f0 = 1 → l[i].f2 = 0 ∧ l[i].f3 = 0) := by
 rw [wQ, Dz l i hi] at h
 simp only [Bool.and_eq_true, decide_eq_true_eq] at h
 obtain ⟨h1, h2⟩ := h
 refine ⟨h1, fun e => ?_, fun e => ?_, fun e => ?_, fun e e' => ?_, fun e => ?_, fun e => ?_, fun e => ?_⟩
 ·rw [if_pos e] at h2; simp at h2; exact h2.1
 ·rw [if_neg e] at h2; simp at h2; exact h2.2.1
 ·have e' : ¬ l[i].f0 = 1 := by omega
  rw [if_neg e', if_pos e] at h2; simp at h2; exact h2.2.2.2
 ·rw [if_neg e, if_neg e'] at h2; simp at h2; exact h2.2.2.2
 ·have e' : ¬ l[i].f0 = 1 := by omega
  rw [if_neg e'] at h2; simp at h2
  have h3 := h2.2.2.1
  rcases h3 with h3 | h3
  ·omega
  ·exact h3
 ·rw [if_neg e] at h2; simp at h2; rw [h2.1]; rfl
 ·rw [if_pos e] at h2; simp at h2; exact h2.2
theorem Cr (l : List Int) (x : Int) (hl : l.length < 4611686018427387904) : Ev (fun k => iQ.f k l x) (l.any (fun y => decide (y = x))) := by
 refine qy (fun k i => iQ.l0 k l x i) l _ ?_ (fun i hi hp r hr => ?_) (fun i hi hp => ?_)
 ·rw [← av]; simp [iQ.l0, aG]
 ·rw [← av]
  simp only [iQ.l0, nP l i hi, bH (i := i) (by omega)]
  simp at hp
  simp [aD, hi, hp]
  exact hr
 ·rw [← av]
  simp only [iQ.l0, nP l i hi, bH (i := i) (by omega)]
  simp at hp
  simp [aD, hi, hp, aG]
def sU (c : Int) : Bool := decide (c = 35 ∨ c = 46)
def fD (R C : Int) (s : aj) : Bool := decide ((2 ≤ R ∧ R ≤ 6) ∧ (2 ≤ C ∧ C ≤ 6) ∧ (s.size : Int) = R * C) && (bytesOf s).all sU
theorem jk {R C : Int} {s : aj} (h : fD R C s = true) : (2 ≤ R ∧ R ≤ 6) ∧ (2 ≤ C ∧ C ≤ 6) ∧ (s.size : Int) = R * C ∧ ∀ c ∈ bytesOf s, c = 35 ∨ c = 46 := by
 simp [fD, sU] at h
 exact ⟨h.1.1, h.1.2.1, h.1.2.2, h.2⟩
theorem Bz {C : Int} (hC : 2 ≤ C ∧ C ≤ 6) : C = 2 ∨ C = 3 ∨ C = 4 ∨ C = 5 ∨ C = 6 := by omega
theorem uq {R C : Int} (hR : 2 ≤ R ∧ R ≤ 6) (hC : 2 ≤ C ∧ C ≤ 6) : 4 ≤ R * C ∧ R * C ≤ 36 := by
 rcases Bz hC with rfl | rfl | rfl | rfl | rfl <;> omega
theorem gB {R C : Int} {s : aj} (h : fD R C s = true) : 4 ≤ s.size ∧ s.size ≤ 36 := by
 obtain ⟨h1, h2, h3, _⟩ := jk h
 have := uq h1 h2
 omega
theorem Cm (R C : Int) (s : aj) (hs : s.size < 4611686018427387904) : Ev (fun k => bO.l0 k 0 R C s) ((bytesOf s).all sU) := by
 refine jX (fun k i => bO.l0 k i R C s) (bytesOf s) sU ?_ (fun i hi hp r hr => ?_) (fun i hi hp => ?_)
 ·rw [← av]; simp [bO.l0, bytesOf_length, aG]
 ·have hi' : i < s.size := by rw [bytesOf_length] at hi; exact hi
  rw [← av]
  simp only [sU, decide_eq_true_eq] at hp
  simp only [bO.l0, mI s i hi', bH (i := i) (by omega)]
  rw [ep, ep, aD]
  by_cases h : (bytesOf s)[i] = 35
  ·rw [if_pos h]; exact hr
  ·rw [if_neg h, ep]; exact hr
 ·have hi' : i < s.size := by rw [bytesOf_length] at hi; exact hi
  rw [← av]
  simp only [sU, decide_eq_false_iff_not] at hp
  simp only [bO.l0, mI s i hi', bH (i := i) (by omega)]
  rw [ep, ep, en, en]
  exact aG _
theorem iW (R C : Int) (s : aj) : Ev (fun k => bO.f k R C s) (fD R C s) := by
 simp only [bO.f, mD, Option.bind_some, aD, decide_eq_true_eq]
 by_cases hR : 2 ≤ R ∧ R ≤ 6
 ·rw [if_pos hR]
  by_cases hC : 2 ≤ C ∧ C ≤ 6
  ·rw [if_pos hC]
   have hm := uq hR hC
   have e : wrap64 (R * C) = R * C := lD (by omega) (by omega)
   rw [e, ← av]
   simp only [bO.j0, aD, bne_iff_ne, ne_eq]
   by_cases hs : (s.size : Int) = R * C
   ·rw [if_neg (not_not_intro hs)]
    exact gI (Cm R C s (by omega)) (by simp [fD, hR, hC, hs])
   ·rw [if_pos hs]
    exact gI (aG _) (by simp [fD, hs])
  ·rw [if_neg hC, ← av]
   simp only [bO.j0, if_true]
   exact gI (aG _) (by simp [fD, hC])
 ·rw [if_neg hR, ← av]
  simp only [bO.j0, if_true]
  exact gI (aG _) (by simp [fD, hR])
theorem BZ (R C : Int) (s : aj) (hs : s.size < 4611686018427387904) : Ev (fun k => bE.l0 k (s.size : Int) 0 R C s) ((bytesOf s).all sU) := by
 refine jX (fun k i => bE.l0 k (s.size : Int) i R C s) (bytesOf s) sU ?_ (fun i hi hp r hr => ?_) (fun i hi hp => ?_)
 ·rw [← av]; simp [bE.l0, bytesOf_length, aG]
 ·have hi' : i < s.size := by rw [bytesOf_length] at hi; exact hi
  rw [← av]
  simp only [sU, decide_eq_true_eq] at hp
  simp only [bE.l0, mI s i hi', bH (i := i) (by omega)]
  rw [ep, ep, ep, aD]
  by_cases h : (bytesOf s)[i] = 35
  ·rw [if_pos h]; exact hr
  ·rw [if_neg h, ep]; exact hr
 ·have hi' : i < s.size := by rw [bytesOf_length] at hi; exact hi
  rw [← av]
  simp only [sU, decide_eq_false_iff_not] at hp
  simp only [bE.l0, mI s i hi', bH (i := i) (by omega)]
  rw [ep, ep, ep, en, en]
  exact aG _
theorem jT (R C : Int) (s : aj) : Ev (fun k => bE.f k R C s) (fD R C s) := by
 simp only [bE.f, lJ, Option.bind_some, aD, decide_eq_true_eq]
 by_cases hR : 2 ≤ R ∧ R ≤ 6
 ·rw [if_pos hR]
  by_cases hC : 2 ≤ C ∧ C ≤ 6
  ·rw [if_pos hC]
   have hm := uq hR hC
   have e : wrap64 (R * C) = R * C := lD (by omega) (by omega)
   rw [e, ← av]
   simp only [bE.j0, aD, bne_iff_ne, ne_eq]
   by_cases hs : (s.size : Int) = R * C
   ·rw [if_neg (not_not_intro hs)]
    exact gI (BZ R C s (by omega)) (by simp [fD, hR, hC, hs])
   ·rw [if_pos hs]
    exact gI (aG _) (by simp [fD, hs])
  ·rw [if_neg hC, ← av]
   simp only [bE.j0, if_true]
   exact gI (aG _) (by simp [fD, hC])
 ·rw [if_neg hR, ← av]
  simp only [bE.j0, if_true]
  exact gI (aG _) (by simp [fD, hR])
theorem vZ {j st : Int} (hj : 0 ≤ j ∧ j ≤ 6) (hs : 1 ≤ st ∧ st ≤ 6) : 0 ≤ j * st ∧ j * st ≤ 36 := by
 have : st = 1 ∨ st = 2 ∨ st = 3 ∨ st = 4 ∨ st = 5 ∨ st = 6 := by omega
 rcases this with rfl | rfl | rfl | rfl | rfl | rfl <;> omega
theorem JO (R C : Int) (s : aj) (i st p n : Int) (hp : 0 ≤ p ∧ p ≤ 36) (hn : n ≤ 6) (hi : 0 ≤ i ∧ i ≤ 36) (hst : 1 ≤ st ∧ st ≤ 6) (hin : ∀ j, 0 ≤ j → p + j < n → 0 ≤ i + j * st ∧ i + j * st < (s.size : Int)) :
  ∀ (d : Nat) (j : Int), (n - p - j).toNat ≤ d → 0 ≤ j → j ≤ 6 → (∀ j', 0 ≤ j' → j' < j → p + j' < n ∧ bt s (i + j' * st) = 46) →
  ∃ r, Ev (fun k => bD.l0 k i st p n j R C s) r ∧ 0 ≤ r ∧ r ≤ 6 ∧ ∀ j', 0 ≤ j' → j' < r → p + j' < n ∧ bt s (i + j' * st) = 46 := by
 intro d
 induction d with
 | zero =>
  intro j hd h0 h6 hb
  have e1 : wrap64 (p + j) = p + j := lD (by omega) (by omega)
  refine ⟨j, ?_, h0, h6, hb⟩
  rw [← av]
  simp only [bD.l0, e1]
  rw [en]
  exact aG _
 | succ d ih =>
  intro j hd h0 h6 hb
  have e1 : wrap64 (p + j) = p + j := lD (by omega) (by omega)
  by_cases hc : p + j < n
  ·have hm := vZ (j := j) (st := st) ⟨h0, h6⟩ hst
   have hj := hin j h0 hc
   have e2 : wrap64 (j * st) = j * st := lD (by omega) (by omega)
   have e3 : wrap64 (i + j * st) = i + j * st := lD (by omega) (by omega)
   have e4 : wrap64 (j + 1) = j + 1 := lD (by omega) (by omega)
   by_cases h46 : bt s (i + j * st) = 46
   ·obtain ⟨r, hr, h⟩ := ih (j + 1) (by omega) (by omega) (by omega) (fun j' h1 h2 => by
     by_cases hh : j' = j
     ·rw [hh]; exact ⟨hc, h46⟩
     ·exact hb j' h1 (by omega))
    refine ⟨r, ?_, h⟩
    rw [← av]
    simp only [bD.l0, e1, e2, e3, e4]
    rw [ep hc, ep hj.1, ep hj.2, ep h46]
    exact hr
   ·refine ⟨j, ?_, h0, h6, hb⟩
    rw [← av]
    simp only [bD.l0, e1, e2, e3, e4]
    rw [ep hc, ep hj.1, ep hj.2, en h46]
    exact aG _
  ·refine ⟨j, ?_, h0, h6, hb⟩
   rw [← av]
   simp only [bD.l0, e1]
   rw [en hc]
   exact aG _
theorem Kv (R C : Int) (s : aj) (i st p n : Int) (hp : 0 ≤ p ∧ p ≤ 36) (hn : n ≤ 6) (hi : 0 ≤ i ∧ i ≤ 36) (his : i < (s.size : Int)) (hst : 1 ≤ st ∧ st ≤ 6) (hb : 0 < p → 0 ≤ i - st) (hin : ∀ j, 0 ≤ j → p + j < n → 0 ≤ i + j * st ∧ i + j * st < (s.size : Int)) :
  ∃ r, Ev (fun k => bD.j0 k i st p n R C s) r ∧ 0 ≤ r ∧ r ≤ 6 ∧ ∀ j', 0 ≤ j' → j' < r → p + j' < n ∧ bt s (i + j' * st) = 46 := by
 have hj1 : ∀ b : Bool, ∃ r, Ev (fun k => bD.j1 k i st p n b R C s) r ∧ 0 ≤ r ∧ r ≤ 6 ∧ ∀ j', 0 ≤ j' → j' < r → p + j' < n ∧ bt s (i + j' * st) = 46 := by
  intro b
  cases b with
  | true =>
   refine ⟨0, ?_, by omega, by omega, fun _ _ _ => by omega⟩
   rw [← av]
   simp only [bD.j1, if_true]
   exact aG _
  | false =>
   obtain ⟨r, hr, h⟩ := JO R C s i st p n hp hn hi hst hin _ 0 (nR _) (by omega) (by omega) (fun _ _ _ => by omega)
   refine ⟨r, ?_, h⟩
   rw [← av]
   simp only [bD.j1, Bool.false_eq_true, if_false]
   exact hr
 have e1 : wrap64 (i - st) = i - st := lD (by omega) (by omega)
 by_cases h46 : bt s i = 46
 ·by_cases hp0 : p > 0
  ·obtain ⟨r, hr, h⟩ := hj1 (bt s (i - st) == 46)
   have := hb hp0
   refine ⟨r, ?_, h⟩
   rw [← av]
   simp only [bD.j0, e1]
   rw [ep hi.1, ep his, ep h46, ep hp0, ep this, ep]
   exact hr
  ·obtain ⟨r, hr, h⟩ := hj1 false
   refine ⟨r, ?_, h⟩
   rw [← av]
   simp only [bD.j0, e1]
   rw [ep hi.1, ep his, ep h46, en hp0]
   exact hr
 ·obtain ⟨r, hr, h⟩ := hj1 true
  refine ⟨r, ?_, h⟩
  rw [← av]
  simp only [bD.j0, e1]
  rw [ep hi.1, ep his, en h46]
  exact hr
theorem Ku {R C : Int} {s : aj} (hg : fD R C s = true) (i : Nat) (hi : i < s.size) (b : Bool) :
  ∃ r, Ev (fun k => bD.f k R C s i b) r ∧ 0 ≤ r ∧ r ≤ 6 ∧ ∀ j, 0 ≤ j → j < r → 0 ≤ (i : Int) + j * (if b = true then C else 1) ∧ (i : Int) + j * (if b = true then C else 1) < s.size ∧ bt s ((i : Int) + j * (if b = true then C else 1)) = 46 := by
 obtain ⟨hR, hC, hs, _⟩ := jk hg
 have hm := uq hR hC
 have e1 : Int.tdiv (i : Int) C = (i : Int) / C := Int.tdiv_eq_ediv_of_nonneg (by omega)
 have e2 : Int.tmod (i : Int) C = (i : Int) % C := Int.tmod_eq_emod_of_nonneg (by omega)
 have hi2 : (i : Int) < R * C := by omega
 have hdiv : 0 ≤ (i : Int) / C ∧ (i : Int) / C ≤ 36 ∧ 0 ≤ (i : Int) % C ∧ (i : Int) % C ≤ 36 ∧ (0 < (i : Int) / C → 0 ≤ (i : Int) - C) ∧ (0 < (i : Int) % C → 0 ≤ (i : Int) - 1)
   ∧ (∀ j, 0 ≤ j → (i : Int) / C + j < R → 0 ≤ (i : Int) + j * C ∧ (i : Int) + j * C < R * C) ∧ (∀ j, 0 ≤ j → (i : Int) % C + j < C → 0 ≤ (i : Int) + j * 1 ∧ (i : Int) + j * 1 < R * C) := by
  rcases Bz hC with rfl | rfl | rfl | rfl | rfl <;> exact ⟨by omega, by omega, by omega, by omega, by omega, by omega, fun j h1 h2 => by omega, fun j h1 h2 => by omega⟩
 obtain ⟨d1, d2, d3, d4, d5, d6, d7, d8⟩ := hdiv
 have e3 : wrap64 ((i : Int) / C) = (i : Int) / C := lD (by omega) (by omega)
 have hc0 : ¬ C = 0 := by omega
 cases b with
 | true =>
  obtain ⟨r, hr, h0, h6, h⟩ := Kv R C s i C ((i : Int) / C) R ⟨d1, d2⟩ hR.2 (by omega) (by omega) (by omega) d5 (fun j h1 h2 => by rw [hs]; exact d7 j h1 h2)
  refine ⟨r, ?_, h0, h6, fun j h1 h2 => ?_⟩
  ·simp only [bD.f, e1, e3]
   rw [en hc0, ep trivial]
   exact hr
  ·have := h j h1 h2
   have := d7 j h1 this.1
   simp only [if_true]
   omega
 | false =>
  obtain ⟨r, hr, h0, h6, h⟩ := Kv R C s i 1 ((i : Int) % C) C ⟨d3, d4⟩ hC.2 (by omega) (by omega) (by omega) d6 (fun j h1 h2 => by rw [hs]; exact d8 j h1 h2)
  refine ⟨r, ?_, h0, h6, fun j h1 h2 => ?_⟩
  ·simp only [bD.f, e2]
   rw [en hc0, en (by simp)]
   exact hr
  ·have := h j h1 h2
   have := d8 j h1 this.1
   simp only [Bool.false_eq_true, if_false]
   omega
noncomputable def tV (R C : Int) (s : aj) (i : Int) (b : Bool) : Int := open Classical in if h : ∃ r, Ev (fun k => bD.f k R C s i b) r then h.choose else 0
theorem uM {R C : Int} {s : aj} (hg : fD R C s = true) (i : Nat) (hi : i < s.size) (b : Bool) : Ev (fun k => bD.f k R C s i b) (tV R C s i b) := by
 obtain ⟨r, hr, _⟩ := Ku hg i hi b
 have hx : ∃ r, Ev (fun k => bD.f k R C s i b) r := ⟨r, hr⟩
 unfold tV
 rw [dif_pos hx]
 exact hx.choose_spec
theorem Gr {R C : Int} {s : aj} (hg : fD R C s = true) (i : Nat) (hi : i < s.size) (b : Bool) : 0 ≤ tV R C s i b ∧ tV R C s i b ≤ 6 ∧ ∀ j, 0 ≤ j → j < tV R C s i b → 0 ≤ (i : Int) + j * (if b = true then C else 1) ∧ (i : Int) + j * (if b = true then C else 1) < s.size ∧ bt s ((i : Int) + j * (if b = true then C else 1)) = 46 := by
 obtain ⟨r, hr, h⟩ := Ku hg i hi b
 rw [GI (uM hg i hi b) hr]
 exact h
theorem Jl : ∀ k, (∀ a b c d e f g, fE.j0 k a b c d e f g = bD.j0 k a b c d e f g) ∧ (∀ a b c d x e f g, fE.j1 k a b c d x e f g = bD.j1 k a b c d x e f g) ∧ ∀ a b c d x e f g, fE.l0 k a b c d x e f g = bD.l0 k a b c d x e f g := by
 intro k
 induction k with
 | zero => exact ⟨fun _ _ _ _ _ _ _ => rfl, fun _ _ _ _ _ _ _ _ => rfl, fun _ _ _ _ _ _ _ _ => rfl⟩
 | succ k ih =>
  obtain ⟨h1, h2, h3⟩ := ih
  refine ⟨fun a b c d e f g => ?_, fun a b c d x e f g => ?_, fun a b c d x e f g => ?_⟩
  ·simp only [fE.j0, bD.j0, h2]
  ·simp only [fE.j1, bD.j1, h3]
  ·simp only [fE.l0, bD.l0, h3]
theorem run_eq (k : Nat) (R C : Int) (s : aj) (i : Int) (b : Bool) : fE.f k R C s i b = bD.f k R C s i b := by
 simp only [fE.f, bD.f, (Jl k).1]
def slA (n i a : Int) : List S98 := if a ≥ 2 then [⟨n, false, i, a⟩] else []
def slD (n i d : Int) : List S98 := if d ≥ 2 then [⟨n, true, i, d⟩] else []
def qV (a d n : Int) : Int := if a ≥ 2 ∨ d ≥ 2 then n + 1 else n
def qN (a d : Int) (i : Nat) (st : List S98 × Int) : List S98 × Int := ((st.1 ++ slA (qV a d st.2) i a) ++ slD (qV a d st.2) i d, qV a d st.2)
noncomputable def oI (R C : Int) (s : aj) (st : List S98 × Int) (i : Nat) : List S98 × Int := qN (tV R C s i false) (tV R C s i true) i st
noncomputable def slW (R C : Int) (s : aj) (i : Nat) (st : List S98 × Int) : List S98 × Int := (List.range' i (s.size - i)).foldl (oI R C s) st
noncomputable def aJ (R C : Int) (s : aj) : List S98 := if fD R C s = true then (slW R C s 0 ([], 0)).1 else []
theorem DU (R C : Int) (s : aj) (st : List S98 × Int) : slW R C s s.size st = st := by simp [slW]
theorem BA (R C : Int) (s : aj) (i : Nat) (hi : i < s.size) (st : List S98 × Int) : slW R C s i st = slW R C s (i + 1) (oI R C s st i) := by
 unfold slW
 rw [show s.size - i = (s.size - (i + 1)) + 1 by omega, List.range'_succ]
 rfl
theorem Jm (a d n : Int) : n ≤ qV a d n ∧ qV a d n ≤ n + 1 := by unfold qV; split <;> omega
theorem FM (a d : Int) (i : Nat) (st : List S98 × Int) : (qN a d i st).1.length ≤ st.1.length + 2 := by
 have h1 : (slA (qV a d st.2) i a).length ≤ 1 := by unfold slA; split <;> simp
 have h2 : (slD (qV a d st.2) i d).length ≤ 1 := by unfold slD; split <;> simp
 simp only [qN, List.length_append]
 omega
def EJ (i : Nat) (st : List S98 × Int) : Prop := st.1.length ≤ 2 * i ∧ 0 ≤ st.2 ∧ st.2 ≤ i
theorem tX (R C : Int) (s : aj) (i : Nat) (st : List S98 × Int) (h : EJ i st) : EJ (i + 1) (oI R C s st i) := by
 obtain ⟨h1, h2, h3⟩ := h
 have := FM (tV R C s i false) (tV R C s i true) i st
 have := Jm (tV R C s i false) (tV R C s i true) st.2
 refine ⟨?_, ?_, ?_⟩
 ·unfold oI; omega
 ·unfold oI qN; dsimp only; omega
 ·unfold oI qN; dsimp only; omega
theorem qX {R C : Int} {s : aj} (a d : Int) (i : Nat) (hi : i < 36) (l : List S98) (n : Int) (hl : l.length ≤ 72) (r : List S98)
  (hr : Ev (fun k => aN.l0 k ((l ++ slA n i a) ++ slD n i d) n ((i + 1 : Nat) : Int) R C s) r) : Ev (fun k => aN.j3 k l n i a d R C s) r := by
 rw [← av]
 simp only [aN.j3, bH (i := i) (by omega), Option.bind_some, aD]
 by_cases a2 : a ≥ 2 <;> by_cases d2 : d ≥ 2 <;> simp only [slA, slD, a2, d2, if_true, if_false, List.append_nil] at hr ⊢
 ·rw [if_pos (by omega), if_pos (by rw [List.length_append]; simp; omega)]
  exact hr
 ·rw [if_pos (by omega)]
  exact hr
 ·rw [if_pos (by omega)]
  exact hr
 ·exact hr
theorem BI {R C : Int} {s : aj} (hg : fD R C s = true) : Ev (fun k => aN.l0 k [] 0 0 R C s) (slW R C s 0 ([], 0)).1 := by
 have hsz := gB hg
 refine iP (σ := List S98 × Int) (fun k st i => aN.l0 k st.1 st.2 i R C s) s.size EJ (fun i st => (slW R C s i st).1) (fun st hst => ?_) (fun i st hi hst => .inr ⟨oI R C s st i, tX R C s i st hst, ?_, fun r hr => ?_⟩) 0 ([], 0) (Nat.zero_le _) ⟨by simp, by simp, by simp⟩
 ·rw [DU, ← av]
  simp only [aN.l0, Int.lt_irrefl, if_false]
  rw [← av]
  simp only [aN.j1, Bool.false_eq_true, if_false]
  exact aG _
 ·rw [BA R C s i hi]
 ·obtain ⟨h1, h2, h3⟩ := hst
  have ha := uM hg i hi false
  have hd := uM hg i hi true
  unfold oI qN at hr
  generalize tV R C s i false = a at ha hr
  generalize tV R C s i true = d at hd hr
  have hn1 : wrap64 (st.2 + 1) = st.2 + 1 := lD (by omega) (by omega)
  rw [← av]
  simp only [aN.l0]
  rw [ep, ay (iW R C s), hg, ← av]
  simp only [aN.j1, if_true]
  rw [ay ha, ay hd, aD]
  have hj2 : ∀ b : Bool, b = decide (a ≥ 2 ∨ d ≥ 2) → Ev (fun k => aN.j2 k st.1 st.2 i a d b R C s) r := by
   intro b hb
   rw [← av]
   simp only [aN.j2, hn1]
   rw [aD]
   by_cases h : a ≥ 2 ∨ d ≥ 2
   ·rw [if_pos (by rw [hb]; simpa using h)]
    simp only [qV, if_pos h] at hr
    exact qX a d i (by omega) st.1 _ (by omega) r hr
   ·rw [if_neg (by rw [hb]; simpa using h)]
    simp only [qV, if_neg h] at hr
    exact qX a d i (by omega) st.1 _ (by omega) r hr
  by_cases a2 : a ≥ 2
  ·rw [if_pos a2]
   exact hj2 _ (by simp [a2])
  ·rw [if_neg a2]
   exact hj2 _ (by simp only [a2, false_or])
theorem jo (R C : Int) (s : aj) : Ev (fun k => aN.f k R C s) (aJ R C s) := by
 unfold aJ
 split
 ·rename_i hg
  exact BI hg
 ·rename_i hg
  simp only [aN.f]
  rw [← av]
  simp only [aN.l0]
  rw [Bool.not_eq_true] at hg
  have : Ev (fun k => aN.j1 k [] 0 0 false R C s) [] := by
   rw [← av]
   simp only [aN.j1, Bool.false_eq_true, if_false]
   exact aG _
  rw [aD]
  split
  ·rw [ay (iW R C s), hg]
   exact this
  ·exact this
theorem DT {n i a : Int} {x : S98} (h : x ∈ slA n i a) : x = ⟨n, false, i, a⟩ ∧ a ≥ 2 := by
 unfold slA at h
 split at h
 ·exact ⟨List.mem_singleton.1 h, ‹_›⟩
 ·simp at h
theorem Gs {n i a : Int} {x : S98} (h : x ∈ slD n i a) : x = ⟨n, true, i, a⟩ ∧ a ≥ 2 := by
 unfold slD at h
 split at h
 ·exact ⟨List.mem_singleton.1 h, ‹_›⟩
 ·simp at h
def stepOf (C : Int) (x : S98) : Int := if x.f1 = true then C else 1
def Jo (C : Int) (s : aj) (x : S98) : Prop := 0 ≤ x.f2 ∧ x.f2 < s.size ∧ 2 ≤ x.f3 ∧ x.f3 ≤ 6 ∧ ∀ j, 0 ≤ j → j < x.f3 → 0 ≤ x.f2 + j * stepOf C x ∧ x.f2 + j * stepOf C x < s.size ∧ bt s (x.f2 + j * stepOf C x) = 46
theorem FN {R C : Int} {s : aj} (hg : fD R C s = true) : ∀ (n i : Nat) (st : List S98 × Int), i + n = s.size → EJ i st → (∀ x ∈ st.1, Jo C s x ∧ x.f2 < i) → st.1.Nodup →
  (∀ x ∈ (slW R C s i st).1, Jo C s x) ∧ (slW R C s i st).1.Nodup ∧ (slW R C s i st).1.length ≤ 72 := by
 have hsz := gB hg
 intro n
 induction n with
 | zero =>
  intro i st hi hv hx hnd
  have : i = s.size := by omega
  subst this
  rw [DU]
  exact ⟨fun x h => (hx x h).1, hnd, by have := hv.1; omega⟩
 | succ n ih =>
  intro i st hi hv hx hnd
  rw [BA R C s i (by omega)]
  have ia := Gr hg i (by omega) false
  have id := Gr hg i (by omega) true
  refine ih (i + 1) _ (by omega) (tX R C s i st hv) ?_ ?_
  ·intro x h
   unfold oI qN at h
   simp only [List.mem_append] at h
   rcases h with (h | h) | h
   ·have := hx x h
    exact ⟨this.1, by omega⟩
   ·obtain ⟨rfl, h2⟩ := DT h
    refine ⟨⟨by show (0 : Int) ≤ (i : Int); omega, by show (i : Int) < (s.size : Int); omega, h2, ia.2.1, fun j h1 h3 => ?_⟩, by show (i : Int) < ((i + 1 : Nat) : Int); omega⟩
    have := ia.2.2 j h1 h3
    simpa [stepOf] using this
   ·obtain ⟨rfl, h2⟩ := Gs h
    refine ⟨⟨by show (0 : Int) ≤ (i : Int); omega, by show (i : Int) < (s.size : Int); omega, h2, id.2.1, fun j h1 h3 => ?_⟩, by show (i : Int) < ((i + 1 : Nat) : Int); omega⟩
    have := id.2.2 j h1 h3
    simpa [stepOf] using this
  ·unfold oI qN
   dsimp only
   rw [List.nodup_append, List.nodup_append]
   refine ⟨⟨hnd, ?_, ?_⟩, ?_, ?_⟩
   ·unfold slA; split <;> simp
   ·intro x h1 y h2 he
    obtain ⟨rfl, _⟩ := DT h2
    have := (hx x h1).2
    rw [he] at this
    simp at this
   ·unfold slD; split <;> simp
   ·intro x h1 y h2 he
    obtain ⟨rfl, _⟩ := Gs h2
    rcases List.mem_append.1 h1 with h1 | h1
    ·have := (hx x h1).2
     rw [he] at this
     simp at this
    ·obtain ⟨rfl, _⟩ := DT h1
     simp at he
theorem dH (R C : Int) (s : aj) : (∀ x ∈ aJ R C s, Jo C s x) ∧ (aJ R C s).Nodup ∧ (aJ R C s).length ≤ 72 := by
 unfold aJ
 split
 ·rename_i hg
  exact FN hg s.size 0 ([], 0) (by omega) ⟨by simp, by simp, by simp⟩ (by simp) (by simp)
 ·simp
theorem wS {R C : Int} {s : aj} {x : S98} (h : x ∈ aJ R C s) : fD R C s = true := by
 unfold aJ at h
 split at h
 ·assumption
 ·simp at h
theorem qU {R C : Int} {s : aj} (a d : Int) (i : Nat) (hi : i < 36) (l : List S98) (n : Int) (hl : l.length ≤ 72) (r : List S98)
  (hr : Ev (fun k => aX.l0 k ((l ++ slA n i a) ++ slD n i d) n (s.size : Int) ((i + 1 : Nat) : Int) R C s) r) : Ev (fun k => aX.j2 k l n i a d (s.size : Int) i R C s) r := by
 rw [← av]
 simp only [aX.j2, bH (i := i) (by omega), Option.bind_some, aD]
 by_cases a2 : a ≥ 2 <;> by_cases d2 : d ≥ 2 <;> simp only [slA, slD, a2, d2, if_true, if_false, List.append_nil] at hr ⊢
 ·rw [if_pos (by omega), if_pos (by rw [List.length_append]; simp; omega)]
  exact hr
 ·rw [if_pos (by omega)]
  exact hr
 ·rw [if_pos (by omega)]
  exact hr
 ·exact hr
theorem Bg {R C : Int} {s : aj} (hg : fD R C s = true) : Ev (fun k => aX.l0 k [] 0 (s.size : Int) 0 R C s) (slW R C s 0 ([], 0)).1 := by
 have hsz := gB hg
 refine iP (σ := List S98 × Int) (fun k st i => aX.l0 k st.1 st.2 (s.size : Int) i R C s) s.size EJ (fun i st => (slW R C s i st).1) (fun st hst => ?_) (fun i st hi hst => .inr ⟨oI R C s st i, tX R C s i st hst, ?_, fun r hr => ?_⟩) 0 ([], 0) (Nat.zero_le _) ⟨by simp, by simp, by simp⟩
 ·rw [DU, ← av]
  simp only [aX.l0, Int.lt_irrefl, if_false]
  exact aG _
 ·rw [BA R C s i hi]
 ·obtain ⟨h1, h2, h3⟩ := hst
  have ha := uM hg i hi false
  have hd := uM hg i hi true
  unfold oI qN at hr
  generalize tV R C s i false = a at ha hr
  generalize tV R C s i true = d at hd hr
  have hn1 : wrap64 (st.2 + 1) = st.2 + 1 := lD (by omega) (by omega)
  rw [← av]
  simp only [aX.l0, run_eq]
  rw [ep, ay ha, ay hd, aD]
  have hj2 : ∀ b : Bool, b = decide (a ≥ 2 ∨ d ≥ 2) → Ev (fun k => aX.j1 k st.1 st.2 i a d (s.size : Int) i b R C s) r := by
   intro b hb
   rw [← av]
   simp only [aX.j1, hn1]
   rw [aD]
   by_cases h : a ≥ 2 ∨ d ≥ 2
   ·rw [if_pos (by rw [hb]; simpa using h)]
    simp only [qV, if_pos h] at hr
    exact qU a d i (by omega) st.1 _ (by omega) r hr
   ·rw [if_neg (by rw [hb]; simpa using h)]
    simp only [qV, if_neg h] at hr
    exact qU a d i (by omega) st.1 _ (by omega) r hr
  by_cases a2 : a ≥ 2
  ·rw [if_pos a2]
   exact hj2 _ (by simp [a2])
  ·rw [if_neg a2]
   exact hj2 _ (by simp only [a2, false_or])
theorem oG (R C : Int) (s : aj) : Ev (fun k => aX.f k R C s) (aJ R C s) := by
 unfold aJ aX.f
 rw [ay (jT R C s), aD]
 split
 ·rename_i hg
  exact Bg hg
 ·exact aG _
def bn (C : Int) (x : S98) : List Int := (List.range x.f3.toNat).map (fun (j : Nat) => x.f2 + (j : Int) * stepOf C x)
theorem iA (C : Int) (x : S98) : (bn C x).length = x.f3.toNat := by simp [bn]
theorem AA (C : Int) (x : S98) (j : Nat) (h : j < (bn C x).length) : (bn C x)[j] = x.f2 + (j : Int) * stepOf C x := by simp [bn]
theorem mY {C : Int} {s : aj} {x : S98} (h : Jo C s x) : ∀ c ∈ bn C x, 0 ≤ c ∧ c < s.size ∧ bt s c = 46 := by
 intro c hc
 obtain ⟨j, hj, rfl⟩ := List.mem_map.1 hc
 have := List.mem_range.1 hj
 exact h.2.2.2.2 j (by omega) (by omega)
theorem wH {C : Int} (hC : 2 ≤ C ∧ C ≤ 6) (x : S98) : 1 ≤ stepOf C x ∧ stepOf C x ≤ 6 := by unfold stepOf; split <;> omega
theorem Aa {R C : Int} {s : aj} (hC : 2 ≤ C ∧ C ≤ 6) (x : S98) (hx : 0 ≤ x.f2 ∧ x.f2 ≤ 36 ∧ 0 ≤ x.f3 ∧ x.f3 ≤ 6) (l : List S98) (i : Nat) (hi : i < 4611686018427387903) (acc : List Int) (hacc : acc.length ≤ 100000) (r : List Int)
  (hr : Ev (fun k => bP.l0 k (acc ++ bn C x) l ((i + 1 : Nat) : Int) R C s x.f0 x.f1 x.f2 x.f3) r) : Ev (fun k => bP.l1 k acc l i 0 R C s x.f0 x.f1 x.f2 x.f3) r := by
 have hl := iA C x
 have hst := wH hC x
 refine iP (σ := List Int) (fun k a j => bP.l1 k a l i j R C s x.f0 x.f1 x.f2 x.f3) (bn C x).length (fun j a => a = acc ++ (bn C x).take j) (fun _ _ => r) (fun a ha => ?_) (fun j a hj ha => .inr ⟨a ++ [(bn C x)[j]], ?_, rfl, fun r' hr' => ?_⟩) 0 acc (Nat.zero_le _) (by simp)
 ·rw [List.take_length] at ha
  subst ha
  rw [← av]
  simp only [bP.l1, bH (i := i) (by omega)]
  rw [en]
  exact hr
 ·rw [ha, List.take_succ_eq_append_getElem hj, List.append_assoc]
 ·have hal : a.length ≤ 200000 := by rw [ha, List.length_append, List.length_take]; omega
  have hm := vZ (j := (j : Int)) (st := stepOf C x) (by omega) hst
  rw [AA] at hr'
  rw [← av]
  simp only [bP.l1, bH (i := j) (by omega)]
  rw [ep, aD]
  unfold stepOf at hm hr'
  by_cases hd : x.f1 = true
  ·simp only [hd, if_true] at hm hr' ⊢
   have e1 : wrap64 ((j : Int) * C) = j * C := lD (by omega) (by omega)
   have e2 : wrap64 (x.f2 + (j : Int) * C) = x.f2 + j * C := lD (by omega) (by omega)
   rw [e1, e2, ep]
   exact hr'
  ·rw [Bool.not_eq_true] at hd
   simp only [hd, Bool.false_eq_true, if_false, Int.mul_one] at hm hr' ⊢
   have e2 : wrap64 (x.f2 + (j : Int)) = x.f2 + j := lD (by omega) (by omega)
   rw [e2, ep]
   exact hr'
theorem GL {α β : Type} [DecidableEq α] (l : List α) (x : α) (c : List β) (h : x ∉ l) : l.flatMap (fun y => if y = x then c else []) = [] := by
 rw [List.flatMap_eq_nil_iff]
 intro y hy
 rw [if_neg]
 rintro rfl
 exact h hy
theorem Cz {α β : Type} [DecidableEq α] (x : α) (c : List β) : ∀ l : List α, l.Nodup → x ∈ l → l.flatMap (fun y => if y = x then c else []) = c
 | [], _, h => by cases h
 | y :: l, hn, h => by
  rw [List.nodup_cons] at hn
  rw [List.flatMap_cons]
  by_cases he : y = x
  ·subst he
   rw [if_pos rfl, GL l y c hn.1, List.append_nil]
  ·rw [if_neg he, List.nil_append]
   refine Cz x c l hn.2 ?_
   rcases List.mem_cons.1 h with h | h
   ·exact absurd h.symm he
   ·exact h
theorem AV {α β : Type} (f : α → List β) (n : Nat) : ∀ l : List α, (∀ x ∈ l, (f x).length ≤ n) → (l.flatMap f).length ≤ n * l.length
 | [], _ => by simp
 | x :: l, h => by
  have h1 := AV f n l (fun y hy => h y (List.mem_cons_of_mem _ hy))
  have h2 := h x List.mem_cons_self
  rw [List.flatMap_cons, List.length_append, List.length_cons, Nat.mul_succ]
  omega
theorem om {α β : Type} (f : α → List β) (n i : Nat) (l : List α) (h : ∀ x ∈ l, (f x).length ≤ n) : ((l.take i).flatMap f).length ≤ n * l.length := by
 have h1 := AV f n (l.take i) (fun x hx => h x (List.mem_of_mem_take hx))
 have h2 : (l.take i).length ≤ l.length := by rw [List.length_take]; omega
 exact Nat.le_trans h1 (Nat.mul_le_mul_left n h2)
theorem mU {R C : Int} {s : aj} (x : S98) (hx : x ∈ aJ R C s) : Ev (fun k => bP.f k R C s x.f0 x.f1 x.f2 x.f3) (bn C x) := by
 obtain ⟨good, hnd, hlen⟩ := dH R C s
 have hg := wS hx
 have hC := (jk hg).2.1
 have hsz := gB hg
 have ok := good x hx
 unfold bP.f
 rw [ay (jo R C s)]
 generalize aJ R C s = l at hx hnd hlen
 letI : DecidableEq S98 := fun _ _ => Classical.propDecidable _
 have hfl : ∀ y ∈ l, (if y = x then bn C x else []).length ≤ 6 := by
  intro y _
  split
  ·rw [iA]; have := ok.2.2.2.1; omega
  ·simp
 refine gI (mE (fun k a i => bP.l0 k a l i R C s x.f0 x.f1 x.f2 x.f3) l (fun y => if y = x then bn C x else []) 0 (fun a => ?_) (fun i hi a ha r hr => ?_)) (Cz x _ l hnd hx)
 ·rw [← av]; simp only [bP.l0, Int.lt_irrefl, if_false]; exact aG _
 ·have hb := om _ 6 i l hfl
  rw [← av]
  simp only [bP.l0, nQ l i hi, bH (i := i) (by omega)]
  rw [ep, ep, aD]
  by_cases he : l[i] = x
  ·simp only [he, if_true] at hr ⊢
   rw [if_neg (by simp)]
   exact Aa hC x ⟨ok.1, by have := ok.2.1; omega, by have := ok.2.2.1; omega, ok.2.2.2.1⟩ l i (by omega) a (by omega) r hr
  ·simp only [he, if_false, List.append_nil] at hr
   rw [if_pos]
   ·exact hr
   ·generalize l[i] = y at he
    obtain ⟨y0, y1, y2, y3⟩ := y
    obtain ⟨x0, x1, x2, x3⟩ := x
    simp only [S98.mk.injEq, not_and] at he
    simp only [Bool.or_eq_true, Bool.not_eq_true', beq_eq_false_iff_ne, ne_eq]
    by_cases h0 : y0 = x0
    ·by_cases h1 : y1 = x1
     ·by_cases h2 : y2 = x2
      ·exact .inr (.inr (.inr (he h0 h1 h2)))
      ·exact .inr (.inr (.inl h2))
     ·exact .inr (.inl h1)
    ·exact .inl h0
theorem Cc {R C : Int} {s : aj} (x : S98) (hx : x ∈ aJ R C s) : Ev (fun k => fI.f k R C s x.f0 x.f1 x.f2 x.f3) (bn C x) := by
 obtain ⟨good, hnd, hlen⟩ := dH R C s
 have hg := wS hx
 have hC := (jk hg).2.1
 have hsz := gB hg
 have ok := good x hx
 have hl := iA C x
 have hst := wH hC x
 have q1 := ok.1
 have q2 := ok.2.1
 have q3 := ok.2.2.1
 have q4 := ok.2.2.2.1
 have key : Ev (fun k => fI.j0 k (stepOf C x) x.f0 x.f1 x.f2 x.f3) (bn C x) := by
  rw [← av]
  simp only [fI.j0]
  refine iP (σ := List Int) (fun k a j => fI.l0 k (stepOf C x) a x.f3 j x.f0 x.f1 x.f2 x.f3) (bn C x).length (fun j a => a = (bn C x).take j) (fun _ _ => bn C x) (fun a ha => ?_) (fun j a hj ha => .inr ⟨a ++ [(bn C x)[j]], ?_, rfl, fun r' hr' => ?_⟩) 0 [] (Nat.zero_le _) (by simp)
  ·rw [List.take_length] at ha
   subst ha
   rw [← av]
   simp only [fI.l0]
   rw [en]
   exact aG _
  ·rw [ha, List.take_succ_eq_append_getElem hj]
  ·have hal : a.length ≤ 6 := by rw [ha, List.length_take]; omega
   have hm := vZ (j := (j : Int)) (st := stepOf C x) (by omega) hst
   rw [AA] at hr'
   have e1 : wrap64 ((j : Int) * stepOf C x) = j * stepOf C x := lD (by omega) (by omega)
   have e2 : wrap64 (x.f2 + (j : Int) * stepOf C x) = x.f2 + j * stepOf C x := lD (by omega) (by omega)
   rw [← av]
   simp only [fI.l0, bH (i := j) (by omega), e1, e2]
   rw [ep, ep]
   exact hr'
 unfold fI.f
 unfold stepOf at key
 rw [aD]
 by_cases hd : x.f1 = true
 ·rw [if_pos hd] at key ⊢
  exact key
 ·rw [if_neg hd] at key ⊢
  exact key
theorem lM (R C : Int) (s : aj) : Ev (fun k => fA.f k R C s) ((aJ R C s).map (bn C)) := by
 obtain ⟨good, hnd, hlen⟩ := dH R C s
 unfold fA.f
 rw [ay (oG R C s)]
 refine gI (mE (fun k a i => fA.l0 k a (aJ R C s) ((aJ R C s).length : Int) i R C s) (aJ R C s) (fun x => [bn C x]) 0 (fun a => ?_) (fun i hi a ha r hr => ?_)) List.map_eq_flatMap.symm
 ·rw [← av]; simp only [fA.l0, Int.lt_irrefl, if_false]; exact aG _
 ·have hb := om (fun x : S98 => [bn C x]) 1 i (aJ R C s) (fun _ _ => by simp)
  rw [← av]
  simp only [fA.l0, nQ _ i hi, bH (i := i) (by omega)]
  rw [ep, ep, ep, ay (Cc _ (gM hi)), ep]
  exact hr
def oF (c f : Int) : Bool := decide ((c = 35 ↔ f = 35) ∧ (f = 35 ∨ f = 63 ∨ (97 ≤ f ∧ f ≤ 122)))
def iI (R C : Int) (s f : aj) : Bool := fD R C s && (decide (f.size = s.size) && (List.range f.size).all (fun i => oF (bt s i) (bt f i)))
theorem kG {R C : Int} {s f : aj} (h : iI R C s f = true) : fD R C s = true ∧ f.size = s.size ∧ ∀ i : Nat, i < f.size → oF (bt s i) (bt f i) = true := by
 simpa [iI] using h
theorem Gh {R C : Int} {s : aj} (hg : fD R C s = true) (i : Nat) (hi : i < s.size) : bt s (i : Int) = 35 ∨ bt s (i : Int) = 46 := by
 rw [mI s i hi]
 exact (jk hg).2.2.2 _ (gM _)
theorem qC {R C : Int} {s f : aj} (k i : Nat) (hi : i < f.size) (hs : i < s.size) (h36 : i < 1000) (hc : bt s (i : Int) = 35 ∨ bt s (i : Int) = 46) :
  bU.l0 (k + 1) f i R C s = if oF (bt s i) (bt f i) = true then bU.l0 k f ((i + 1 : Nat) : Int) R C s else some false := by
 have h1 : (i : Int) < (f.size : Int) := by omega
 have h2 : (0 : Int) ≤ (i : Int) := by omega
 have h3 : (i : Int) < (s.size : Int) := by omega
 simp only [bU.l0, bH (i := i) (by omega), h1, h2, h3, if_true]
 generalize bU.l0 k f ((i + 1 : Nat) : Int) R C s = Y
 generalize bt s (i : Int) = c at hc ⊢
 generalize bt f (i : Int) = x
 simp only [oF, decide_eq_true_eq]
 repeat' split
 all_goals first | rfl | (exfalso; omega)
theorem Ck {R C : Int} {s f : aj} (hg : fD R C s = true) (hf : f.size = s.size) : Ev (fun k => bU.l0 k f 0 R C s) ((List.range f.size).all (fun i => oF (bt s i) (bt f i))) := by
 have hsz := gB hg
 refine jX (fun k i => bU.l0 k f i R C s) (List.range f.size) (fun i => oF (bt s i) (bt f i)) ?_ (fun i hi hp r hr => ?_) (fun i hi hp => ?_)
 ·rw [← av]; simp [bU.l0, aG]
 ·rw [List.length_range] at hi
  rw [List.getElem_range] at hp
  rw [← av]
  simp only [qC _ i hi (by omega) (by omega) (Gh hg i (by omega)), hp, if_true]
  exact hr
 ·rw [List.length_range] at hi
  rw [List.getElem_range] at hp
  rw [← av]
  simp only [qC _ i hi (by omega) (by omega) (Gh hg i (by omega)), hp, Bool.false_eq_true, if_false]
  exact aG _
theorem pI (R C : Int) (s f : aj) : Ev (fun k => bU.f k R C s f) (iI R C s f) := by
 unfold bU.f
 rw [ay (iW R C s), aD]
 by_cases hg : fD R C s = true
 ·rw [if_pos hg, ← av]
  simp only [bU.j0, aD, bne_iff_ne, ne_eq]
  by_cases hf : f.size = s.size
  ·rw [if_neg (by omega)]
   exact gI (Ck hg hf) (by simp [iI, hg, hf])
  ·rw [if_pos (by omega)]
   exact gI (aG _) (by simp [iI, hf])
 ·rw [if_neg hg, ← av]
  simp only [bU.j0, if_true]
  exact gI (aG _) (by simp [iI, hg])
theorem qw {R C : Int} {s f : aj} (k i : Nat) (hi : i < f.size) (hs : i < s.size) (h36 : i < 1000) :
  dG.l0 (k + 1) f (f.size : Int) i R C s = if oF (bt s i) (bt f i) = true then dG.l0 k f (f.size : Int) ((i + 1 : Nat) : Int) R C s else some false := by
 have h1 : (i : Int) < (f.size : Int) := by omega
 have h2 : (0 : Int) ≤ (i : Int) := by omega
 have h3 : (i : Int) < (s.size : Int) := by omega
 simp only [dG.l0, bH (i := i) (by omega), h1, h2, h3, if_true, ni, Option.bind_some, decide_eq_true_eq]
 generalize dG.l0 k f (f.size : Int) ((i + 1 : Nat) : Int) R C s = Y
 generalize bt s (i : Int) = c
 generalize bt f (i : Int) = x
 by_cases he : (c = 35 ↔ x = 35)
 ·have e : ((c == 35) != (x == 35)) = false := by rw [bne_eq_false_iff_eq, Bool.eq_iff_iff, beq_iff_eq, beq_iff_eq]; exact he
  rw [e]
  simp only [oF, decide_eq_true_eq, Bool.false_eq_true, if_false]
  repeat' split
  all_goals first | rfl | (exfalso; omega)
 ·have e : ((c == 35) != (x == 35)) = true := by
   rw [bne_iff_ne]
   intro q
   rw [Bool.eq_iff_iff, beq_iff_eq, beq_iff_eq] at q
   exact he q
  rw [e, if_pos rfl, if_neg]
  simp only [oF, decide_eq_true_eq]
  exact fun q => he q.1
theorem BX {R C : Int} {s f : aj} (hg : fD R C s = true) (hf : f.size = s.size) : Ev (fun k => dG.l0 k f (f.size : Int) 0 R C s) ((List.range f.size).all (fun i => oF (bt s i) (bt f i))) := by
 have hsz := gB hg
 refine jX (fun k i => dG.l0 k f (f.size : Int) i R C s) (List.range f.size) (fun i => oF (bt s i) (bt f i)) ?_ (fun i hi hp r hr => ?_) (fun i hi hp => ?_)
 ·rw [← av]; simp [dG.l0, aG]
 ·rw [List.length_range] at hi
  rw [List.getElem_range] at hp
  rw [← av]
  simp only [qw (R := R) (C := C) (s := s) (f := f) _ i hi (by omega) (by omega), hp, if_true]
  exact hr
 ·rw [List.length_range] at hi
  rw [List.getElem_range] at hp
  rw [← av]
  simp only [qw (R := R) (C := C) (s := s) (f := f) _ i hi (by omega) (by omega), hp, Bool.false_eq_true, if_false]
  exact aG _
theorem rH (R C : Int) (s f : aj) : Ev (fun k => dG.f k R C s f) (iI R C s f) := by
 unfold dG.f
 rw [ay (jT R C s), aD]
 by_cases hg : fD R C s = true
 ·rw [if_pos hg, ← av]
  simp only [dG.j0, aD, bne_iff_ne, ne_eq]
  by_cases hf : f.size = s.size
  ·rw [if_neg (by omega)]
   exact gI (BX hg hf) (by simp [iI, hg, hf])
  ·rw [if_pos (by omega)]
   exact gI (aG _) (by simp [iI, hf])
 ·rw [if_neg hg, ← av]
  simp only [dG.j0, if_true]
  exact gI (aG _) (by simp [iI, hg])
def kL (f : aj) (l : List Int) : aj := strOfNums (l.map (bt f))
theorem wI (a b : List Int) : strOfNums (a ++ b) = strOfNums a ++ strOfNums b := by
 refine ByteArray.ext (Array.toList_inj.1 ?_)
 rw [ByteArray.data_append, Array.toList_append, strOfNums_data, strOfNums_data, strOfNums_data, List.map_append]
theorem Em (f : aj) (hf : f.size ≤ 1000000) (c : Int) (h0 : 0 ≤ c) (h1 : c < f.size) : f.extract c.toNat (wrap64 (c + 1)).toNat = strOfNums [bt f c] := by
 have e : wrap64 (c + 1) = c + 1 := by unfold wrap64; omega
 have hc : c.toNat < f.size := by omega
 have hd : c.toNat < f.data.toList.length := by rw [Array.length_toList]; exact hc
 refine ByteArray.ext (Array.toList_inj.1 ?_)
 rw [e, show (c + 1).toNat = c.toNat + 1 by omega, strOfNums_data, ByteArray.data_extract, Array.toList_extract]
 have hb : bt f c = ((f.data.toList[c.toNat]).toNat : Int) := by
  unfold bt
  rw [dif_pos hc]
  rfl
 rw [List.extract_eq_drop_take', List.drop_take, List.drop_eq_getElem_cons hd]
 simp [hb]
theorem nC (f : aj) (l : List Int) : (kL f l).size = l.length := by rw [kL, strOfNums_size, List.length_map]
theorem Hq (f : aj) (l : List Int) (c : Int) : kL f (l ++ [c]) = kL f l ++ strOfNums [bt f c] := by
 rw [kL, List.map_append, wI]; rfl
theorem tZ (f : aj) (l : List Int) (hl : l.length ≤ 100000) (hf : f.size ≤ 1000000) (hc : ∀ c ∈ l, 0 ≤ c ∧ c < f.size) : Ev (fun k => bC.l0 k f (⟨#[]⟩ : aj) l 0) (kL f l) := by
 refine iP (σ := aj) (fun k a i => bC.l0 k f a l i) l.length (fun i a => a = kL f (l.take i)) (fun _ _ => kL f l) (fun a ha => ?_) (fun i a hi ha => .inr ⟨a ++ strOfNums [bt f l[i]], ?_, rfl, fun r hr => ?_⟩) 0 _ (Nat.zero_le _) rfl
 ·rw [List.take_length] at ha
  rw [← av]
  simp only [bC.l0, Int.lt_irrefl, if_false, ha]
  exact aG _
 ·rw [ha, List.take_succ_eq_append_getElem hi, Hq]
 ·have hcc := hc _ (gM hi)
  have hx := Em f hf l[i] hcc.1 hcc.2
  have ew : wrap64 (l[i] + 1) = l[i] + 1 := by unfold wrap64; omega
  have hz : (strOfNums [bt f l[i]]).size = 1 := by rw [strOfNums_size]; rfl
  have has : a.size ≤ 100000 := by rw [ha, nC, List.length_take]; omega
  rw [← av]
  simp only [bC.l0, nP l i hi, bH (i := i) (by omega), hx]
  rw [ep, ep, ep hcc.1, ep, ep, ep]
  exact hr
theorem oN {R C : Int} {s f : aj} (hf : iI R C s f = true) (i : Nat) (hi : i < (aJ R C s).length) : Ev (fun k => bC.f k R C s f i) (kL f (bn C (aJ R C s)[i])) := by
 obtain ⟨good, hnd, hlen⟩ := dH R C s
 obtain ⟨hg, hfs, _⟩ := kG hf
 have hsz := gB hg
 have hm := gM hi
 have ok := good _ hm
 have e : wrap64 (((aJ R C s).length : Int) - 1) = (aJ R C s).length - 1 := lD (by omega) (by omega)
 unfold bC.f
 rw [ay (jo R C s), ay (pI R C s f), ep hf]
 simp only [mD, Option.bind_some, e]
 rw [← av]
 simp only [bC.j0, nQ _ i hi]
 rw [en (by simp; omega), ep, ep, ay (mU _ hm)]
 exact tZ f _ (by rw [iA]; have := ok.2.2.2.1; omega) (by omega) (fun c hc => by have := mY ok c hc; omega)
theorem nL (f : aj) (l : List Int) (hl : l.length ≤ 100000) (hc : ∀ c ∈ l, 0 ≤ c ∧ c < f.size) : Ev (fun k => eG.f k f l) (kL f l) := by
 unfold eG.f
 refine iP (σ := List Int) (fun k a i => eG.l0 k f a l (l.length : Int) i) l.length (fun i a => a = (l.take i).map (bt f)) (fun _ _ => kL f l) (fun a ha => ?_) (fun i a hi ha => .inr ⟨a ++ [bt f l[i]], ?_, rfl, fun r hr => ?_⟩) 0 _ (Nat.zero_le _) rfl
 ·rw [List.take_length] at ha
  rw [← av]
  simp only [eG.l0, Int.lt_irrefl, if_false, ha]
  exact aG _
 ·rw [ha, List.take_succ_eq_append_getElem hi, List.map_append]; rfl
 ·have hcc := hc _ (gM hi)
  have has : a.length ≤ 100000 := by rw [ha, List.length_map, List.length_take]; omega
  rw [← av]
  simp only [eG.l0, nP l i hi, bH (i := i) (by omega)]
  rw [ep, ep, ep, ep hcc.1, ep hcc.2, ep]
  exact hr
noncomputable def sZ (R C : Int) (s f : aj) : List aj := if iI R C s f = true then (aJ R C s).map (fun x => kL f (bn C x)) else []
theorem vV (R C : Int) (s f : aj) : Ev (fun k => fP.f k R C s f) (sZ R C s f) := by
 unfold fP.f sZ
 rw [ay (rH R C s f), aD]
 split
 ·rename_i hf
  obtain ⟨good, hnd, hlen⟩ := dH R C s
  obtain ⟨hg, hfs, _⟩ := kG hf
  rw [ay (lM R C s)]
  have hll : ((aJ R C s).map (bn C)).length = (aJ R C s).length := List.length_map _
  refine gI (mE (fun k a i => fP.l0 k f a ((aJ R C s).map (bn C)) (((aJ R C s).map (bn C)).length : Int) i) ((aJ R C s).map (bn C)) (fun l => [kL f l]) 0 (fun a => ?_) (fun i hi a ha r hr => ?_)) (by rw [← List.map_eq_flatMap, List.map_map]; rfl)
  ·rw [← av]; simp only [fP.l0, Int.lt_irrefl, if_false]; exact aG _
  ·have hb := om (fun l : List Int => [kL f l]) 1 i ((aJ R C s).map (bn C)) (fun _ _ => by simp)
   have hi' : i < (aJ R C s).length := by omega
   have ok := good _ (gM hi')
   have hL : ((aJ R C s).map (bn C))[i] = bn C (aJ R C s)[i] := List.getElem_map _
   have hr1 := nL f ((aJ R C s).map (bn C))[i] (by rw [hL, iA]; have := ok.2.2.2.1; omega) (fun c hc => by rw [hL] at hc; have := mY ok c hc; omega)
   rw [← av]
   simp only [fP.l0, FD _ i hi, bH (i := i) (by omega)]
   rw [ep, ep, ep, ay hr1, ep]
   exact hr
 ·exact aG _
theorem Eo {α : Type} (q : α → Bool) (l : List α) : l.flatMap (fun s => if q s = true then [s] else []) = l.filter q := by
 induction l with
 | nil => rfl
 | cons x l ih => rw [List.flatMap_cons, ih, List.filter_cons]; split <;> simp
theorem GK {α β : Type} (f : α → List β) (h : ∀ x, (f x).length ≤ 1) (l : List α) : (l.flatMap f).length ≤ l.length := by
 induction l with
 | nil => simp
 | cons x l ih => have := h x; simp only [List.flatMap_cons, List.length_append, List.length_cons]; omega
theorem Ch (l : List aj) (p : Nat → aj → Option Bool) (q : aj → Bool) (hl : l.length ≤ 8796093022208) (hp : ∀ s ∈ l, Ev (fun k => p k s) (q s)) : Ev (fun k => fO.f k l p) (l.filter q) := by
 rw [← Eo]
 refine mE (fun k x i => fO.l0 k p x l (l.length : Int) i) l (fun s => if q s = true then [s] else []) 0 (fun x => ?_) (fun i hi x hx r hr => ?_)
 ·rw [← av]; simp [fO.l0, aG]
 ·have hx' := GK (fun s => if q s = true then [s] else []) (fun x => by split <;> simp) (l.take i)
  rw [List.length_take] at hx'
  rw [← av]
  simp only [fO.l0, jY ByteArray.empty l i hi, bH (i := i) (by omega)]
  rw [ep, ep, ep, ay (hp _ (gM hi)), aD]
  split
  ·rename_i hq
   rw [if_pos hq] at hr
   rw [ep]
   exact hr
  ·rename_i hq
   rw [if_neg hq, List.append_nil] at hr
   exact hr
theorem Hz (R C : Int) (s : aj) (a : Int) (hs : s.size ≤ 140737488351232) (h0 : 0 ≤ a) (h1 : a ≤ 1048576) : ∃ r, lS.f R C s a = some r ∧ r ≤ 1048576 := by
 unfold lS.f
 rw [lD (by omega) (by omega)]
 split
 ·exact ⟨_, rfl, by omega⟩
 ·exact ⟨_, rfl, by omega⟩
theorem FQ (l : List S66) (hl : l.length < 4611686018427387904) (hs : ∀ x ∈ l, x.f1.length < 4611686018427387904 ∧ ∀ y ∈ x.f1, y.f1.size ≤ 140737488351232) (a : Int) (ha : 0 ≤ a) (ha' : a ≤ 1048576) : ∃ r, Ev (fun k => gJ.f k l a) r ∧ r ≤ 1048576 := by
 unfold gJ.f
 have w1 : wrap64 (a - (l.length : Int)) = a - l.length := lD (by omega) (by omega)
 simp only [aD, eU, w1]
 by_cases h : a - (l.length : Int) < 0
 ·exact ⟨-1, by simp [h]⟩
 ·simp only [h, if_false]
  refine rX (fun k b i => gJ.l0 k l b i) l 1048576 (fun b => ?_) (fun i hi b hb hb' => ?_) _ (by omega) (by omega)
  ·rw [← av]
   simp only [gJ.l0]
   rw [en]
   exact aG _
  ·have hsz := hs _ (gM hi)
   obtain ⟨r, hr, hrb⟩ := Hy l[i].f0 l[i].f1 hsz.1 hsz.2 b hb hb'
   by_cases h2 : r < 0
   ·refine .inl ?_
    rw [← av]
    simp only [gJ.l0, FH l i hi]
    rw [ep, ep, ay hr, ep h2]
    exact aG _
   ·refine .inr ⟨r, by omega, hrb, fun q hq => ?_⟩
    rw [← av]
    simp only [gJ.l0, FH l i hi, bH (i := i) (by omega)]
    rw [ep, ep, ay hr, en h2]
    exact hq
def nS (x : S66) : S75 := ⟨x.f0, x.f1.map toStep⟩
theorem FU (l : List S66) (hl : l.length ≤ 8796093022208) (hs : ∀ x ∈ l, x.f1.length ≤ 3518437208883) : Ev (fun k => gD.f k l) (l.map nS) := by
 unfold gD.f
 rw [ep, ep]
 refine qz (fun k s i => gD.l0 k l s i) l nS z75 (fun s hs => ?_) (fun i hi s hs' r hr => ?_)
 ·rw [← av]
  simp [gD.l0, aG]
 ·rw [← av]
  simp only [gD.l0, FH l i hi, bH (i := i) (by omega)]
  rw [ep, ep, ay (HY _ _ (hs _ (gM hi))), ep]
  exact hr
theorem Fq (l : List S75) (hl : l.length < 4611686018427387904) (hs : ∀ x ∈ l, x.f1.length < 4611686018427387904) : Ev (fun k => eH.f k l l) true := by
 unfold eH.f
 rw [ep rfl]
 refine gI (jX (fun k i => eH.l0 k l l i) l (fun _ => true) ?_ (fun i hi hp r hr => ?_) (fun i hi hp => by cases hp)) (by simp)
 ·rw [← av]; simp [eH.l0, aG]
 ·rw [← av]
  simp only [eH.l0, tT l i hi, bH (i := i) (by omega)]
  rw [ep, ep, ep, ay (GA _ _ (hs _ (gM hi))), ep rfl]
  exact hr
theorem HV (l : List Int) (hl : l.length < 4611686018427387904) (a : Int) (h0 : 0 ≤ a) (h1 : a ≤ 1048576) : ∃ r, lT.f l a = some r ∧ r ≤ 1048576 := by
 unfold lT.f
 rw [lD (by omega) (by omega)]
 split
 ·exact ⟨_, rfl, by omega⟩
 ·exact ⟨_, rfl, by omega⟩
theorem EM (R C : Int) (s : aj) (l : List S66) (q : List Int) (e : Int) (hs : s.size ≤ 140737488351232) (hl : l.length < 4611686018427387904) (hx : ∀ x ∈ l, x.f1.length < 4611686018427387904 ∧ ∀ y ∈ x.f1, y.f1.size ≤ 140737488351232) (hq : q.length < 4611686018427387904) (a : Int) (h0 : 0 ≤ a) (h1 : a ≤ 1048576) : ∃ r, Ev (fun k => kI.f k R C s l q e a) r ∧ r ≤ 1048576 := by
 unfold kI.f
 obtain ⟨g, hg, hgb⟩ := Hz R C s a hs h0 h1
 simp only [hg, Option.bind_some]
 by_cases n1 : g < 0
 ·exact ⟨-1, by rw [ep n1]; exact aG _, by omega⟩
 obtain ⟨c, hc, hcb⟩ := FQ l hl hx g (by omega) hgb
 by_cases n2 : c < 0
 ·exact ⟨-1, by rw [en n1, ay hc, ep n2]; exact aG _, by omega⟩
 obtain ⟨i, hi, hib⟩ := HV q hq c (by omega) hcb
 by_cases n3 : i < 0
 ·exact ⟨-1, by rw [en n1, ay hc, en n2]; simp only [hi, Option.bind_some, if_pos n3]; exact aG _, by omega⟩
 ·exact ⟨i, by rw [en n1, ay hc, en n2]; simp only [hi, Option.bind_some, if_neg n3]; exact aG _, hib⟩
theorem EO (R C : Int) (s : aj) (l : List S66) (q : List Int) (e : Int) (hl : l.length ≤ 8796093022208) (hs : ∀ x ∈ l, x.f1.length ≤ 3518437208883) (hq : q.length ≤ 17592186044416) : Ev (fun k => iV.f k R C s l q e) (R, C, s, l.map nS, q, e) := by
 unfold iV.f
 simp only [ny.f, Option.bind_some]
 rw [ay (FU l hl hs), ay (HZ q hq)]
 exact aG _
theorem El (R C : Int) (s : aj) (l : List S75) (q : List Int) (e : Int) (hl : l.length < 4611686018427387904) (hs : ∀ x ∈ l, x.f1.length < 4611686018427387904) (hq : q.length < 4611686018427387904) : Ev (fun k => kH.f k R C s l q e R C s l q e) true := by
 unfold kH.f
 simp only [nk.f, if_true, Option.bind_some]
 rw [ay (Fq l hl hs), ep rfl, ay (GD q hq), ep rfl]
 exact aG _
def Et (s : aj) : aj := if iw s = true then s.extract 0 1 else (⟨#[]⟩ : aj)
theorem BG (s : aj) : Ev (fun k => kZ.f k s) (Et s) := by
 unfold kZ.f Et
 rw [ay (iN s), aD]
 split
 ·rename_i h
  have := gV h
  rw [ep, ep]
  exact aG _
 ·exact aG _
theorem Bc (s : aj) : Ev (fun k => kY.f k s) (Et s) := by
 unfold kY.f Et
 rw [ay (iL s), aD]
 split
 ·rename_i h
  have := gV h
  rw [ep, ep]
  exact aG _
 ·exact aG _
theorem FP (a b : List Int) : strOfNums (a ++ b) = strOfNums a ++ strOfNums b := by
 refine ByteArray.ext (Array.toList_inj.1 ?_)
 rw [ByteArray.data_append, Array.toList_append, strOfNums_data, strOfNums_data, strOfNums_data, List.map_append]
theorem AQ (s : aj) (i : Nat) (h : i < s.size) : s.extract i (i + 1) = strOfNums [(bytesOf s)[i]'(by rw [bytesOf_length]; exact h)] := by
 have hd : i < s.data.toList.length := by rw [Array.length_toList]; exact h
 refine ByteArray.ext (Array.toList_inj.1 ?_)
 rw [strOfNums_data, ByteArray.data_extract, Array.toList_extract, List.extract_eq_drop_take', List.drop_take, List.drop_eq_getElem_cons hd]
 simp [bytesOf]
def wY (s : aj) : aj := strOfNums (bytesOf s).reverse
theorem sj (s : aj) : (wY s).size = s.size := by rw [wY, strOfNums_size, List.length_reverse, bytesOf_length]
theorem qc (s : aj) (hs : s.size ≤ 100) : Ev (fun k => eY.f k s) (wY s) := by
 unfold eY.f
 refine iP (σ := aj) (fun k a i => eY.l0 k s a i) s.size (fun i a => a = strOfNums ((bytesOf s).take i).reverse) (fun _ _ => wY s) (fun a ha => ?_) (fun i a hi ha => ?_) 0 _ (Nat.zero_le _) rfl
 ·rw [List.take_of_length_le (by rw [bytesOf_length]; exact nR _)] at ha
  rw [← av]
  simp only [eY.l0, Int.lt_irrefl, if_false, ha]
  exact aG _
 ·have hb : i < (bytesOf s).length := by rw [bytesOf_length]; exact hi
  refine .inr ⟨strOfNums [(bytesOf s)[i]] ++ a, ?_, rfl, fun r hr => ?_⟩
  ·rw [List.take_succ_eq_append_getElem hb, List.reverse_append, FP, ha]
   rfl
  ·have h1 : (strOfNums [(bytesOf s)[i]]).size = 1 := by rw [strOfNums_size]; rfl
   have h2 : a.size ≤ 100 := by rw [ha, strOfNums_size, List.length_reverse, List.length_take]; omega
   rw [← av]
   simp only [eY.l0, bH (i := i) (by omega), Int.toNat_natCast, AQ s i hi]
   rw [ep, ep, ep, ep, ep, ep]
   exact hr
theorem pV (s : aj) (hs : s.size ≤ 100) : iK.f s = some (wY s) := by
 unfold iK.f wY
 rw [if_pos hs]
def CU (s : aj) : aj := strOfNums ((bytesOf s).mergeSort (fun x y => decide (x ≤ y)))
def bucket (xs : List Int) (c : Nat) : List Int := xs.filter (fun b => decide (b = 97 + (c : Int)))
theorem um (xs : List Int) (a : Int) : ∀ n : Nat, List.count a ((List.range n).flatMap (bucket xs)) = if 97 ≤ a ∧ a < 97 + (n : Int) then List.count a xs else 0
 | 0 => by rw [if_neg (by omega)]; rfl
 | n + 1 => by
  rw [List.range_succ, List.flatMap_append, List.count_append, um xs a n]
  have hb : List.count a (([n] : List Nat).flatMap (bucket xs)) = if a = 97 + (n : Int) then List.count a xs else 0 := by
   simp only [List.flatMap_cons, List.flatMap_nil, List.append_nil, bucket]
   split
   ·rename_i h
    exact List.count_filter (by simpa using h)
   ·rename_i h
    refine List.count_eq_zero.2 (fun hm => h ?_)
    have := (List.mem_filter.1 hm).2
    simpa using this
  rw [hb]
  by_cases h1 : a = 97 + (n : Int)
  ·rw [if_pos h1, if_neg (by omega), if_pos (by omega)]
   omega
  ·rw [if_neg h1]
   by_cases h2 : 97 ≤ a ∧ a < 97 + (n : Int)
   ·rw [if_pos h2, if_pos (by omega)]
    omega
   ·rw [if_neg h2, if_neg (by omega)]
theorem BR (xs : List Int) (h : ∀ x ∈ xs, 97 ≤ x ∧ x ≤ 122) : (List.range 26).flatMap (bucket xs) = xs.mergeSort (fun x y => decide (x ≤ y)) := by
 have hperm : ((List.range 26).flatMap (bucket xs)).Perm xs := by
  rw [List.perm_iff_count]
  intro a
  rw [um]
  split
  ·rfl
  ·rename_i hn
   refine (List.count_eq_zero.2 (fun hm => hn ?_)).symm
   have := h a hm
   omega
 refine List.Perm.eq_of_pairwise (le := fun x y => decide (x ≤ y) = true) ?_ ?_ ?_ (hperm.trans (List.mergeSort_perm _ _).symm)
 ·intro a b _ _ h1 h2
  have h1 := of_decide_eq_true h1
  have h2 := of_decide_eq_true h2
  omega
 ·rw [List.pairwise_flatMap]
  refine ⟨fun c _ => ?_, ?_⟩
  ·rw [List.pairwise_iff_getElem]
   intro i j hi hj _
   have e1 := (List.mem_filter.1 (gM hi)).2
   have e2 := (List.mem_filter.1 (gM hj)).2
   have e1 := of_decide_eq_true e1
   have e2 := of_decide_eq_true e2
   exact dT (by omega)
  ·refine List.Pairwise.imp ?_ (List.pairwise_lt_range (n := 26))
   intro a b hab x hx y hy
   have e1 := of_decide_eq_true (List.mem_filter.1 hx).2
   have e2 := of_decide_eq_true (List.mem_filter.1 hy).2
   exact dT (by omega)
 ·refine List.pairwise_mergeSort ?_ ?_ _
  ·intro a b c h1 h2
   have h1 := of_decide_eq_true h1
   have h2 := of_decide_eq_true h2
   exact dT (by omega)
  ·intro a b
   by_cases h : a ≤ b
   ·simp [h]
   ·have : b ≤ a := by omega
    simp [this]
theorem oO (s : aj) (hw : iw s = true) : Ev (fun k => aY.f k s) (CU s) := by
 have hsz := gV hw
 have hlet := Bh hw
 have hlen : (bytesOf s).length = s.size := bytesOf_length s
 unfold aY.f CU
 rw [← BR (bytesOf s) hlet]
 have hinner : ∀ (c : Nat) (a : aj) (r : aj), c < 26 → a.size ≤ 1000 → Ev (fun k => aY.l0 k s (a ++ strOfNums (bucket (bytesOf s) c)) (97 + ((c + 1 : Nat) : Int))) r → Ev (fun k => aY.l1 k s a (97 + (c : Int)) 0) r := by
  intro c a r hc ha hr
  refine iP (σ := aj) (fun k b j => aY.l1 k s b (97 + (c : Int)) j) s.size (fun j b => b = a ++ strOfNums (bucket ((bytesOf s).take j) c)) (fun _ _ => r) (fun b hb => ?_) (fun j b hj hb => ?_) 0 _ (Nat.zero_le _) (by simp [bucket, strOfNums]; exact (ByteArray.append_empty (b := a)).symm)
  ·rw [List.take_of_length_le (by omega)] at hb
   have e : wrap32 (97 + (c : Int) + 1) = 97 + ((c + 1 : Nat) : Int) := by unfold wrap32; omega
   rw [← av]
   simp only [aY.l1, e, Int.lt_irrefl, if_false, hb]
   exact hr
  ·have hj' : j < (bytesOf s).length := by omega
   have hx := hlet _ (gM hj')
   have hsb : b.size ≤ 1000 + j := by
    rw [hb, ByteArray.size_append, strOfNums_size, bucket]
    have := List.length_filter_le (fun b => decide (b = 97 + (c : Int))) ((bytesOf s).take j)
    rw [List.length_take] at this
    omega
   have e : wrap32 (bt s (j : Int)) = (bytesOf s)[j] := by rw [mI s j hj]; unfold wrap32; omega
   have htk : bucket ((bytesOf s).take (j + 1)) c = bucket ((bytesOf s).take j) c ++ (if (bytesOf s)[j] = 97 + (c : Int) then [(bytesOf s)[j]] else []) := by
    rw [List.take_succ_eq_append_getElem hj', bucket, bucket, List.filter_append, List.filter_cons, List.filter_nil]
    simp only [decide_eq_true_eq]
   refine .inr ⟨a ++ strOfNums (bucket ((bytesOf s).take (j + 1)) c), rfl, rfl, fun q hq => ?_⟩
   rw [← av]
   simp only [aY.l1, e, bH (i := j) (by omega), Int.toNat_natCast, AQ s j hj]
   rw [ep, ep, aD]
   rw [htk, FP, ← ByteArray.append_assoc, ← hb] at hq
   split
   ·rename_i h1
    rw [if_pos h1] at hq
    rw [ep, ep, ep (by rw [strOfNums_size]; simp; omega)]
    exact hq
   ·rename_i h1
    rw [if_neg h1, show strOfNums ([] : List Int) = ByteArray.empty from rfl, ByteArray.append_empty] at hq
    exact hq
 refine iP (σ := aj) (fun k a i => aY.l0 k s a (97 + i)) 26 (fun i a => a = strOfNums ((List.range i).flatMap (bucket (bytesOf s))) ∧ a.size ≤ 8 * i) (fun _ _ => strOfNums ((List.range 26).flatMap (bucket (bytesOf s)))) (fun a ha => ?_) (fun i a hi ha => ?_) 0 _ (Nat.zero_le _) ⟨rfl, nR _⟩
 ·rw [← av]
  simp only [aY.l0]
  rw [en, ← av]
  simp only [aY.j1, Bool.false_eq_true, if_false, ha.1]
  exact aG _
 ·have hbl : (bucket (bytesOf s) i).length ≤ 8 := by
   rw [bucket]
   have := List.length_filter_le (fun b => decide (b = 97 + (i : Int))) (bytesOf s)
   omega
  refine .inr ⟨a ++ strOfNums (bucket (bytesOf s) i), ⟨?_, ?_⟩, rfl, fun r hr => ?_⟩
  ·rw [List.range_succ, List.flatMap_append, FP, ← ha.1]
   simp only [List.flatMap_cons, List.flatMap_nil, List.append_nil]
  ·have := ha.2
   rw [ByteArray.size_append, strOfNums_size]
   omega
  ·rw [← av]
   simp only [aY.l0]
   rw [ep, ay (iN s), hw, ← av]
   simp only [aY.j1, if_true]
   exact hinner i a r hi (by have := ha.2; omega) hr
theorem oK (s : aj) (hw : iw s = true) : Ev (fun k => iZ.f k s) (CU s) := by
 have hsz := gV hw
 unfold iZ.f CU
 rw [ay (iL s), hw, ep rfl, ep, Go.Proofs.YtdbefmkcondbgaaGreatDoor.HandSort.Hw]
 exact aG _
def Bu (a b : aj) : Bool := if iw a = true then (if iw b = true then (if a = b then false else decide (CU a = CU b)) else false) else false
theorem rQ (a b : aj) : Ev (fun k => iU.f k a b) (Bu a b) := by
 unfold iU.f Bu
 rw [ay (iN a), aD]
 split
 ·rename_i h1
  rw [ay (iN b), aD]
  split
  ·rename_i h2
   simp only [toList_eq, aD]
   split
   ·exact aG _
   ·rw [ay (oO a h1), ay (oO b h2), kg]
    exact aG _
  ·exact aG _
 ·exact aG _
theorem rM (a b : aj) : Ev (fun k => iT.f k a b) (Bu a b) := by
 unfold iT.f Bu
 rw [ay (iL a), aD]
 split
 ·rename_i h1
  rw [ay (iL b), aD]
  split
  ·rename_i h2
   simp only [toList_eq, aD]
   split
   ·exact aG _
   ·rw [ay (oK a h1), ay (oK b h2), kg]
    exact aG _
  ·exact aG _
 ·exact aG _
def uF (s : aj) : aj := if iw s = true then s.extract 1 s.size else (⟨#[]⟩ : aj)
theorem sP (s : aj) : Ev (fun k => je.f k s) (uF s) := by
 unfold je.f uF
 rw [ay (iN s), aD]
 split
 ·rename_i h
  have := gV h
  rw [ep]
  exact aG _
 ·exact aG _
theorem sJ (s : aj) : Ev (fun k => jc.f k s) (uF s) := by
 unfold jc.f uF
 rw [ay (iL s), aD]
 split
 ·rename_i h
  have := gV h
  rw [ep]
  exact aG _
 ·exact aG _
def uG (s : aj) : aj := if iw s = true then s.extract 0 (s.size - 1) else (⟨#[]⟩ : aj)
theorem sQ (s : aj) : Ev (fun k => jf.f k s) (uG s) := by
 unfold jf.f uG
 rw [ay (iN s), aD]
 split
 ·rename_i h
  have := gV h
  have e : wrap64 ((s.size : Int) - 1) = ((s.size - 1 : Nat) : Int) := by rw [lD (by omega) (by omega)]; omega
  rw [e, ep, ep]
  exact aG _
 ·exact aG _
theorem sK (s : aj) : Ev (fun k => jd.f k s) (uG s) := by
 unfold jd.f uG
 rw [ay (iL s), aD]
 split
 ·rename_i h
  have := gV h
  have e : wrap64 ((s.size : Int) - 1) = ((s.size - 1 : Nat) : Int) := by rw [lD (by omega) (by omega)]; omega
  rw [e, ep, ep]
  exact aG _
 ·exact aG _
theorem pX (L : Nat → Int → Option Bool) (n b : Nat) (f : Nat → Bool) (R : Bool) (hend : ∀ i : Nat, n ≤ i → i ≤ n + b → Ev (fun k => L k (i : Int)) R)
  (hstep : ∀ i : Nat, b ≤ i → i < n → ∀ r, Ev (fun k => L k ((i + 1 : Nat) : Int)) r → Ev (fun k => L k (i : Int)) (f i || r)) : ∀ a : Nat, b ≤ a → a ≤ n + b → Ev (fun k => L k (a : Int)) ((List.range' a (n - a)).any f || R) := by
 have key : ∀ d a : Nat, n - a = d → b ≤ a → a ≤ n + b → Ev (fun k => L k (a : Int)) ((List.range' a d).any f || R) := by
  intro d
  induction d with
  | zero =>
   intro a h hb ha
   exact gI (hend a (by omega) ha) (by simp)
  | succ d ih =>
   intro a h hb ha
   have := hstep a hb (by omega) _ (ih (a + 1) (by omega) (by omega) (by omega))
   rw [List.range'_succ, List.any_cons, Bool.or_assoc]
   exact this
 intro a hb ha
 exact key _ a rfl hb ha
def uz (p w : aj) : Bool := if iw p = true then (if iw w = true then (List.range' 1 (w.size - p.size - 1)).any (fun i => decide (w.extract i (i + p.size) = p)) else false) else false
theorem wz (p w : aj) : Ev (fun k => dP.f k p w) (uz p w) := by
 unfold dP.f uz
 rw [ay (iN p), aD]
 split
 ·rename_i h1
  rw [ay (iN w), ← av]
  simp only [dP.j0]
  rw [aD]
  by_cases h2 : iw w = true
  ·have s1 := gV h1
   have s2 := gV h2
   rw [if_neg (by rw [h2]; decide), if_pos h2]
   have e : ∀ i : Nat, i ≤ 20 → wrap64 ((i : Int) + (p.size : Int)) = ((i + p.size : Nat) : Int) := fun i hi => by rw [lD (by omega) (by omega)]; omega
   refine gI (pX (fun k i => dP.l0 k p w i) (w.size - p.size) 1 _ false (fun i hi hi' => ?_) (fun i hb hi r hr => ?_) 1 (nR _) (by omega)) (by rw [Bool.or_false])
   ·rw [← av]
    simp only [dP.l0, e i (by omega)]
    rw [en]
    exact aG _
   ·rw [← av]
    simp only [dP.l0, e i (by omega), bH (i := i) (by omega), Int.toNat_natCast, toList_eq]
    rw [ep, ep, ep, ep, aD]
    split
    ·rename_i h3
     rw [decide_eq_true h3, Bool.true_or]
     exact aG _
    ·rename_i h3
     rw [decide_eq_false h3, Bool.false_or]
     exact hr
  ·rw [if_pos (by simpa using h2), if_neg h2]
   exact aG _
 ·rw [← av]
  simp only [dP.j0, if_true]
  exact aG _
theorem vT (p w : aj) : Ev (fun k => dO.f k p w) (uz p w) := by
 unfold dO.f uz
 rw [ay (iL p), aD]
 split
 ·rename_i h1
  rw [ay (iL w), ← av]
  simp only [dO.j0]
  rw [aD]
  by_cases h2 : iw w = true
  ·have s1 := gV h1
   have s2 := gV h2
   rw [if_neg (by rw [h2]; decide), if_pos h2]
   have e : ∀ i : Nat, i ≤ 20 → wrap64 ((i : Int) + (p.size : Int)) = ((i + p.size : Nat) : Int) := fun i hi => by rw [lD (by omega) (by omega)]; omega
   refine gI (pX (fun k i => dO.l0 k p w i) (w.size - p.size) 1 _ false (fun i hi hi' => ?_) (fun i hb hi r hr => ?_) 1 (nR _) (by omega)) (by rw [Bool.or_false])
   ·rw [← av]
    simp only [dO.l0, e i (by omega)]
    rw [en]
    exact aG _
   ·rw [← av]
    simp only [dO.l0, e i (by omega), bH (i := i) (by omega), Int.toNat_natCast, toList_eq]
    rw [ep, ep, ep, ep, aD]
    split
    ·rename_i h3
     rw [decide_eq_true h3, Bool.true_or]
     exact aG _
    ·rename_i h3
     rw [decide_eq_false h3, Bool.false_or]
     exact hr
  ·rw [if_pos (by simpa using h2), if_neg h2]
   exact aG _
 ·rw [← av]
  simp only [dO.j0, if_true]
  exact aG _
theorem Dn {Q : Nat → Nat → Prop} (n : Nat) (h : ∀ p, p < n → ∃ K, ∀ k, K ≤ k → Q p k) : ∃ K, ∀ p, p < n → ∀ k, K ≤ k → Q p k := by
 induction n with
 | zero => exact ⟨0, fun p hp => absurd hp (Nat.not_lt_zero _)⟩
 | succ n ih =>
  obtain ⟨K, hK⟩ := ih (fun p hp => h p (by omega))
  obtain ⟨K', hK'⟩ := h n (by omega)
  refine ⟨max K K', fun p hp k hk => ?_⟩
  by_cases e : p = n
  ·subst e
   exact hK' k (by omega)
  ·exact hK p (by omega) k (by omega)
theorem GY (M M' : Nat → List dU → Int → aj → Option Bool) (l : List dU) (s : aj) (a0 : Int) (a1 : aj) (a2 a3 : Int) (hs : s.size ≤ 100)
  (h : ∀ j p, 1 ≤ p → p < s.size → M j l a2 (s.extract 0 p) = M' j l a2 (s.extract 0 p) ∧ M j l a3 (s.extract p s.size) = M' j l a3 (s.extract p s.size)) :
  ∀ (k x : Nat), 1 ≤ x → x ≤ 100 → dz.l0 M k l s (x : Int) a0 a1 a2 a3 = dz.l0 M' k l s (x : Int) a0 a1 a2 a3 := by
 intro k
 induction k with
 | zero => intro x _ _; rfl
 | succ k ih =>
  intro x h1 h2
  simp only [dz.l0]
  by_cases hx : (x : Int) < (s.size : Int)
  ·have hp := h k x h1 (by omega)
   simp only [bH (i := x) (by omega), Int.toNat_natCast, hp.1, hp.2, ih (x + 1) (by omega) (by omega)]
  ·rw [if_neg hx, if_neg hx]
theorem Ah (l : List dU) (s : aj) (a0 : Int) (a1 : aj) (a2 a3 : Int) (f g : aj → Bool) (hs : s.size ≤ 8) (h1 : 1 ≤ s.size)
  (hf : ∀ p, 1 ≤ p → p < s.size → Ev (fun k => bX.f k l a2 (s.extract 0 p)) (f (s.extract 0 p)))
  (hg : ∀ p, 1 ≤ p → p < s.size → Ev (fun k => bX.f k l a3 (s.extract p s.size)) (g (s.extract p s.size))) :
  Ev (fun k => dz.f (fun _ => bX.f k) k l a0 a1 a2 a3 s) ((List.range' 1 (s.size - 1)).any (fun p => f (s.extract 0 p) && g (s.extract p s.size))) := by
 obtain ⟨K, hK⟩ := Dn (Q := fun p k => 1 ≤ p → bX.f k l a2 (s.extract 0 p) = some (f (s.extract 0 p)) ∧ bX.f k l a3 (s.extract p s.size) = some (g (s.extract p s.size))) s.size (fun p hp => by
  by_cases h : 1 ≤ p
  ·obtain ⟨K1, k1⟩ := hf p h hp
   obtain ⟨K2, k2⟩ := hg p h hp
   exact ⟨max K1 K2, fun k hk _ => ⟨k1 k (by omega), k2 k (by omega)⟩⟩
  ·exact ⟨0, fun _ _ h' => absurd h' h⟩)
 let M' : Nat → List dU → Int → aj → Option Bool := fun _ => bX.f K
 have hM' : ∀ p, 1 ≤ p → p < s.size → M' 0 l a2 (s.extract 0 p) = some (f (s.extract 0 p)) ∧ M' 0 l a3 (s.extract p s.size) = some (g (s.extract p s.size)) := fun p h hp => hK p hp K (nR _) h
 have hev : Ev (fun k => dz.l0 M' k l s 1 a0 a1 a2 a3) ((List.range' 1 (s.size - 1)).any (fun p => f (s.extract 0 p) && g (s.extract p s.size))) := by
  refine gI (pX (fun k i => dz.l0 M' k l s i a0 a1 a2 a3) s.size 1 _ false (fun i hi hi' => ?_) (fun i hb hi r hr => ?_) 1 (nR _) (by omega)) (by rw [Bool.or_false])
  ·rw [← av]
   simp only [dz.l0]
   rw [en]
   exact aG _
  ·have hm := hM' i hb hi
   have hm1 : ∀ k, M' k l a2 (s.extract 0 i) = some (f (s.extract 0 i)) := fun k => hm.1
   have hm2 : ∀ k, M' k l a3 (s.extract i s.size) = some (g (s.extract i s.size)) := fun k => hm.2
   rw [← av]
   simp only [dz.l0, bH (i := i) (by omega), Int.toNat_natCast, hm1, hm2, Option.bind_some]
   rw [ep, ep, ep, aD]
   split
   ·rename_i h3
    rw [h3, Bool.true_and, aD]
    split
    ·rename_i h4
     rw [h4, Bool.true_or]
     exact aG _
    ·rename_i h4
     rw [Bool.not_eq_true] at h4
     rw [h4, Bool.false_or]
     exact hr
   ·rename_i h3
    rw [Bool.not_eq_true] at h3
    rw [h3, Bool.false_and, Bool.false_or]
    exact hr
 obtain ⟨K2, hK2⟩ := hev
 refine ⟨max K K2, fun k hk => ?_⟩
 show dz.l0 _ k l s 1 a0 a1 a2 a3 = _
 have := GY (fun _ => bX.f k) M' l s a0 a1 a2 a3 (by omega) (fun j p h hp => by
  have e1 := hK p hp k (by omega) h
  have e2 := hM' p h hp
  exact ⟨e1.1.trans e2.1.symm, e1.2.trans e2.2.symm⟩) k 1 (nR _) (by omega)
 rw [show ((1 : Nat) : Int) = 1 from rfl] at this
 rw [this]
 exact hK2 k (by omega)
theorem JM (M M' : Nat → List dU → Int → aj → Option Bool) (l : List dU) (s : aj) (a0 : Int) (a1 : aj) (a2 a3 : Int) (hs : s.size ≤ 100)
  (h : ∀ j p q, 1 ≤ p → p < q → q < s.size → M j l a3 (s.extract p q) = M' j l a3 (s.extract p q) ∧ M j l a2 (s.extract 0 p ++ s.extract q s.size) = M' j l a2 (s.extract 0 p ++ s.extract q s.size)) :
  ∀ k : Nat, (∀ x : Nat, 1 ≤ x → x ≤ 100 → bS.l0 M k l s (x : Int) a0 a1 a2 a3 = bS.l0 M' k l s (x : Int) a0 a1 a2 a3) ∧ (∀ x y : Nat, 1 ≤ x → x < y → x ≤ 100 → y ≤ 102 → bS.l1 M k l s (x : Int) (y : Int) a0 a1 a2 a3 = bS.l1 M' k l s (x : Int) (y : Int) a0 a1 a2 a3) := by
 intro k
 induction k with
 | zero => exact ⟨fun x _ _ => by simp only [bS.l0], fun x y _ _ _ _ => by simp only [bS.l1]⟩
 | succ k ih =>
  refine ⟨fun x h1 h2 => ?_, fun x y h1 h2 h3 h4 => ?_⟩
  ·simp only [bS.l0, bH (i := x) (by omega)]
   by_cases hx : (x : Int) < (s.size : Int)
   ·rw [if_pos hx, if_pos hx, ih.2 x (x + 1) h1 (by omega) h2 (by omega)]
   ·rw [if_neg hx, if_neg hx]
  ·simp only [bS.l1, bH (i := x) (by omega), bH (i := y) (by omega), Int.toNat_natCast]
   by_cases hy : (y : Int) < (s.size : Int)
   ·have hp := h k x y h1 h2 (by omega)
    simp only [hp.1, hp.2, ih.2 x (y + 1) h1 (by omega) h3 (by omega)]
    rw [if_pos hy, if_pos hy]
   ·rw [if_neg hy, if_neg hy]
    by_cases hx : x + 1 ≤ 100
    ·exact ih.1 (x + 1) (by omega) hx
    ·cases k with
     | zero => simp only [bS.l0]
     | succ k =>
      simp only [bS.l0]
      rw [if_neg (by omega), if_neg (by omega)]
theorem Co (l : List dU) (s : aj) (a0 : Int) (a1 : aj) (a2 a3 : Int) (f g : aj → Bool) (hs : s.size ≤ 8) (h1 : 1 ≤ s.size)
  (hg : ∀ p q, 1 ≤ p → p < q → q < s.size → Ev (fun k => bX.f k l a3 (s.extract p q)) (g (s.extract p q)))
  (hf : ∀ p q, 1 ≤ p → p < q → q < s.size → Ev (fun k => bX.f k l a2 (s.extract 0 p ++ s.extract q s.size)) (f (s.extract 0 p ++ s.extract q s.size))) :
  Ev (fun k => bS.f (fun _ => bX.f k) k l a0 a1 a2 a3 s) ((List.range' 1 (s.size - 1)).any (fun p => (List.range' (p + 1) (s.size - (p + 1))).any (fun q => g (s.extract p q) && f (s.extract 0 p ++ s.extract q s.size)))) := by
 obtain ⟨K, hK⟩ := Dn (Q := fun p k => ∀ q, q < s.size → 1 ≤ p → p < q → bX.f k l a3 (s.extract p q) = some (g (s.extract p q)) ∧ bX.f k l a2 (s.extract 0 p ++ s.extract q s.size) = some (f (s.extract 0 p ++ s.extract q s.size))) s.size (fun p hp => by
  obtain ⟨K, hK⟩ := Dn (Q := fun q k => 1 ≤ p → p < q → bX.f k l a3 (s.extract p q) = some (g (s.extract p q)) ∧ bX.f k l a2 (s.extract 0 p ++ s.extract q s.size) = some (f (s.extract 0 p ++ s.extract q s.size))) s.size (fun q hq => by
   by_cases h : 1 ≤ p ∧ p < q
   ·obtain ⟨K1, k1⟩ := hg p q h.1 h.2 hq
    obtain ⟨K2, k2⟩ := hf p q h.1 h.2 hq
    exact ⟨max K1 K2, fun k hk _ _ => ⟨k1 k (by omega), k2 k (by omega)⟩⟩
   ·exact ⟨0, fun _ _ h' h'' => absurd ⟨h', h''⟩ h⟩)
  exact ⟨K, fun k hk q hq => hK q hq k hk⟩)
 let M' : Nat → List dU → Int → aj → Option Bool := fun _ => bX.f K
 have hM' : ∀ p q, 1 ≤ p → p < q → q < s.size → M' 0 l a3 (s.extract p q) = some (g (s.extract p q)) ∧ M' 0 l a2 (s.extract 0 p ++ s.extract q s.size) = some (f (s.extract 0 p ++ s.extract q s.size)) := fun p q h h' hq => hK p (by omega) K (nR _) q hq h h'
 have hev : Ev (fun k => bS.l0 M' k l s 1 a0 a1 a2 a3) ((List.range' 1 (s.size - 1)).any (fun p => (List.range' (p + 1) (s.size - (p + 1))).any (fun q => g (s.extract p q) && f (s.extract 0 p ++ s.extract q s.size)))) := by
  refine gI (pX (fun k i => bS.l0 M' k l s i a0 a1 a2 a3) s.size 1 _ false (fun i hi hi' => ?_) (fun i hb hi r hr => ?_) 1 (nR _) (by omega)) (by rw [Bool.or_false])
  ·rw [← av]
   simp only [bS.l0]
   rw [en]
   exact aG _
  ·rw [← av]
   simp only [bS.l0, bH (i := i) (by omega)]
   rw [ep]
   refine pX (fun k j => bS.l1 M' k l s (i : Int) j a0 a1 a2 a3) s.size (i + 1) _ r (fun j hj hj' => ?_) (fun j hjb hj q hq => ?_) (i + 1) (nR _) (by omega)
   ·rw [← av]
    simp only [bS.l1, bH (i := i) (by omega)]
    rw [en]
    exact hr
   ·have hm := hM' i j hb (by omega) hj
    have hm1 : ∀ k, M' k l a3 (s.extract i j) = some (g (s.extract i j)) := fun k => hm.1
    have hm2 : ∀ k, M' k l a2 (s.extract 0 i ++ s.extract j s.size) = some (f (s.extract 0 i ++ s.extract j s.size)) := fun k => hm.2
    have hz : (s.extract 0 i).size + (s.extract j s.size).size ≤ 9223372036854775807 := by simp only [ByteArray.size_extract]; omega
    rw [← av]
    simp only [bS.l1, bH (i := j) (by omega), Int.toNat_natCast, hm1, hm2, Option.bind_some]
    rw [ep, ep, ep, ep, aD]
    split
    ·rename_i h3
     have c1 : (i : Int) ≤ (s.size : Int) := by omega
     have c2 : (0 : Int) ≤ (j : Int) := by omega
     rw [h3, Bool.true_and]
     simp only [ep c1, if_pos c2, if_pos hz]
     split
     ·rename_i h4
      rw [h4, Bool.true_or]
      exact aG _
     ·rename_i h4
      rw [Bool.not_eq_true] at h4
      rw [h4, Bool.false_or]
      exact hq
    ·rename_i h3
     rw [Bool.not_eq_true] at h3
     rw [h3, Bool.false_and, Bool.false_or]
     exact hq
 obtain ⟨K2, hK2⟩ := hev
 refine ⟨max K K2, fun k hk => ?_⟩
 show bS.l0 _ k l s 1 a0 a1 a2 a3 = _
 have := (JM (fun _ => bX.f k) M' l s a0 a1 a2 a3 (by omega) (fun j p q h h' hq => by
  have e1 := hK p (by omega) k (by omega) q hq h h'
  have e2 := hM' p q h h' hq
  exact ⟨e1.1.trans e2.1.symm, e1.2.trans e2.2.symm⟩) k).1 1 (nR _) (by omega)
 rw [show ((1 : Nat) : Int) = 1 from rfl] at this
 rw [this]
 exact hK2 k (by omega)
def nM (l : List dU) : Nat → Nat → aj → Bool
 | 0, _, _ => false
 | n + 1, i, s =>
  if (au l i).f0 = 1 then decide (s = (au l i).f1)
  else if (au l i).f0 = 2 then nM l n (au l i).f2.toNat (wY s)
  else if (au l i).f0 = 3 then Bu (au l (au l i).f2).f1 s
  else if (au l i).f0 = 4 then (List.range' 1 (s.size - 1)).any (fun p => nM l n (au l i).f2.toNat (s.extract 0 p) && nM l n (au l i).f3.toNat (s.extract p s.size))
  else if (au l i).f0 = 5 then (List.range' 1 (s.size - 1)).any (fun p => (List.range' (p + 1) (s.size - (p + 1))).any (fun q => nM l n (au l i).f3.toNat (s.extract p q) && nM l n (au l i).f2.toNat (s.extract 0 p ++ s.extract q s.size)))
  else if (au l i).f0 = 6 then decide (s = Et (au l (au l i).f2).f1)
  else if (au l i).f0 = 7 then decide (s = uF (au l (au l i).f2).f1)
  else if (au l i).f0 = 8 then decide (s = uG (au l (au l i).f2).f1)
  else uz s (au l (au l i).f2).f1
theorem ug (a b : aj) : (a.toList == b.toList) = decide (b = a) := by
 rw [kg]
 by_cases h : a = b
 ·subst h; rfl
 ·rw [decide_eq_false h, dF (fun e => h e.symm)]
theorem wG {l : List dU} (hp : mR l = true) : ∀ (n i : Nat) (s : aj), i < n → i < l.length → 1 ≤ s.size → s.size ≤ 8 → Ev (fun k => bX.f k l (i : Int) s) (nM l n i s) := by
 intro n
 induction n with
 | zero => intro i s h; exact absurd h (Nat.not_lt_zero _)
 | succ n ih =>
  intro i s hn hi h1 h8
  obtain ⟨o1, o2, o3, o4, o5, o6, o7, o8⟩ := uI hi (uD hp i hi)
  rw [← av]
  simp only [bX.f, nM, Dz l i hi]
  rw [ep, ep, aD]
  by_cases n1 : l[i].f0 = 1
  ·rw [if_pos n1, if_pos n1, ug]; exact aG _
  rw [if_neg n1, if_neg n1, aD]
  have oA := o3 n1
  have eA : l[i].f2 = ((l[i].f2.toNat : Nat) : Int) := by omega
  by_cases n2 : l[i].f0 = 2
  ·rw [if_pos n2, if_pos n2, ay (qc s (by omega))]
   have := ih l[i].f2.toNat (wY s) (by omega) (by omega) (by rw [sj]; exact h1) (by rw [sj]; exact h8)
   rw [← eA] at this
   rw [ay this]
   exact aG _
  rw [if_neg n2, if_neg n2, aD]
  by_cases n3 : l[i].f0 = 3
  ·rw [if_pos n3, if_pos n3, ep, ep, ay (rQ _ _)]
   exact aG _
  rw [if_neg n3, if_neg n3, aD]
  by_cases k4 : l[i].f0 = 4
  ·have oB := o4 (.inl k4)
   have eB : l[i].f3 = ((l[i].f3.toNat : Nat) : Int) := by omega
   rw [if_pos k4, if_pos k4, ay (Ah l s l[i].f0 l[i].f1 l[i].f2 l[i].f3 (nM l n l[i].f2.toNat) (nM l n l[i].f3.toNat) h8 h1 (fun p hp1 hp2 => ?_) (fun p hp1 hp2 => ?_))]
   ·exact aG _
   ·have := ih l[i].f2.toNat (s.extract 0 p) (by omega) (by omega) (by rw [ByteArray.size_extract]; omega) (by rw [ByteArray.size_extract]; omega)
    rw [← eA] at this
    exact this
   ·have := ih l[i].f3.toNat (s.extract p s.size) (by omega) (by omega) (by rw [ByteArray.size_extract]; omega) (by rw [ByteArray.size_extract]; omega)
    rw [← eB] at this
    exact this
  rw [if_neg k4, if_neg k4, aD]
  by_cases k5 : l[i].f0 = 5
  ·have oB := o4 (.inr k5)
   have eB : l[i].f3 = ((l[i].f3.toNat : Nat) : Int) := by omega
   rw [if_pos k5, if_pos k5, ay (Co l s l[i].f0 l[i].f1 l[i].f2 l[i].f3 (nM l n l[i].f2.toNat) (nM l n l[i].f3.toNat) h8 h1 (fun p q hp1 hp2 hp3 => ?_) (fun p q hp1 hp2 hp3 => ?_))]
   ·exact aG _
   ·have := ih l[i].f3.toNat (s.extract p q) (by omega) (by omega) (by rw [ByteArray.size_extract]; omega) (by rw [ByteArray.size_extract]; omega)
    rw [← eB] at this
    exact this
   ·have := ih l[i].f2.toNat (s.extract 0 p ++ s.extract q s.size) (by omega) (by omega) (by rw [ByteArray.size_append, ByteArray.size_extract, ByteArray.size_extract]; omega) (by rw [ByteArray.size_append, ByteArray.size_extract, ByteArray.size_extract]; omega)
    rw [← eA] at this
    exact this
  rw [if_neg k5, if_neg k5, aD]
  by_cases k6 : l[i].f0 = 6
  ·rw [if_pos k6, if_pos k6, ep, ep, ay (BG _), ug]
   exact aG _
  rw [if_neg k6, if_neg k6, aD]
  by_cases k7 : l[i].f0 = 7
  ·rw [if_pos k7, if_pos k7, ep, ep, ay (sP _), ug]
   exact aG _
  rw [if_neg k7, if_neg k7, aD]
  by_cases k8 : l[i].f0 = 8
  ·rw [if_pos k8, if_pos k8, ep, ep, ay (sQ _), ug]
   exact aG _
  rw [if_neg k8, if_neg k8, ep, ep, ay (wz _ _)]
  exact aG _
def mW (l : List dU) (s : aj) : Bool := if mR l = true then (if iw s = true then nM l l.length (l.length - 1) s else false) else false
theorem Cn (l : List dU) (s : aj) (hl : l.length < 4611686018427387904) : Ev (fun k => mX.f k l s) (mW l s) := by
 unfold mX.f mW
 rw [ay (rP l hl), aD]
 split
 ·rename_i hp
  have hlen := wN hp
  rw [ay (iN s), aD]
  split
  ·rename_i hw
   have hsz := gV hw
   have e : wrap64 ((l.length : Int) - 1) = ((l.length - 1 : Nat) : Int) := by rw [lD (by omega) (by omega)]; omega
   rw [e, ay (wG hp l.length (l.length - 1) s (by omega) (by omega) (by omega) (by omega))]
   exact aG _
  ·exact aG _
 ·exact aG _
theorem Cg {l : List dU} (hp : mR l = true) : ∀ (n i : Nat) (s : aj), i < n → i < l.length → 1 ≤ s.size → s.size ≤ 8 → Ev (fun k => bA.f k l (i : Int) s) (nM l n i s) := by
 intro n
 induction n with
 | zero => intro i s h; exact absurd h (Nat.not_lt_zero _)
 | succ n ih =>
  intro i s hn hi h1 h8
  obtain ⟨o1, o2, o3, o4, o5, o6, o7, o8⟩ := uI hi (uD hp i hi)
  have hne : ¬ s.toList = ([] : List UInt8) := fun e => by have := toList_nil.1 e; omega
  have hA : 0 ≤ l[i].f2 ∧ l[i].f2 < (l.length : Int) := by
   by_cases n1 : l[i].f0 = 1
   ·have := (o8 n1).1; omega
   ·have := o3 n1; omega
  rw [← av]
  simp only [bA.f, nM, Dz l i hi]
  rw [ep, ep, en hne, ep hA.1, ep hA.2, aD]
  split
  ·rw [kg]; exact aG _
  rename_i n1
  have oA := o3 n1
  have eA : l[i].f2 = ((l[i].f2.toNat : Nat) : Int) := by omega
  rw [aD]
  split
  ·have := ih l[i].f2.toNat (wY s) (by omega) (by omega) (by rw [sj]; exact h1) (by rw [sj]; exact h8)
   rw [← eA] at this
   simp only [pV s (show s.size ≤ 100 by omega), Option.bind_some]
   rw [ay this]
   exact aG _
  rw [aD]
  split
  ·rw [ay (rM _ _)]
   exact aG _
  rw [aD]
  split
  ·rename_i k4
   have oB := o4 (.inl k4)
   have eB : l[i].f3 = ((l[i].f3.toNat : Nat) : Int) := by omega
   refine gI (pX (fun k j => bA.l0 k l s j l[i].f0 l[i].f1 l[i].f2 l[i].f3) s.size 1 _ false (fun j hj hj' => ?_) (fun j hb hj r hr => ?_) 1 (nR _) (by omega)) (by rw [Bool.or_false])
   ·rw [← av]
    simp only [bA.l0]
    rw [en]
    exact aG _
   ·have m1 := ih l[i].f2.toNat (s.extract 0 j) (by omega) (by omega) (by rw [ByteArray.size_extract]; omega) (by rw [ByteArray.size_extract]; omega)
    have m2 := ih l[i].f3.toNat (s.extract j s.size) (by omega) (by omega) (by rw [ByteArray.size_extract]; omega) (by rw [ByteArray.size_extract]; omega)
    rw [← eA] at m1
    rw [← eB] at m2
    rw [← av]
    simp only [bA.l0, bH (i := j) (by omega), Int.toNat_natCast]
    rw [ep, ep, ep, ay m1, aD]
    split
    ·rename_i h3
     rw [h3, Bool.true_and, ay m2, aD]
     split
     ·rename_i h4
      rw [h4, Bool.true_or]
      exact aG _
     ·rename_i h4
      rw [Bool.not_eq_true] at h4
      rw [h4, Bool.false_or]
      exact hr
    ·rename_i h3
     rw [Bool.not_eq_true] at h3
     rw [h3, Bool.false_and, Bool.false_or]
     exact hr
  rw [aD]
  split
  ·rename_i k5
   have oB := o4 (.inr k5)
   have eB : l[i].f3 = ((l[i].f3.toNat : Nat) : Int) := by omega
   refine gI (pX (fun k j => bA.l1 k l s j l[i].f0 l[i].f1 l[i].f2 l[i].f3) s.size 1 _ false (fun j hj hj' => ?_) (fun j hb hj r hr => ?_) 1 (nR _) (by omega)) (by rw [Bool.or_false])
   ·rw [← av]
    simp only [bA.l1]
    rw [en]
    exact aG _
   ·rw [← av]
    simp only [bA.l1, bH (i := j) (by omega)]
    rw [ep]
    refine pX (fun k q => bA.l2 k l s (j : Int) q l[i].f0 l[i].f1 l[i].f2 l[i].f3) s.size (j + 1) _ r (fun q hq hq' => ?_) (fun q hqb hq t ht => ?_) (j + 1) (nR _) (by omega)
    ·rw [← av]
     simp only [bA.l2, bH (i := j) (by omega)]
     rw [en]
     exact hr
    ·have m1 := ih l[i].f3.toNat (s.extract j q) (by omega) (by omega) (by rw [ByteArray.size_extract]; omega) (by rw [ByteArray.size_extract]; omega)
     have m2 := ih l[i].f2.toNat (s.extract 0 j ++ s.extract q s.size) (by omega) (by omega) (by rw [ByteArray.size_append, ByteArray.size_extract, ByteArray.size_extract]; omega) (by rw [ByteArray.size_append, ByteArray.size_extract, ByteArray.size_extract]; omega)
     rw [← eB] at m1
     rw [← eA] at m2
     have hz : (s.extract 0 j).size + (s.extract q s.size).size ≤ 9223372036854775807 := by simp only [ByteArray.size_extract]; omega
     rw [← av]
     simp only [bA.l2, bH (i := q) (by omega), Int.toNat_natCast]
     rw [ep, ep, ep, ep, ay m1, aD]
     split
     ·rename_i h3
      have c1 : (j : Int) ≤ (s.size : Int) := by omega
      have c2 : (0 : Int) ≤ (q : Int) := by omega
      rw [h3, Bool.true_and]
      simp only [ep c1, if_pos c2, if_pos hz]
      rw [ay m2, aD]
      split
      ·rename_i h4
       rw [h4, Bool.true_or]
       exact aG _
      ·rename_i h4
       rw [Bool.not_eq_true] at h4
       rw [h4, Bool.false_or]
       exact ht
     ·rename_i h3
      rw [Bool.not_eq_true] at h3
      rw [h3, Bool.false_and, Bool.false_or]
      exact ht
  rw [aD]
  split
  ·rw [ay (Bc _), kg]
   exact aG _
  rw [aD]
  split
  ·rw [ay (sJ _), kg]
   exact aG _
  rw [aD]
  split
  ·rw [ay (sK _), kg]
   exact aG _
  rw [ep, ay (vT _ _)]
  exact aG _
theorem Ca (l : List dU) (s : aj) (hl : l.length < 4611686018427387904) : Ev (fun k => jv.f k l s) (mW l s) := by
 unfold jv.f mW
 rw [ay (rJ l hl), aD]
 split
 ·rename_i hp
  have hlen := wN hp
  rw [ay (iL s), aD]
  split
  ·rename_i hw
   have hsz := gV hw
   have e : wrap64 ((l.length : Int) - 1) = ((l.length - 1 : Nat) : Int) := by rw [lD (by omega) (by omega)]; omega
   rw [e, ay (Cg hp l.length (l.length - 1) s (by omega) (by omega) (by omega) (by omega))]
   exact aG _
  ·exact aG _
 ·exact aG _
def Es (l : List aj) (w : aj) : Bool := l.any (fun x => decide (x = w))
theorem Ab (l : List aj) (w : aj) (hl : l.length < 4611686018427387904) : Ev (fun k => gW.f k l w) (Es l w) := by
 refine qy (fun k i => gW.l0 k l w i) l _ ?_ (fun i hi hp r hr => ?_) (fun i hi hp => ?_)
 ·rw [← av]; simp [gW.l0, aG]
 ·rw [← av]
  simp only [gW.l0, jY ByteArray.empty l i hi, bH (i := i) (by omega), toList_eq]
  rw [ep, ep, en (of_decide_eq_false hp)]
  exact hr
 ·rw [← av]
  simp only [gW.l0, jY ByteArray.empty l i hi, toList_eq]
  rw [ep, ep, ep (of_decide_eq_true hp)]
  exact aG _
def jJ (out : List aj) (x : aj) : List aj := if Es out x = true then out else out ++ [x]
def CO (l : List aj) : List aj := l.foldl jJ []
theorem EC (out : List aj) (x : aj) : (jJ out x).length ≤ out.length + 1 := by
 unfold jJ
 split
 ·omega
 ·simp
theorem oV : ∀ (l out : List aj), (l.foldl jJ out).length ≤ out.length + l.length
 | [], out => by simp
 | x :: l, out => by
  have h1 := oV l (jJ out x)
  have h2 := EC out x
  simp only [List.foldl_cons, List.length_cons]
  omega
theorem Ja (l : List aj) : (CO l).length ≤ l.length := by
 have := oV l []
 simpa [CO] using this
theorem Hg (q : aj → Bool) (l : List aj) (i : Nat) (h : i < l.length) : ((l.take (i + 1)).filter q).foldl jJ [] = if q l[i] = true then jJ (((l.take i).filter q).foldl jJ []) l[i] else ((l.take i).filter q).foldl jJ [] := by
 rw [List.take_succ_eq_append_getElem h, List.filter_append, List.foldl_append]
 by_cases hq : q l[i] = true
 ·rw [if_pos hq]; simp [hq]
 ·rw [if_neg hq]; simp [hq]
theorem GV (l : List aj) (w : aj) (hl : l.length < 4611686018427387904) : Ev (fun k => bN.f k l w) (match l.findIdx? (fun x => decide (x = w)) with | some i => (i : Int) | none => -1) := by
 refine qA (fun k i => bN.l0 k l w (l.length : Int) i) l _ ?_ (fun i hi hp r hr => ?_) (fun i hi hp => ?_)
 ·rw [← av]; simp [bN.l0, aG]
 ·rw [← av]
  simp only [bN.l0, jY ByteArray.empty l i hi, bH (i := i) (by omega), toList_eq]
  rw [ep, ep, ep, en (fun e => of_decide_eq_false hp e.symm)]
  exact hr
 ·rw [← av]
  simp only [bN.l0, jY ByteArray.empty l i hi, toList_eq]
  rw [ep, ep, ep, aD, if_pos (of_decide_eq_true hp).symm]
  exact aG _
theorem IC {α : Type} (l : List α) (p : α → Bool) : decide ((match l.findIdx? p with | some i => (i : Int) | none => -1) ≥ 0) = l.any p := by
 cases h : l.findIdx? p with
 | none =>
  have := List.findIdx?_eq_none_iff.1 h
  simp
  intro x hx
  simpa using this x hx
 | some i =>
  obtain ⟨h1, h2, _⟩ := List.findIdx?_eq_some_iff_getElem.1 h
  simp
  exact ⟨l[i], gM h1, h2⟩
theorem Dk (l : List aj) (w : aj) (hl : l.length < 4611686018427387904) : Ev (fun k => fH.f k l w) (Es l w) := by
 unfold fH.f Es
 rw [ay (GV l w hl), IC]
 exact aG _
theorem Dq (l : List aj) (hl : l.length ≤ 8796093022208) : Ev (fun k => iC.f k l) (CO l) := by
 unfold iC.f
 refine iP (σ := List aj) (fun k out i => iC.l0 k out l (l.length : Int) i) l.length (fun i out => out = (l.take i).foldl jJ []) (fun _ _ => CO l) (fun out ho => ?_) (fun i out hi ho => ?_) 0 [] (Nat.zero_le _) rfl
 ·rw [List.take_length] at ho
  rw [← av]
  simp only [iC.l0, Int.lt_irrefl, if_false, ho]
  exact aG _
 ·have hlen : out.length ≤ i := by
   have := oV (l.take i) []
   rw [ho]
   simp only [List.length_nil, List.length_take] at this
   omega
  refine .inr ⟨jJ out l[i], ?_, rfl, fun r hr => ?_⟩
  ·rw [List.take_succ_eq_append_getElem hi, List.foldl_append, ho]
   rfl
  ·rw [← av]
   simp only [iC.l0, jY ByteArray.empty l i hi, bH (i := i) (by omega)]
   rw [ep, ep, ep, ay (Dk out l[i] (by omega)), aD]
   unfold jJ at hr
   split
   ·rename_i h
    rw [if_pos h] at hr
    exact hr
   ·rename_i h
    rw [if_neg h] at hr
    rw [ep]
    exact hr
def pz (p : aj) : Bool := decide (1 ≤ p.size ∧ p.size ≤ 8) && (bytesOf p).all (fun c => decide (c = 63) || lH c)
theorem wM {p : aj} (h : pz p = true) : 1 ≤ p.size ∧ p.size ≤ 8 := by
 unfold pz at h
 rw [Bool.and_eq_true] at h
 exact of_decide_eq_true h.1
theorem uR (p : aj) : Ev (fun k => dw.f k p) (pz p) := by
 simp only [dw.f, mD, Option.bind_some, aD, decide_eq_true_eq, pz]
 by_cases h : (1 : Int) ≤ p.size ∧ (p.size : Int) ≤ 8
 ·rw [if_pos h]
  have h' : 1 ≤ p.size ∧ p.size ≤ 8 := by omega
  simp only [h', decide_true, Bool.true_and, and_self]
  refine jX (fun k i => dw.l0 k p i) (bytesOf p) _ ?_ (fun i hi hp r hr => ?_) (fun i hi hp => ?_)
  ·rw [← av]; simp [dw.l0, bytesOf_length, aG]
  ·have hi' : i < p.size := by rw [bytesOf_length] at hi; exact hi
   rw [← av]
   simp only [dw.l0, mI p i hi', bH (i := i) (by omega)]
   rw [ep, ep, aD]
   by_cases h63 : (bytesOf p)[i] = 63
   ·rw [if_pos h63]; exact hr
   ·simp [lH, h63] at hp
    rw [if_neg h63, en, en]
    exact hr
  ·have hi' : i < p.size := by rw [bytesOf_length] at hi; exact hi
   simp only [Bool.or_eq_false_iff, decide_eq_false_iff_not, lH] at hp
   rw [← av]
   simp only [dw.l0, mI p i hi', bH (i := i) (by omega)]
   rw [ep, ep, en hp.1, aD]
   by_cases h1 : (bytesOf p)[i] < 97
   ·rw [if_pos h1]; exact aG _
   ·rw [if_neg h1, ep]; exact aG _
 ·rw [if_neg h]
  have h' : ¬ (1 ≤ p.size ∧ p.size ≤ 8) := by omega
  simp [h', aG]
def ji (p w : aj) : Bool := if pz p = true then (if iw w = true then (if p.size = w.size then (List.range p.size).all (fun i => decide (bt p (i : Int) = 63) || decide (bt p (i : Int) = bt w (i : Int))) else false) else false) else false
theorem oM (p w : aj) : Ev (fun k => bI.f k p w) (ji p w) := by
 have hf : Ev (fun k => bI.j0 k p w true) false := by
  rw [← av]
  simp only [bI.j0, if_true]
  exact aG _
 unfold bI.f ji
 rw [ay (uR p), aD]
 split
 ·rename_i h1
  have hs := wM h1
  rw [ay (iN w), aD]
  split
  ·by_cases h3 : p.size = w.size
   ·rw [if_pos h3, show ((p.size : Int) != (w.size : Int)) = false by rw [h3]; simp, ← av]
    simp only [bI.j0, Bool.false_eq_true, if_false]
    refine jX (fun k i => bI.l0 k p w i) (List.range p.size) _ ?_ (fun i hi hp r hr => ?_) (fun i hi hp => ?_)
    ·rw [← av]; simp [bI.l0, aG]
    ·rw [List.length_range] at hi
     rw [List.getElem_range] at hp
     rw [← av]
     simp only [bI.l0, bH (i := i) (by omega)]
     rw [ep, ep, aD]
     by_cases h63 : bt p (i : Int) = 63
     ·rw [if_pos h63]; exact hr
     ·have he : bt p (i : Int) = bt w (i : Int) := by simpa [h63] using hp
      rw [if_neg h63, ep, ep he]
      exact hr
    ·rw [List.length_range] at hi
     rw [List.getElem_range] at hp
     simp only [Bool.or_eq_false_iff, decide_eq_false_iff_not] at hp
     rw [← av]
     simp only [bI.l0, bH (i := i) (by omega)]
     rw [ep, ep, en hp.1, ep, en hp.2]
     exact aG _
   ·rw [if_neg h3, show ((p.size : Int) != (w.size : Int)) = true by simp; omega]
    exact hf
  ·exact hf
 ·exact hf
theorem uy (p : aj) : Ev (fun k => dh.f k p) (pz p) := by
 simp only [dh.f, lJ, Option.bind_some, aD, decide_eq_true_eq, pz]
 by_cases h : (1 : Int) ≤ p.size ∧ (p.size : Int) ≤ 8
 ·rw [if_pos h]
  have h' : 1 ≤ p.size ∧ p.size ≤ 8 := by omega
  simp only [h', decide_true, Bool.true_and, and_self]
  refine jX (fun k i => dh.l0 k p (p.size : Int) i) (bytesOf p) _ ?_ (fun i hi hp r hr => ?_) (fun i hi hp => ?_)
  ·rw [← av]; simp [dh.l0, bytesOf_length, aG]
  ·have hi' : i < p.size := by rw [bytesOf_length] at hi; exact hi
   rw [← av]
   simp only [dh.l0, mI p i hi', bH (i := i) (by omega), ni, Option.bind_some]
   rw [ep, ep, ep, aD]
   by_cases h63 : (bytesOf p)[i] = 63
   ·rw [if_pos h63]; exact hr
   ·simp [lH, h63] at hp
    rw [if_neg h63, ep (by simpa using hp)]
    exact hr
  ·have hi' : i < p.size := by rw [bytesOf_length] at hi; exact hi
   simp only [Bool.or_eq_false_iff, decide_eq_false_iff_not, lH] at hp
   rw [← av]
   simp only [dh.l0, mI p i hi', bH (i := i) (by omega), ni, Option.bind_some]
   rw [ep, ep, ep, en hp.1, en (by simpa using hp.2)]
   exact aG _
 ·rw [if_neg h]
  have h' : ¬ (1 ≤ p.size ∧ p.size ≤ 8) := by omega
  simp [h', aG]
theorem kN (p w : aj) : Ev (fun k => aM.f k p w) (ji p w) := by
 have hf : Ev (fun k => aM.j0 k p w true) false := by
  rw [← av]
  simp only [aM.j0, if_true]
  exact aG _
 unfold aM.f ji
 rw [ay (uy p), aD]
 split
 ·rename_i h1
  have hs := wM h1
  rw [ay (iL w), aD]
  split
  ·by_cases h3 : p.size = w.size
   ·rw [if_pos h3, show ((p.size : Int) != (w.size : Int)) = false by rw [h3]; simp, ← av]
    simp only [aM.j0, Bool.false_eq_true, if_false]
    refine jX (fun k i => aM.l0 k p w (p.size : Int) i) (List.range p.size) _ ?_ (fun i hi hp r hr => ?_) (fun i hi hp => ?_)
    ·rw [← av]; simp [aM.l0, aG]
    ·rw [List.length_range] at hi
     rw [List.getElem_range] at hp
     rw [← av]
     simp only [aM.l0, bH (i := i) (by omega)]
     rw [ep, ep, ep, aD]
     by_cases h63 : bt p (i : Int) = 63
     ·rw [if_pos h63]; exact hr
     ·have he : bt p (i : Int) = bt w (i : Int) := by simpa [h63] using hp
      rw [if_neg h63, ep, ep he]
      exact hr
    ·rw [List.length_range] at hi
     rw [List.getElem_range] at hp
     simp only [Bool.or_eq_false_iff, decide_eq_false_iff_not] at hp
     rw [← av]
     simp only [aM.l0, bH (i := i) (by omega)]
     rw [ep, ep, ep, en hp.1, ep, en hp.2]
     exact aG _
   ·rw [if_neg h3, show ((p.size : Int) != (w.size : Int)) = true by simp; omega]
    exact hf
  ·exact hf
 ·exact hf
def qK (how a : Int) (pl : List dU) (d : List S57) (pat w : aj) : Bool := ji pat w && ((decide (Int.tmod how 2 = 0) || hasB d w a) && (decide (how < 2) || mW pl w))
def oz (how a : Int) (pl : List dU) (d : List S57) (l : List aj) (pat : aj) : List aj := if 0 ≤ how ∧ how ≤ 3 then CO (l.filter (qK how a pl d pat)) else []
theorem Er (how a : Int) (pl : List dU) (d : List S57) (l : List aj) (pat : aj) : (oz how a pl d l pat).length ≤ l.length := by
 unfold oz
 split
 ·exact Nat.le_trans (Ja _) (List.length_filter_le _ _)
 ·simp
theorem tY (a : Int) (pl : List dU) (d : List S57) (l : List aj) (pat : aj) (how : Int) (hp : pl.length < 4611686018427387904) (hd : d.length < 4611686018427387904) (hl : l.length ≤ 8796093022208) : Ev (fun k => aR.f k a pl d l pat how) (oz how a pl d l pat) := by
 have hend : ∀ (out : List aj) (i : Int), Ev (fun k => aR.j1 k d l pat how out i false a pl) out := by
  intro out i
  rw [← av]
  simp only [aR.j1, Bool.false_eq_true, if_false]
  exact aG _
 have hj3 : ∀ (out : List aj) (i : Nat) (w : aj) (sn py : Bool) (r : List aj), i < 4611686018427387904 → out.length < 8796093022208 → Ev (fun k => aR.l0 k d l pat how (if (ji pat w && (sn && py)) = true then jJ out w else out) ((i + 1 : Nat) : Int) a pl) r → Ev (fun k => aR.j3 k d l pat how out (i : Int) w sn py a pl) r := by
  intro out i w sn py r hi ho hr
  rw [← av]
  simp only [aR.j3, bH (i := i) hi]
  rw [ay (oM pat w), aD]
  by_cases h1 : ji pat w = true
  ·rw [if_pos h1, aD]
   by_cases h2 : sn = true
   ·rw [if_pos h2, aD]
    by_cases h3 : py = true
    ·rw [if_pos h3, ay (Ab out w (by omega)), aD]
     rw [h1, h2, h3] at hr
     simp only [Bool.and_self, if_true] at hr
     unfold jJ at hr
     by_cases h4 : Es out w = true
     ·rw [if_pos h4] at hr ⊢
      exact hr
     ·rw [if_neg h4] at hr ⊢
      rw [ep]
      exact hr
    ·rw [if_neg h3]
     rw [if_neg (by simp [h3])] at hr
     exact hr
   ·rw [if_neg h2]
    rw [if_neg (by simp [h2])] at hr
    exact hr
  ·rw [if_neg h1]
   rw [if_neg (by simp [h1])] at hr
   exact hr
 have hj2 : ∀ (out : List aj) (i : Int) (w : aj) (sn : Bool) (r : List aj), Ev (fun k => aR.j3 k d l pat how out i w sn (decide (how < 2) || mW pl w) a pl) r → Ev (fun k => aR.j2 k d l pat how out i w sn a pl) r := by
  intro out i w sn r hr
  rw [← av]
  simp only [aR.j2]
  rw [aD]
  by_cases h : how < 2
  ·rw [if_pos h]
   rw [decide_eq_true h, Bool.true_or] at hr
   exact hr
  ·rw [if_neg h, ay (Cn pl w hp)]
   rw [decide_eq_false h, Bool.false_or] at hr
   exact hr
 unfold aR.f oz
 by_cases hh : 0 ≤ how ∧ how ≤ 3
 ·rw [if_pos hh]
  refine iP (σ := List aj) (fun k out i => aR.l0 k d l pat how out i a pl) l.length (fun i out => out = ((l.take i).filter (qK how a pl d pat)).foldl jJ []) (fun _ _ => CO (l.filter (qK how a pl d pat))) (fun out ho => ?_) (fun i out hi ho => ?_) 0 [] (Nat.zero_le _) rfl
  ·rw [List.take_length] at ho
   rw [← av]
   simp only [aR.l0, Int.lt_irrefl, if_false]
   rw [ho]
   exact hend _ _
  ·have hlen : out.length ≤ i := by
    have h1 := oV ((l.take i).filter (qK how a pl d pat)) []
    have h2 := List.length_filter_le (qK how a pl d pat) (l.take i)
    rw [ho]
    simp only [List.length_nil, List.length_take] at h1 h2
    omega
   refine .inr ⟨if qK how a pl d pat l[i] = true then jJ out l[i] else out, ?_, rfl, fun r hr => ?_⟩
   ·rw [Hg _ l i hi, ← ho]
   ·have hr' := hj2 out (i : Int) l[i] (decide (Int.tmod how 2 = 0) || hasB d l[i] a) r (hj3 out i l[i] _ _ r (by omega) (by omega) hr)
    rw [← av]
    simp only [aR.l0, mD, Option.bind_some, dT hh]
    rw [ep, ← av]
    simp only [aR.j1, if_true, jY ByteArray.empty l i hi]
    rw [ep, ep, aD]
    by_cases h : Int.tmod how 2 = 0
    ·rw [if_pos h]
     rw [decide_eq_true h, Bool.true_or] at hr'
     exact hr'
    ·rw [if_neg h, ay (wu d l[i] a hd)]
     rw [decide_eq_false h, Bool.false_or] at hr'
     exact hr'
 ·rw [if_neg hh, ← av]
  simp only [aR.l0, mD, Option.bind_some, dF hh]
  rw [aD]
  split
  ·exact hend _ _
  ·exact hend _ _
theorem Ce (how a : Int) (pl : List dU) (d : List S57) (pat w : aj) (hh : 0 ≤ how ∧ how ≤ 3) (hp : pl.length < 4611686018427387904) (hd : d.length < 4611686018427387904) : Ev (fun k => aQ.g how k a pl d pat w) (qK how a pl d pat w) := by
 have hc : how = 0 ∨ how = 1 ∨ how = 2 ∨ how = 3 := by omega
 have f := kN pat w
 have h := vS d w a hd
 have m := Ca pl w hp
 unfold qK
 generalize ji pat w = fb at *
 generalize hasB d w a = hb at *
 generalize mW pl w = mb at *
 rcases hc with rfl | rfl | rfl | rfl
 ·rw [show Int.tmod 0 2 = 0 by decide]
  simp only [aQ.g, aQ.g0, if_true]
  rw [ay f, aD]
  cases fb <;> simp [eU]
 ·rw [show Int.tmod 1 2 = 1 by decide]
  simp only [aQ.g, aQ.g1, if_true, show ¬ (1 : Int) = 0 by decide, if_false]
  rw [ay f, aD, ay h, aD]
  cases fb <;> cases hb <;> simp [eU]
 ·rw [show Int.tmod 2 2 = 0 by decide]
  simp only [aQ.g, aQ.g2, if_true, show ¬ (2 : Int) = 0 by decide, show ¬ (2 : Int) = 1 by decide, if_false]
  rw [ay f, aD, ay m]
  cases fb <;> simp [eU]
 ·rw [show Int.tmod 3 2 = 1 by decide]
  simp only [aQ.g, aQ.g3, show ¬ (3 : Int) = 0 by decide, show ¬ (3 : Int) = 1 by decide, show ¬ (3 : Int) = 2 by decide, if_false]
  rw [ay f, aD, ay h, aD, ay m]
  cases fb <;> cases hb <;> simp [eU]
theorem tL (a : Int) (pl : List dU) (d : List S57) (l : List aj) (pat : aj) (how : Int) (hp : pl.length < 4611686018427387904) (hd : d.length < 4611686018427387904) (hl : l.length ≤ 8796093022208) : Ev (fun k => aQ.f k a pl d l pat how) (oz how a pl d l pat) := by
 unfold aQ.f oz
 simp only [lJ, Option.bind_some, decide_eq_true_eq, aD]
 by_cases hh : 0 ≤ how ∧ how ≤ 3
 ·rw [if_pos hh, if_pos hh, ay (Ch l _ (qK how a pl d pat) hl (fun s _ => Ce how a pl d pat s hh hp hd))]
  exact Dq _ (Nat.le_trans (List.length_filter_le _ _) hl)
 ·rw [if_neg hh, if_neg hh]
  exact aG _
def Nb (R C : Int) (i j : Nat) : Prop := ∃ r c r' c' : Int, (0 ≤ r ∧ r < R) ∧ (0 ≤ c ∧ c < C) ∧ (0 ≤ r' ∧ r' < R) ∧ (0 ≤ c' ∧ c' < C) ∧ (i : Int) = r * C + c ∧ (j : Int) = r' * C + c' ∧ ((r' = r - 1 ∧ c' = c) ∨ (r' = r + 1 ∧ c' = c) ∨ (r' = r ∧ c' = c - 1) ∨ (r' = r ∧ c' = c + 1))
def Wh (s : aj) (i : Nat) : Prop := bt s (i : Int) = 46
inductive qo (R C : Int) (s : aj) (a : Nat) : Nat → Prop
 | refl : qo R C s a a
 | step {x y : Nat} : qo R C s a x → Nb R C x y → Wh s y → qo R C s a y
theorem qo.trans {R C : Int} {s : aj} {a x y : Nat} (h1 : qo R C s a x) (h2 : qo R C s x y) : qo R C s a y := by
 induction h2 with
 | refl => exact h1
 | step _ hn hw ih => exact .step ih hn hw
theorem Gc {C r c r' c' : Int} (hc : 0 ≤ c ∧ c < C) (hc' : 0 ≤ c' ∧ c' < C) (h : r * C + c = r' * C + c') : r = r' ∧ c = c' := by
 have h1 : (r * C + c) / C = r := by rw [Int.add_comm, Int.add_mul_ediv_right _ _ (by omega), Int.ediv_eq_zero_of_lt hc.1 hc.2]; omega
 have h2 : (r' * C + c') / C = r' := by rw [Int.add_comm, Int.add_mul_ediv_right _ _ (by omega), Int.ediv_eq_zero_of_lt hc'.1 hc'.2]; omega
 have h3 : r = r' := by rw [← h1, h, h2]
 subst h3
 exact ⟨rfl, by omega⟩
theorem cell_of (C : Int) (i : Nat) : (i : Int) = ((i : Int) / C) * C + (i : Int) % C := by
 have := Int.mul_ediv_add_emod (i : Int) C
 rw [Int.mul_comm]
 omega
theorem Gd {R C : Int} {i : Nat} (hC : 0 < C) (hi : (i : Int) < R * C) : (0 ≤ (i : Int) / C ∧ (i : Int) / C < R) ∧ (0 ≤ (i : Int) % C ∧ (i : Int) % C < C) :=
 ⟨⟨Int.ediv_nonneg (by omega) (by omega), Int.ediv_lt_of_lt_mul hC hi⟩, Int.emod_nonneg _ (by omega), Int.emod_lt_of_pos _ hC⟩
theorem Ak {R C r c : Int} (hr : 0 ≤ r ∧ r < R) (hc : 0 ≤ c ∧ c < C) : 0 ≤ r * C + c ∧ r * C + c < R * C := by
 have h1 : 0 ≤ r * C := Int.mul_nonneg hr.1 (by omega)
 have h2 : (r + 1) * C ≤ R * C := Int.mul_le_mul_of_nonneg_right (by omega) (by omega)
 rw [Int.add_mul] at h2
 omega
theorem Nb.lt {R C : Int} {i j : Nat} (h : Nb R C i j) : (j : Int) < R * C := by
 obtain ⟨r, c, r', c', _, _, h3, h4, _, e, _⟩ := h
 have := Ak h3 h4
 omega
theorem Nb.symm {R C : Int} {i j : Nat} (h : Nb R C i j) : Nb R C j i := by
 obtain ⟨r, c, r', c', h1, h2, h3, h4, e1, e2, h5⟩ := h
 exact ⟨r', c', r, c, h3, h4, h1, h2, e2, e1, by omega⟩
def cnt (n : Nat) (d : Nat → Bool) : Nat := (List.range n).countP (fun j => !d j)
theorem cnt_mono {n : Nat} {d d' : Nat → Bool} (h : ∀ j, d j = true → d' j = true) : cnt n d' ≤ cnt n d := by
 refine List.countP_mono_left (fun j _ hj => ?_)
 have := h j
 revert hj this
 cases d j <;> cases d' j <;> simp
theorem cnt_lt {d d' : Nat → Bool} (h : ∀ j, d j = true → d' j = true) (i : Nat) (h0 : d i = false) (h1 : d' i = true) : ∀ n, i < n → cnt n d' < cnt n d := by
 intro n
 induction n with
 | zero => intro hi; omega
 | succ n ih =>
  intro hi
  unfold cnt at *
  rw [List.range_succ, List.countP_append, List.countP_append]
  by_cases e : i = n
  ·subst e
   have := cnt_mono (n := i) h
   unfold cnt at this
   simp [h0, h1]
   omega
  ·have h2 := ih (by omega)
   have h3 : List.countP (fun j => !d' j) [n] ≤ List.countP (fun j => !d j) [n] := by
    refine List.countP_mono_left (fun j _ hj => ?_)
    have := h j
    revert hj this
    cases d j <;> cases d' j <;> simp
   omega
theorem KY (d : Array Bool) (i j : Nat) (hi : i < d.size) : (d.setIfInBounds i true)[j]! = (decide (j = i) || d[j]!) := by
 simp only [getElem!_def, Array.getElem?_setIfInBounds]
 by_cases h : j = i
 ·subst h; simp [hi]
 ·rw [if_neg (by omega)]; simp [h]
def Kz (R C : Int) (s : aj) (d : Array Bool) (r c : Int) (d' : Array Bool) : Prop :=
 d'.size = d.size ∧ (∀ j : Nat, d[j]! = true → d'[j]! = true) ∧ (∀ i : Nat, (0 ≤ r ∧ r < R) → (0 ≤ c ∧ c < C) → (i : Int) = r * C + c → Wh s i → d'[i]! = true) ∧
 ∀ j : Nat, d'[j]! = true → d[j]! = false → (∃ i : Nat, (0 ≤ r ∧ r < R) ∧ (0 ≤ c ∧ c < C) ∧ (i : Int) = r * C + c ∧ Wh s i ∧ qo R C s i j) ∧ ∀ y, Nb R C j y → Wh s y → d'[y]! = true
theorem Kz.from {R C : Int} {s : aj} {d d' : Array Bool} {r c r1 c1 : Int} {i : Nat} (hr : 0 ≤ r ∧ r < R) (hc : 0 ≤ c ∧ c < C) (hi : (i : Int) = r * C + c) (hn : (r1 = r - 1 ∧ c1 = c) ∨ (r1 = r + 1 ∧ c1 = c) ∨ (r1 = r ∧ c1 = c - 1) ∨ (r1 = r ∧ c1 = c + 1)) (h : Kz R C s d r1 c1 d') :
  ∀ j : Nat, d'[j]! = true → d[j]! = false → qo R C s i j ∧ ∀ y, Nb R C j y → Wh s y → d'[y]! = true := by
 intro j h1 h2
 obtain ⟨⟨i1, a1, a2, a3, a4, a5⟩, h3⟩ := h.2.2.2 j h1 h2
 exact ⟨(qo.step .refl ⟨r, c, r1, c1, hr, hc, a1, a2, hi, a3, hn⟩ a4).trans a5, h3⟩
theorem KS {R C : Int} {s : aj} (hs : (s.size : Int) = R * C) : ∀ (m : Nat) (d : Array Bool) (r c : Int), d.size = s.size → cnt s.size (fun j => d[j]!) < m → ∃ d', Ev (fun k => HandForm.dfs R C s k d r c) d' ∧ Kz R C s d r c d' := by
 intro m
 induction m with
 | zero => intro d r c _ h; omega
 | succ m ih =>
  intro d r c hd hm
  by_cases hstop : HandForm.qY R C s d r c = true
  ·refine ⟨d, ?_, rfl, fun _ h => h, fun i hr hc hi hw => ?_, fun j h1 h2 => by rw [h1] at h2; cases h2⟩
   ·rw [← av]
    simp only [HandForm.dfs, hstop, if_true]
    exact aG _
   ·unfold HandForm.qY at hstop
    unfold Wh at hw
    rw [if_pos hr, if_pos hc, ← hi, hw] at hstop
    simpa using hstop
  ·have hgo := hstop
   unfold HandForm.qY at hgo
   have hr : 0 ≤ r ∧ r < R := Decidable.byContradiction fun h => hgo (by rw [if_neg h])
   rw [if_pos hr] at hgo
   have hc : 0 ≤ c ∧ c < C := Decidable.byContradiction fun h => hgo (by rw [if_neg h])
   rw [if_pos hc] at hgo
   have hlt := Ak hr hc
   obtain ⟨i, hi⟩ : ∃ i : Nat, (i : Int) = r * C + c := ⟨(r * C + c).toNat, by omega⟩
   rw [← hi] at hgo
   simp only [Int.toNat_natCast, Bool.or_eq_true, Bool.not_eq_true', beq_eq_false_iff_ne, not_or, Bool.not_eq_true, ne_eq, Decidable.not_not] at hgo
   obtain ⟨hdi, hwi⟩ := hgo
   have hid : i < d.size := by omega
   have hget := fun j => KY d i j hid
   have hd0 : (d.setIfInBounds i true).size = s.size := by rw [Array.size_setIfInBounds]; exact hd
   have hsub : ∀ j : Nat, d[j]! = true → (d.setIfInBounds i true)[j]! = true := fun j h => by rw [hget, h, Bool.or_true]
   have hc0 : cnt s.size (fun j => (d.setIfInBounds i true)[j]!) < m := by
    have := cnt_lt (d := fun j => d[j]!) (d' := fun j => (d.setIfInBounds i true)[j]!) hsub i hdi (by show (d.setIfInBounds i true)[i]! = true; rw [hget]; simp) s.size (by omega)
    omega
   obtain ⟨d1, e1, p1⟩ := ih (d.setIfInBounds i true) (r - 1) c hd0 hc0
   have c1 := Nat.lt_of_le_of_lt (cnt_mono (n := s.size) (d := fun j => (d.setIfInBounds i true)[j]!) (d' := fun j => d1[j]!) p1.2.1) hc0
   have z1 : d1.size = s.size := p1.1.trans hd0
   obtain ⟨d2, e2, p2⟩ := ih d1 (r + 1) c z1 c1
   have c2 := Nat.lt_of_le_of_lt (cnt_mono (n := s.size) (d := fun j => d1[j]!) (d' := fun j => d2[j]!) p2.2.1) c1
   have z2 : d2.size = s.size := p2.1.trans z1
   obtain ⟨d3, e3, p3⟩ := ih d2 r (c - 1) z2 c2
   have c3 := Nat.lt_of_le_of_lt (cnt_mono (n := s.size) (d := fun j => d2[j]!) (d' := fun j => d3[j]!) p3.2.1) c2
   have z3 : d3.size = s.size := p3.1.trans z2
   obtain ⟨d4, e4, p4⟩ := ih d3 r (c + 1) z3 c3
   have i4 : d4[i]! = true := p4.2.1 i (p3.2.1 i (p2.2.1 i (p1.2.1 i (by rw [hget]; simp))))
   have clI : ∀ y, Nb R C i y → Wh s y → d4[y]! = true := by
    rintro y ⟨r1, c1, r', c', b1, b2, b3, b4, q1, q2, q3⟩ hw
    obtain ⟨rfl, rfl⟩ := Gc b2 hc (q1.symm.trans hi)
    rcases q3 with ⟨rfl, rfl⟩ | ⟨rfl, rfl⟩ | ⟨rfl, rfl⟩ | ⟨rfl, rfl⟩
    ·exact p4.2.1 y (p3.2.1 y (p2.2.1 y (p1.2.2.1 y b3 b4 q2 hw)))
    ·exact p4.2.1 y (p3.2.1 y (p2.2.2.1 y b3 b4 q2 hw))
    ·exact p4.2.1 y (p3.2.2.1 y b3 b4 q2 hw)
    ·exact p4.2.2.1 y b3 b4 q2 hw
   refine ⟨d4, ?_, by rw [p4.1, z3, hd], fun j h => p4.2.1 j (p3.2.1 j (p2.2.1 j (p1.2.1 j (hsub j h)))), fun i' _ _ hi' _ => ?_, fun j h1 h2 => ?_⟩
   ·rw [← av]
    simp only [HandForm.dfs, hstop, Bool.false_eq_true, if_false, ← hi, Int.toNat_natCast]
    rw [ay e1, ay e2, ay e3]
    exact e4
   ·rw [show i' = i by omega]; exact i4
   ·have : qo R C s i j ∧ ∀ y, Nb R C j y → Wh s y → d4[y]! = true := by
     cases h3 : d3[j]! with
     | false => exact p4.from hr hc hi (by omega) j h1 h3
     | true =>
      have up : (qo R C s i j ∧ ∀ y, Nb R C j y → Wh s y → d3[y]! = true) → qo R C s i j ∧ ∀ y, Nb R C j y → Wh s y → d4[y]! = true := fun q => ⟨q.1, fun y a b => p4.2.1 y (q.2 y a b)⟩
      cases h4 : d2[j]! with
      | false => exact up (p3.from hr hc hi (by omega) j h3 h4)
      | true =>
       have up2 : (qo R C s i j ∧ ∀ y, Nb R C j y → Wh s y → d2[y]! = true) → qo R C s i j ∧ ∀ y, Nb R C j y → Wh s y → d4[y]! = true := fun q => up ⟨q.1, fun y a b => p3.2.1 y (q.2 y a b)⟩
       cases h5 : d1[j]! with
       | false => exact up2 (p2.from hr hc hi (by omega) j h4 h5)
       | true =>
        cases h6 : (d.setIfInBounds i true)[j]! with
        | false =>
         have q := p1.from hr hc hi (by omega) j h5 h6
         exact up2 ⟨q.1, fun y a b => p2.2.1 y (q.2 y a b)⟩
        | true =>
         rw [hget, h2, Bool.or_false] at h6
         have := of_decide_eq_true h6
         subst this
         exact ⟨.refl, clI⟩
    exact ⟨⟨i, hr, hc, hi, hwi, this.1⟩, this.2⟩
def Met (R C : Int) (s : aj) (i j : Nat) : Prop := ∃ a, a < i ∧ Wh s a ∧ qo R C s a j
theorem Met.closed {R C : Int} {s : aj} {i x y : Nat} (h : Met R C s i x) (hn : Nb R C x y) (hw : Wh s y) : Met R C s i y := by
 obtain ⟨a, h1, h2, h3⟩ := h
 exact ⟨a, h1, h2, .step h3 hn hw⟩
theorem Met.succ {R C : Int} {s : aj} {i j : Nat} : Met R C s (i + 1) j ↔ Met R C s i j ∨ (Wh s i ∧ qo R C s i j) := by
 constructor
 ·rintro ⟨a, h1, h2, h3⟩
  by_cases e : a = i
  ·subst e; exact .inr ⟨h2, h3⟩
  ·exact .inl ⟨a, by omega, h2, h3⟩
 ·rintro (⟨a, h1, h2, h3⟩ | ⟨h1, h2⟩)
  ·exact ⟨a, by omega, h2, h3⟩
  ·exact ⟨i, by omega, h1, h2⟩
theorem Met.same {R C : Int} {s : aj} {i j : Nat} (h : Wh s i → Met R C s i i) : Met R C s (i + 1) j ↔ Met R C s i j := by
 rw [Met.succ]
 refine ⟨fun q => q.elim id (fun ⟨h1, h2⟩ => ?_), .inl⟩
 obtain ⟨a, a1, a2, a3⟩ := h h1
 exact ⟨a, a1, a2, a3.trans h2⟩
open Classical in
noncomputable def root (R C : Int) (s : aj) (i : Nat) : Nat := if Wh s i ∧ ¬ Met R C s i i then 1 else 0
noncomputable def roots (R C : Int) (s : aj) (i : Nat) : Nat := ((List.range' i (s.size - i)).map (root R C s)).sum
theorem CS (R C : Int) (s : aj) : roots R C s s.size = 0 := by simp [roots]
theorem Bv (R C : Int) (s : aj) (i : Nat) (hi : i < s.size) : roots R C s i = root R C s i + roots R C s (i + 1) := by
 unfold roots
 rw [show s.size - i = (s.size - (i + 1)) + 1 by omega, List.range'_succ]
 simp
theorem EH {R C : Int} {s : aj} {i : Nat} (h : Wh s i) (h' : ¬ Met R C s i i) : root R C s i = 1 := by unfold root; rw [if_pos ⟨h, h'⟩]
theorem DN {R C : Int} {s : aj} {i : Nat} (h : Wh s i → Met R C s i i) : root R C s i = 0 := by unfold root; rw [if_neg (fun q => q.2 (h q.1))]
theorem JH {R C : Int} {s : aj} (hs : (s.size : Int) = R * C) (hC : 0 < C) (d : Array Bool) (hd : d.size = s.size) (i : Nat) (hi : i < s.size) (hw : Wh s i) (hm : ∀ j : Nat, d[j]! = true ↔ Met R C s i j) :
  ∃ d', Ev (fun k => HandForm.dfs R C s k d ((i : Int) / C) ((i : Int) % C)) d' ∧ d'.size = s.size ∧ ∀ j : Nat, d'[j]! = true ↔ Met R C s (i + 1) j := by
 have hin := Gd hC (show (i : Int) < R * C by omega)
 have hof := cell_of C i
 obtain ⟨d', e, p1, p2, p3, p4⟩ := KS hs _ d ((i : Int) / C) ((i : Int) % C) hd (Nat.lt_succ_self _)
 refine ⟨d', e, p1.trans hd, fun j => ?_⟩
 rw [Met.succ, ← hm]
 constructor
 ·intro h
  cases h0 : d[j]! with
  | true => exact .inl rfl
  | false =>
   obtain ⟨⟨i', _, _, a3, _, a5⟩, _⟩ := p4 j h h0
   rw [show i' = i by omega] at a5
   exact .inr ⟨hw, a5⟩
 ·rintro (h | ⟨_, h⟩)
  ·exact p2 j h
  ·induction h with
   | refl => exact p3 i hin.1 hin.2 hof hw
   | step hx hn hwy ih =>
    rename_i x y
    cases h0 : d[x]! with
    | true => exact p2 y ((hm y).2 (((hm x).1 h0).closed hn hwy))
    | false => exact (p4 x ih h0).2 y hn hwy
theorem Jf {R C : Int} {s : aj} (hs : (s.size : Int) = R * C) (hC : 0 < C) : Ev (fun k => HandForm.parts R C s k (Array.replicate s.size false) 0 0) (roots R C s 0 : Int) := by
 have := iP (σ := Array Bool × Int) (fun k st i => HandForm.parts R C s k st.1 i st.2) s.size (fun i st => st.1.size = s.size ∧ ∀ j : Nat, st.1[j]! = true ↔ Met R C s i j) (fun i st => st.2 + (roots R C s i : Int)) (fun st hst => ?_) (fun i st hi hst => ?_) 0 (Array.replicate s.size false, 0) (Nat.zero_le _) ⟨by simp, fun j => ?_⟩
 ·simpa using this
 ·rw [CS, ← av]
  simp only [HandForm.parts, Int.lt_irrefl, if_false]
  exact gI (aG _) (by simp)
 ·obtain ⟨hd, hm⟩ := hst
  have hrs := Bv R C s i hi
  by_cases hw : Wh s i
  ·cases h0 : st.1[i]! with
   | true =>
    refine .inr ⟨st, ⟨hd, fun j => ?_⟩, ?_, fun r hr => ?_⟩
    ·rw [hm, Met.same (fun _ => (hm i).1 h0)]
    ·rw [hrs, DN (fun _ => (hm i).1 h0)]; simp
    ·rw [← av]
     unfold Wh at hw
     simp only [HandForm.parts, Int.toNat_natCast, h0, if_true, hw]
     rw [ep]
     exact hr
   | false =>
    have hnm : ¬ Met R C s i i := fun q => by have := (hm i).2 q; rw [h0] at this; cases this
    obtain ⟨d', e, z, hm'⟩ := JH hs hC st.1 hd i hi hw hm
    refine .inr ⟨(d', st.2 + 1), ⟨z, hm'⟩, ?_, fun r hr => ?_⟩
    ·rw [hrs, EH hw hnm]; simp; omega
    ·rw [← av]
     unfold Wh at hw
     simp only [HandForm.parts, Int.toNat_natCast, h0, Bool.false_eq_true, if_false, if_true, hw]
     rw [ep, ay e]
     exact hr
  ·refine .inr ⟨st, ⟨hd, fun j => ?_⟩, ?_, fun r hr => ?_⟩
   ·rw [hm, Met.same (fun h => absurd h hw)]
   ·rw [hrs, DN (fun h => absurd h hw)]; simp
   ·rw [← av]
    unfold Wh at hw
    simp only [HandForm.parts, hw, if_false]
    rw [ep]
    exact hr
 ·constructor
  ·intro h
   exfalso
   rw [getElem!_def, Array.getElem?_replicate] at h
   split at h <;> simp_all
  ·rintro ⟨a, h, _⟩
   omega
noncomputable def tQ (R C : Int) (s : aj) : Int := if fD R C s = true then (roots R C s 0 : Int) else 0
theorem wT (R C : Int) (s : aj) : Ev (fun k => kC.f k R C s) (tQ R C s) := by
 unfold kC.f tQ
 rw [ay (jT R C s), aD]
 split
 ·rename_i hg
  obtain ⟨_, h2, h3, _⟩ := jk hg
  exact Jf h3 (by omega)
 ·exact aG _
theorem EA {R C : Int} {x : List Bool} (hC : 0 < C) (hx : (x.length : Int) = R * C) (y : Nat) (hy : y < x.length) : HandReach.uE C x (y : Int) = true ↔ ∃ a : Nat, Nb R C a y ∧ x.getD a false = true := by
 have hin := Gd hC (show (y : Int) < R * C by omega)
 have hof := cell_of C y
 unfold HandReach.uE
 constructor
 ·intro h
  simp only [Bool.or_eq_true, Bool.and_eq_true, decide_eq_true_eq] at h
  rcases h with ((⟨h1, h2⟩ | ⟨h1, h2⟩) | ⟨h1, h2⟩) | ⟨h1, h2⟩
  ·have h0 : 0 ≤ ((y : Int) / C) * C := Int.mul_nonneg hin.1.1 (by omega)
   exact ⟨((y : Int) - 1).toNat, ⟨(y : Int) / C, (y : Int) % C - 1, (y : Int) / C, (y : Int) % C, hin.1, by omega, hin.1, hin.2, by omega, hof, by omega⟩, h2⟩
  ·exact ⟨((y : Int) + 1).toNat, ⟨(y : Int) / C, (y : Int) % C + 1, (y : Int) / C, (y : Int) % C, hin.1, by omega, hin.1, hin.2, by omega, hof, by omega⟩, h2⟩
  ·have h3 : 1 ≤ (y : Int) / C := by
    refine Decidable.byContradiction fun q => ?_
    rw [show (y : Int) / C = 0 by omega] at hof
    omega
   have h4 : ((y : Int) / C - 1) * C = (y : Int) / C * C - C := by rw [Int.sub_mul, Int.one_mul]
   exact ⟨((y : Int) - C).toNat, ⟨(y : Int) / C - 1, (y : Int) % C, (y : Int) / C, (y : Int) % C, by omega, hin.2, hin.1, hin.2, by omega, hof, by omega⟩, h2⟩
  ·have h4 : ((y : Int) / C + 1) * C = (y : Int) / C * C + C := by rw [Int.add_mul, Int.one_mul]
   have h3 : (y : Int) / C + 1 < R := by
    refine Decidable.byContradiction fun q => ?_
    have : R * C ≤ ((y : Int) / C + 1) * C := Int.mul_le_mul_of_nonneg_right (by omega) (by omega)
    omega
   exact ⟨((y : Int) + C).toNat, ⟨(y : Int) / C + 1, (y : Int) % C, (y : Int) / C, (y : Int) % C, by omega, hin.2, hin.1, hin.2, by omega, hof, by omega⟩, h2⟩
 ·rintro ⟨a, ⟨r, c, r', c', b1, b2, b3, b4, q1, q2, q3⟩, h2⟩
  obtain ⟨e1, e2⟩ := Gc b4 hin.2 (q2.symm.trans hof)
  subst e1 e2
  have hat : ∀ z : Int, z = a → gq false x z = true := fun z hz => by subst hz; exact h2
  simp only [Bool.or_eq_true, Bool.and_eq_true, decide_eq_true_eq]
  rcases q3 with ⟨e1, e2⟩ | ⟨e1, e2⟩ | ⟨e1, e2⟩ | ⟨e1, e2⟩
  ·have h4 : r * C = (y : Int) / C * C + C := by rw [show r = (y : Int) / C + 1 by omega, Int.add_mul, Int.one_mul]
   have h5 := Ak b1 b2
   exact .inr ⟨by omega, hat _ (by omega)⟩
  ·have h4 : r * C = (y : Int) / C * C - C := by rw [show r = (y : Int) / C - 1 by omega, Int.sub_mul, Int.one_mul]
   have h5 := Ak b1 b2
   exact .inl (.inr ⟨by omega, hat _ (by omega)⟩)
  ·subst e1
   exact .inl (.inl (.inr ⟨by omega, hat _ (by omega)⟩))
  ·subst e1
   exact .inl (.inl (.inl ⟨by omega, hat _ (by omega)⟩))
def Ig (R C : Int) (s : aj) (x x' : List Bool) : Prop :=
 x'.length = x.length ∧ (∀ j : Nat, x.getD j false = true → x'.getD j false = true) ∧ (∀ a y : Nat, x'.getD a false = true → Nb R C a y → Wh s y → x'.getD y false = true) ∧ ∀ j : Nat, x'.getD j false = true → ∃ a, x.getD a false = true ∧ qo R C s a j
theorem AX (x : List Bool) (i j : Nat) (b : Bool) (hi : i < x.length) : (x.set i b).getD j false = if j = i then b else x.getD j false := by
 simp only [List.getD_eq_getElem?_getD, List.getElem?_set]
 by_cases h : j = i
 ·subst h; simp [hi]
 ·rw [if_neg (by omega), if_neg h]
theorem getD_lt {x : List Bool} {j : Nat} (h : x.getD j false = true) : j < x.length := by
 refine Decidable.byContradiction fun q => ?_
 rw [List.getD_eq_getElem?_getD, List.getElem?_eq_none (by omega)] at h
 cases h
theorem Ji {R C : Int} {s : aj} (hs : (s.size : Int) = R * C) (hC : 0 < C) : ∀ (m : Nat) (x : List Bool), x.length = s.size → cnt s.size (fun j => x.getD j false) < m → ∃ x', Ev (fun k => HandReach.qL C s k x true) x' ∧ Ig R C s x x' := by
 intro m
 induction m with
 | zero => intro x _ h; omega
 | succ m ih =>
  have inner : ∀ (d i : Nat) (x : List Bool) (g : Bool), i + d = s.size → x.length = s.size → (g = true → cnt s.size (fun j => x.getD j false) < m) → (g = false → cnt s.size (fun j => x.getD j false) < m + 1 ∧ ∀ j, j < i → x.getD j false = true ∨ ¬ Wh s j ∨ HandReach.uE C x (j : Int) = false) →
    ∃ x', Ev (fun k => HandReach.nY C s k x g (i : Int)) x' ∧ Ig R C s x x' := by
   intro d
   induction d with
   | zero =>
    intro i x g hi hx h1 h2
    have hi' : i = s.size := by omega
    subst hi'
    have hlast : ∀ x', Ev (fun k => HandReach.qL C s k x g) x' → Ev (fun k => HandReach.nY C s k x g (s.size : Int)) x' := by
     intro x' hx'
     rw [← av]
     simp only [HandReach.nY]
     rw [en]
     exact hx'
    cases g with
    | true =>
     obtain ⟨x', e, p⟩ := ih x hx (h1 rfl)
     exact ⟨x', hlast x' e, p⟩
    | false =>
     refine ⟨x, hlast x ?_, rfl, fun _ h => h, fun a y ha hn hw => ?_, fun j h => ⟨j, h, .refl⟩⟩
     ·rw [← av]
      simp only [HandReach.qL, Bool.false_eq_true, if_false]
      exact aG _
     ·have hy : y < x.length := by have := hn.lt; omega
      rcases (h2 rfl).2 y (by omega) with h | h | h
      ·exact h
      ·exact absurd hw h
      ·rw [(EA hC (by omega) y hy).2 ⟨a, hn, ha⟩] at h
       cases h
   | succ d ihd =>
    intro i x g hi hx h1 h2
    have hil : i < x.length := by omega
    have hri : gq false x (i : Int) = x.getD i false := rfl
    by_cases hb : x.getD i false = true ∨ ¬ Wh s i
    ·obtain ⟨x', e, p⟩ := ihd (i + 1) x g (by omega) hx h1 (fun hg => ⟨(h2 hg).1, fun j hj => by
      by_cases hji : j = i
      ·subst hji; exact hb.elim .inl (fun q => .inr (.inl q))
      ·exact (h2 hg).2 j (by omega)⟩)
     refine ⟨x', ?_, p⟩
     rw [← av]
     simp only [HandReach.nY, hri]
     rw [ep, aD, if_pos]
     ·exact e
     ·rcases hb with h | h
      ·rw [h, Bool.true_or]
      ·have : (bt s (i : Int) != 46) = true := bne_iff_ne.2 h
       rw [this, Bool.or_true]
    ·have hb1 : x.getD i false = false := by simpa using fun q => hb (.inl q)
     have hb2 : Wh s i := Classical.byContradiction fun q => hb (.inr q)
     have hcond : (x.getD i false || (bt s (i : Int) != 46)) = false := by rw [hb1, show bt s (i : Int) = 46 from hb2]; rfl
     by_cases hn : HandReach.uE C x (i : Int) = true
     ·have hset := fun j => AX x i j true hil
      have hsub : ∀ j : Nat, x.getD j false = true → (x.set i true).getD j false = true := fun j h => by
       rw [hset]; split
       ·rfl
       ·exact h
      have hcl : cnt s.size (fun j => (x.set i true).getD j false) < m := by
       have h3 := cnt_lt (d := fun j => x.getD j false) (d' := fun j => (x.set i true).getD j false) hsub i hb1 (by show (x.set i true).getD i false = true; rw [hset, if_pos rfl]) s.size (by omega)
       cases g with
       | true => have := h1 rfl; omega
       | false => have := (h2 rfl).1; omega
      obtain ⟨x', e, p1, p2, p3, p4⟩ := ihd (i + 1) (x.set i true) true (by omega) (by rw [List.length_set]; exact hx) (fun _ => hcl) (fun h => by cases h)
      refine ⟨x', ?_, by rw [p1, List.length_set], fun j h => p2 j (hsub j h), p3, fun j h => ?_⟩
      ·rw [← av]
       simp only [HandReach.nY, hri, hcond, Bool.false_eq_true, if_false, hn, if_true, Int.toNat_natCast]
       rw [ep]
       exact e
      ·obtain ⟨a, ha, hc⟩ := p4 j h
       rw [hset] at ha
       by_cases hai : a = i
       ·subst hai
        obtain ⟨b, hb1, hb3⟩ := (EA (R := R) hC (by omega) a hil).1 hn
        exact ⟨b, hb3, (qo.step .refl hb1 hb2).trans hc⟩
       ·rw [if_neg hai] at ha
        exact ⟨a, ha, hc⟩
     ·rw [Bool.not_eq_true] at hn
      obtain ⟨x', e, p⟩ := ihd (i + 1) x g (by omega) hx h1 (fun hg => ⟨(h2 hg).1, fun j hj => by
       by_cases hji : j = i
       ·subst hji; exact .inr (.inr hn)
       ·exact (h2 hg).2 j (by omega)⟩)
      refine ⟨x', ?_, p⟩
      rw [← av]
      simp only [HandReach.nY, hri, hcond, Bool.false_eq_true, if_false, hn]
      rw [ep]
      exact e
  intro x hx hm
  obtain ⟨x', e, p⟩ := inner s.size 0 x false (by omega) hx (fun h => by cases h) (fun _ => ⟨hm, fun j hj => by omega⟩)
  refine ⟨x', ?_, p⟩
  rw [← av]
  simp only [HandReach.qL, if_true]
  exact e
theorem FI {R C : Int} {s : aj} (hg : fD R C s = true) (i : Nat) (hi : i < s.size) : ∃ x', Ev (fun k => kK.f k R C s (List.replicate s.size false) (i : Int)) x' ∧ x'.length = s.size ∧ ∀ j : Nat, x'.getD j false = true ↔ qo R C s i j := by
 obtain ⟨hR, hC, hs, _⟩ := jk hg
 have hl : (List.replicate s.size false).length = s.size := List.length_replicate
 have hset := fun j => AX (List.replicate s.size false) i j true (by omega)
 have hrep : ∀ j : Nat, (List.replicate s.size false).getD j false = false := fun j => by
  rw [List.getD_eq_getElem?_getD, List.getElem?_replicate]
  split <;> rfl
 obtain ⟨x', e, p1, p2, p3, p4⟩ := Ji hs (by omega) _ ((List.replicate s.size false).set i true) (by rw [List.length_set, hl]) (Nat.lt_succ_self _)
 refine ⟨x', ?_, by rw [p1, List.length_set, hl], fun j => ⟨fun h => ?_, fun h => ?_⟩⟩
 ·unfold kK.f HandReach.DF
  rw [aD, if_pos ⟨hR, hC, hs, by omega, by omega, by omega⟩, Int.toNat_natCast]
  exact e
 ·obtain ⟨a, h1, h2⟩ := p4 j h
  rw [hset, hrep] at h1
  by_cases ha : a = i
  ·subst ha; exact h2
  ·rw [if_neg ha] at h1; cases h1
 ·induction h with
  | refl => exact p2 i (by rw [hset, if_pos rfl])
  | step hx hn hw ih => exact p3 _ _ ih hn hw
theorem EX {R C : Int} {s : aj} (n : Int) (x one : List Bool) (hx : x.length = s.size) (ho : one.length = s.size) (hsz : s.size ≤ 36) (i : Nat) (r : Int)
  (hr : ∀ x' : List Bool, x'.length = s.size → (∀ j : Nat, x'.getD j false = true ↔ x.getD j false = true ∨ one.getD j false = true) → Ev (fun k => aK.l1 k n x' (wrap64 ((i : Int) + 1)) R C s) r) : Ev (fun k => aK.l3 k n x (i : Int) one 0 R C s) r := by
 refine iP (σ := List Bool) (fun k a j => aK.l3 k n a (i : Int) one j R C s) s.size (fun t a => a.length = s.size ∧ ∀ j : Nat, a.getD j false = true ↔ x.getD j false = true ∨ (j < t ∧ one.getD j false = true)) (fun _ _ => r) (fun a ha => ?_) (fun t a ht ha => ?_) 0 x (Nat.zero_le _) ⟨hx, fun j => by simp⟩
 ·rw [← av]
  simp only [aK.l3]
  rw [en]
  refine hr a ha.1 (fun j => ?_)
  rw [ha.2]
  exact ⟨fun q => q.imp id (·.2), fun q => q.imp id (fun h => ⟨by have := getD_lt h; omega, h⟩)⟩
 ·have htl : t < a.length := by omega
  have hra : gq false a (t : Int) = a.getD t false := rfl
  have hro : gq false one (t : Int) = one.getD t false := rfl
  refine .inr ⟨a.set t (a.getD t false || one.getD t false), ⟨by rw [List.length_set]; exact ha.1, fun j => ?_⟩, rfl, fun r' hr' => ?_⟩
  ·rw [AX _ _ _ _ htl]
   by_cases hj : j = t
   ·subst hj
    rw [if_pos rfl, Bool.or_eq_true, ha.2]
    constructor
    ·rintro ((h | ⟨h, _⟩) | h)
     ·exact .inl h
     ·omega
     ·exact .inr ⟨by omega, h⟩
    ·rintro (h | ⟨_, h⟩)
     ·exact .inl (.inl h)
     ·exact .inr h
   ·rw [if_neg hj, ha.2]
    exact ⟨fun q => q.imp id (fun h => ⟨by omega, h.2⟩), fun q => q.imp id (fun h => ⟨by omega, h.2⟩)⟩
  ·rw [← av]
   simp only [aK.l3, hra, hro, bH (i := t) (by omega), Int.toNat_natCast]
   rw [ep, ep, aD]
   by_cases h : a.getD t false = true
   ·rw [if_pos h]
    rw [h, Bool.true_or] at hr'
    exact hr'
   ·rw [Bool.not_eq_true] at h
    rw [h, Bool.false_or] at hr'
    rw [if_neg (by rw [h]; exact Bool.false_ne_true), ep]
    exact hr'
theorem EW {R C : Int} {s : aj} (n : Int) (x : List Bool) (hx : x.length = s.size) (hsz : s.size ≤ 36) (i : Nat) (one : List Bool) (r : Int) (ho : Ev (fun k => kK.f k R C s (List.replicate s.size false) (i : Int)) one)
  (hr : Ev (fun k => aK.l3 k n x (i : Int) one 0 R C s) r) : Ev (fun k => aK.l2 k n x (i : Int) [] 0 R C s) r := by
 refine iP (σ := List Bool) (fun k a j => aK.l2 k n x (i : Int) a j R C s) s.size (fun t a => a = List.replicate t false) (fun _ _ => r) (fun a ha => ?_) (fun t a ht ha => .inr ⟨a ++ [false], ?_, rfl, fun r' hr' => ?_⟩) 0 [] (Nat.zero_le _) rfl
 ·subst ha
  rw [← av]
  simp only [aK.l2]
  rw [en, ay ho]
  exact hr
 ·rw [ha, List.replicate_succ']
 ·have hal : a.length = t := by rw [ha, List.length_replicate]
  rw [← av]
  simp only [aK.l2, bH (i := t) (by omega)]
  rw [ep, ep]
  exact hr'
theorem EU {R C : Int} {s : aj} (hg : fD R C s = true) : Ev (fun k => aK.l1 k 0 (List.replicate s.size false) 0 R C s) (roots R C s 0 : Int) := by
 obtain ⟨hR, hC, hs, _⟩ := jk hg
 have hsz := gB hg
 have := iP (σ := List Bool × Int) (fun k st i => aK.l1 k st.2 st.1 i R C s) s.size (fun i st => (st.1.length = s.size ∧ 0 ≤ st.2 ∧ st.2 ≤ i) ∧ ∀ j : Nat, st.1.getD j false = true ↔ Met R C s i j) (fun i st => st.2 + (roots R C s i : Int)) (fun st hst => ?_) (fun i st hi hst => ?_) 0 (List.replicate s.size false, 0) (Nat.zero_le _) ⟨⟨by simp, by simp, by simp⟩, fun j => ?_⟩
 ·simpa using this
 ·rw [CS, ← av]
  simp only [aK.l1, Int.lt_irrefl, if_false]
  rw [← av]
  simp only [aK.j2, Bool.false_eq_true, if_false]
  exact gI (aG _) (by simp)
 ·obtain ⟨⟨hx, hn0, hni⟩, hm⟩ := hst
  have hrs := Bv R C s i hi
  have hri : gq false st.1 (i : Int) = st.1.getD i false := rfl
  have start : ∀ b : Bool, (if bt s (i : Int) = 46 then (!(st.1.getD i false)) else false) = b → ∀ r, Ev (fun k => aK.j3 k st.2 st.1 (i : Int) b R C s) r → Ev (fun k => aK.l1 k st.2 st.1 (i : Int) R C s) r := by
   intro b hb r hr
   rw [← av]
   simp only [aK.l1]
   rw [ep, ay (iW R C s), hg, ← av]
   simp only [aK.j2, if_true, hri]
   rw [ep, ep, aD]
   by_cases hw : bt s (i : Int) = 46
   ·rw [if_pos hw] at hb ⊢
    rw [ep, hb]
    exact hr
   ·rw [if_neg hw] at hb ⊢
    rw [hb]
    exact hr
  have skip : (Wh s i → Met R C s i i) → (if bt s (i : Int) = 46 then (!(st.1.getD i false)) else false) = false → ∃ s' : List Bool × Int, ((s'.1.length = s.size ∧ 0 ≤ s'.2 ∧ s'.2 ≤ ((i + 1 : Nat) : Int)) ∧ ∀ j : Nat, s'.1.getD j false = true ↔ Met R C s (i + 1) j) ∧ st.2 + (roots R C s i : Int) = s'.2 + (roots R C s (i + 1) : Int) ∧ ∀ r, Ev (fun k => aK.l1 k s'.2 s'.1 ((i + 1 : Nat) : Int) R C s) r → Ev (fun k => aK.l1 k st.2 st.1 (i : Int) R C s) r := by
   intro h hb
   refine ⟨st, ⟨⟨hx, hn0, by omega⟩, fun j => ?_⟩, ?_, fun r hr => start false hb r ?_⟩
   ·rw [hm, Met.same h]
   ·rw [hrs, DN h]; simp
   ·rw [← av]
    simp only [aK.j3, Bool.false_eq_true, if_false, bH (i := i) (by omega)]
    exact hr
  by_cases hw : Wh s i
  ·cases h0 : st.1.getD i false with
   | true => exact .inr (skip (fun _ => (hm i).1 h0) (by unfold Wh at hw; rw [if_pos hw, h0]; rfl))
   | false =>
    have hnm : ¬ Met R C s i i := fun q => by have := (hm i).2 q; rw [h0] at this; cases this
    obtain ⟨one, e, z, hone⟩ := FI hg i hi
    obtain ⟨x', hx'⟩ : ∃ x' : List Bool, x'.length = s.size ∧ ∀ j : Nat, x'.getD j false = true ↔ st.1.getD j false = true ∨ one.getD j false = true := by
     refine ⟨(List.range s.size).map (fun j => st.1.getD j false || one.getD j false), by simp, fun j => ?_⟩
     by_cases hj : j < s.size
     ·rw [List.getD_eq_getElem?_getD, List.getElem?_map, List.getElem?_range hj]
      simp
     ·rw [List.getD_eq_getElem?_getD, List.getElem?_eq_none (by simp; omega)]
      constructor
      ·intro q
       cases q
      ·intro q
       rcases q with q | q
       ·have := getD_lt q; omega
       ·have := getD_lt q; omega
    have hsame : ∀ y : List Bool, y.length = s.size → (∀ j : Nat, y.getD j false = true ↔ st.1.getD j false = true ∨ one.getD j false = true) → y = x' := by
     intro y hy1 hy2
     refine List.ext_getElem (by omega) (fun j h1 h2 => ?_)
     have e1 : y.getD j false = y[j] := by simp [List.getD_eq_getElem?_getD, List.getElem?_eq_getElem h1]
     have e2 : x'.getD j false = x'[j] := by simp [List.getD_eq_getElem?_getD, List.getElem?_eq_getElem h2]
     rw [← e1, ← e2, Bool.eq_iff_iff, hy2, hx'.2]
    refine .inr ⟨(x', st.2 + 1), ⟨⟨hx'.1, by show 0 ≤ st.2 + 1; omega, by show st.2 + 1 ≤ _; omega⟩, fun j => ?_⟩, ?_, fun r hr => start true (by unfold Wh at hw; rw [if_pos hw, h0]; rfl) r ?_⟩
    ·rw [hx'.2, hm, hone, Met.succ]
     exact ⟨fun q => q.imp id (fun h => ⟨hw, h⟩), fun q => q.imp id (·.2)⟩
    ·rw [hrs, EH hw hnm]; simp; omega
    ·have e1 : wrap64 (st.2 + 1) = st.2 + 1 := lD (by omega) (by omega)
     rw [← av]
     simp only [aK.j3, if_true, e1]
     refine EW _ _ hx hsz.2 i one r e (EX _ _ one hx z hsz.2 i r (fun y hy1 hy2 => ?_))
     rw [hsame y hy1 hy2, bH (i := i) (by omega)]
     exact hr
  ·exact .inr (skip (fun h => absurd h hw) (by unfold Wh at hw; rw [if_neg hw]))
 ·constructor
  ·intro h
   exfalso
   rw [List.getD_eq_getElem?_getD, List.getElem?_replicate] at h
   split at h <;> simp at h
  ·rintro ⟨a, h, _⟩
   omega
theorem Ap {R C : Int} {s : aj} (hsz : s.size < 140737488355328) (r : Int) (hr : Ev (fun k => aK.l1 k 0 (List.replicate s.size false) 0 R C s) r) : Ev (fun k => aK.f k R C s) r := by
 unfold aK.f
 refine iP (σ := List Bool) (fun k a j => aK.l0 k 0 a j R C s) s.size (fun t a => a = List.replicate t false) (fun _ _ => r) (fun a ha => ?_) (fun t a ht ha => .inr ⟨a ++ [false], ?_, rfl, fun r' hr' => ?_⟩) 0 [] (Nat.zero_le _) rfl
 ·subst ha
  rw [← av]
  simp only [aK.l0, Int.lt_irrefl, if_false]
  exact hr
 ·rw [ha, List.replicate_succ']
 ·have hal : a.length = t := by rw [ha, List.length_replicate]
  rw [← av]
  simp only [aK.l0, bH (i := t) (by omega)]
  rw [ep, ep]
  exact hr'
theorem Ac (R C : Int) (s : aj) (hsz : s.size < 140737488355328) : Ev (fun k => aK.f k R C s) (tQ R C s) := by
 unfold tQ
 split
 ·rename_i hg
  exact Ap hsz _ (EU hg)
 ·rename_i hg
  rw [Bool.not_eq_true] at hg
  refine Ap hsz _ ?_
  have : Ev (fun k => aK.j2 k 0 (List.replicate s.size false) 0 false R C s) 0 := by
   rw [← av]
   simp only [aK.j2, Bool.false_eq_true, if_false]
   exact aG _
  rw [← av]
  simp only [aK.l1]
  rw [aD]
  split
  ·rw [ay (iW R C s), hg]
   exact this
  ·exact this
def Js (R C : Int) (s : aj) : Bool := fD R C s && decide (wY s = s)
theorem wC {R C : Int} {s : aj} (hg : fD R C s = true) : Ev (fun k => kJ.f k R C s) (R, C, wY s) := by
 have := gB hg
 unfold kJ.f
 rw [ay (iW R C s), ep hg, ay (qc s (by omega))]
 exact aG _
theorem vU {R C : Int} {s : aj} (hg : fD R C s = true) : Ev (fun k => kF.f k R C s) (R, C, wY s) := by
 have := gB hg
 unfold kF.f
 rw [ay (jT R C s), ep hg]
 simp only [pV s (by omega), Option.bind_some]
 exact aG _
theorem sN (R C : Int) (s : aj) : Ev (fun k => fu.f k R C s) (Js R C s) := by
 unfold fu.f Js
 rw [ay (iW R C s), aD]
 split
 ·rename_i hg
  rw [ay (wC hg)]
  exact gI (aG _) (by simp [hg, kg])
 ·rename_i hg
  exact gI (aG _) (by simp [hg])
theorem sG (R C : Int) (s : aj) : Ev (fun k => eZ.f k R C s) (Js R C s) := by
 unfold eZ.f Js
 rw [ay (jT R C s), aD]
 split
 ·rename_i hg
  rw [ay (vU hg)]
  exact gI (aG _) (by simp [hg, kg, eq_comm])
 ·rename_i hg
  exact gI (aG _) (by simp [hg])
theorem GR (l : List Int) (x : Int) (hl : l.length < 4611686018427387904) : Ev (fun k => dB.f k l x) (match l.findIdx? (fun y => decide (y = x)) with | some i => (i : Int) | none => -1) := by
 refine qA (fun k i => dB.l0 k l x (l.length : Int) i) l _ ?_ (fun i hi hp r hr => ?_) (fun i hi hp => ?_)
 ·rw [← av]; simp [dB.l0, aG]
 ·rw [← av]
  simp only [dB.l0, nP l i hi, bH (i := i) (by omega)]
  rw [ep, ep, ep, en (fun e => of_decide_eq_false hp e.symm)]
  exact hr
 ·rw [← av]
  simp only [dB.l0, nP l i hi]
  rw [ep, ep, ep, aD, if_pos (of_decide_eq_true hp).symm]
  exact aG _
theorem En {α : Type} (l : List α) (p : α → Bool) : decide ((match l.findIdx? p with | some i => (i : Int) | none => -1) ≥ 0) = l.any p := by
 cases h : l.findIdx? p with
 | none =>
  have := List.findIdx?_eq_none_iff.1 h
  simp
  intro x hx
  simpa using this x hx
 | some i =>
  obtain ⟨h1, h2, _⟩ := List.findIdx?_eq_some_iff_getElem.1 h
  simp
  exact ⟨l[i], gM h1, h2⟩
theorem Di (l : List Int) (x : Int) (hl : l.length < 4611686018427387904) : Ev (fun k => gX.f k l x) (l.any (fun y => decide (y = x))) := by
 unfold gX.f
 rw [ay (GR l x hl), En]
 exact aG _
def AY (C : Int) (c : Int) (x : S98) : Bool := (bn C x).any (fun y => decide (y = c))
noncomputable def oD (R C : Int) (s : aj) (c : Int) : List Int := (List.range (aJ R C s).length).flatMap (fun (i : Nat) => if ((aJ R C s)[i]?).any (AY C c) = true then [(i : Int)] else [])
theorem tC (R C : Int) (s : aj) (c : Int) (i : Nat) : (((List.range (aJ R C s).length).take i).flatMap (fun (i : Nat) => if ((aJ R C s)[i]?).any (AY C c) = true then [(i : Int)] else [])).length ≤ 72 := by
 have h1 := om (fun i : Nat => if ((aJ R C s)[i]?).any (AY C c) = true then [(i : Int)] else []) 1 i (List.range (aJ R C s).length) (fun x _ => by split <;> simp)
 have h2 := (dH R C s).2.2
 rw [List.length_range] at h1
 omega
theorem DV (R C : Int) (s : aj) (c : Int) : (((oD R C s c).length : Int) = 0) ↔ c ∉ ((aJ R C s).map (bn C)).flatten := by
 have : ((oD R C s c).length : Int) = 0 ↔ oD R C s c = [] := by rw [← List.length_eq_zero_iff]; omega
 rw [this]
 unfold oD
 rw [List.flatMap_eq_nil_iff]
 simp only [List.mem_range, List.mem_flatten, List.mem_map]
 constructor
 ·rintro h ⟨l, ⟨x, hx, rfl⟩, hc⟩
  obtain ⟨i, hi, rfl⟩ := List.getElem_of_mem hx
  have := h i hi
  rw [if_pos] at this
  ·cases this
  ·rw [List.getElem?_eq_getElem hi]
   show AY C c (aJ R C s)[i] = true
   exact List.any_eq_true.2 ⟨c, hc, dT rfl⟩
 ·intro h i hi
  rw [if_neg]
  rw [List.getElem?_eq_getElem hi]
  intro q
  obtain ⟨y, hy, e⟩ := List.any_eq_true.1 (show AY C c (aJ R C s)[i] = true from q)
  have := of_decide_eq_true e
  subst this
  exact h ⟨_, ⟨_, gM hi, rfl⟩, hy⟩
theorem oJ (R C : Int) (s : aj) (c : Int) : Ev (fun k => dA.f k R C s c) (oD R C s c) := by
 have hlen := (dH R C s).2.2
 have hlr : (List.range (aJ R C s).length).length = (aJ R C s).length := List.length_range
 unfold dA.f
 rw [ay (jo R C s)]
 refine mE (fun k a i => dA.l0 k c a (aJ R C s) i R C s) (List.range (aJ R C s).length) (fun (i : Nat) => if ((aJ R C s)[i]?).any (AY C c) = true then [(i : Int)] else []) 0 (fun a => ?_) (fun i hi a ha r hr => ?_)
 ·rw [← av]; simp only [dA.l0, hlr, Int.lt_irrefl, if_false]; exact aG _
 ·have hb := tC R C s c i
  have hi' : i < (aJ R C s).length := by omega
  have hm := gM hi'
  have hcl : (bn C (aJ R C s)[i]).length < 4611686018427387904 := by rw [iA]; have := ((dH R C s).1 _ hm).2.2.2.1; omega
  rw [List.getElem_range, List.getElem?_eq_getElem hi'] at hr
  rw [← av]
  simp only [dA.l0, nQ _ i hi', bH (i := i) (by omega)]
  rw [ep, ep, ay (mU _ hm), ay (Cr _ c hcl), aD]
  by_cases h : (bn C (aJ R C s)[i]).any (fun y => decide (y = c)) = true
  ·rw [if_pos (show Option.any (AY C c) (some (aJ R C s)[i]) = true from h)] at hr
   rw [if_pos h, ep]
   exact hr
  ·rw [if_neg (show ¬ Option.any (AY C c) (some (aJ R C s)[i]) = true from h), List.append_nil] at hr
   rw [if_neg h]
   exact hr
noncomputable def Ee (R C : Int) (s : aj) (c : Int) : Bool := ((oD R C s c).length : Int) == 2
noncomputable def oQ (R C : Int) (s : aj) (x : S98) : Int := (((bn C x).countP (fun c => !Ee R C s c) : Nat) : Int)
theorem qd (R C : Int) (s : aj) (c : Int) : Ev (fun k => jZ.f k R C s c) (Ee R C s c) := by
 unfold jZ.f
 rw [ay (oJ R C s c)]
 exact aG _
theorem oP (R C : Int) (s : aj) (i : Nat) (hi : i < (aJ R C s).length) : Ev (fun k => eF.f k R C s (i : Int)) (oQ R C s (aJ R C s)[i]) := by
 have hlen := (dH R C s).2.2
 have hm := gM hi
 have ok := (dH R C s).1 _ hm
 have hcl := iA C (aJ R C s)[i]
 have hok := ok.2.2.2.1
 have e : wrap64 (((aJ R C s).length : Int) - 1) = (aJ R C s).length - 1 := lD (by omega) (by omega)
 unfold eF.f
 rw [ay (jo R C s)]
 simp only [mD, Option.bind_some, e, nQ _ i hi]
 rw [ep (by simp; omega), ep, ep, ay (mU _ hm)]
 unfold oQ
 generalize bn C (aJ R C s)[i] = l at hcl
 have := iP (σ := Nat) (fun k a j => eF.l0 k l (a : Int) j R C s) l.length (fun j a => a ≤ j) (fun j a => ((a + (l.drop j).countP (fun c => !Ee R C s c) : Nat) : Int)) (fun a ha => ?_) (fun j a hj ha => ?_) 0 0 (Nat.zero_le _) (nR _)
 ·simpa using this
 ·rw [← av]
  simp only [eF.l0, List.drop_length, List.countP_nil, Nat.add_zero, Int.lt_irrefl, if_false]
  exact aG _
 ·rw [List.drop_eq_getElem_cons hj, List.countP_cons]
  have ew : wrap64 ((a : Int) + 1) = ((a + 1 : Nat) : Int) := bH (by omega)
  by_cases h : Ee R C s l[j] = true
  ·refine .inr ⟨a, by omega, by simp [h], fun r hr => ?_⟩
   rw [← av]
   simp only [eF.l0, nP l j hj, bH (i := j) (by omega), ew]
   rw [ep, ep, ay (qd R C s l[j]), ep h]
   exact hr
  ·refine .inr ⟨a + 1, by omega, by simp [h]; omega, fun r hr => ?_⟩
   rw [← av]
   simp only [eF.l0, nP l j hj, bH (i := j) (by omega), ew]
   rw [ep, ep, ay (qd R C s l[j]), en h]
   exact hr
theorem EP (R C : Int) (s : aj) (x : S98) (hx : x ∈ aJ R C s) : 0 ≤ oQ R C s x ∧ oQ R C s x ≤ 6 := by
 have ok := (dH R C s).1 _ hx
 have h1 := iA C x
 have h2 := ok.2.2.2.1
 have h3 : (bn C x).countP (fun c => !Ee R C s c) ≤ (bn C x).length := List.countP_le_length
 unfold oQ
 omega
theorem wU (R C : Int) (s : aj) (c : Int) : Ev (fun k => gy.f k R C s c) (oD R C s c) := by
 have hlen := (dH R C s).2.2
 have hlr : (List.range (aJ R C s).length).length = (aJ R C s).length := List.length_range
 have hll : ((aJ R C s).map (bn C)).length = (aJ R C s).length := List.length_map _
 unfold gy.f
 rw [ay (lM R C s)]
 refine mE (fun k a i => gy.l0 k c a ((aJ R C s).map (bn C)) (((aJ R C s).map (bn C)).length : Int) i) (List.range (aJ R C s).length) (fun (i : Nat) => if ((aJ R C s)[i]?).any (AY C c) = true then [(i : Int)] else []) 0 (fun a => ?_) (fun i hi a ha r hr => ?_)
 ·rw [← av]; simp only [gy.l0, hlr, hll, Int.lt_irrefl, if_false]; exact aG _
 ·have hb := tC R C s c i
  have hi' : i < (aJ R C s).length := by omega
  have hm := gM hi'
  have hcl : (bn C (aJ R C s)[i]).length < 4611686018427387904 := by rw [iA]; have := ((dH R C s).1 _ hm).2.2.2.1; omega
  have hL : ((aJ R C s).map (bn C))[i]'(by omega) = bn C (aJ R C s)[i] := List.getElem_map _
  rw [List.getElem_range, List.getElem?_eq_getElem hi'] at hr
  rw [← av]
  simp only [gy.l0, FD ((aJ R C s).map (bn C)) i (by omega), hL, bH (i := i) (by omega)]
  rw [ep, ep, ep, ay (Di _ c hcl), aD]
  by_cases h : (bn C (aJ R C s)[i]).any (fun y => decide (y = c)) = true
  ·rw [if_pos (show Option.any (AY C c) (some (aJ R C s)[i]) = true from h)] at hr
   rw [if_pos h, ep]
   exact hr
  ·rw [if_neg (show ¬ Option.any (AY C c) (some (aJ R C s)[i]) = true from h), List.append_nil] at hr
   rw [if_neg h]
   exact hr
theorem pW (R C : Int) (s : aj) (c : Int) : Ev (fun k => jS.f k R C s c) (Ee R C s c) := by
 unfold jS.f
 rw [ay (wU R C s c)]
 exact aG _
theorem oL (R C : Int) (s : aj) (i : Nat) (hi : i < (aJ R C s).length) : Ev (fun k => eD.f k R C s (i : Int)) (oQ R C s (aJ R C s)[i]) := by
 have hlen := (dH R C s).2.2
 have hm := gM hi
 have ok := (dH R C s).1 _ hm
 have hcl := iA C (aJ R C s)[i]
 have hok := ok.2.2.2.1
 have hll : ((aJ R C s).map (bn C)).length = (aJ R C s).length := List.length_map _
 have hL : ((aJ R C s).map (bn C))[i]'(by omega) = bn C (aJ R C s)[i] := List.getElem_map _
 unfold eD.f
 rw [ay (lM R C s)]
 simp only [at_eq, Option.bind_some, FD ((aJ R C s).map (bn C)) i (by omega), hL]
 rw [ep (by simp; omega), ep, ep]
 unfold oQ
 generalize bn C (aJ R C s)[i] = l at hcl
 have := iP (σ := Nat) (fun k a j => eD.l0 k (a : Int) l (l.length : Int) j R C s) l.length (fun j a => a ≤ j) (fun j a => ((a + (l.drop j).countP (fun c => !Ee R C s c) : Nat) : Int)) (fun a ha => ?_) (fun j a hj ha => ?_) 0 0 (Nat.zero_le _) (nR _)
 ·simpa using this
 ·rw [← av]
  simp only [eD.l0, List.drop_length, List.countP_nil, Nat.add_zero, Int.lt_irrefl, if_false]
  exact aG _
 ·rw [List.drop_eq_getElem_cons hj, List.countP_cons]
  have ew : wrap64 ((a : Int) + 1) = ((a + 1 : Nat) : Int) := bH (by omega)
  by_cases h : Ee R C s l[j] = true
  ·refine .inr ⟨a, by omega, by simp [h], fun r hr => ?_⟩
   rw [← av]
   simp only [eD.l0, nP l j hj, bH (i := j) (by omega), ew]
   rw [ep, ep, ep, ay (pW R C s l[j]), ep h]
   exact hr
  ·refine .inr ⟨a + 1, by omega, by simp [h]; omega, fun r hr => ?_⟩
   rw [← av]
   simp only [eD.l0, nP l j hj, bH (i := j) (by omega), ew]
   rw [ep, ep, ep, ay (pW R C s l[j]), en h]
   exact hr
noncomputable def FL (R C : Int) (s : aj) : Bool := (aJ R C s).any (fun x => decide (x.f3 < 3))
noncomputable def vY (R C : Int) (s : aj) : Bool := (aJ R C s).any (fun x => decide (2 * oQ R C s x > x.f3))
noncomputable def pE (R C : Int) (s : aj) (c : Nat) : Bool := decide (bt s (c : Int) = 46) && decide (((oD R C s c).length : Int) = 0)
noncomputable def sV (R C : Int) (s : aj) : Int :=
 if fD R C s = true then (if Js R C s = true then (if (tQ R C s == 1) = true then (if FL R C s = true then 4 else if (vY R C s || (List.range s.size).any (pE R C s)) = true then 5 else 0) else 3) else 2) else 1
theorem qW {R C : Int} {s : aj} (hg : fD R C s = true) (c : Nat) (hc : c < s.size) : Ev (fun k => lC.f k R C s (c : Int)) (bt s (c : Int) == 46) := by
 have := gB hg
 have e : wrap64 ((s.size : Int) - 1) = s.size - 1 := lD (by omega) (by omega)
 unfold lC.f
 rw [ay (iW R C s), ep hg]
 simp only [mD, Option.bind_some, e]
 rw [ep (by simp; omega), ep, ep]
 exact aG _
theorem wF (R C : Int) (s : aj) : Ev (fun k => fT.f k R C s) (FL R C s) := by
 have hlen := (dH R C s).2.2
 unfold fT.f
 rw [ay (jo R C s)]
 refine qy (fun k i => fT.l0 k (aJ R C s) i) (aJ R C s) (fun x => decide (x.f3 < 3)) ?_ (fun i hi hp r hr => ?_) (fun i hi hp => ?_)
 ·rw [← av]; simp [fT.l0, aG]
 ·rw [← av]
  simp only [fT.l0, nQ _ i hi, bH (i := i) (by omega)]
  rw [ep, ep, en (of_decide_eq_false hp)]
  exact hr
 ·rw [← av]
  simp only [fT.l0, nQ _ i hi]
  rw [ep, ep, ep (of_decide_eq_true hp)]
  exact aG _
theorem wE {R C : Int} {s : aj} (hg : fD R C s = true) : Ev (fun k => bK.l1 k 0 R C s) ((List.range s.size).any (pE R C s)) := by
 have hsz := gB hg
 have hlr : (List.range s.size).length = s.size := List.length_range
 refine qy (fun k i => bK.l1 k i R C s) (List.range s.size) (pE R C s) ?_ (fun i hi hp r hr => ?_) (fun i hi hp => ?_)
 ·rw [← av]; simp [bK.l1, aG]
 ·have hi' : i < s.size := by omega
  rw [List.getElem_range] at hp
  rw [← av]
  simp only [bK.l1, bH (i := i) (by omega)]
  rw [ep, ay (qW hg i hi'), aD]
  unfold pE at hp
  by_cases h : bt s (i : Int) = 46
  ·rw [if_pos (by rw [h]; rfl), ay (oJ R C s i), aD, if_neg]
   ·exact hr
   ·simpa [h] using hp
  ·rw [if_neg (by simpa using h)]
   exact hr
 ·have hi' : i < s.size := by omega
  rw [List.getElem_range] at hp
  rw [← av]
  simp only [bK.l1, bH (i := i) (by omega)]
  unfold pE at hp
  rw [Bool.and_eq_true, decide_eq_true_eq, decide_eq_true_eq] at hp
  rw [ep, ay (qW hg i hi'), ep (by rw [hp.1]; rfl), ay (oJ R C s i), ep hp.2]
  exact aG _
theorem AL {α : Type} (l : List α) (p : α → Bool) (i : Nat) (h : i < l.length) : (l.drop i).any p = (p l[i] || (l.drop (i + 1)).any p) := by rw [List.drop_eq_getElem_cons h, List.any_cons]
theorem Iy {α : Type} (l : List α) (p : α → Bool) (i : Nat) (h : i < l.length) : (l.drop i).all p = (p l[i] && (l.drop (i + 1)).all p) := by rw [List.drop_eq_getElem_cons h, List.all_cons]
theorem wD {R C : Int} {s : aj} (hg : fD R C s = true) : Ev (fun k => bK.f k R C s) (vY R C s || (List.range s.size).any (pE R C s)) := by
 have hlen := (dH R C s).2.2
 unfold bK.f
 rw [ay (jo R C s)]
 have := mP (fun k i => bK.l0 k (aJ R C s) i R C s) (aJ R C s).length (fun i => ((aJ R C s).drop i).any (fun x => decide (2 * oQ R C s x > x.f3)) || (List.range s.size).any (pE R C s)) ?_ (fun i hi => ?_) 0 (Nat.zero_le _)
 ·simpa [vY] using this
 ·rw [← av]
  simp only [bK.l0, Int.lt_irrefl, if_false, List.drop_length, List.any_nil, Bool.false_or]
  exact wE hg
 ·have hu := EP R C s _ (gM hi)
  have e2 : wrap64 (2 * oQ R C s (aJ R C s)[i]) = 2 * oQ R C s (aJ R C s)[i] := lD (by omega) (by omega)
  rw [AL _ _ _ hi]
  by_cases h : 2 * oQ R C s (aJ R C s)[i] > (aJ R C s)[i].f3
  ·refine .inl ?_
   rw [← av]
   simp only [bK.l0, nQ _ i hi]
   rw [ep, ay (oP R C s i hi), ep, ep (by rw [e2]; exact h)]
   exact gI (aG _) (by simp [h])
  ·refine .inr ⟨by simp [h], fun r hr => ?_⟩
   rw [← av]
   simp only [bK.l0, nQ _ i hi, bH (i := i) (by omega)]
   rw [ep, ay (oP R C s i hi), ep, en (by rw [e2]; exact h)]
   exact hr
theorem BF (R C : Int) (s : aj) (hs : s.size < 140737488355328) : Ev (fun k => lX.f k R C s) (sV R C s) := by
 unfold lX.f sV
 rw [ay (iW R C s), aD]
 split
 ·rename_i hg
  rw [ay (sN R C s), aD]
  split
  ·have hcon : Ev (fun k => jy.f k R C s) (tQ R C s == 1) := by
    unfold jy.f
    rw [ay (Ac R C s hs)]
    exact aG _
   rw [ay hcon, aD]
   split
   ·rw [ay (wF R C s), aD]
    split
    ·exact aG _
    ·rw [ay (wD hg), aD]
     split <;> exact aG _
   ·exact aG _
  ·exact aG _
 ·exact aG _
theorem Cb {R C : Int} {s : aj} (hg : fD R C s = true) : Ev (fun k => nW.f k R C s s) ((List.range s.size).any (pE R C s)) := by
 have hsz := gB hg
 obtain ⟨good, _, hlen⟩ := dH R C s
 have hlr : (List.range s.size).length = s.size := List.length_range
 have hcl : ∀ l ∈ (aJ R C s).map (bn C), l.length ≤ 6 := by
  intro l hl
  obtain ⟨x, hx, rfl⟩ := List.mem_map.1 hl
  rw [iA]
  have := (good x hx).2.2.2.1
  omega
 have hfl : ((aJ R C s).map (bn C)).flatten.length ≤ 6 * 72 := by
  have h1 := AV (fun l : List Int => l) 6 ((aJ R C s).map (bn C)) hcl
  rw [List.length_map] at h1
  rw [List.flatMap_id'] at h1
  have : 6 * (aJ R C s).length ≤ 6 * 72 := Nat.mul_le_mul_left 6 hlen
  omega
 have hcells : ∀ c ∈ ((aJ R C s).map (bn C)).flatten, 0 ≤ c ∧ c < 1000000 := by
  intro c hc
  obtain ⟨l, hl, hcl⟩ := List.mem_flatten.1 hc
  obtain ⟨x, hx, rfl⟩ := List.mem_map.1 hl
  have := mY (good x hx) c hcl
  omega
 unfold nW.f
 rw [ay (lM R C s)]
 unfold HandAlone.Db
 rw [aD, if_pos ⟨by omega, by omega, by rw [List.length_map]; omega, hcells⟩]
 have hnil := fun c : Nat => DV R C s (c : Int)
 generalize ((aJ R C s).map (bn C)).flatten = S at hnil
 refine qy (fun k i => HandAlone.pq fC.f S s s k i) (List.range s.size) (pE R C s) ?_ (fun i hi hp r hr => ?_) (fun i hi hp => ?_)
 ·rw [← av]; simp [HandAlone.pq, aG]
 ·rw [List.getElem_range] at hp
  rw [← av]
  simp only [HandAlone.pq]
  unfold pE at hp
  rw [ep, aD]
  by_cases h : bt s (i : Int) = 46
  ·rw [if_pos h, aD, if_pos]
   ·exact hr
   ·rw [h, dT rfl, Bool.true_and, decide_eq_false_iff_not, hnil] at hp
    exact Classical.byContradiction hp
  ·rw [if_neg h]
   exact hr
 ·rw [List.getElem_range] at hp
  unfold pE at hp
  rw [Bool.and_eq_true, decide_eq_true_eq, decide_eq_true_eq, hnil] at hp
  rw [← av]
  simp only [HandAlone.pq]
  rw [ep, ep hp.1, en hp.2, ep]
  simp only [ni, hp.1, Option.bind_some]
  exact gI (aG _) rfl
theorem Bb {R C : Int} {s : aj} (hg : fD R C s = true) : Ev (fun k => dY.l1 k (aJ R C s) ((aJ R C s).length : Int) 0 R C s) (if (vY R C s || (List.range s.size).any (pE R C s)) = true then 5 else 0) := by
 have hlen := (dH R C s).2.2
 have := mP (fun k i => dY.l1 k (aJ R C s) ((aJ R C s).length : Int) i R C s) (aJ R C s).length (fun i => if (((aJ R C s).drop i).any (fun x => decide (2 * oQ R C s x > x.f3)) || (List.range s.size).any (pE R C s)) = true then (5 : Int) else 0) ?_ (fun i hi => ?_) 0 (Nat.zero_le _)
 ·exact this
 ·rw [← av]
  simp only [dY.l1, Int.lt_irrefl, if_false, List.drop_length, List.any_nil, Bool.false_or]
  rw [ay (Cb hg), aD]
  split <;> exact aG _
 ·have hu := EP R C s _ (gM hi)
  have e2 : wrap64 (2 * oQ R C s (aJ R C s)[i]) = 2 * oQ R C s (aJ R C s)[i] := lD (by omega) (by omega)
  rw [AL _ _ _ hi]
  by_cases h : 2 * oQ R C s (aJ R C s)[i] > (aJ R C s)[i].f3
  ·refine .inl ?_
   rw [← av]
   simp only [dY.l1, nQ _ i hi]
   rw [ep, ep, ep, ay (oL R C s i hi), ep (by rw [e2]; exact h)]
   exact gI (aG _) (by simp [h])
  ·refine .inr ⟨by simp [h], fun r hr => ?_⟩
   rw [← av]
   simp only [dY.l1, nQ _ i hi, bH (i := i) (by omega)]
   rw [ep, ep, ep, ay (oL R C s i hi), en (by rw [e2]; exact h)]
   exact hr
theorem Ba {R C : Int} {s : aj} (hg : fD R C s = true) : Ev (fun k => dY.l0 k (aJ R C s) (aJ R C s) ((aJ R C s).length : Int) 0 R C s) (if FL R C s = true then 4 else if (vY R C s || (List.range s.size).any (pE R C s)) = true then 5 else 0) := by
 have hlen := (dH R C s).2.2
 have := mP (fun k i => dY.l0 k (aJ R C s) (aJ R C s) ((aJ R C s).length : Int) i R C s) (aJ R C s).length (fun i => if ((aJ R C s).drop i).any (fun x => decide (x.f3 < 3)) = true then (4 : Int) else if (vY R C s || (List.range s.size).any (pE R C s)) = true then 5 else 0) ?_ (fun i hi => ?_) 0 (Nat.zero_le _)
 ·exact this
 ·rw [← av]
  simp only [dY.l0, Int.lt_irrefl, if_false, List.drop_length, List.any_nil, Bool.false_eq_true]
  exact Bb hg
 ·rw [AL _ _ _ hi]
  by_cases h : (aJ R C s)[i].f3 < 3
  ·refine .inl ?_
   rw [← av]
   simp only [dY.l0, nQ _ i hi]
   rw [ep, ep, ep, ep h]
   exact gI (aG _) (by simp [h])
  ·refine .inr ⟨by simp [h], fun r hr => ?_⟩
   rw [← av]
   simp only [dY.l0, nQ _ i hi, bH (i := i) (by omega)]
   rw [ep, ep, ep, en h]
   exact hr
theorem AZ (R C : Int) (s : aj) : Ev (fun k => dY.f k R C s) (sV R C s) := by
 unfold dY.f sV
 rw [ay (jT R C s), aD]
 split
 ·rename_i hg
  rw [ay (sG R C s), aD]
  split
  ·have hcon : Ev (fun k => jr.f k R C s) (tQ R C s == 1) := by
    unfold jr.f
    rw [ay (wT R C s)]
    exact aG _
   rw [ay hcon, aD]
   split
   ·rw [ay (oG R C s)]
    exact Ba hg
   ·exact aG _
  ·exact aG _
 ·exact aG _
noncomputable def oZ (R C : Int) (s : aj) (l : List S75) (q : List Int) (e : Int) : Bool :=
 decide (sV R C s = 0) && (decide ((l.length : Int) = ((aJ R C s).length : Int)) && (decide ((q.length : Int) = ((aJ R C s).length : Int)) && (decide (1 ≤ e ∧ e ≤ 9999) && l.all (fun x => mq x.f0 x.f1))))
theorem tq {R C : Int} {s : aj} {l : List S75} {q : List Int} {e : Int} (h : oZ R C s l q e = true) : sV R C s = 0 ∧ l.length = (aJ R C s).length ∧ q.length = (aJ R C s).length ∧ (1 ≤ e ∧ e ≤ 9999) ∧ ∀ x ∈ l, mq x.f0 x.f1 = true := by
 unfold oZ at h
 simp only [Bool.and_eq_true, decide_eq_true_eq, List.all_eq_true] at h
 exact ⟨h.1, by have := h.2.1; omega, by have := h.2.2.1; omega, h.2.2.2.1, h.2.2.2.2⟩
theorem qD (R C : Int) (s : aj) (l : List S75) (q : List Int) (e : Int) (hs : s.size < 140737488355328) (hl : l.length < 4611686018427387904) (hx : ∀ x ∈ l, x.f1.length < 4611686018427387904) : Ev (fun k => eX.f k R C s l q e) (oZ R C s l q e) := by
 unfold eX.f
 have key : ∀ b : Bool, b = l.all (fun x => mq x.f0 x.f1) → Ev (fun k => eX.f k R C s l q e) (if b = true then (decide (sV R C s = 0) && (decide ((l.length : Int) = ((aJ R C s).length : Int)) && (decide ((q.length : Int) = ((aJ R C s).length : Int)) && decide (1 ≤ e ∧ e ≤ 9999)))) else false) := by
  intro b hb
  subst hb
  unfold eX.f
  have := mP (fun k i => eX.l0 k i R C s l q e) l.length (fun i => if (l.drop i).all (fun x => mq x.f0 x.f1) = true then (decide (sV R C s = 0) && (decide ((l.length : Int) = ((aJ R C s).length : Int)) && (decide ((q.length : Int) = ((aJ R C s).length : Int)) && decide (1 ≤ e ∧ e ≤ 9999)))) else false) ?_ (fun i hi => ?_) 0 (Nat.zero_le _)
  ·exact this
  ·rw [← av]
   simp only [eX.l0, Int.lt_irrefl, if_false, List.drop_length, List.all_nil, if_true, mD, Option.bind_some]
   rw [ay (jo R C s), ay (BF R C s hs), aD]
   by_cases h1 : sV R C s = 0
   ·rw [if_pos h1, aD]
    by_cases h2 : (l.length : Int) = ((aJ R C s).length : Int)
    ·rw [if_pos h2, aD]
     by_cases h3 : (q.length : Int) = ((aJ R C s).length : Int)
     ·rw [if_pos h3]
      exact gI (aG _) (by rw [decide_eq_true h1, dT h2, dT h3]; rfl)
     ·rw [if_neg h3]
      exact gI (aG _) (by rw [decide_eq_false h3, Bool.false_and, Bool.and_false, Bool.and_false])
    ·rw [if_neg h2]
     exact gI (aG _) (by rw [decide_eq_false h2, Bool.false_and, Bool.and_false])
   ·rw [if_neg h1]
    exact gI (aG _) (by rw [decide_eq_false h1, Bool.false_and])
  ·have hc := BH l[i].f0 l[i].f1 (hx _ (gM hi))
   rw [Iy _ _ _ hi]
   by_cases h : mq l[i].f0 l[i].f1 = true
   ·refine .inr ⟨by simp only [h, Bool.true_and], fun r hr => ?_⟩
    rw [← av]
    simp only [eX.l0, tT _ i hi, bH (i := i) (by omega)]
    rw [ep, ep, ay hc, ep h]
    exact hr
   ·refine .inl ?_
    rw [← av]
    simp only [eX.l0, tT _ i hi]
    rw [ep, ep, ay hc, en h]
    exact gI (aG _) (by simp only [h, Bool.false_and, Bool.false_eq_true, if_false])
 refine gI (key _ rfl) ?_
 unfold oZ
 cases l.all (fun x => mq x.f0 x.f1) <;> simp
theorem EB (l : List S75) (x : aj) (hl : l.length < 4611686018427387904) (hx : ∀ x ∈ l, x.f1.length < 4611686018427387904) : Ev (fun k => lq.f k l x) (l.any (fun x => !mq x.f0 x.f1)) := by
 have hi : Ev (fun k => gU.f k l x) (match l.findIdx? (fun x => !mq x.f0 x.f1) with | some i => (i : Int) | none => -1) := by
  have h1 : ∀ i (hi : i < l.length), Ev (fun k => jH.f k l[i].f0 l[i].f1) (!mq l[i].f0 l[i].f1) := by
   intro i hi
   unfold jH.f
   rw [ay (Bd _ _ (hx _ (gM hi)))]
   exact aG _
  refine qA (fun k i => gU.l0 k l (l.length : Int) i) l _ ?_ (fun i hi hp r hr => ?_) (fun i hi hp => ?_)
  ·rw [← av]; simp [gU.l0, aG]
  ·rw [← av]
   simp only [gU.l0, tT _ i hi, bH (i := i) (by omega)]
   rw [ep, ep, ep, ay (h1 i hi), en (by rw [hp]; exact Bool.false_ne_true)]
   exact hr
  ·rw [← av]
   simp only [gU.l0, tT _ i hi]
   rw [ep, ep, ep, ay (h1 i hi), ep hp]
   exact aG _
 unfold lq.f
 rw [ay hi, En]
 exact aG _
theorem qx (R C : Int) (s : aj) (l : List S75) (q : List Int) (e : Int) (hl : l.length < 4611686018427387904) (hx : ∀ x ∈ l, x.f1.length < 4611686018427387904) : Ev (fun k => jB.f k R C s l q e) (oZ R C s l q e) := by
 unfold jB.f oZ
 rw [ay (AZ R C s), aD]
 by_cases h1 : sV R C s = 0
 ·rw [if_pos h1, ay (oG R C s), aD, dT h1, Bool.true_and]
  by_cases h2 : (l.length : Int) = ((aJ R C s).length : Int)
  ·rw [if_pos h2, aD, dT h2, Bool.true_and]
   by_cases h3 : (q.length : Int) = ((aJ R C s).length : Int)
   ·rw [if_pos h3, dT h3, Bool.true_and]
    simp only [lJ, Option.bind_some]
    rw [aD]
    by_cases h4 : 1 ≤ e ∧ e ≤ 9999
    ·rw [if_pos (by simpa using h4), ay (EB l _ hl hx), dT h4, Bool.true_and]
     exact gI (aG _) (by rw [List.not_any_eq_all_not]; simp)
    ·rw [if_neg (by simpa using h4), dF h4, Bool.false_and]
     exact aG _
   ·rw [if_neg h3, dF h3, Bool.false_and]
    exact aG _
  ·rw [if_neg h2, dF h2, Bool.false_and]
   exact aG _
 ·rw [if_neg h1, dF h1, Bool.false_and]
  exact aG _
def Bn (l : List Int) : Prop := ∀ c ∈ l, 0 ≤ c ∧ c ≤ 255
theorem jG (l : List Int) (h : Bn l) : bytesOf (strOfNums l) = l := by
 unfold bytesOf
 rw [strOfNums_data, List.map_map]
 have : ∀ c ∈ l, ((fun c : UInt8 => (c.toNat : Int)) ∘ fun n : Int => UInt8.ofNat n.toNat) c = c := by
  intro c hc
  have := h c hc
  simp only [Function.comp_apply, UInt8.toNat_ofNat']
  omega
 conv => rhs; rw [← List.map_id l]
 exact List.map_congr_left (fun c hc => by rw [this c hc]; rfl)
theorem qg (s : aj) : strOfNums (bytesOf s) = s := bytes_inj (jG _ (ou s))
theorem uj (s : aj) (j : Nat) : bt s (j : Int) = (bytesOf s).getD j 0 := by rw [← Bt]; rfl
def wW : List Int → List Int → List Int → List Int
 | b, c :: cs, x :: xs => wW (b.set c.toNat x) cs xs
 | b, _, _ => b
def Grow (b b' : List Int) : Prop := b'.length = b.length ∧ ∀ j : Nat, b'.getD j 0 = b.getD j 0 ∨ (b.getD j 0 = 63 ∧ 97 ≤ b'.getD j 0 ∧ b'.getD j 0 ≤ 122)
theorem Grow.refl (b : List Int) : Grow b b := ⟨rfl, fun _ => .inl rfl⟩
theorem Grow.trans {a b c : List Int} (h1 : Grow a b) (h2 : Grow b c) : Grow a c := by
 refine ⟨h2.1.trans h1.1, fun j => ?_⟩
 have q1 := h1.2 j
 have q2 := h2.2 j
 omega
theorem CF (l : List Int) (i j : Nat) (x : Int) : (l.set i x).getD j 0 = if j = i ∧ i < l.length then x else l.getD j 0 := by
 simp only [List.getD_eq_getElem?_getD, List.getElem?_set]
 by_cases h : j = i
 ·subst h
  by_cases h2 : j < l.length
  ·simp [h2]
  ·rw [if_pos rfl, if_neg h2, if_neg (fun q => h2 q.2), List.getElem?_eq_none (by omega)]
 ·rw [if_neg (by omega), if_neg (fun q => h q.1)]
theorem IG (b : List Int) (c : Nat) (x : Int) (h : b.getD c 0 = 63 ∨ b.getD c 0 = x) (hx : 97 ≤ x ∧ x ≤ 122) : Grow b (b.set c x) := by
 refine ⟨List.length_set, fun j => ?_⟩
 rw [CF]
 split
 ·rename_i q
  rw [q.1]
  omega
 ·exact .inl rfl
theorem CP : ∀ (cs b xs : List Int), (cs.map Int.toNat).Nodup → (∀ i : Nat, i < cs.length → i < xs.length → b.getD (cs.getD i 0).toNat 0 = 63 ∨ b.getD (cs.getD i 0).toNat 0 = xs.getD i 0) → (∀ x ∈ xs, 97 ≤ x ∧ x ≤ 122) → Grow b (wW b cs xs)
 | [], b, xs, _, _, _ => by cases xs <;> exact Grow.refl _
 | c :: cs, b, [], _, _, _ => Grow.refl _
 | c :: cs, b, x :: xs, hn, h, hx => by
  rw [List.map_cons, List.nodup_cons] at hn
  have h0 := h 0 (by simp) (by simp)
  simp only [List.getD_cons_zero] at h0
  refine (IG b c.toNat x h0 (hx x List.mem_cons_self)).trans (CP cs _ xs hn.2 (fun i hi hj => ?_) (fun y hy => hx y (List.mem_cons_of_mem _ hy)))
  have h1 := h (i + 1) (by simpa using hi) (by simpa using hj)
  simp only [List.getD_cons_succ] at h1
  rw [CF, if_neg]
  ·exact h1
  ·rintro ⟨q, _⟩
   refine hn.1 (List.mem_map.2 ⟨cs.getD i 0, ?_, q⟩)
   rw [List.getD_eq_getElem?_getD, List.getElem?_eq_getElem hi]
   exact gM hi
theorem JZ (cs b xs : List Int) (hb : Bn b) (hx : Bn xs) : Bn (wW b cs xs) := by
 induction cs generalizing b xs with
 | nil => cases xs <;> exact hb
 | cons c cs ih =>
  cases xs with
  | nil => exact hb
  | cons x xs =>
   refine ih _ _ (fun y hy => ?_) (fun y hy => hx y (List.mem_cons_of_mem _ hy))
   rcases List.mem_or_eq_of_mem_set hy with h | h
   ·exact hb y h
   ·rw [h]; exact hx x List.mem_cons_self
def ED (f : aj) (cs : List Int) (w : aj) : aj := strOfNums (wW (bytesOf f) cs (bytesOf w))
theorem FC (f : aj) (cs : List Int) (w : aj) : bytesOf (ED f cs w) = wW (bytesOf f) cs (bytesOf w) := jG _ (JZ _ _ _ (ou f) (ou w))
theorem Df {C : Int} {s : aj} (hC : 2 ≤ C ∧ C ≤ 6) {x : S98} (ok : Jo C s x) : ((bn C x).map Int.toNat).Nodup := by
 have hst := wH hC x
 unfold bn
 rw [List.map_map]
 have hp := List.pairwise_map (f := Int.toNat ∘ fun j : Nat => x.f2 + (j : Int) * stepOf C x) (R := fun a b => a ≠ b) (l := List.range x.f3.toNat)
 refine hp.2 ?_
 refine List.Pairwise.imp_of_mem ?_ List.nodup_range
 intro a b ha hb hab
 have h0 := ok.1
 have ha' := ok.2.2.2.2 a (by omega) (by have := List.mem_range.1 ha; omega)
 have hb' := ok.2.2.2.2 b (by omega) (by have := List.mem_range.1 hb; omega)
 intro q
 simp only [Function.comp_apply] at q
 have e : (a : Int) * stepOf C x = (b : Int) * stepOf C x := by omega
 have := Int.eq_of_mul_eq_mul_right (by omega) e
 omega
theorem wV {w : aj} (h : iw w = true) : ∀ c ∈ bytesOf w, 97 ≤ c ∧ c ≤ 122 := by
 intro c hc
 unfold iw at h
 rw [Bool.and_eq_true, List.all_eq_true] at h
 have := h.2 c hc
 simpa [lH] using this
theorem qJ {p w : aj} (h : ji p w = true) : iw w = true ∧ p.size = w.size ∧ ∀ i : Nat, i < p.size → bt p (i : Int) = 63 ∨ bt p (i : Int) = bt w (i : Int) := by
 unfold ji at h
 split at h
 ·split at h
  ·split at h
   ·rename_i h1 h2 h3
    refine ⟨h2, h3, fun i hi => ?_⟩
    have := List.all_eq_true.1 h i (List.mem_range.2 hi)
    simpa using this
   ·cases h
  ·cases h
 ·cases h
theorem Gq {f : aj} {l : List Int} (i : Nat) (hi : i < l.length) : bt (kL f l) (i : Int) = bt f l[i] := by
 rw [uj, kL, jG]
 ·simp [List.getD_eq_getElem?_getD, hi]
 ·intro c hc
  obtain ⟨z, _, rfl⟩ := List.mem_map.1 hc
  exact Ed f z
theorem Br {R C : Int} {s f w : aj} (hf : iI R C s f = true) {x : S98} (hx : x ∈ aJ R C s) (h : ji (kL f (bn C x)) w = true) : Grow (bytesOf f) (bytesOf (ED f (bn C x) w)) := by
 obtain ⟨hg, hfs, _⟩ := kG hf
 obtain ⟨h1, h2, h3⟩ := qJ h
 have ok := (dH R C s).1 x hx
 rw [FC]
 refine CP _ _ _ (Df (jk hg).2.1 ok) (fun i hi hj => ?_) (wV h1)
 have h4 := h3 i (by rw [nC]; exact hi)
 rw [Gq i hi] at h4
 have hc := mY ok _ (gM hi)
 have e1 : (bn C x).getD i 0 = (bn C x)[i] := by simp [List.getD_eq_getElem?_getD, List.getElem?_eq_getElem hi]
 have e2 : bt f (bn C x)[i] = (bytesOf f).getD ((bn C x)[i]).toNat 0 := by
  rw [← uj]
  congr 1
  omega
 rw [e1, ← e2, ← uj]
 exact h4
theorem Gi {f f' : aj} (h : Grow (bytesOf f) (bytesOf f')) (j : Nat) : bt f' (j : Int) = bt f (j : Int) ∨ (bt f (j : Int) = 63 ∧ 97 ≤ bt f' (j : Int) ∧ bt f' (j : Int) ≤ 122) := by
 rw [uj, uj]
 exact h.2 j
theorem GQ {f f' : aj} (h : Grow (bytesOf f) (bytesOf f')) : f'.size = f.size := by
 have := h.1
 rw [bytesOf_length, bytesOf_length] at this
 exact this
theorem vQ {R C : Int} {s f f' : aj} (hf : iI R C s f = true) (h : Grow (bytesOf f) (bytesOf f')) : iI R C s f' = true := by
 obtain ⟨hg, hfs, ha⟩ := kG hf
 have hs := GQ h
 unfold iI
 rw [hg, Bool.true_and, Bool.and_eq_true, List.all_eq_true]
 refine ⟨dT (by omega), fun i hi => ?_⟩
 have hi' := List.mem_range.1 hi
 have q := ha i (by omega)
 have g := Gi h i
 unfold oF at q ⊢
 have q' := of_decide_eq_true q
 refine dT ?_
 omega
theorem rD (l : List Int) : (strOfNums l).data.toList = l.map fun n => UInt8.ofNat n.toNat := rfl
theorem Fh (f : aj) : (bytesOf f).map (fun n => UInt8.ofNat n.toNat) = f.data.toList := by
 have := congrArg (fun s : aj => s.data.toList) (qg f)
 exact this
theorem JG (f : aj) (c : Nat) (hc : c < f.size) (b : Int) : (f.extract 0 c ++ strOfNums [b]) ++ f.extract (c + 1) f.size = strOfNums ((bytesOf f).set c b) := by
 have hd : c < f.data.toList.length := by rw [Array.length_toList]; exact hc
 have hsz : f.data.size = f.data.toList.length := (Array.length_toList).symm
 have hsz2 : f.size = f.data.toList.length := hsz
 refine ByteArray.ext (Array.toList_inj.1 ?_)
 rw [rD, List.map_set, Fh, ByteArray.data_append, ByteArray.data_append, Array.toList_append, Array.toList_append, ByteArray.data_extract, ByteArray.data_extract, Array.toList_extract, Array.toList_extract, rD,
  List.extract_eq_drop_take', List.extract_eq_drop_take', List.set_eq_take_append_cons_drop, if_pos hd, hsz2, List.take_length, List.drop_zero]
 simp
theorem Dv (w : aj) (cs : List Int) (hw : cs.length ≤ w.size) (hw2 : w.size ≤ 1000) (f : aj) (hf : f.size ≤ 1000) (hcs : ∀ c ∈ cs, 0 ≤ c ∧ c < f.size) : Ev (fun k => bV.l0 k f w cs 0) (ED f cs w, true) := by
 have := iP (σ := aj) (fun k a j => bV.l0 k a w cs j) cs.length (fun j a => a.size = f.size) (fun j a => (strOfNums (wW (bytesOf a) (cs.drop j) ((bytesOf w).drop j)), true)) (fun a ha => ?_) (fun j a hj ha => ?_) 0 f (Nat.zero_le _) rfl
 ·exact this
 ·rw [← av]
  simp only [bV.l0, Int.lt_irrefl, if_false, List.drop_length]
  refine gI (aG _) ?_
  rw [show wW (bytesOf a) [] ((bytesOf w).drop cs.length) = bytesOf a by cases (bytesOf w).drop cs.length <;> rfl, qg]
 ·have hjw : j < (bytesOf w).length := by rw [bytesOf_length]; omega
  have hc := hcs _ (gM hj)
  obtain ⟨c, hcn⟩ := Int.eq_ofNat_of_zero_le hc.1
  have hca : c < a.size := by omega
  have hok : Bn ((bytesOf a).set c (bytesOf w)[j]) := by
   intro y hy
   rcases List.mem_or_eq_of_mem_set hy with h | h
   ·exact ou a y h
   ·rw [h]; exact ou w _ (gM hjw)
  have hset := JG a c hca (bytesOf w)[j]
  have hx1 := AQ w j (by omega)
  have ew : wrap64 ((c : Int) + 1) = ((c + 1 : Nat) : Int) := bH (by omega)
  have hz1 : (a.extract 0 c).size = c := by rw [ByteArray.size_extract]; omega
  have hz2 : (strOfNums [(bytesOf w)[j]]).size = 1 := by rw [strOfNums_size]; rfl
  have hz3 : (a.extract 0 c ++ strOfNums [(bytesOf w)[j]]).size = c + 1 := by rw [ByteArray.size_append, hz1, hz2]
  have hz4 : (a.extract (c + 1) a.size).size ≤ 1000 := by rw [ByteArray.size_extract]; omega
  refine .inr ⟨strOfNums ((bytesOf a).set c (bytesOf w)[j]), ?_, ?_, fun r hr => ?_⟩
  ·rw [strOfNums_size, List.length_set, bytesOf_length, ha]
  ·rw [jG _ hok, List.drop_eq_getElem_cons hj, List.drop_eq_getElem_cons hjw, wW, hcn, Int.toNat_natCast]
  ·rw [← av]
   simp only [bV.l0, nP cs j hj, hcn, bH (i := j) (by omega), ew, Int.toNat_natCast, hx1]
   rw [ep, ep, ep, ep, ep, ep, ep, ep, ep, ep, hset]
   exact hr
def KX (C : Int) (f : aj) (x : S98) (w : aj) : aj × Bool := if ji (kL f (bn C x)) w = true then (ED f (bn C x) w, true) else (f, false)
theorem AU {C : Int} {f w : aj} {x : S98} (h : ji (kL f (bn C x)) w = true) : (bn C x).length = w.size ∧ w.size ≤ 8 := by
 obtain ⟨h1, h2, _⟩ := qJ h
 rw [nC] at h2
 have := gV h1
 omega
theorem Ae {R C : Int} {s f : aj} (hf : iI R C s f = true) (i : Nat) (hi : i < (aJ R C s).length) (w : aj) : Ev (fun k => bV.f k R C s f (i : Int) w) (KX C f (aJ R C s)[i] w) := by
 have hm := gM hi
 obtain ⟨hg, hfs, _⟩ := kG hf
 have hsz := gB hg
 unfold bV.f KX
 rw [ay (oN hf i hi), ay (oM _ w), aD]
 split
 ·rename_i h
  obtain ⟨z1, z2⟩ := AU h
  simp only [ay (jo R C s), nQ _ i hi]
  rw [ep, ep, ay (mU _ hm)]
  exact Dv w _ (by omega) (by omega) f (by omega) (fun c hc => by have := mY ((dH R C s).1 _ hm) c hc; omega)
 ·exact aG _
theorem Jw (l : List Int) (wd : aj) (d : Array Int) (hl : l.length ≤ wd.size) : ∀ i, i ≤ l.length → wW (HandPut.wrA l wd d i).toList (l.drop i) ((bytesOf wd).drop i) = wW d.toList l (bytesOf wd) := by
 intro i
 induction i with
 | zero => intro _; rfl
 | succ i ih =>
  intro hi
  have hil : i < l.length := by omega
  have hiw : i < (bytesOf wd).length := by rw [bytesOf_length]; omega
  rw [← ih (by omega), List.drop_eq_getElem_cons hil, List.drop_eq_getElem_cons hiw, wW, HandPut.wrA, Array.toList_setIfInBounds, nP l i hil, mI wd i (by omega)]
theorem tN (f w : aj) (cs : List Int) (hf : f.size ≤ 1000) (hw : cs.length ≤ w.size) (hw2 : w.size ≤ 1000) (hcs : ∀ c ∈ cs, 0 ≤ c ∧ c < f.size) : jI.f f cs w = some (ED f cs w) := by
 have := Jw cs w (HandSort.nums f).toArray hw cs.length (nR _)
 rw [List.drop_length] at this
 have e : wW (HandPut.wrA cs w (HandSort.nums f).toArray cs.length).toList [] ((bytesOf w).drop cs.length) = (HandPut.wrA cs w (HandSort.nums f).toArray cs.length).toList := by cases (bytesOf w).drop cs.length <;> rfl
 rw [e] at this
 unfold jI.f ED
 rw [if_pos ⟨hf, hw, hw2, hcs⟩, this]
 rfl
theorem evP {α : Type} {c : Prop} [Decidable c] {f g : Nat → Option α} {r : α} (h : c) : Ev (fun k => if c then f k else g k) r ↔ Ev f r := by rw [ep h]
theorem evN {α : Type} {c : Prop} [Decidable c] {f g : Nat → Option α} {r : α} (h : ¬ c) : Ev (fun k => if c then f k else g k) r ↔ Ev g r := by rw [en h]
def nJ (R C : Int) (s : aj) : aj := if fD R C s = true then strOfNums ((bytesOf s).map (fun c => if c = 35 then 35 else 63)) else (⟨#[]⟩ : aj)
theorem Dl {R C : Int} {s : aj} (h : fD R C s = true) : bytesOf (nJ R C s) = (bytesOf s).map (fun c => if c = 35 then 35 else 63) := by
 unfold nJ
 rw [if_pos h]
 refine jG _ ?_
 intro c hc
 obtain ⟨x, _, rfl⟩ := List.mem_map.mp hc
 split <;> omega
theorem Kg (a b : List Int) : strOfNums (a ++ b) = strOfNums a ++ strOfNums b := by
 apply ByteArray.ext
 rw [ByteArray.data_append]
 apply Array.ext'
 rw [Array.toList_append]
 show List.map (fun n : Int => UInt8.ofNat n.toNat) (a ++ b) = List.map (fun n : Int => UInt8.ofNat n.toNat) a ++ List.map (fun n : Int => UInt8.ofNat n.toNat) b
 exact List.map_append
theorem uQ (R C : Int) (s : aj) : Ev (fun k => cB.f k R C s) (nJ R C s) := by
 unfold cB.f
 have hg := iW R C s
 have hstop : ∀ (t : aj) (i : Int), Ev (fun k => cB.j1 k t i false R C s) t := by
  intro t i
  rw [← av]
  simp only [cB.j1, Bool.false_eq_true, if_false]
  exact aG _
 by_cases hp : fD R C s = true
 ·have hsz := gB hp
  rw [hp] at hg
  have e0 : nJ R C s = strOfNums ((bytesOf s).map (fun c => if c = 35 then 35 else 63)) := by unfold nJ; rw [if_pos hp]
  have key := iP (σ := aj) (fun k t i => cB.l0 k t i R C s) s.size (fun i t => t = strOfNums (((bytesOf s).take i).map (fun c => if c = 35 then 35 else 63))) (fun _ _ => nJ R C s)
   (fun t ht => by
    rw [List.take_of_length_le (by rw [bytesOf_length]; omega)] at ht
    rw [← av]
    simp only [cB.l0]
    rw [evN (by omega), e0, ← ht]
    exact hstop _ _)
   (fun i t hi ht => by
    have hib : i < (bytesOf s).length := by rw [bytesOf_length]; exact hi
    have hts : t.size = i := by rw [ht, strOfNums_size, List.length_map, List.length_take]; omega
    have hbt : bt s (i : Int) = (bytesOf s)[i] := mI s i hi
    refine .inr ⟨strOfNums (((bytesOf s).take (i + 1)).map (fun c => if c = 35 then 35 else 63)), rfl, rfl, fun r hr => ?_⟩
    rw [List.take_succ_eq_append_getElem hib, List.map_append, Kg, ← ht] at hr
    rw [← av]
    simp only [cB.l0]
    rw [evP (by omega), ay hg, ← av]
    simp only [cB.j1]
    rw [evP trivial, evP (by omega), evP (by omega), hbt]
    by_cases h35 : (bytesOf s)[i] = 35
    ·rw [evP h35, evP (by omega), bH (by omega)]
     simp only [List.map_cons, List.map_nil, h35, if_true] at hr
     exact hr
    ·rw [evN h35, evP (by omega), bH (by omega)]
     simp only [List.map_cons, List.map_nil, if_neg h35] at hr
     exact hr) 0 (⟨#[]⟩ : aj) (Nat.zero_le _) rfl
  exact key
 ·have e0 : nJ R C s = (⟨#[]⟩ : aj) := by unfold nJ; rw [if_neg hp]
  rw [Bool.eq_false_iff.mpr hp] at hg
  rw [e0, ← av]
  simp only [cB.l0]
  by_cases h : (0 : Int) < (s.size : Int)
  ·rw [evP h, ay hg]
   exact hstop _ _
  ·rw [evN h]
   exact hstop _ _
theorem uw (R C : Int) (s : aj) : Ev (fun k => jR.f k R C s) (nJ R C s) := by
 unfold jR.f
 rw [ay (jT R C s)]
 by_cases hp : fD R C s = true
 ·have hsz := gB hp
  have hc := (jk hp).2.2.2
  have e : (⟨(HandRepl.qm 46 63 s.data.toList).toArray⟩ : aj) = nJ R C s := by
   refine bytes_inj ?_
   rw [Dl hp]
   unfold bytesOf HandRepl.qm
   simp only [List.map_map]
   refine List.map_congr_left (fun c hm => ?_)
   have hcc := hc (c.toNat : Int) (List.mem_map.mpr ⟨c, hm, rfl⟩)
   simp only [Function.comp]
   by_cases h46 : c = 46
   ·subst h46
    rfl
   ·have h35 : c.toNat = 35 := by
     rcases hcc with q | q
     ·omega
     ·exact absurd (UInt8.toNat_inj.mp (show c.toNat = (46 : UInt8).toNat by show c.toNat = 46; omega)) h46
    unfold HandRepl.Jr
    rw [if_neg h46, if_pos (show (c.toNat : Int) = 35 by omega)]
    omega
  rw [evP hp]
  unfold strings_ReplaceAll.f
  rw [if_pos ⟨rfl, rfl, by omega⟩, e]
  exact aG _
 ·have e0 : nJ R C s = (⟨#[]⟩ : aj) := by unfold nJ; rw [if_neg hp]
  rw [evN hp, e0]
  exact aG _
noncomputable def Ef (R C : Int) (s f : aj) (l : List S75) (d : List S57) (w : List aj) (i : Nat) : List aj :=
 match (aJ R C s)[i]?, l[i]? with
 | some x, some c => oz 3 c.f0 c.f1 d w (kL f (bn C x))
 | _, _ => []
noncomputable def qj (R C : Int) (s f : aj) (l : List S75) (d : List S57) (w : List aj) (i : Nat) : List (List aj) := (List.range' i ((aJ R C s).length - i)).map (Ef R C s f l d w)
noncomputable def sD (R C : Int) (s : aj) (l : List S75) (q : List Int) (e : Int) (f : aj) (d : List S57) (w : List aj) : List (List aj) :=
 if oZ R C s l q e = true ∧ iI R C s f = true then qj R C s f l d w 0 else []
theorem Eh (R C : Int) (s f : aj) (l : List S75) (d : List S57) (w : List aj) : qj R C s f l d w (aJ R C s).length = [] := by simp [qj]
theorem Cx (R C : Int) (s f : aj) (l : List S75) (d : List S57) (w : List aj) (i : Nat) (hi : i < (aJ R C s).length) : qj R C s f l d w i = [Ef R C s f l d w i] ++ qj R C s f l d w (i + 1) := by
 unfold qj
 rw [show (aJ R C s).length - i = ((aJ R C s).length - (i + 1)) + 1 by omega, List.range'_succ, List.map_cons, List.cons_append, List.nil_append]
theorem JI (R C : Int) (s f : aj) (l : List S75) (d : List S57) (w : List aj) (i : Nat) : (Ef R C s f l d w i).length ≤ w.length := by
 unfold Ef
 split
 ·exact Er _ _ _ _ _ _
 ·exact Nat.zero_le _
theorem Gf {R C : Int} {s : aj} (f : aj) {l : List S75} (d : List S57) (w : List aj) (i : Nat) (hi : i < (aJ R C s).length) (hl : i < l.length) : Ef R C s f l d w i = oz 3 l[i].f0 l[i].f1 d w (kL f (bn C (aJ R C s)[i])) := by
 unfold Ef
 rw [List.getElem?_eq_getElem hi, List.getElem?_eq_getElem hl]
theorem sM (R C : Int) (s : aj) (l : List S75) (q : List Int) (e : Int) (f : aj) (d : List S57) (w : List aj) (hs : s.size < 140737488355328) (hl : l.length < 4611686018427387904) (hx : ∀ x ∈ l, x.f1.length < 4611686018427387904) (hd : d.length < 4611686018427387904) (hw : w.length ≤ 8796093022208) :
  Ev (fun k => aW.f k R C s l q e f d w) (sD R C s l q e f d w) := by
 have hend : ∀ (out : List (List aj)) (i : Int), Ev (fun k => aW.j1 k f d w out i false R C s l q e) out := by
  intro out i
  rw [← av]
  simp only [aW.j1, Bool.false_eq_true, if_false]
  exact aG _
 have hp := qD R C s l q e hs hl hx
 have hfl := pI R C s f
 unfold aW.f
 by_cases hok : oZ R C s l q e = true ∧ iI R C s f = true
 ·have hlen : l.length = (aJ R C s).length := (tq hok.1).2.1
  have hn := (dH R C s).2.2
  have hrb : sD R C s l q e f d w = [] ++ qj R C s f l d w 0 := by unfold sD; rw [if_pos hok]; rfl
  rw [hrb]
  refine iP (σ := List (List aj)) (fun k out i => aW.l0 k f d w out i R C s l q e) (aJ R C s).length (fun i out => out.length = i) (fun i out => out ++ qj R C s f l d w i) (fun out _ => ?_) (fun i out hi hout => .inr ⟨out ++ [Ef R C s f l d w i], by rw [List.length_append, hout]; rfl, by rw [Cx R C s f l d w i hi, List.append_assoc], fun r hr => ?_⟩) 0 [] (Nat.zero_le _) rfl
  ·rw [Eh, List.append_nil, ← av]
   simp only [aW.l0]
   rw [en]
   exact hend out _
  ·have hil : i < l.length := by omega
   have hgs := tY l[i].f0 l[i].f1 d w (kL f (bn C (aJ R C s)[i])) 3 (hx _ (gM hil)) hd hw
   rw [Gf f d w i hi hil] at hr
   rw [← av]
   simp only [aW.l0]
   rw [ep, ay hp, ep hok.1, ay hfl, hok.2, ← av]
   simp only [aW.j1, if_true, tT _ i hil, bH (i := i) (by omega)]
   rw [ep, ep, ay (oN hok.2 i hi), ay hgs, ep]
   exact hr
 ·have hrb : sD R C s l q e f d w = [] := by unfold sD; rw [if_neg hok]
  rw [hrb, ← av]
  simp only [aW.l0]
  rw [aD]
  split
  ·rw [ay hp, aD]
   split
   ·rename_i h1
    have : iI R C s f = false := by simpa using fun h2 => hok ⟨h1, h2⟩
    rw [ay hfl, this]
    exact hend _ _
   ·exact hend _ _
  ·exact hend _ _
theorem sF (R C : Int) (s : aj) (l : List S75) (q : List Int) (e : Int) (f : aj) (d : List S57) (w : List aj) (hl : l.length < 4611686018427387904) (hx : ∀ x ∈ l, x.f1.length < 4611686018427387904) (hd : d.length < 4611686018427387904) (hw : w.length ≤ 8796093022208) :
  Ev (fun k => eu.f k R C s l q e f d w) (sD R C s l q e f d w) := by
 unfold eu.f
 rw [ay (qx R C s l q e hl hx), aD]
 split
 ·rename_i hpz
  have hlen : l.length = (aJ R C s).length := (tq hpz).2.1
  have hn := (dH R C s).2.2
  rw [ay (vV R C s f)]
  by_cases hf : iI R C s f = true
  ·have hrb : sD R C s l q e f d w = [] ++ qj R C s f l d w 0 := by unfold sD; rw [if_pos ⟨hpz, hf⟩]; rfl
   have hpe : sZ R C s f = (aJ R C s).map (fun x => kL f (bn C x)) := by unfold sZ; rw [if_pos hf]
   have hpl : (sZ R C s f).length = (aJ R C s).length := by rw [hpe, List.length_map]
   rw [hrb]
   refine iP (σ := List (List aj)) (fun k out i => eu.l0 k d w out (sZ R C s f) ((sZ R C s f).length : Int) i R C s l q e) (aJ R C s).length (fun i out => out.length = i) (fun i out => out ++ qj R C s f l d w i) (fun out _ => ?_) (fun i out hi hout => .inr ⟨out ++ [Ef R C s f l d w i], by rw [List.length_append, hout]; rfl, by rw [Cx R C s f l d w i hi, List.append_assoc], fun r hr => ?_⟩) 0 [] (Nat.zero_le _) rfl
   ·rw [Eh, List.append_nil, ← av]
    simp only [eu.l0]
    rw [en]
    exact aG _
   ·have hil : i < l.length := by omega
    have hgs := tL l[i].f0 l[i].f1 d w (kL f (bn C (aJ R C s)[i])) 3 (hx _ (gM hil)) hd hw
    have hpi : gq ByteArray.empty (sZ R C s f) (i : Int) = kL f (bn C (aJ R C s)[i]) := by
     rw [jY ByteArray.empty _ i (by omega)]
     simp only [hpe, List.getElem_map]
    rw [Gf f d w i hi hil] at hr
    rw [← av]
    simp only [eu.l0, tT _ i hil, hpi, bH (i := i) (by omega)]
    rw [ep, ep, ep, ep, ay hgs, ep]
    exact hr
  ·have hpe : sZ R C s f = [] := by unfold sZ; rw [if_neg hf]
   have hrb : sD R C s l q e f d w = [] := by unfold sD; rw [if_neg (fun h => hf h.2)]
   rw [hpe, hrb, ← av]
   simp only [eu.l0, List.length_nil]
   rw [en (by simp)]
   exact aG _
 ·rename_i hok
  have hrb : sD R C s l q e f d w = [] := by unfold sD; rw [if_neg (fun h => hok h.1)]
  rw [hrb]
  exact aG _
def srW : List (List Int × List aj) → aj → List aj → List aj
 | [], f, out => out ++ [f]
 | (c, ds) :: t, f, out => ds.foldl (fun o w => if o.length < 30 ∧ ji (kL f c) w = true then srW t (ED f c w) o else o) out
def srG (t : List (List Int × List aj)) (f : aj) (c : List Int) (o : List aj) (w : aj) : List aj := if o.length < 30 ∧ ji (kL f c) w = true then srW t (ED f c w) o else o
theorem uS (c : List Int) (ds : List aj) (t : List (List Int × List aj)) (f : aj) (out : List aj) : srW ((c, ds) :: t) f out = ds.foldl (srG t f c) out := rfl
theorem Gg {G : List aj → aj → List aj} (h : ∀ o w, o.length ≤ 30 → (G o w).length ≤ 30) : ∀ (ds : List aj) (o : List aj), o.length ≤ 30 → (ds.foldl G o).length ≤ 30
 | [], o, ho => ho
 | w :: ds, o, ho => Gg h ds _ (h o w ho)
theorem rV {G : List aj → aj → List aj} : ∀ (ds : List aj) (o : List aj), (∀ w ∈ ds, G o w = o) → ds.foldl G o = o
 | [], o, _ => rfl
 | w :: ds, o, h => by
  rw [List.foldl_cons, h w List.mem_cons_self]
  exact rV ds o (fun x hx => h x (List.mem_cons_of_mem _ hx))
theorem Jq : ∀ (t : List (List Int × List aj)) (f : aj) (out : List aj), out.length < 30 → (srW t f out).length ≤ 30
 | [], f, out, h => by simp [srW]; omega
 | (c, ds) :: t, f, out, h => by
  rw [uS]
  refine Gg (fun o w ho => ?_) ds out (by omega)
  unfold srG
  split
  ·rename_i hc
   exact Jq t _ o hc.1
  ·exact ho
theorem Jp (t : List (List Int × List aj)) (f : aj) (c : List Int) (o : List aj) (w : aj) (h : o.length ≤ 30) : (srG t f c o w).length ≤ 30 := by
 unfold srG
 split
 ·rename_i hc
  exact Jq t _ o hc.1
 ·exact h
def Fx (t : List (List Int × List aj)) (f : aj) : Bool := t.any fun p => !(p.2.any (ji (kL f p.1)))
theorem GJ {f f' w : aj} {c : List Int} (h : ∀ z ∈ c, bt f' z = bt f z ∨ bt f z = 63) (hw : ji (kL f' c) w = true) : ji (kL f c) w = true := by
 have hb : ∀ g : aj, bytesOf (kL g c) = c.map (bt g) := fun g => by
  rw [kL, jG]
  intro x hx
  obtain ⟨z, _, rfl⟩ := List.mem_map.1 hx
  exact Ed g z
 obtain ⟨h1, h2, h3⟩ := qJ hw
 have hp : pz (kL f' c) = true := by
  unfold ji at hw
  by_cases hp : pz (kL f' c) = true
  ·exact hp
  ·rw [if_neg hp] at hw
   cases hw
 have hq : pz (kL f c) = true := by
  unfold pz at hp ⊢
  rw [Bool.and_eq_true, List.all_eq_true, hb, nC] at hp
  rw [Bool.and_eq_true, List.all_eq_true, hb, nC]
  refine ⟨hp.1, fun x hx => ?_⟩
  obtain ⟨z, hz, rfl⟩ := List.mem_map.1 hx
  rcases h z hz with e | e
  ·rw [← e]
   exact hp.2 _ (List.mem_map_of_mem hz)
  ·simp [e]
 rw [nC] at h2
 unfold ji
 rw [if_pos hq, if_pos h1, nC, if_pos h2, List.all_eq_true]
 intro i hi
 have hi' : i < c.length := List.mem_range.1 hi
 have h4 := h3 i (by rw [nC]; exact hi')
 rw [Gq i hi'] at h4 ⊢
 rcases h c[i] (gM hi') with e | e
 ·rw [← e]
  simpa using h4
 ·simp [e]
theorem Fw {R C : Int} {s f f' : aj} (hf : iI R C s f = true) (h : Grow (bytesOf f) (bytesOf f')) {x : S98} (hx : x ∈ aJ R C s) : ∀ z ∈ bn C x, bt f' z = bt f z ∨ bt f z = 63 := by
 intro z hz
 have hc := mY ((dH R C s).1 x hx) z hz
 have := Gi h z.toNat
 rw [Int.toNat_of_nonneg hc.1] at this
 exact this.imp id (fun h2 => h2.1)
theorem Gt {R C : Int} {s : aj} : ∀ (t : List (List Int × List aj)), (∀ p ∈ t, ∃ x ∈ aJ R C s, p.1 = bn C x) → ∀ f, iI R C s f = true → Fx t f = true → ∀ out, srW t f out = out
 | [], _, f, _, h, _ => by simp [Fx] at h
 | (c, ds) :: t, ht, f, hf, h, out => by
  obtain ⟨x, hx, e⟩ := ht _ List.mem_cons_self
  replace e : c = bn C x := e
  subst e
  rw [uS]
  refine rV ds out (fun w hw => ?_)
  unfold srG
  split
  ·rename_i hc
   have hg := Br hf hx hc.2
   rw [Fx, List.any_cons, Bool.or_eq_true] at h
   rcases h with h | h
   ·rw [Bool.not_eq_true', List.any_eq_false] at h
    exact absurd hc.2 (h w hw)
   ·refine Gt t (fun p hp => ht p (List.mem_cons_of_mem _ hp)) _ (vQ hf hg) ?_ out
    obtain ⟨p, hp, h2⟩ := List.any_eq_true.1 h
    obtain ⟨y, hy, e⟩ := ht p (List.mem_cons_of_mem _ hp)
    refine List.any_eq_true.2 ⟨p, hp, ?_⟩
    rw [Bool.not_eq_true', List.any_eq_false] at h2 ⊢
    intro v hv h3
    refine h2 v hv (GJ ?_ h3)
    rw [e]
    exact Fw hf hg hy
  ·rfl
theorem JF (p : aj) (l : List aj) (hl : l.length ≤ 8796093022208) : Ev (fun k => eT.f k l (fun j s => aM.f j p s)) (l.any (ji p)) := by
 have hi : Ev (fun k => bB.f k l (fun j s => aM.f j p s)) (match l.findIdx? (ji p) with | some i => (i : Int) | none => -1) := by
  unfold bB.f
  refine qA (fun k i => bB.l0 k l (fun j s => aM.f j p s) (l.length : Int) i) l _ ?_ (fun i hi hp r hr => ?_) (fun i hi hp => ?_)
  ·rw [← av]
   simp only [bB.l0]
   rw [en]
   exact aG _
  ·rw [← av]
   simp only [bB.l0, jY ByteArray.empty l i hi, bH (i := i) (by omega)]
   rw [ep, ep, ep, ay (kN p l[i]), en (by rw [hp]; decide)]
   exact hr
  ·rw [← av]
   simp only [bB.l0, jY ByteArray.empty l i hi, bH (i := i) (by omega)]
   rw [ep, ep, ep, ay (kN p l[i]), ep hp]
   exact aG _
 unfold eT.f
 rw [ay hi]
 refine gI (aG _) ?_
 cases h : l.findIdx? (ji p) with
 | none =>
  rw [List.findIdx?_eq_none_iff] at h
  have : l.any (ji p) = false := by
   rw [List.any_eq_false]
   intro x hx hp
   rw [h x hx] at hp
   cases hp
  simp [this]
 | some i =>
  obtain ⟨h1, h2, _⟩ := List.findIdx?_eq_some_iff_getElem.1 h
  have : l.any (ji p) = true := List.any_eq_true.2 ⟨_, gM h1, h2⟩
  simp [this]
theorem AO {α β : Type} (A : List α) (B : List β) (i : Nat) (ha : i < A.length) (hb : i < B.length) : (A.zip B).drop i = (A[i], B[i]) :: (A.zip B).drop (i + 1) := by
 rw [List.drop_eq_getElem_cons (by rw [List.length_zip]; omega), List.getElem_zip]
theorem Ia {R C : Int} {s : aj} (D : List (List aj)) (i : Nat) : ∀ p ∈ (((aJ R C s).map (bn C)).zip D).drop i, ∃ x ∈ aJ R C s, p.1 = bn C x := by
 intro p hp
 obtain ⟨x, hx, e⟩ := List.mem_map.1 (List.of_mem_zip (List.mem_of_mem_drop hp)).1
 exact ⟨x, hx, e.symm⟩
theorem Dr {R C : Int} {s : aj} (D : List (List aj)) (hD : D.length = (aJ R C s).length) (hl : ∀ x ∈ D, x.length ≤ 8796093022208) : ∀ (n i : Nat) (f : aj) (out : List aj), i + n = D.length → iI R C s f = true → out.length < 30 → Ev (fun k => bq.f k R C s D f (i : Int) out) (srW ((((aJ R C s).map (bn C)).zip D).drop i) f out) := by
 intro n
 induction n with
 | zero =>
  intro i f out hi hf ho
  rw [List.drop_eq_nil_of_le (by rw [List.length_zip, List.length_map]; omega), ← av]
  simp only [bq.f]
  rw [ep, ep]
  exact aG _
 | succ n ih =>
  intro i f out hi hf ho
  have hid : i < D.length := by omega
  have his : i < (aJ R C s).length := by omega
  have hn := (dH R C s).2.2
  have hdl := hl _ (gM hid)
  rw [AO _ _ i (by rw [List.length_map]; exact his) hid, List.getElem_map, uS, ← av]
  simp only [bq.f]
  rw [en]
  have hstop : ∀ (o : List aj) (j : Int), Ev (fun k => bq.j1 k D f (i : Int) o j false R C s) o := by
   intro o j
   rw [← av]
   simp only [bq.j1, Bool.false_eq_true, if_false]
   exact aG _
  refine iP (σ := List aj) (fun k o j => bq.l0 k D f (i : Int) o j R C s) D[i].length (fun j o => o.length ≤ 30) (fun j o => (D[i].drop j).foldl (srG ((((aJ R C s).map (bn C)).zip D).drop (i + 1)) f (bn C (aJ R C s)[i])) o) (fun o _ => ?_) (fun j o hj hjo => ?_) 0 out (Nat.zero_le _) (by omega)
  ·rw [List.drop_length, List.foldl_nil, ← av]
   simp only [bq.l0, Dx D i hid]
   rw [ep, ep, en]
   exact hstop o _
  ·rw [List.drop_eq_getElem_cons hj, List.foldl_cons]
   by_cases h30 : o.length < 30
   ·refine .inr ⟨srG ((((aJ R C s).map (bn C)).zip D).drop (i + 1)) f (bn C (aJ R C s)[i]) o D[i][j], Jp _ _ _ _ _ hjo, rfl, fun r hr => ?_⟩
    rw [← av]
    simp only [bq.l0, Dx D i hid]
    rw [ep, ep, ep, dT (by omega), ← av]
    simp only [bq.j1, if_true, Dx D i hid, jY ByteArray.empty _ j hj, bH (i := j) (by omega), bH (i := i) (by omega)]
    rw [ep, ep, ep, ep, ay (Ae hf i his _), aD]
    unfold KX
    unfold srG at hr
    by_cases hfit : ji (kL f (bn C (aJ R C s)[i])) D[i][j] = true
    ·rw [if_pos ⟨h30, hfit⟩] at hr
     rw [if_pos hfit, if_pos rfl, ay (ih (i + 1) _ o (by omega) (vQ hf (Br hf (gM his) hfit)) h30)]
     exact hr
    ·rw [if_neg (fun h => hfit h.2)] at hr
     rw [if_neg hfit, if_neg (by simp)]
     exact hr
   ·refine .inl ?_
    have e : (D[i].drop (j + 1)).foldl (srG ((((aJ R C s).map (bn C)).zip D).drop (i + 1)) f (bn C (aJ R C s)[i])) (srG ((((aJ R C s).map (bn C)).zip D).drop (i + 1)) f (bn C (aJ R C s)[i]) o D[i][j]) = o := by
     have hg : ∀ w, srG ((((aJ R C s).map (bn C)).zip D).drop (i + 1)) f (bn C (aJ R C s)[i]) o w = o := fun w => by unfold srG; rw [if_neg (fun h => h30 h.1)]
     rw [hg]
     exact rV _ _ (fun w _ => hg w)
    rw [e, ← av]
    simp only [bq.l0, Dx D i hid]
    rw [ep, ep, ep, dF (by omega)]
    exact hstop o _
theorem Eu {R C : Int} {s f : aj} (D : List (List aj)) (hD : D.length = (aJ R C s).length) (hl : ∀ x ∈ D, x.length ≤ 8796093022208) (hf : iI R C s f = true) : ∀ i : Nat, i ≤ ((aJ R C s).map (bn C)).length → Ev (fun k => bL.f k ((aJ R C s).map (bn C)) D f (i : Int)) (Fx ((((aJ R C s).map (bn C)).zip D).drop i) f) := by
 have hn := (dH R C s).2.2
 have hL : ((aJ R C s).map (bn C)).length = (aJ R C s).length := List.length_map _
 refine mP (fun k i => bL.f k ((aJ R C s).map (bn C)) D f i) ((aJ R C s).map (bn C)).length (fun i => Fx ((((aJ R C s).map (bn C)).zip D).drop i) f) ?_ (fun i hi => ?_)
 ·rw [List.drop_eq_nil_of_le (by rw [List.length_zip]; omega)]
  unfold bL.f
  rw [← av]
  simp only [bL.l0]
  rw [en]
  exact aG _
 ·have his : i < (aJ R C s).length := by omega
  have hid : i < D.length := by omega
  have hx := gM his
  have hc := mY ((dH R C s).1 _ hx)
  obtain ⟨hg, hfs, _⟩ := kG hf
  have hcl := iA C (aJ R C s)[i]
  have hsl := (dH R C s).1 _ hx
  have hr := nL f (bn C (aJ R C s)[i]) (by have := hsl.2.2.2.1; omega) (fun c h => by have := hc c h; omega)
  have ha := JF (kL f (bn C (aJ R C s)[i])) D[i] (hl _ (gM hid))
  have hh : Fx ((((aJ R C s).map (bn C)).zip D).drop i) f = (!(D[i].any (ji (kL f (bn C (aJ R C s)[i])))) || Fx ((((aJ R C s).map (bn C)).zip D).drop (i + 1)) f) := by
   rw [AO _ _ i hi hid, List.getElem_map]
   rfl
  have key : ∀ r, (if D[i].any (ji (kL f (bn C (aJ R C s)[i]))) = true then Ev (fun k => bL.f k ((aJ R C s).map (bn C)) D f ((i + 1 : Nat) : Int)) r else r = true) → Ev (fun k => bL.f k ((aJ R C s).map (bn C)) D f (i : Int)) r := by
   intro r h
   unfold bL.f
   rw [← av]
   simp only [bL.l0, rF _ _ i hi, rF _ _ i hid, List.getElem_map, bH (i := i) (by omega)]
   rw [ep, ep, ay hr, ep, ay ha, aD]
   split
   ·rename_i h2
    rw [if_pos h2] at h
    exact h
   ·rename_i h2
    rw [if_neg h2] at h
    exact gI (aG _) h.symm
  rw [hh]
  by_cases h2 : D[i].any (ji (kL f (bn C (aJ R C s)[i]))) = true
  ·refine .inr ⟨by rw [h2]; rfl, fun r h => key r (by rw [if_pos h2]; exact h)⟩
  ·refine .inl (key _ (by rw [if_neg h2]; simp at h2 ⊢; exact .inl h2))
theorem Hu {R C : Int} {s : aj} (D : List (List aj)) (hD : D.length = (aJ R C s).length) (hl : ∀ x ∈ D, x.length ≤ 8796093022208) : ∀ (n i : Nat) (f : aj) (out : List aj), i + n = D.length → iI R C s f = true → out.length < 30 → Ev (fun k => bJ.f k ((aJ R C s).map (bn C)) D 30 f (i : Int) out) (srW ((((aJ R C s).map (bn C)).zip D).drop i) f out) := by
 have hL : ((aJ R C s).map (bn C)).length = (aJ R C s).length := List.length_map _
 intro n
 induction n with
 | zero =>
  intro i f out hi hf ho
  rw [List.drop_eq_nil_of_le (by rw [List.length_zip]; omega), ← av]
  simp only [bJ.f]
  rw [ep, ep]
  exact aG _
 | succ n ih =>
  intro i f out hi hf ho
  have hid : i < D.length := by omega
  have his : i < (aJ R C s).length := by omega
  have hiL : i < ((aJ R C s).map (bn C)).length := by omega
  have hn := (dH R C s).2.2
  have hdl := hl _ (gM hid)
  have hx := gM his
  have hc := mY ((dH R C s).1 _ hx)
  obtain ⟨hg, hfs, _⟩ := kG hf
  have hsz := gB hg
  have hsl := (dH R C s).1 _ hx
  have hcl := iA C (aJ R C s)[i]
  have hr := nL f (bn C (aJ R C s)[i]) (by have := hsl.2.2.2.1; omega) (fun c h => by have := hc c h; omega)
  rw [← av]
  simp only [bJ.f]
  rw [en, ay (Eu D hD hl hf i (by omega)), aD]
  split
  ·rename_i hh
   rw [Gt _ (Ia D i) f hf hh out]
   exact aG _
  ·rw [AO _ _ i hiL hid, List.getElem_map, uS]
   simp only [rF _ _ i hiL, rF _ _ i hid, List.getElem_map]
   rw [ep, ep, ay hr, ep]
   refine iP (σ := List aj) (fun k o j => bJ.l0 k ((aJ R C s).map (bn C)) D 30 f (i : Int) (kL f (bn C (aJ R C s)[i])) D[i] j o) D[i].length (fun j o => o.length ≤ 30) (fun j o => (D[i].drop j).foldl (srG ((((aJ R C s).map (bn C)).zip D).drop (i + 1)) f (bn C (aJ R C s)[i])) o) (fun o _ => ?_) (fun j o hj hjo => ?_) 0 out (Nat.zero_le _) (by omega)
   ·rw [List.drop_length, List.foldl_nil, ← av]
    simp only [bJ.l0]
    rw [en]
    exact aG _
   ·rw [List.drop_eq_getElem_cons hj, List.foldl_cons]
    by_cases h30 : o.length < 30
    ·refine .inr ⟨srG ((((aJ R C s).map (bn C)).zip D).drop (i + 1)) f (bn C (aJ R C s)[i]) o D[i][j], Jp _ _ _ _ _ hjo, rfl, fun r hr2 => ?_⟩
     rw [← av]
     simp only [bJ.l0, jY ByteArray.empty _ j hj, bH (i := j) (by omega), rF _ _ i hiL, List.getElem_map]
     rw [ep, ep, en, ay (kN _ _), aD]
     unfold srG at hr2
     by_cases hfit : ji (kL f (bn C (aJ R C s)[i])) D[i][j] = true
     ·rw [if_pos ⟨h30, hfit⟩] at hr2
      obtain ⟨z1, z2⟩ := AU hfit
      rw [if_pos hfit, ay (IB (tN f D[i][j] _ (by omega) (by omega) (by omega) (fun c h => by have := hc c h; omega))), ep, show ((i : Int) + 1) = ((i + 1 : Nat) : Int) by omega, ay (ih (i + 1) _ o (by omega) (vQ hf (Br hf hx hfit)) h30)]
      exact hr2
     ·rw [if_neg (fun h => hfit h.2)] at hr2
      rw [if_neg hfit]
      exact hr2
    ·refine .inl ?_
     have e : (D[i].drop (j + 1)).foldl (srG ((((aJ R C s).map (bn C)).zip D).drop (i + 1)) f (bn C (aJ R C s)[i])) (srG ((((aJ R C s).map (bn C)).zip D).drop (i + 1)) f (bn C (aJ R C s)[i]) o D[i][j]) = o := by
      have hg2 : ∀ w, srG ((((aJ R C s).map (bn C)).zip D).drop (i + 1)) f (bn C (aJ R C s)[i]) o w = o := fun w => by unfold srG; rw [if_neg (fun h => h30 h.1)]
      rw [hg2]
      exact rV _ _ (fun w _ => hg2 w)
     rw [e, ← av]
     simp only [bJ.l0]
     rw [ep, ep, ep]
     exact aG _
noncomputable def wZ (R C : Int) (s : aj) (l : List S75) (q : List Int) (e : Int) (f : aj) (d : List S57) (w : List aj) : List aj :=
 if oZ R C s l q e = true ∧ iI R C s f = true then srW (((aJ R C s).map (bn C)).zip (qj R C s f l d w 0)) f [] else []
theorem Ei (R C : Int) (s f : aj) (l : List S75) (d : List S57) (w : List aj) : (qj R C s f l d w 0).length = (aJ R C s).length := by
 unfold qj
 rw [List.length_map, List.length_range', Nat.sub_zero]
theorem Ej (R C : Int) (s f : aj) (l : List S75) (d : List S57) (w : List aj) (hw : w.length ≤ 8796093022208) : ∀ x ∈ qj R C s f l d w 0, x.length ≤ 8796093022208 := by
 intro x hx
 obtain ⟨i, _, rfl⟩ := List.mem_map.1 hx
 exact Nat.le_trans (JI R C s f l d w i) hw
theorem sO (R C : Int) (s : aj) (l : List S75) (q : List Int) (e : Int) (f : aj) (d : List S57) (w : List aj) (hs : s.size < 140737488355328) (hl : l.length < 4611686018427387904) (hx : ∀ x ∈ l, x.f1.length < 4611686018427387904) (hd : d.length < 4611686018427387904) (hw : w.length ≤ 8796093022208) :
  Ev (fun k => bW.f k R C s l q e f d w) (wZ R C s l q e f d w) := by
 have hno : ∀ r, r = [] → Ev (fun k => bW.j0 k f d w true R C s l q e) r := by
  rintro r rfl
  rw [← av]
  simp only [bW.j0, if_true]
  exact aG _
 unfold bW.f
 rw [ay (qD R C s l q e hs hl hx), aD]
 split
 ·rename_i hp
  rw [ay (pI R C s f)]
  by_cases hf : iI R C s f = true
  ·have e1 : wZ R C s l q e f d w = srW ((((aJ R C s).map (bn C)).zip (qj R C s f l d w 0)).drop 0) f [] := by unfold wZ; rw [if_pos ⟨hp, hf⟩]; rfl
   have e2 : sD R C s l q e f d w = qj R C s f l d w 0 := by unfold sD; rw [if_pos ⟨hp, hf⟩]
   have hc := sM R C s l q e f d w hs hl hx hd hw
   rw [e2] at hc
   rw [e1, hf, ← av]
   simp only [bW.j0, Bool.not_true, Bool.false_eq_true, if_false]
   have h0 : Ev (fun k => bq.f k R C s (qj R C s f l d w 0) f 0 []) _ := Dr _ (Ei R C s f l d w) (Ej R C s f l d w hw) (qj R C s f l d w 0).length 0 f [] (by omega) hf (by simp)
   rw [ay hc, ay h0]
   exact aG _
  ·rw [Bool.not_eq_true] at hf
   rw [hf]
   exact hno _ (by unfold wZ; rw [if_neg (by rw [hf]; simp)])
 ·rename_i hp
  exact hno _ (by unfold wZ; rw [if_neg (fun h => hp h.1)])
theorem sH (R C : Int) (s : aj) (l : List S75) (q : List Int) (e : Int) (f : aj) (d : List S57) (w : List aj) (hl : l.length < 4611686018427387904) (hx : ∀ x ∈ l, x.f1.length < 4611686018427387904) (hd : d.length < 4611686018427387904) (hw : w.length ≤ 8796093022208) :
  Ev (fun k => gH.f k R C s l q e f d w) (wZ R C s l q e f d w) := by
 unfold gH.f
 rw [ay (qx R C s l q e hl hx), aD]
 split
 ·rename_i hp
  rw [ay (rH R C s f), aD]
  split
  ·rename_i hf
   have e1 : wZ R C s l q e f d w = srW ((((aJ R C s).map (bn C)).zip (qj R C s f l d w 0)).drop 0) f [] := by unfold wZ; rw [if_pos ⟨hp, hf⟩]; rfl
   have e2 : sD R C s l q e f d w = qj R C s f l d w 0 := by unfold sD; rw [if_pos ⟨hp, hf⟩]
   have hc := sF R C s l q e f d w hl hx hd hw
   rw [e2] at hc
   rw [e1, ay (lM R C s), ay hc]
   exact Hu _ (Ei R C s f l d w) (Ej R C s f l d w hw) (qj R C s f l d w 0).length 0 f [] (by omega) hf (by simp)
  ·rename_i hf
   exact gI (aG _) (by unfold wZ; rw [if_neg (fun h => hf h.2)])
 ·rename_i hp
  exact gI (aG _) (by unfold wZ; rw [if_neg (fun h => hp h.1)])
theorem FnExactHasOneSolution : fF.Pure := by
 intro y d w ⟨⟨_, _, h0⟩, ⟨h1, h2, h3⟩, ⟨h4, h5, _⟩, _⟩ ⟨i1, i2, i3⟩ ⟨j1, j2, j3⟩
 refine Ev.rounds ?_
 unfold fF.f
 have hx : ∀ x ∈ y.f1, x.f1.length ≤ 3518437208883 := fun x hx => by have := (h3 x hx).2.1; omega
 obtain ⟨a, ha, hab⟩ := EM y.f0.f0 y.f0.f1 y.f0.f2 y.f1 y.f2 y.f3 h0 (by omega) (fun x hx => ⟨by have := (h3 x hx).2.1; omega, fun t ht => ((h3 x hx).2.2.2 t ht).2.1⟩) (by omega) 1048576 (by omega) (by omega)
 rw [ay ha, aD]
 split
 ·exact aG _
 obtain ⟨c, hc, hcb⟩ := Ct d (by omega) (fun x hx => (i3 x hx).1) a (by omega) hab
 rw [ay hc, aD]
 split
 ·exact aG _
 obtain ⟨e, he, _⟩ := DW w (by omega) (fun x hx => j3 x hx) c (by omega) hcb
 rw [ay he, aD]
 split
 ·exact aG _
 have t1 := EO y.f0.f0 y.f0.f1 y.f0.f2 y.f1 y.f2 y.f3 (by omega) hx (by omega)
 have t2 := Cu d (by omega)
 have t3 := DY w (by omega)
 have l1 : (y.f1.map nS).length = y.f1.length := List.length_map _
 have l2 : (d.map nD).length = d.length := List.length_map _
 have hx' : ∀ x ∈ y.f1.map nS, x.f1.length < 4611686018427387904 := by
  intro x hm
  obtain ⟨u, hu, rfl⟩ := List.mem_map.1 hm
  have := hx u hu
  simp only [nS, List.length_map]
  omega
 have s : Ev (fun k => dL.f k y.f0.f0 y.f0.f1 y.f0.f2 (y.f1.map nS) y.f2 y.f3 (d.map nD) w) (((wZ y.f0.f0 y.f0.f1 y.f0.f2 (y.f1.map nS) y.f2 y.f3 (nJ y.f0.f0 y.f0.f1 y.f0.f2) (d.map nD) w).length : Int) == 1) := by
  unfold dL.f
  rw [ay (uQ _ _ _), ay (sO _ _ _ _ _ _ _ _ _ (by omega) (by omega) hx' (by omega) (by omega))]
  exact aG _
 have i : Ev (fun k => dK.f k y.f0.f0 y.f0.f1 y.f0.f2 (y.f1.map nS) y.f2 y.f3 (d.map nD) w) (((wZ y.f0.f0 y.f0.f1 y.f0.f2 (y.f1.map nS) y.f2 y.f3 (nJ y.f0.f0 y.f0.f1 y.f0.f2) (d.map nD) w).length : Int) == 1) := by
  unfold dK.f
  rw [ay (uw _ _ _), ay (sH _ _ _ _ _ _ _ _ _ (by omega) hx' (by omega) (by omega))]
  exact aG _
 have e1 := El y.f0.f0 y.f0.f1 y.f0.f2 (y.f1.map nS) y.f2 y.f3 (by omega) hx' (by omega)
 have e2 := BU (d.map nD) (by omega)
 have e3 := Dm w (by omega)
 simp only [ay t1, ay t2, ay t3, ay s, ay i, ay e1, ay e2, ay e3, aD, if_true]
 rw [if_neg (by simp)]
 exact aG _
end Go.Proofs.YtdbefmkcondbgaaGreatDoor.Pure
