/- The program's AddMeaning returns what the reference's returns, for every argument; no further condition. -/
import Derived.Test.YthjcicmmbmagbaaZAddMeaningQ
import Derived.Test.YthjcicmmbmagbaaZAddMeaningEv
namespace Go.Proofs.Ythjcicmmbmagbaa.Pure
open Go.RowKit Go.Proofs.Ythjcicmmbmagbaa.PFnExactAddMeaning Go.Proofs.YthjcicmmbmagbaaW.PrintWords Go.Proofs.YthjcicmmbmagbaaW.PrintLast Go.Proofs.YthjcicmmbmagbaaW.PrintMore Go.Proofs.Ythjcicmmbmagbaa.Sem
set_option linter.unusedVariables false
set_option linter.unusedSimpArgs false
theorem l7 (xs : List S24) (i : Nat) (h : i < xs.length) : eX xs (i : Int) = xs[i] := by
 simp [eX, List.getD_eq_getElem?_getD, List.getElem?_eq_getElem h]
theorem fV (xs : List S31) (i : Nat) (h : i < xs.length) : aJ xs (i : Int) = xs[i] := by
 simp [aJ, List.getD_eq_getElem?_getD, List.getElem?_eq_getElem h]
theorem nW (xs : List S31) (i : Nat) (x : S31) (h : i < xs.length) : aJ (xs.set i x) (i : Int) = x := by
 rw [fV _ i (by rw [List.length_set]; exact h), List.getElem_set_self]
theorem mO (a b c : Int) : dY.f a b c = some (decide (b ≤ a ∧ a ≤ c)) := by
 unfold dY.f
 by_cases h : b ≤ a <;> simp [h]
theorem j3 (a b c : Int) : dh.f a b c = some (decide (b ≤ a ∧ a ≤ c)) := by
 unfold dh.f
 by_cases h : b ≤ a <;> simp [h]
theorem jK (a : Int) : eH.f a = some (decide (97 ≤ a ∧ a ≤ 122)) := by
 unfold eH.f
 by_cases h : 97 ≤ a <;> simp [h]
theorem iY (c : Int) : (strOfNums [c]).size = 1 := rfl
theorem kE : ∀ (n : Nat) (x : Int) (s : ByteArray), x.toNat ≤ n → s.size + n < 9223372036854775807 → n < 4611686018427387904 → ∃ r, Ev (fun k => bU.l0 k x s) r := by
 intro n
 induction n with
 | zero =>
  intro x s hx hs hn
  refine ⟨(⟨#[109]⟩ : ByteArray) ++ s, ?_⟩
  rw [← bI]
  simp only [bU.l0]
  rw [en, ep]
  exact dL _
 | succ n ih =>
  intro x s hx hs hn
  by_cases h : x > 0
  ·have h1 : Int.tdiv x 10 = x / 10 := Int.tdiv_eq_ediv_of_nonneg (by omega)
   have h2 : wrap64 (Int.tdiv x 10) = x / 10 := by rw [h1]; exact lY (by omega) (by omega)
   obtain ⟨r, hr⟩ := ih (x / 10) ((strOfNums [(wrap64 (48 + (Int.tmod x 10))) % 256]) ++ s) (by omega) (by rw [ByteArray.size_append, iY]; omega) (by omega)
   refine ⟨r, ?_⟩
   rw [← bI]
   simp only [bU.l0, Option.bind_some, h2]
   rw [ep h, ep (by rw [iY]; omega)]
   exact hr
  ·refine ⟨(⟨#[109]⟩ : ByteArray) ++ s, ?_⟩
   rw [← bI]
   simp only [bU.l0]
   rw [en h, ep]
   exact dL _
theorem lQ (c : Int) (h : c < 4611686018427387904) : ∃ r, Ev (fun k => bU.f k c) r := by
 unfold bU.f
 by_cases h0 : c ≤ 0
 ·exact ⟨_, by rw [ep h0]; exact dL _⟩
 ·obtain ⟨r, hr⟩ := kE c.toNat c ⟨#[]⟩ (Nat.le_refl _) (by show 0 + _ < _; omega) (by omega)
  exact ⟨r, by rw [en h0]; exact hr⟩
noncomputable def MT (c : Int) : ByteArray := open Classical in if h : ∃ r, Ev (fun k => bU.f k c) r then h.choose else ByteArray.empty
theorem oz (c : Int) (h : c < 4611686018427387904) : Ev (fun k => bU.f k c) (MT c) := by
 have hx := lQ c h
 unfold MT
 rw [dif_pos hx]
 exact hx.choose_spec
theorem kF (l : List S24) (hl : l.length < 4611686018427387904) (hs : ∀ x ∈ l, x.f0.size ≤ 140737488351232) (a : Int) (ha : 0 ≤ a) (ha' : a ≤ 1048576) : ∃ r, Ev (fun k => bS.f k l a) r ∧ r ≤ 1048576 := by
 unfold bS.f
 have w1 : wrap64 (a - (l.length : Int)) = a - l.length := lY (by omega) (by omega)
 simp only [dn, fF, w1]
 by_cases h : a - (l.length : Int) < 0
 ·exact ⟨-1, by simp [h]⟩
 ·simp only [h, if_false]
  refine mX (fun k b i => bS.l0 k l b i) l 1048576 (fun b => ?_) (fun i hi b hb hb' => ?_) _ (by omega) (by omega)
  ·rw [← bI]
   simp only [bS.l0]
   rw [en]
   exact dL _
  ·have hsz := hs _ (List.getElem_mem hi)
   have w3 : wrap64 (b - (l[i].f0.size : Int)) = b - l[i].f0.size := lY (by omega) (by omega)
   by_cases h2 : b - (l[i].f0.size : Int) < 0
   ·refine .inl ?_
    rw [← bI]
    simp only [bS.l0, dH.f, l7 l i hi, fB (i := i) (by omega), w3, if_pos h2, Option.bind_some]
    simp [dn, fF, hi]
   ·refine .inr ⟨b - l[i].f0.size, by omega, by omega, fun r hr => ?_⟩
    rw [← bI]
    simp only [bS.l0, dH.f, l7 l i hi, fB (i := i) (by omega), w3, if_neg h2, Option.bind_some]
    rw [ep, ep]
    exact hr
def fu (x : S24) : S31 := ⟨x.f0, x.f1⟩
theorem kC (l : List S24) (hl : l.length ≤ 5864062014805) : Ev (fun k => bE.f k l) (l.map fu) := by
 unfold bE.f
 rw [ep, ep]
 refine mQ (fun k s i => bE.l0 k l s i) l fu z31 (fun s hs => ?_) (fun i hi s hs r hr => ?_)
 ·rw [← bI]
  simp [bE.l0, dL]
 ·rw [← bI]
  simp only [bE.l0, bJ.f, l7 l i hi, fB (i := i) (by omega), Option.bind_some]
  simp [dn, hi, hs]
  exact hr
theorem iZ (l : List S31) (hl : l.length < 4611686018427387904) : Ev (fun k => bg.f k l l) true := by
 unfold bg.f
 rw [ep rfl]
 refine oV (jY (fun k i => bg.l0 k l l i) l (fun _ => true) ?_ (fun i hi hp r hr => ?_) (fun i hi hp => by cases hp)) (by simp)
 ·rw [← bI]; simp [bg.l0, dL]
 ·rw [← bI]
  simp only [bg.l0, eU.f, fB (i := i) (by omega)]
  simp [dn, hi]
  exact hr
theorem iw (l : List S31) (c : Int) (h0 : 0 ≤ c) (hc : c + 2 * l.length < 4611686018427387904) : Ev (fun k => bH.f k l c) (c + 2 * l.length, gG (fun _ b => ⟨MT b, b + 1⟩) (fun _ => 2) l c) := by
 have hw : fI (fun _ => 2) l = 2 * l.length := gI _ _
 have := nA (fun k s b i => bH.l0 k s b i) l (fun _ => 2) (fun _ b => ⟨MT b, b + 1⟩) c (fun s b hs => ?_) (fun i hi s b hs hsi hb hb' r hr => ?_)
 ·rw [hw] at this
  exact this
 ·rw [← bI]
  simp only [bH.l0]
  simp [hs, dL]
 ·rw [← bI]
  rw [hw] at hb'
  have e : wrap64 (b + 1) = b + 1 := lY (by omega) (by omega)
  have e' : wrap64 (b + 1 + 1) = b + ((2 : Nat) : Int) := by rw [lY (by omega) (by omega)]; omega
  simp only [bH.l0, fB (i := i) (by omega), e, e', Option.bind_some]
  rw [ep, cB (oz b (by omega)), ep]
  simp only [Int.toNat_natCast, nW, List.length_set, hs, hi, List.set_set]
  exact hr
def gW (c : Int) : Bool := decide (97 ≤ c ∧ c ≤ 122)
def gK (s : ByteArray) : Bool := decide (1 ≤ s.size ∧ s.size ≤ 8) && (bytesOf s).all gW
theorem j4 (s : ByteArray) : Ev (fun k => dw.f k s) (gK s) := by
 simp only [dw.f, mO, Option.bind_some, dn, decide_eq_true_eq, gK]
 by_cases h : (1 : Int) ≤ s.size ∧ (s.size : Int) ≤ 8
 ·rw [if_pos h]
  have h' : 1 ≤ s.size ∧ s.size ≤ 8 := by omega
  simp only [h', decide_true, Bool.true_and, and_self]
  refine jY (fun k i => dw.l0 k s i) (bytesOf s) gW ?_ (fun i hi hp r hr => ?_) (fun i hi hp => ?_)
  ·rw [← bI]; simp [dw.l0, bytesOf_length, dL]
  ·have hi' : i < s.size := by rw [bytesOf_length] at hi; exact hi
   rw [← bI]
   simp [gW] at hp
   simp only [dw.l0, kZ s i hi', fB (i := i) (by omega)]
   rw [ep, ep, en, en]
   exact hr
  ·have hi' : i < s.size := by rw [bytesOf_length] at hi; exact hi
   rw [← bI]
   simp [gW] at hp
   simp only [dw.l0, kZ s i hi', fB (i := i) (by omega)]
   rw [ep, ep, dn]
   by_cases h1 : (bytesOf s)[i] < 97
   ·rw [if_pos h1]; exact dL _
   ·rw [if_neg h1, ep]; exact dL _
 ·rw [if_neg h]
  have h' : ¬ (1 ≤ s.size ∧ s.size ≤ 8) := by omega
  simp [h', dL]
theorem iC (s : ByteArray) : Ev (fun k => bT.f k s) (gK s) := by
 simp only [bT.f, j3, Option.bind_some, dn, decide_eq_true_eq, gK]
 by_cases h : (1 : Int) ≤ s.size ∧ (s.size : Int) ≤ 8
 ·rw [if_pos h]
  have h' : 1 ≤ s.size ∧ s.size ≤ 8 := by omega
  simp only [h', decide_true, Bool.true_and, and_self]
  refine jY (fun k i => bT.l0 k s (s.size : Int) i) (bytesOf s) gW ?_ (fun i hi hp r hr => ?_) (fun i hi hp => ?_)
  ·rw [← bI]; simp [bT.l0, bytesOf_length, dL]
  ·have hi' : i < s.size := by rw [bytesOf_length] at hi; exact hi
   rw [← bI]
   simp [gW] at hp
   simp only [bT.l0, kZ s i hi', fB (i := i) (by omega), jK, Option.bind_some]
   rw [ep, ep, ep, ep (by simpa using hp)]
   exact hr
  ·have hi' : i < s.size := by rw [bytesOf_length] at hi; exact hi
   rw [← bI]
   simp only [gW] at hp
   simp only [bT.l0, kZ s i hi', fB (i := i) (by omega), jK, Option.bind_some]
   rw [ep, ep, ep, en (by rw [hp]; decide)]
   exact dL _
 ·rw [if_neg h]
  have h' : ¬ (1 ≤ s.size ∧ s.size ≤ 8) := by omega
  simp [h', dL]
def mU (w : ByteArray) (s : Int) (x : S31) : Bool := decide (x.f0 = w ∧ x.f1 = s)
def hasB (l : List S31) (w : ByteArray) (s : Int) : Bool := l.any (mU w s)
theorem jG (l : List S31) (w : ByteArray) (s : Int) (hl : l.length < 4611686018427387904) : Ev (fun k => bP.f k l w s) (hasB l w s) := by
 refine nT (fun k i => bP.l0 k l w s i) l _ ?_ (fun i hi hp r hr => ?_) (fun i hi hp => ?_)
 ·rw [← bI]; simp [bP.l0, dL]
 ·rw [← bI]
  simp only [bP.l0, fV l i hi, fB (i := i) (by omega), toList_eq]
  simp [mU] at hp
  simp [dn, hi]
  split
  ·rw [if_neg (hp ‹_›)]; exact hr
  ·exact hr
 ·rw [← bI]
  simp only [bP.l0, fV l i hi, fB (i := i) (by omega), toList_eq]
  simp [mU] at hp
  simp [dn, hi, hp, dL]
theorem nk (l : List S31) (w : ByteArray) (s : Int) (hl : l.length < 4611686018427387904) : Ev (fun k => bZ.f k l w s) (match l.findIdx? (mU w s) with | some i => (i : Int) | none => -1) := by
 refine mY (fun k i => bZ.l0 k l (l.length : Int) i w s) l _ ?_ (fun i hi hp r hr => ?_) (fun i hi hp => ?_)
 ·rw [← bI]; simp [bZ.l0, dL]
 ·rw [← bI]
  simp only [bZ.l0, fV l i hi, fB (i := i) (by omega), kr]
  simp [mU] at hp
  simp [dn, hi]
  rw [if_neg (by intro h; exact hp h.1.symm h.2.symm)]
  exact hr
 ·rw [← bI]
  simp only [bZ.l0, fV l i hi, fB (i := i) (by omega), kr]
  simp [mU] at hp
  simp [dn, hi, hp, dL]
theorem ou {α : Type} (l : List α) (p : α → Bool) : decide ((match l.findIdx? p with | some i => (i : Int) | none => -1) ≥ 0) = l.any p := by
 cases h : l.findIdx? p with
 | none =>
  have := List.findIdx?_eq_none_iff.1 h
  simp
  intro x hx
  simpa using this x hx
 | some i =>
  obtain ⟨h1, h2, _⟩ := List.findIdx?_eq_some_iff_getElem.1 h
  simp
  exact ⟨l[i], List.getElem_mem h1, h2⟩
theorem kX (l : List S31) (w : ByteArray) (s : Int) (hl : l.length < 4611686018427387904) : Ev (fun k => dW.f k l w s) (hasB l w s) := by
 unfold dW.f
 rw [cB (nk l w s hl), ou]
 exact dL _
def bwB (a b : ByteArray) : Bool := if (a.size : Int) = b.size then _root_.Go.Op.bytesLess a.toList b.toList else decide ((a.size : Int) < b.size)
theorem jd (a b : ByteArray) : dR.f a b = some (bwB a b) := by
 unfold dR.f bwB
 split <;> rfl
theorem gU : ∀ l : List UInt8, _root_.Go.Op.bytesLess l l = false
 | [] => rfl
 | a :: l => by simp [_root_.Go.Op.bytesLess, gU l]
theorem l8 (a : ByteArray) : bwB a a = false := by simp [bwB, gU]
theorem jh (a b : ByteArray) : d9.f a b = some (bwB a b) := by
 unfold d9.f bwB
 split <;> rfl
def bmB (a : ByteArray) (m : Int) (b : ByteArray) (n : Int) : Bool := if a = b then decide (m < n) else bwB a b
theorem gY (a : ByteArray) (m : Int) (b : ByteArray) (n : Int) : dF.f a m b n = some (bmB a m b n) := by
 simp only [dF.f, jd, Option.bind_some, toList_eq, bmB]
 by_cases h : a = b
 ·subst h
  simp [l8]
 ·simp [h]
  cases bwB a b <;> rfl
theorem fZ (a : ByteArray) (m : Int) (b : ByteArray) (n : Int) : cO.f a m b n = some (bmB a m b n) := by
 simp only [cO.f, jh, Option.bind_some, toList_eq, bmB]
 by_cases h : a = b <;> simp [h]
def okM (l : List S31) (i : Nat) : Bool := if h : i < l.length then gK l[i].f0 && (decide (1 ≤ l[i].f1 ∧ l[i].f1 ≤ 99) && (decide (i = 0) || bmB (l[i - 1]'(by omega)).f0 (l[i - 1]'(by omega)).f1 l[i].f0 l[i].f1)) else false
def gV (l : List S31) : Bool := decide (l.length ≤ 40) && (List.range l.length).all (okM l)
theorem nL {i : Nat} (h : i < 4611686018427387904) : wrap64 ((i + 1 : Nat) - 1 : Int) = (i : Int) := by unfold wrap64; omega
theorem iJ (l : List S31) (hl : l.length < 4611686018427387904) : Ev (fun k => aZ.f k l) (gV l) := by
 unfold aZ.f
 have := iH (fun k i => aZ.l0 k l i) l.length (fun i => decide (l.length ≤ 40) && ((List.range l.length).drop i).all (okM l)) ?_ (fun i hi => ?_) 0 (Nat.zero_le _)
 ·simpa [gV] using this
 ·rw [← bI]
  simp only [aZ.l0]
  rw [en, fF, List.drop_eq_nil_of_le (by simp)]
  simp
  omega
 ·have hd : (List.range l.length).drop i = i :: (List.range l.length).drop (i + 1) := by rw [List.drop_eq_getElem_cons (by simpa using hi)]; simp
  have hu : ∀ r, Ev (fun k => aZ.l0 k l (i : Int)) r ↔ if okM l i = true then Ev (fun k => aZ.l0 k l ((i + 1 : Nat) : Int)) r else Ev (fun _ => some false) r := by
   intro r
   rw [← bI]
   simp only [aZ.l0, fV l i hi, fB (i := i) (by omega), mO, Option.bind_some]
   rw [ep, ep, cB (j4 _), dn, dn, dn]
   simp only [okM, hi, dif_pos, Bool.and_eq_true, Bool.or_eq_true]
   by_cases h1 : gK l[i].f0 = true
   ·simp only [h1, if_true, true_and]
    by_cases h2 : 1 ≤ l[i].f1 ∧ l[i].f1 ≤ 99
    ·simp only [h2, and_self, decide_true, if_true, true_and]
     cases i with
     | zero => simp
     | succ j =>
      rw [if_pos (by omega), nL (by omega), fV l j (by omega), ep, ep, gY]
      simp only [Option.bind_some, dn]
      simp
    ·simp [h2]
   ·simp [h1]
  rw [hd, List.all_cons]
  by_cases ho : okM l i = true
  ·refine .inr ⟨by simp [ho], fun r hr => ?_⟩
   rw [hu, if_pos ho]
   exact hr
  ·refine .inl ?_
   rw [hu, if_neg ho, fF]
   simp [ho]
theorem iG (l : List S31) (hl : l.length < 4611686018427387904) : Ev (fun k => bf.f k l) (gV l) := by
 unfold bf.f
 rw [dn]
 unfold gV
 split
 ·rw [fF]
  have : ¬ l.length ≤ 40 := by omega
  simp [this]
 have h40 : l.length ≤ 40 := by omega
 have := iH (fun k i => bf.l0 k l l (l.length : Int) i) l.length (fun i => ((List.range l.length).drop i).all (okM l)) ?_ (fun i hi => ?_) 0 (Nat.zero_le _)
 ·simpa [h40] using this
 ·rw [← bI]
  simp only [bf.l0]
  rw [en, fF, List.drop_eq_nil_of_le (by simp)]
  simp
 ·have hd : (List.range l.length).drop i = i :: (List.range l.length).drop (i + 1) := by rw [List.drop_eq_getElem_cons (by simpa using hi)]; simp
  have hu : ∀ r, Ev (fun k => bf.l0 k l l (l.length : Int) (i : Int)) r ↔ if okM l i = true then Ev (fun k => bf.l0 k l l (l.length : Int) ((i + 1 : Nat) : Int)) r else Ev (fun _ => some false) r := by
   intro r
   rw [← bI]
   simp only [bf.l0, fV l i hi, fB (i := i) (by omega), j3, fZ, Option.bind_some]
   rw [ep, ep, ep, dn]
   simp only [okM, hi, dif_pos, Bool.and_eq_true, Bool.or_eq_true]
   cases i with
   | zero =>
    rw [if_neg (by simp), cB (iC _), dn, dn]
    by_cases h1 : gK l[0].f0 = true
    ·by_cases h2 : 1 ≤ l[0].f1 ∧ l[0].f1 ≤ 99 <;> simp [h1, h2]
    ·simp [h1]
   | succ j =>
    rw [if_pos (by omega), nL (by omega), fV l j (by omega), ep, ep, dn]
    by_cases h3 : bmB l[j].f0 l[j].f1 l[j + 1].f0 l[j + 1].f1 = true
    ·rw [if_pos h3, cB (iC _), dn, dn]
     by_cases h1 : gK l[j + 1].f0 = true
     ·by_cases h2 : 1 ≤ l[j + 1].f1 ∧ l[j + 1].f1 ≤ 99 <;> simp [h1, h2, h3]
     ·simp [h1]
    ·simp [h3]
  rw [hd, List.all_cons]
  by_cases ho : okM l i = true
  ·refine .inr ⟨by simp [ho], fun r hr => ?_⟩
   rw [hu, if_pos ho]
   exact hr
  ·refine .inl ?_
   rw [hu, if_neg ho, fF]
   simp [ho]
theorem evP {α : Type} {c : Prop} [Decidable c] {f g : Nat → Option α} {r : α} (h : c) : Ev (fun k => if c then f k else g k) r ↔ Ev f r := by rw [ep h]
theorem evN {α : Type} {c : Prop} [Decidable c] {f g : Nat → Option α} {r : α} (h : ¬ c) : Ev (fun k => if c then f k else g k) r ↔ Ev g r := by rw [en h]
theorem jO (l : List S31) (c : Int) (h0 : 0 ≤ c) (hc : c + 2 * l.length < 4611686018427387904) : Ev (fun k => bC.f k (gG (fun _ b => ⟨MT b, b + 1⟩) (fun _ => 2) l c) c) (c + 2 * l.length) := by
 unfold bC.f
 have hw : (fI (fun _ : S31 => 2) l : Int) = 2 * l.length := by rw [gI]; omega
 have hw2 : fI (fun _ : S31 => 2) (gG (fun _ b => ⟨MT b, b + 1⟩) (fun _ => 2) l c) = 2 * l.length := by rw [gI, fG]
 have hml := fG (fun (_ : S31) b => (⟨MT b, b + 1⟩ : S31)) (fun _ => 2) l c
 have := mV (fun k b i => bC.l0 k (gG (fun _ b => ⟨MT b, b + 1⟩) (fun _ => 2) l c) b i) (gG (fun (_ : S31) b => (⟨MT b, b + 1⟩ : S31)) (fun _ => 2) l c) (fun _ => 2) c ?_ ?_
 ·rw [hw2] at this
  have e : c + ((2 * l.length : Nat) : Int) = c + 2 * l.length := by omega
  rw [e] at this
  exact this
 ·intro b
  rw [← bI]
  simp only [bC.l0]
  rw [evN (by omega)]
  exact dL _
 ·intro i h b hb hle r hr
  have hil : i < l.length := by rw [hml] at h; exact h
  have hg := jE (fun (_ : S31) b => (⟨MT b, b + 1⟩ : S31)) (fun _ => 2) l c i hil
  have hbb : c + fI (fun _ : S31 => 2) (l.take i) = b := by
   rw [hb, gI, gI, List.length_take, List.length_take, hml]
  rw [hbb] at hg
  have hb2 : b = c + 2 * i := by rw [← hbb, gI, List.length_take]; omega
  rw [← bI]
  simp only [bC.l0]
  rw [evP (by omega), evP (by omega)]
  simp only [fV _ i h, hg]
  have mt := oz b (by omega)
  have w1 : wrap64 (b + 1) = b + 1 := lY (by omega) (by omega)
  have w2 : wrap64 (b + 1 + 1) = b + ((2 : Nat) : Int) := by rw [lY (by omega) (by omega)]; omega
  have w3 : wrap64 ((i : Int) + 1) = ((i + 1 : Nat) : Int) := fB (by omega)
  rw [cB mt]
  simp only [w1, if_true, w2, w3]
  exact hr
theorem nG {α : Type} (p : α → Bool) : ∀ (xs : List α) (i : Nat) (h : i < (xs.takeWhile p).length) (h2 : i < xs.length), p xs[i] = true
 | [], i, h, h2 => by simp at h2
 | x :: xs, i, h, h2 => by
  by_cases hp : p x = true
  ·rw [List.takeWhile_cons_of_pos hp] at h
   cases i with
   | zero => exact hp
   | succ i => exact nG p xs i (by simpa using h) (by simpa using h2)
  ·rw [List.takeWhile_cons_of_neg hp] at h
   simp at h
theorem kS {α : Type} (p : α → Bool) : ∀ (xs : List α) (h : (xs.takeWhile p).length < xs.length), p xs[(xs.takeWhile p).length] = false
 | [], h => by simp at h
 | x :: xs, h => by
  by_cases hp : p x = true
  ·simp only [List.takeWhile_cons_of_pos hp, List.length_cons] at h ⊢
   exact kS p xs (by simpa using h)
  ·simp only [List.takeWhile_cons_of_neg hp, List.length_nil] at h ⊢
   simpa using hp
theorem oD {α : Type} (p : α → Bool) (xs : List α) : (xs.takeWhile p).length ≤ xs.length := (List.takeWhile_prefix p).length_le
theorem kg {α ρ : Type} (L : Nat → Int → Option ρ) (xs : List α) (p : α → Bool) (r : ρ) (hstop : Ev (fun k => L k (((xs.takeWhile p).length : Nat) : Int)) r)
  (hyes : ∀ i (h : i < xs.length), p xs[i] = true → ∀ r, Ev (fun k => L k ((i + 1 : Nat) : Int)) r → Ev (fun k => L k (i : Int)) r) : Ev (fun k => L k 0) r := by
 have key : ∀ d i, i + d = (xs.takeWhile p).length → Ev (fun k => L k (i : Int)) r := by
  intro d
  induction d with
  | zero =>
   intro i hi
   have : i = (xs.takeWhile p).length := by omega
   subst this
   exact hstop
  | succ d ih =>
   intro i hi
   have hlt : i < xs.length := by have := oD p xs; omega
   exact hyes i hlt (nG p xs i (by omega) hlt) _ (ih (i + 1) (by omega))
 exact key (xs.takeWhile p).length 0 (by omega)
def plM (l : List S31) (w : ByteArray) (s : Int) : Nat := (l.takeWhile fun x => bmB x.f0 x.f1 w s).length
def jW (l : List S31) (w : ByteArray) (s : Int) : List S31 := l.take (plM l w s) ++ [⟨w, s⟩] ++ l.drop (plM l w s)
def kG (l : List S31) (w : ByteArray) (s : Int) : List S31 × Bool := if hasB l w s = true then (l, false) else if gV (jW l w s) = true then (jW l w s, true) else (l, false)
theorem lV (l : List S31) (w : ByteArray) (s : Int) : plM l w s ≤ l.length := oD _ _
theorem iF (l : List S31) (w : ByteArray) (s : Int) : (jW l w s).length = l.length + 1 := by
 have := lV l w s
 simp only [jW, List.length_append, List.length_take, List.length_drop, List.length_cons, List.length_nil]
 omega
theorem lS (l : List S31) (w : ByteArray) (s : Int) : (kG l w s).1.length ≤ l.length + 1 := by
 unfold kG
 split
 ·show l.length ≤ _; omega
 ·split
  ·show (jW l w s).length ≤ _; rw [iF]; omega
  ·show l.length ≤ _; omega
theorem jg (l : List S31) (w : ByteArray) (s : Int) (hl : l.length < 5864062014800) : Ev (fun k => bA.f k l w s) (kG l w s) := by
 unfold bA.f
 have hp := lV l w s
 have hj : Ev (fun k => bA.j1 k l ((plM l w s : Nat) : Int) w s) (kG l w s) := by
  rw [← bI]
  simp only [bA.j1, Option.bind_some]
  rw [evP (by omega), evP (by omega), evP (by simp only [List.length_nil, List.length_take]; omega), evP (by simp only [List.length_append, List.length_nil, List.length_take, List.length_cons]; omega),
   evP (by simp only [List.length_append, List.length_nil, List.length_take, List.length_cons, List.length_drop]; omega)]
  simp only [List.nil_append, Int.toNat_natCast]
  have e : l.take (plM l w s) ++ [(⟨w, s⟩ : S31)] ++ l.drop (plM l w s) = jW l w s := rfl
  rw [e, cB (jG l w s (by omega))]
  have hd := iJ (jW l w s) (by rw [iF]; omega)
  unfold kG
  cases hasB l w s with
  | true =>
   simp only [if_true]
   rw [evP (by simp only [List.length_nil]; omega)]
   exact dL _
  | false =>
   simp only [Bool.false_eq_true, if_false]
   rw [cB hd]
   cases gV (jW l w s) with
   | true => exact dL _
   | false =>
    simp only [Bool.false_eq_true, if_false]
    rw [evP (by simp only [List.length_nil]; omega)]
    exact dL _
 refine kg (fun k i => bA.l0 k l i w s) l (fun x => bmB x.f0 x.f1 w s) _ ?_ ?_
 ·rw [← bI]
  simp only [bA.l0]
  have hpl : (l.takeWhile fun x => bmB x.f0 x.f1 w s).length = plM l w s := rfl
  by_cases h : plM l w s < l.length
  ·have hf := kS (fun x : S31 => bmB x.f0 x.f1 w s) l h
   simp only [hpl] at hf ⊢
   rw [evP (by omega), evP (by omega)]
   simp only [fV _ _ h, gY, Option.bind_some, hf]
   rw [evN (by decide)]
   exact hj
  ·rw [hpl, evN (by omega)]
   exact hj
 ·intro i h hp r hr
  rw [← bI]
  simp only [bA.l0]
  rw [evP (by omega), evP (by omega)]
  simp only [fV _ _ h, gY, Option.bind_some]
  rw [evP hp, fB (by omega)]
  exact hr
theorem mZ (l : List S31) (hl : l.length < 5864062014800) : aN.f l = some l := by
 unfold aN.f
 rw [if_pos (by omega)]
theorem ji (l : List S31) (w : ByteArray) (s : Int) (hl : l.length < 5864062014800) : Ev (fun k => aV.f k l w s) (kG l w s) := by
 unfold aV.f
 have hp := lV l w s
 have hc := mZ l hl
 rw [cB (kX l w s (by omega))]
 by_cases hh : hasB l w s = true
 ·rw [evP hh, hc]
  unfold kG
  rw [if_pos hh]
  exact dL _
 rw [evN hh]
 have hj : Ev (fun k => aV.j1 k l ((plM l w s : Nat) : Int) w s) (kG l w s) := by
  rw [← bI]
  simp only [aV.j1, aV.cli]
  rw [if_pos (by omega), hc]
  simp only [Option.bind_some]
  rw [evP (by simp only [List.length_cons, List.length_nil]; omega)]
  have e : aV.ig l ((plM l w s : Nat) : Int) [(⟨w, s⟩ : S31)] = jW l w s := by rw [aV.ig, Int.toNat_natCast]; rfl
  have hd := iG (jW l w s) (by rw [iF]; omega)
  rw [e, cB hd]
  unfold kG
  rw [if_neg hh]
  cases gV (jW l w s) with
  | true => exact dL _
  | false =>
   simp only [Bool.false_eq_true, if_false]
   exact dL _
 refine kg (fun k i => aV.l0 k l i w s) l (fun x => bmB x.f0 x.f1 w s) _ ?_ ?_
 ·rw [← bI]
  simp only [aV.l0]
  have hpl : (l.takeWhile fun x => bmB x.f0 x.f1 w s).length = plM l w s := rfl
  by_cases h : plM l w s < l.length
  ·have hf := kS (fun x : S31 => bmB x.f0 x.f1 w s) l h
   simp only [hpl] at hf ⊢
   rw [evP (by omega), evP (by omega)]
   simp only [fV _ _ h, fZ, Option.bind_some, hf]
   rw [evN (by decide)]
   exact hj
  ·rw [hpl, evN (by omega)]
   exact hj
 ·intro i h hp r hr
  rw [← bI]
  simp only [aV.l0]
  rw [evP (by omega), evP (by omega)]
  simp only [fV _ _ h, fZ, Option.bind_some]
  rw [evP hp, fB (by omega)]
  exact hr
theorem gL : av.Pure := by
 intro l y ⟨h1, h2, h3⟩ hy
 refine Ev.rounds ?_
 unfold av.f
 obtain ⟨r, hr, hr2⟩ := kF l (by omega) (fun x hx => (h3 x hx).1) 1048576 (by omega) (by omega)
 rw [cB hr, dn]
 split
 ·exact dL _
 obtain ⟨q, hq⟩ : ∃ q, dH.f y.f0 y.f1 r = some q := by
  unfold dH.f
  split <;> exact ⟨_, rfl⟩
 simp only [hq, Option.bind_some, bJ.f]
 rw [dn]
 split
 ·exact dL _
 have hto := kC l (by omega)
 have hl : (l.map fu).length = l.length := List.length_map _
 have s := jg (l.map fu) y.f0 y.f1 (by omega)
 have i := ji (l.map fu) y.f0 y.f1 (by omega)
 have hz := lS (l.map fu) y.f0 y.f1
 generalize kG (l.map fu) y.f0 y.f1 = gb at s i hz
 obtain ⟨g, b⟩ := gb
 replace hz : g.length ≤ (l.map fu).length + 1 := hz
 have e := iZ g (by omega)
 have e' := iZ (l.map fu) (by omega)
 have m := iw g 1 (by omega) (by omega)
 have m' := iw (l.map fu) 1 (by omega) (by omega)
 have h := jO g 1 (by omega) (by omega)
 simp only [cB hto, cB s, cB i, cB e, if_true, bne_self_eq_false]
 rw [← bI]
 simp only [av.j0, Bool.false_eq_true, if_false, cB hto, cB e', cB m', cB e, if_true, bne_self_eq_false]
 rw [evN (by omega)]
 simp only [cB e, if_true, bne_self_eq_false]
 rw [← bI]
 simp only [av.j1, Bool.false_eq_true, if_false, bJ.f, Option.bind_some, cB m, cB h]
 rw [evN (by omega)]
 simp only [if_true, cB hto, cB i, cB e, bne_self_eq_false]
 rw [← bI]
 simp only [av.j2, Bool.false_eq_true, if_false, cB h, if_true]
 rw [evN (by omega)]
 exact dL _
end Go.Proofs.Ythjcicmmbmagbaa.Pure
