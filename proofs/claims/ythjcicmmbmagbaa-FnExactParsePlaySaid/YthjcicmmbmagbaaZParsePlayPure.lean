/- The program's ParsePlay returns what the reference's returns, for every argument; no further condition. -/
import Derived.Test.YthjcicmmbmagbaaZParsePlayQ
import Derived.Test.YthjcicmmbmagbaaZParsePlayEv
namespace Go.Proofs.Ythjcicmmbmagbaa.Pure
open Go.RowKit Go.Proofs.Ythjcicmmbmagbaa.PFnExactParsePlay Go.Proofs.YthjcicmmbmagbaaW.PrintWords Go.Proofs.YthjcicmmbmagbaaW.PrintLast Go.Proofs.YthjcicmmbmagbaaW.PrintMore Go.Proofs.Ythjcicmmbmagbaa.Sem
set_option linter.unusedVariables false
set_option linter.unusedSimpArgs false
theorem gT (xs : List aA) (i : Nat) (h : i < xs.length) : ah xs (i : Int) = xs[i] := by
 simp [ah, List.getD_eq_getElem?_getD, List.getElem?_eq_getElem h]
theorem oI (xs : List aA) (i : Nat) (x : aA) (h : i < xs.length) : ah (xs.set i x) (i : Int) = x := by
 rw [gT _ i (by rw [List.length_set]; exact h), List.getElem_set_self]
theorem ku (a b c : Int) : aK.f a b c = some (decide (b ≤ a ∧ a ≤ c)) := by
 unfold aK.f
 by_cases h : b ≤ a <;> simp [h]
theorem iY (a b c : Int) : cB.f a b c = some (decide (b ≤ a ∧ a ≤ c)) := by
 unfold cB.f
 by_cases h : b ≤ a <;> simp [h]
theorem at_eq (a b : Int) : fM.f a b = some (decide (0 ≤ a ∧ a < b)) := by
 unfold fM.f
 by_cases h : 0 ≤ a <;> simp [h]
theorem jR (a : Int) : cO.f a = some (decide (97 ≤ a ∧ a ≤ 122)) := by
 unfold cO.f
 by_cases h : 97 ≤ a <;> simp [h]
theorem iQ (c : Int) : (strOfNums [c]).size = 1 := rfl
theorem lu : ∀ (n : Nat) (x : Int) (s : ByteArray), x.toNat ≤ n → s.size + n < 9223372036854775807 → n < 4611686018427387904 → ∃ r, Ev (fun k => aT.l0 k x s) r := by
 intro n
 induction n with
 | zero =>
  intro x s hx hs hn
  refine ⟨(⟨#[109]⟩ : ByteArray) ++ s, ?_⟩
  rw [← aG]
  simp only [aT.l0]
  rw [en, ep]
  exact bB _
 | succ n ih =>
  intro x s hx hs hn
  by_cases h : x > 0
  ·have h1 : Int.tdiv x 10 = x / 10 := Int.tdiv_eq_ediv_of_nonneg (by omega)
   have h2 : wrap64 (Int.tdiv x 10) = x / 10 := by rw [h1]; exact iX (by omega) (by omega)
   obtain ⟨r, hr⟩ := ih (x / 10) ((strOfNums [(wrap64 (48 + (Int.tmod x 10))) % 256]) ++ s) (by omega) (by rw [ByteArray.size_append, iQ]; omega) (by omega)
   refine ⟨r, ?_⟩
   rw [← aG]
   simp only [aT.l0, Option.bind_some, h2]
   rw [ep h, ep (by rw [iQ]; omega)]
   exact hr
  ·refine ⟨(⟨#[109]⟩ : ByteArray) ++ s, ?_⟩
   rw [← aG]
   simp only [aT.l0]
   rw [en h, ep]
   exact bB _
theorem mD (c : Int) (h : c < 4611686018427387904) : ∃ r, Ev (fun k => aT.f k c) r := by
 unfold aT.f
 by_cases h0 : c ≤ 0
 ·exact ⟨_, by rw [ep h0]; exact bB _⟩
 ·obtain ⟨r, hr⟩ := lu c.toNat c ⟨#[]⟩ (Nat.le_refl _) (by show 0 + _ < _; omega) (by omega)
  exact ⟨r, by rw [en h0]; exact hr⟩
noncomputable def MT (c : Int) : ByteArray := open Classical in if h : ∃ r, Ev (fun k => aT.f k c) r then h.choose else ByteArray.empty
theorem qh (c : Int) (h : c < 4611686018427387904) : Ev (fun k => aT.f k c) (MT c) := by
 have hx := mD c h
 unfold MT
 rw [dif_pos hx]
 exact hx.choose_spec
def gL (c : Int) : Bool := decide (97 ≤ c ∧ c ≤ 122)
def bU (s : ByteArray) : Bool := decide (1 ≤ s.size ∧ s.size ≤ 8) && (bytesOf s).all gL
theorem fq {s : ByteArray} (h : bU s = true) : 1 ≤ s.size ∧ s.size ≤ 8 := by
 simp [bU] at h
 exact h.1
theorem ig (s : ByteArray) : Ev (fun k => aD.f k s) (bU s) := by
 simp only [aD.f, ku, Option.bind_some, bE, decide_eq_true_eq, bU]
 by_cases h : (1 : Int) ≤ s.size ∧ (s.size : Int) ≤ 8
 ·rw [if_pos h]
  have h' : 1 ≤ s.size ∧ s.size ≤ 8 := by omega
  simp only [h', decide_true, Bool.true_and, and_self]
  refine kX (fun k i => aD.l0 k s i) (bytesOf s) gL ?_ (fun i hi hp r hr => ?_) (fun i hi hp => ?_)
  ·rw [← aG]; simp [aD.l0, bytesOf_length, bB]
  ·have hi' : i < s.size := by rw [bytesOf_length] at hi; exact hi
   rw [← aG]
   simp [gL] at hp
   simp only [aD.l0, kG s i hi', fH (i := i) (by omega)]
   rw [ep, ep, en, en]
   exact hr
  ·have hi' : i < s.size := by rw [bytesOf_length] at hi; exact hi
   rw [← aG]
   simp [gL] at hp
   simp only [aD.l0, kG s i hi', fH (i := i) (by omega)]
   rw [ep, ep, bE]
   by_cases h1 : (bytesOf s)[i] < 97
   ·rw [if_pos h1]; exact bB _
   ·rw [if_neg h1, ep]; exact bB _
 ·rw [if_neg h]
  have h' : ¬ (1 ≤ s.size ∧ s.size ≤ 8) := by omega
  simp [h', bB]
theorem kE (s : ByteArray) : Ev (fun k => bM.f k s) (bU s) := by
 simp only [bM.f, iY, Option.bind_some, bE, decide_eq_true_eq, bU]
 by_cases h : (1 : Int) ≤ s.size ∧ (s.size : Int) ≤ 8
 ·rw [if_pos h]
  have h' : 1 ≤ s.size ∧ s.size ≤ 8 := by omega
  simp only [h', decide_true, Bool.true_and, and_self]
  refine kX (fun k i => bM.l0 k s (s.size : Int) i) (bytesOf s) gL ?_ (fun i hi hp r hr => ?_) (fun i hi hp => ?_)
  ·rw [← aG]; simp [bM.l0, bytesOf_length, bB]
  ·have hi' : i < s.size := by rw [bytesOf_length] at hi; exact hi
   rw [← aG]
   simp [gL] at hp
   simp only [bM.l0, kG s i hi', fH (i := i) (by omega), jR, Option.bind_some]
   rw [ep, ep, ep, ep (by simpa using hp)]
   exact hr
  ·have hi' : i < s.size := by rw [bytesOf_length] at hi; exact hi
   rw [← aG]
   simp only [gL] at hp
   simp only [bM.l0, kG s i hi', fH (i := i) (by omega), jR, Option.bind_some]
   rw [ep, ep, ep, en (by rw [hp]; decide)]
   exact bB _
 ·rw [if_neg h]
  have h' : ¬ (1 ≤ s.size ∧ s.size ≤ 8) := by omega
  simp [h', bB]
theorem nC (l : List aA) (hl : l.length < 4611686018427387904) : Ev (fun k => aX.f k l l) true := by
 unfold aX.f
 rw [ep rfl]
 refine jq (kX (fun k i => aX.l0 k l l i) l (fun _ => true) ?_ (fun i hi hp r hr => ?_) (fun i hi hp => by cases hp)) (by simp)
 ·rw [← aG]; simp [aX.l0, bB]
 ·rw [← aG]
  simp only [aX.l0, eU.f, fH (i := i) (by omega)]
  simp [bE, hi]
  exact hr
theorem l5 (l : List aA) (c : Int) (h0 : 0 ≤ c) (hc : c + 4 * l.length < 4611686018427387904) : Ev (fun k => bq.f k l c) (c + 4 * l.length, fB (fun _ b => ⟨b, MT (b + 1), b + 2, b + 3⟩) (fun _ => 4) l c) := by
 have hw : eH (fun _ => 4) l = 4 * l.length := gH _ _
 have := nV (fun k s b i => bq.l0 k s b i) l (fun _ => 4) (fun _ b => ⟨b, MT (b + 1), b + 2, b + 3⟩) c (fun s b hs => ?_) (fun i hi s b hs hsi hb hb' r hr => ?_)
 ·rw [hw] at this
  exact this
 ·rw [← aG]
  simp only [bq.l0]
  simp [hs, bB]
 ·rw [← aG]
  rw [hw] at hb'
  have e1 : wrap64 (b + 1) = b + 1 := iX (by omega) (by omega)
  have e2 : wrap64 (b + 1 + 1) = b + 2 := by rw [iX (by omega) (by omega)]; omega
  have e3 : wrap64 (b + 2 + 1) = b + 3 := by rw [iX (by omega) (by omega)]; omega
  have e4 : wrap64 (b + 3 + 1) = b + ((4 : Nat) : Int) := by rw [iX (by omega) (by omega)]; omega
  simp only [bq.l0, fH (i := i) (by omega), e1, e2, e3, e4, Option.bind_some]
  rw [ep, ep, aU (qh (b + 1) (by omega))]
  simp only [Int.toNat_natCast, oI, List.length_set, hs, hi, List.set_set]
  exact hr
def kR (l : List aA) (i : Nat) (two : Bool) (kind A B : Int) : Bool :=
 if kind = 1 then decide (A = 0 ∧ B = 0) else decide (0 ≤ A ∧ A < i) && (if two = true then decide (0 ≤ B ∧ B < i) else decide (B = 0) && (decide (kind = 2) || decide ((ah l A).f0 = 1)))
def fA (l : List aA) (i : Nat) : Bool :=
 decide (1 ≤ (ah l i).f0 ∧ (ah l i).f0 ≤ 9) && ((if (ah l i).f0 = 1 then bU (ah l i).f1 else decide ((ah l i).f1.size = 0)) && kR l i (decide ((ah l i).f0 = 4 ∨ (ah l i).f0 = 5)) (ah l i).f0 (ah l i).f2 (ah l i).f3)
theorem mF (l : List aA) (i : Nat) (hi : i < l.length) (hl : l.length < 4611686018427387904) (two : Bool) (kind : Int) (word : ByteArray) (A B : Int) : Ev (fun k => bD.j1 k l (i : Int) two kind word A B) (kR l i two kind A B) := by
 have e : wrap64 ((i : Int) - 1) = i - 1 := iX (by omega) (by omega)
 rw [← aG]
 simp only [bD.j1, ku, Option.bind_some, e, kR, bE]
 by_cases h1 : kind = 1
 ·by_cases h2 : A = 0 <;> simp [h1, h2, bS] <;> rfl
 ·rw [if_neg h1, if_neg h1]
  by_cases h2 : 0 ≤ A ∧ A < (i : Int)
  ·have h2' : 0 ≤ A ∧ A ≤ (i : Int) - 1 := by omega
   simp only [h2, h2', and_self, decide_true, if_true, Bool.true_and]
   cases two
   ·simp only [Bool.false_eq_true, if_false]
    by_cases h3 : B = 0
    ·by_cases h4 : kind = 2
     ·simp [h3, h4, bS]
     ·simp only [h3, h4, if_true, if_false, decide_true, decide_false, Bool.true_and, Bool.false_or]
      rw [if_pos (by omega), bS]
      rfl
    ·simp [h3, bS]
   ·simp only [if_true]
    by_cases h3 : 0 ≤ B ∧ B < (i : Int)
    ·have h3' : 0 ≤ B ∧ B ≤ (i : Int) - 1 := by omega
     simp [h3, h3', bS]
    ·have h3' : ¬ (0 ≤ B ∧ B ≤ (i : Int) - 1) := by omega
     simp [h3, h3', bS]
  ·have h2' : ¬ (0 ≤ A ∧ A ≤ (i : Int) - 1) := by omega
   simp [h2, h2', bS]
theorem iq (l : List aA) (i : Nat) (hi : i < l.length) (hl : l.length < 4611686018427387904) (b : Bool) (kind : Int) (word : ByteArray) (A B : Int) : Ev (fun k => bD.j0 k l (i : Int) b kind word A B) (!b && kR l i (decide (kind = 4 ∨ kind = 5)) kind A B) := by
 rw [← aG]
 simp only [bD.j0, bE]
 cases b
 ·simp only [Bool.false_eq_true, if_false, Bool.not_false, Bool.true_and]
  by_cases h : kind = 4
  ·simp only [h, if_true, true_or, decide_true]
   exact mF l i hi hl _ _ _ _ _
  ·simp only [h, if_false, false_or]
   have := mF l i hi hl (kind == 5) kind word A B
   exact this
 ·simp [bS]
theorem lG (l : List aA) (i : Nat) (hi : i < l.length) (hl : l.length < 4611686018427387904) : Ev (fun k => bD.f k l (i : Int)) (fA l i) := by
 unfold bD.f
 rw [ep, ep]
 simp only [ku, Option.bind_some, decide_eq_true_eq]
 unfold fA
 generalize ah l (i : Int) = s
 rw [bE]
 by_cases h1 : 1 ≤ s.f0 ∧ s.f0 ≤ 9
 ·rw [if_pos h1, aU (ig s.f1), bE]
  simp only [h1, and_self, decide_true, Bool.true_and]
  by_cases h2 : s.f0 = 1
  ·simp only [h2, beq_self_eq_true, if_true, bE]
   cases hw : bU s.f1
   ·simp only [Bool.true_bne, Bool.not_false, if_true]
    exact jq (iq l i hi hl _ _ _ _ _) (by simp)
   ·simp only [Bool.true_bne, Bool.not_true, Bool.false_eq_true, if_false]
    exact jq (iq l i hi hl _ _ _ _ _) (by simp)
  ·have h2' : (s.f0 == 1) = false := by simpa using h2
   simp only [h2, h2', if_false, bE, Bool.false_bne]
   cases hw : bU s.f1
   ·simp only [Bool.false_eq_true, if_false]
    refine jq (iq l i hi hl _ _ _ _ _) ?_
    congr 1
    rw [Bool.eq_iff_iff]
    simp [bne, toList_nil]
   ·have hz : ¬ s.f1.size = 0 := by have := fq hw; omega
    simp only [if_true]
    exact jq (iq l i hi hl _ _ _ _ _) (by simp [hz])
 ·rw [if_neg h1]
  simp only [h1, decide_false, Bool.false_and]
  exact jq (iq l i hi hl _ _ _ _ _) (by simp)
def bW (l : List aA) : Bool := decide (1 ≤ l.length ∧ l.length ≤ 9) && (List.range l.length).all (fA l)
theorem eO {l : List aA} (h : bW l = true) : 1 ≤ l.length ∧ l.length ≤ 9 := by
 simp [bW] at h
 exact h.1
theorem dN {l : List aA} (h : bW l = true) (i : Nat) (hi : i < l.length) : fA l i = true := by
 simp [bW] at h
 exact h.2 i hi
theorem iD (l : List aA) (hl : l.length < 4611686018427387904) : Ev (fun k => aR.f k l) (bW l) := by
 unfold aR.f
 have hend : ∀ i : Nat, Ev (fun k => aR.j1 k l (i : Int) false) (decide (1 ≤ l.length ∧ l.length ≤ 9)) := by
  intro i
  rw [← aG]
  simp only [aR.j1, ku, Option.bind_some, Bool.false_eq_true, if_false, bS]
  rw [Bool.eq_iff_iff]
  simp
  omega
 have := kH (fun k i => aR.l0 k l i) l.length (fun i => decide (1 ≤ l.length ∧ l.length ≤ 9) && ((List.range l.length).drop i).all (fA l)) ?_ (fun i hi => ?_) 0 (Nat.zero_le _)
 ·simpa [bW] using this
 ·rw [← aG]
  simp only [aR.l0]
  rw [en, List.drop_eq_nil_of_le (by simp)]
  simpa using hend l.length
 ·have hd : (List.range l.length).drop i = i :: (List.range l.length).drop (i + 1) := by rw [List.drop_eq_getElem_cons (by simpa using hi)]; simp
  by_cases h9 : l.length ≤ 9
  ·have hu : ∀ r, Ev (fun k => aR.l0 k l (i : Int)) r ↔ if fA l i = true then Ev (fun k => aR.l0 k l ((i + 1 : Nat) : Int)) r else Ev (fun _ => some false) r := by
    intro r
    have h9' : decide ((l.length : Int) ≤ 9) = true := by simp; omega
    rw [← aG]
    simp only [aR.l0, h9']
    rw [ep, ← aG]
    simp only [aR.j1, if_true, fH (i := i) (by omega)]
    rw [aU (lG l i hi hl), bE]
   rw [hd, List.all_cons]
   by_cases ho : fA l i = true
   ·refine .inr ⟨by simp [ho], fun r hr => ?_⟩
    rw [hu, if_pos ho]
    exact hr
   ·refine .inl ?_
    rw [hu, if_neg ho, bS]
    simp [ho]
  ·refine .inl ?_
   have h9' : decide ((l.length : Int) ≤ 9) = false := by simp; omega
   rw [← aG]
   simp only [aR.l0, h9']
   rw [ep]
   exact jq (hend i) (by simp [h9])
theorem lK (a : Int) : bO.f a = some (decide (a = 4 ∨ a = 5)) := by
 unfold bO.f
 by_cases h : a = 4
 ·simp [h]
 ·simp [h]; rfl
theorem mg (a : Int) : dA.f a = some (decide (a = 3 ∨ a ≥ 6)) := by
 unfold dA.f
 by_cases h : a = 3 <;> simp [h]
theorem kM (l : List aA) (i : Nat) (hi : i < l.length) (hl : l.length < 4611686018427387904) (b : Bool) (kind : Int) (word : ByteArray) (A B : Int) (r : Bool) :
  Ev (fun k => aN.j1 k l (i : Int) l (l.length : Int) (i : Int) b kind word A B) r ↔ if (!b && (if kind = 4 ∨ kind = 5 then decide (0 ≤ B ∧ B < i) else decide (B = 0))) = true then Ev (fun k => aN.l0 k l l (l.length : Int) ((i + 1 : Nat) : Int)) r else Ev (fun _ => some false) r := by
 rw [← aG]
 simp only [aN.j1, lK, at_eq, Option.bind_some, fH (i := i) (by omega), bE, decide_eq_true_eq]
 cases b
 ·by_cases h : kind = 4 ∨ kind = 5
  ·by_cases h2 : 0 ≤ B ∧ B < (i : Int) <;> simp [h, h2]
  ·by_cases h2 : B = 0 <;> simp [h, h2]
 ·simp
theorem jT (l : List aA) (i : Nat) : fA l i = (decide (1 ≤ (ah l i).f0 ∧ (ah l i).f0 ≤ 9) && (if (ah l i).f0 = 1 then bU (ah l i).f1 && decide ((ah l i).f2 = 0 ∧ (ah l i).f3 = 0)
  else decide ((ah l i).f1.size = 0) && (decide (0 ≤ (ah l i).f2 ∧ (ah l i).f2 < i) && (!(decide ((ah l i).f0 = 3 ∨ (ah l i).f0 ≥ 6) && decide (¬ (ah l (ah l i).f2).f0 = 1)) && (if (ah l i).f0 = 4 ∨ (ah l i).f0 = 5 then decide (0 ≤ (ah l i).f3 ∧ (ah l i).f3 < i) else decide ((ah l i).f3 = 0)))))) := by
 unfold fA kR
 generalize ah l (i : Int) = s
 generalize (ah l s.f2).f0 = a
 by_cases h1 : 1 ≤ s.f0 ∧ s.f0 ≤ 9
 ·by_cases h2 : s.f0 = 1
  ·simp [h2]
  ·simp only [h1, h2, and_self, decide_true, Bool.true_and, if_false]
   by_cases h3 : s.f0 = 4 ∨ s.f0 = 5
   ·have h4 : ¬ (s.f0 = 3 ∨ s.f0 ≥ 6) := by omega
    simp [h3, h4]
   ·simp only [h3, decide_false, Bool.false_eq_true, if_false]
    by_cases h4 : s.f0 = 2
    ·have h5 : ¬ (s.f0 = 3 ∨ s.f0 ≥ 6) := by omega
     simp [h4]
    ·have h5 : s.f0 = 3 ∨ s.f0 ≥ 6 := by omega
     by_cases h6 : a = 1 <;> simp [h4, h5, h6]
 ·simp [h1]
theorem iE (l : List aA) (hl : l.length < 4611686018427387904) : Ev (fun k => aN.f k l) (bW l) := by
 unfold aN.f
 simp only [iY, Option.bind_some, decide_eq_true_eq]
 unfold bW
 rw [bE]
 by_cases hlen : 1 ≤ l.length ∧ l.length ≤ 9
 ·rw [if_pos (by omega)]
  simp only [hlen, and_self, decide_true, Bool.true_and]
  have := kH (fun k i => aN.l0 k l l (l.length : Int) i) l.length (fun i => ((List.range l.length).drop i).all (fA l)) ?_ (fun i hi => ?_) 0 (Nat.zero_le _)
  ·simpa using this
  ·rw [← aG]
   simp only [aN.l0]
   rw [en, bS, List.drop_eq_nil_of_le (by simp)]
   simp
  ·have hd : (List.range l.length).drop i = i :: (List.range l.length).drop (i + 1) := by rw [List.drop_eq_getElem_cons (by simpa using hi)]; simp
   have hu : ∀ r, Ev (fun k => aN.l0 k l l (l.length : Int) (i : Int)) r ↔ if fA l i = true then Ev (fun k => aN.l0 k l l (l.length : Int) ((i + 1 : Nat) : Int)) r else Ev (fun _ => some false) r := by
    intro r
    rw [← aG]
    simp only [aN.l0, fH (i := i) (by omega), iY, mg, at_eq, Option.bind_some, jT]
    generalize ah l (i : Int) = s
    simp only [bE, decide_eq_true_eq, aU (kE s.f1), kM l i hi hl, toList_nil]
    rw [if_pos (by omega), if_pos (by omega), if_pos (by omega)]
    by_cases h1 : 1 ≤ s.f0 ∧ s.f0 ≤ 9
    ·by_cases h2 : s.f0 = 1
     ·simp only [h2]
      cases hw : bU s.f1
      ·simp
      ·by_cases h3 : s.f2 = 0
       ·by_cases h4 : s.f3 = 0 <;> simp [h3, h4]
       ·simp [h3]
     ·simp only [h1, h2, and_self, decide_true, Bool.true_and, if_true, if_false]
      by_cases h3 : s.f1.size = 0
      ·by_cases h4 : 0 ≤ s.f2 ∧ s.f2 < (i : Int)
       ·have h4' : s.f2 < (l.length : Int) := by omega
        by_cases h5 : s.f0 = 3 ∨ s.f0 ≥ 6
        ·simp only [h3, h4, h4', h5, and_self, decide_true, if_true, Bool.true_and]
         cases hb : ((ah l s.f2).f0 != 1)
         ·have hb' : (ah l s.f2).f0 = 1 := by simpa using hb
          simp [hb']
         ·have hb' : ¬ (ah l s.f2).f0 = 1 := by simpa using hb
          simp [hb']
        ·simp [h3, h4, h5]
       ·simp [h3, h4]
      ·simp [h3]
    ·simp [h1]
   rw [hd, List.all_cons]
   by_cases ho : fA l i = true
   ·refine .inr ⟨by simp [ho], fun r hr => ?_⟩
    rw [hu, if_pos ho]
    exact hr
   ·refine .inl ?_
    rw [hu, if_neg ho, bS]
    simp [ho]
 ·rw [if_neg (by omega)]
  simp [hlen, bS]
def build {β : Type} (f : List β → aA → β) : List β → List aA → List β
 | acc, [] => acc
 | acc, s :: l => build f (acc ++ [f acc s]) l
def built {β : Type} (f : List β → aA → β) (l : List aA) : List β := build f [] l
theorem gU {β : Type} (f : List β → aA → β) : ∀ (l m : List aA) (acc : List β), build f acc (l ++ m) = build f (build f acc l) m
 | [], m, acc => rfl
 | s :: l, m, acc => by simp only [List.cons_append, build]; exact gU f l m _
theorem jm {β : Type} (f : List β → aA → β) : ∀ (l : List aA) (acc : List β), (build f acc l).length = acc.length + l.length
 | [], acc => by simp [build]
 | s :: l, acc => by simp only [build]; rw [jm f l]; simp; omega
theorem eZ {β : Type} (f : List β → aA → β) (l : List aA) : (built f l).length = l.length := by
 unfold built; rw [jm]; simp
theorem kI {β : Type} (f : List β → aA → β) : ∀ (l : List aA) (acc : List β) (j : Nat), j < acc.length → (build f acc l)[j]? = acc[j]?
 | [], acc, j, h => rfl
 | s :: l, acc, j, h => by
  simp only [build]
  rw [kI f l _ j (by simp; omega), List.getElem?_append_left h]
theorem kJ {β : Type} (f : List β → aA → β) (l : List aA) (i : Nat) (h : i < l.length) : built f (l.take (i + 1)) = built f (l.take i) ++ [f (built f (l.take i)) l[i]] := by
 rw [List.take_succ_eq_append_getElem h]
 unfold built
 rw [gU]
 rfl
theorem iU {β : Type} (f : List β → aA → β) (l : List aA) (i j : Nat) (hj : j < i) (hi : i ≤ l.length) : (built f (l.take i))[j]? = (built f l)[j]? := by
 have e : built f l = build f (built f (l.take i)) (l.drop i) := by
  unfold built
  rw [← gU, List.take_append_drop]
 rw [e, kI f _ _ _ (by rw [eZ, List.length_take]; omega)]
theorem lI {β : Type} (f : List β → aA → β) (l : List aA) (i : Nat) (h : i < l.length) : (built f l)[i]? = some (f (built f (l.take i)) l[i]) := by
 rw [← iU f l (i + 1) i (by omega) (by omega), kJ f l i h, List.getElem?_append_right (by rw [eZ, List.length_take]; omega)]
 rw [eZ, List.length_take, Nat.min_eq_left (by omega), Nat.sub_self]
 rfl
theorem eu {l : List aA} {i : Nat} (hi : i < l.length) (h : fA l i = true) : (1 ≤ l[i].f0 ∧ l[i].f0 ≤ 9) ∧ (l[i].f0 = 1 → bU l[i].f1 = true) ∧ (¬ l[i].f0 = 1 → 0 ≤ l[i].f2 ∧ l[i].f2 < i) ∧ (l[i].f0 = 4 ∨ l[i].f0 = 5 → 0 ≤ l[i].f3 ∧ l[i].f3 < i) ∧ (¬ l[i].f0 = 1 → ¬ (l[i].f0 = 4 ∨ l[i].f0 = 5) → l[i].f3 = 0) ∧
  (l[i].f0 = 3 ∨ l[i].f0 ≥ 6 → (ah l l[i].f2).f0 = 1) ∧ (¬ l[i].f0 = 1 → l[i].f1.size = 0) ∧ (l[i].f0 = 1 → l[i].f2 = 0 ∧ l[i].f3 = 0) := by
 rw [jT, gT l i hi] at h
 simp only [Bool.and_eq_true, decide_eq_true_eq] at h
 obtain ⟨h1, h2⟩ := h
 refine ⟨h1, fun e => ?_, fun e => ?_, fun e => ?_, fun e e' => ?_, fun e => ?_, fun e => ?_, fun e => ?_⟩
 ·rw [if_pos e] at h2; simp at h2; exact h2.1
 ·rw [if_neg e] at h2; simp at h2; exact h2.2.1
 ·have e' : ¬ l[i].f0 = 1 := by omega
  rw [if_neg e', if_pos e] at h2; simp at h2; exact h2.2.2.2
 ·rw [if_neg e, if_neg e'] at h2; simp at h2; exact h2.2.2.2
 ·have e' : ¬ l[i].f0 = 1 := by omega
  rw [if_neg e'] at h2; simp at h2
  have h3 := h2.2.2.1
  rcases h3 with h3 | h3
  ·omega
  ·exact h3
 ·rw [if_neg e] at h2; simp at h2; rw [h2.1]; rfl
 ·rw [if_pos e] at h2; simp at h2; exact h2.2
def j6 (k : Int) : ByteArray := (⟨#[63, 63, 98, 109, 106, 105, 104, 110, 116, 100]⟩ : ByteArray).extract k.toNat (wrap64 (k + 1)).toNat
def qQ (k : Int) : ByteArray := (⟨#[32, 32, 98, 109, 106, 105, 104, 110, 116, 100]⟩ : ByteArray).extract k.toNat (wrap64 (k + 1)).toNat
theorem pI {k : Int} (h : 2 ≤ k ∧ k ≤ 9) : qQ k = j6 k := by
 obtain rfl | rfl | rfl | rfl | rfl | rfl | rfl | rfl : k = 2 ∨ k = 3 ∨ k = 4 ∨ k = 5 ∨ k = 6 ∨ k = 7 ∨ k = 8 ∨ k = 9 := by omega
 all_goals decide +kernel
theorem iK {k : Int} (h : 2 ≤ k ∧ k ≤ 9) : (j6 k).size = 1 := by
 obtain rfl | rfl | rfl | rfl | rfl | rfl | rfl | rfl : k = 2 ∨ k = 3 ∨ k = 4 ∨ k = 5 ∨ k = 6 ∨ k = 7 ∨ k = 8 ∨ k = 9 := by omega
 all_goals decide +kernel
def rdB (acc : List ByteArray) (i : Int) : ByteArray := acc.getD i.toNat ByteArray.empty
def kN (acc : List ByteArray) (s : aA) : ByteArray :=
 if s.f0 = 1 then s.f1 else if s.f0 = 4 ∨ s.f0 = 5 then (((j6 s.f0 ++ ⟨#[40]⟩) ++ rdB acc s.f2) ++ (⟨#[44]⟩ ++ rdB acc s.f3)) ++ ⟨#[41]⟩ else ((j6 s.f0 ++ ⟨#[40]⟩) ++ rdB acc s.f2) ++ ⟨#[41]⟩
theorem oh (acc : List ByteArray) (s : aA) : kN acc s = if s.f0 = 1 then s.f1 else if s.f0 = 4 ∨ s.f0 = 5 then (((j6 s.f0 ++ ⟨#[40]⟩) ++ rdB acc s.f2) ++ (⟨#[44]⟩ ++ rdB acc s.f3)) ++ ⟨#[41]⟩ else ((j6 s.f0 ++ ⟨#[40]⟩) ++ rdB acc s.f2) ++ ⟨#[41]⟩ := rfl
def eT (l : List aA) (i : Int) : ByteArray := rdB (built kN l) i
theorem dn (c : UInt8) : (⟨#[c]⟩ : ByteArray).size = 1 := rfl
theorem oW (l : List aA) (i : Nat) (hi : i < l.length) : eT l (i : Int) = kN (built kN (l.take i)) l[i] := by
 unfold eT rdB
 rw [List.getD_eq_getElem?_getD, Int.toNat_natCast, lI kN l i hi]
 rfl
theorem kZ (l : List aA) (i : Nat) (hi : i ≤ l.length) (a : Int) (h0 : 0 ≤ a) (h1 : a < i) : rdB (built kN (l.take i)) a = eT l a := by
 unfold eT rdB
 rw [List.getD_eq_getElem?_getD, List.getD_eq_getElem?_getD, iU kN l i a.toNat (by omega) hi]
theorem gN {l : List aA} (hp : bW l = true) (i : Nat) (hi : i < l.length) : eT l (i : Int) = if l[i].f0 = 1 then l[i].f1 else if l[i].f0 = 4 ∨ l[i].f0 = 5 then (((j6 l[i].f0 ++ ⟨#[40]⟩) ++ eT l l[i].f2) ++ (⟨#[44]⟩ ++ eT l l[i].f3)) ++ ⟨#[41]⟩ else ((j6 l[i].f0 ++ ⟨#[40]⟩) ++ eT l l[i].f2) ++ ⟨#[41]⟩ := by
 obtain ⟨p1, p2, p3, p4, _⟩ := eu hi (dN hp i hi)
 rw [oW l i hi]
 rw [oh]
 by_cases h1 : l[i].f0 = 1
 ·simp [h1]
 ·have q3 := p3 h1
  rw [kZ l i (by omega) _ q3.1 q3.2]
  by_cases h4 : l[i].f0 = 4 ∨ l[i].f0 = 5
  ·have q4 := p4 h4
   rw [kZ l i (by omega) _ q4.1 q4.2]
  ·simp only [h1, h4, if_false]
theorem mP {l : List aA} (hp : bW l = true) : ∀ (n i : Nat), i < n → i < l.length → (eT l (i : Int)).size + 4 ≤ 2 ^ (i + 4) := by
 intro n
 induction n with
 | zero => intro i h; omega
 | succ n ih =>
  intro i hin hi
  obtain ⟨p1, p2, p3, p4, _⟩ := eu hi (dN hp i hi)
  have hpos : 2 ^ 4 ≤ 2 ^ (i + 4) := Nat.pow_le_pow_right (by omega) (by omega)
  rw [gN hp i hi]
  by_cases h1 : l[i].f0 = 1
  ·have := fq (p2 h1)
   rw [if_pos h1]
   omega
  ·have q3 := p3 h1
   obtain ⟨a, ha⟩ := Int.eq_ofNat_of_zero_le q3.1
   have ea := ih a (by omega) (by omega)
   have la : 2 ^ (a + 4) ≤ 2 ^ (i + 3) := Nat.pow_le_pow_right (by omega) (by omega)
   have l2 : 2 ^ (i + 4) = 2 * 2 ^ (i + 3) := by rw [Nat.pow_succ]; omega
   have hz := iK (k := l[i].f0) (by omega)
   rw [if_neg h1, ha]
   by_cases h4 : l[i].f0 = 4 ∨ l[i].f0 = 5
   ·have q4 := p4 h4
    obtain ⟨b, hb⟩ := Int.eq_ofNat_of_zero_le q4.1
    have eb := ih b (by omega) (by omega)
    have lb : 2 ^ (b + 4) ≤ 2 ^ (i + 3) := Nat.pow_le_pow_right (by omega) (by omega)
    rw [if_pos h4, hb]
    simp only [ByteArray.size_append, hz, dn]
    omega
   ·rw [if_neg h4]
    simp only [ByteArray.size_append, hz, dn]
    omega
theorem eX {l : List aA} (hp : bW l = true) (i : Nat) (hi : i < l.length) : (eT l (i : Int)).size ≤ 4096 := by
 have := mP hp (i + 1) i (by omega) hi
 have hlen := eO hp
 have : 2 ^ (i + 4) ≤ 2 ^ 12 := Nat.pow_le_pow_right (by omega) (by omega)
 omega
theorem jW {l : List aA} (hp : bW l = true) : ∀ (n i : Nat), i < n → (hi : i < l.length) → Ev (fun k => bn.f k l (i : Int)) (eT l (i : Int)) := by
 intro n
 induction n with
 | zero => intro i h; omega
 | succ n ih =>
  intro i hin hi
  obtain ⟨p1, p2, p3, p4, _⟩ := eu hi (dN hp i hi)
  rw [gN hp i hi, ← aG]
  simp only [bn.f, gT l i hi, bE]
  rw [if_pos (by omega), if_pos (by omega)]
  by_cases h1 : l[i].f0 = 1
  ·simp [h1, bS]
  ·have q3 := p3 h1
   obtain ⟨a, ha⟩ := Int.eq_ofNat_of_zero_le q3.1
   have ea := ih a (by omega) (by omega)
   have sa := eX hp a (by omega)
   rw [← ha] at ea sa
   have hL : (⟨#[32, 32, 98, 109, 106, 105, 104, 110, 116, 100]⟩ : ByteArray).extract (l[i].f0).toNat (wrap64 (l[i].f0 + 1)).toNat = j6 l[i].f0 := pI (k := l[i].f0) (by omega)
   have hz := iK (k := l[i].f0) (by omega)
   have hw : wrap64 (l[i].f0 + 1) = l[i].f0 + 1 := iX (by omega) (by omega)
   simp only [hL]
   rw [if_neg h1, if_neg h1, if_pos (by omega), if_pos (by omega), if_pos (by omega), if_pos (by omega), aU ea, ep (by simp only [ByteArray.size_append, hz, dn]; omega)]
   by_cases h4 : l[i].f0 = 4 ∨ l[i].f0 = 5
   ·have q4 := p4 h4
    obtain ⟨b, hb⟩ := Int.eq_ofNat_of_zero_le q4.1
    have eb := ih b (by omega) (by omega)
    have sb := eX hp b (by omega)
    rw [← hb] at eb sb
    have fin : ∀ r : ByteArray, (((j6 l[i].f0 ++ ⟨#[40]⟩) ++ eT l l[i].f2) ++ (⟨#[44]⟩ ++ eT l l[i].f3)) ++ ⟨#[41]⟩ = ((((j6 l[i].f0 ++ ⟨#[40]⟩) ++ eT l l[i].f2) ++ ⟨#[44]⟩) ++ eT l l[i].f3) ++ ⟨#[41]⟩ := fun _ => by simp only [ByteArray.append_assoc]
    rw [if_pos h4, fin ByteArray.empty]
    rcases h4 with h4 | h4
    ·rw [ep h4, ep (by simp only [ByteArray.size_append, hz, dn]; omega), aU eb, ep (by simp only [ByteArray.size_append, hz, dn]; omega), ep (by simp only [ByteArray.size_append, hz, dn]; omega)]
     exact bB _
    ·rw [en, ep h4, ep (by simp only [ByteArray.size_append, hz, dn]; omega), aU eb, ep (by simp only [ByteArray.size_append, hz, dn]; omega), ep (by simp only [ByteArray.size_append, hz, dn]; omega)]
     exact bB _
   ·rw [if_neg h4, en, en, ep (by simp only [ByteArray.size_append, hz, dn]; omega)]
    exact bB _
theorem jJ {l : List aA} (hp : bW l = true) : ∀ (n i : Nat), i < n → (hi : i < l.length) → Ev (fun k => bg.f k l (i : Int)) (eT l (i : Int)) := by
 intro n
 induction n with
 | zero => intro i h; omega
 | succ n ih =>
  intro i hin hi
  obtain ⟨p1, p2, p3, p4, _⟩ := eu hi (dN hp i hi)
  rw [gN hp i hi, ← aG]
  simp only [bg.f, gT l i hi, lK, Option.bind_some, bE]
  rw [if_pos (by omega), if_pos (by omega)]
  by_cases h1 : l[i].f0 = 1
  ·simp [h1, bS]
  ·have q3 := p3 h1
   obtain ⟨a, ha⟩ := Int.eq_ofNat_of_zero_le q3.1
   have ea := ih a (by omega) (by omega)
   have sa := eX hp a (by omega)
   rw [← ha] at ea sa
   have hL : (⟨#[63, 63, 98, 109, 106, 105, 104, 110, 116, 100]⟩ : ByteArray).extract (l[i].f0).toNat (wrap64 (l[i].f0 + 1)).toNat = j6 l[i].f0 := rfl
   have hz := iK (k := l[i].f0) (by omega)
   have hw : wrap64 (l[i].f0 + 1) = l[i].f0 + 1 := iX (by omega) (by omega)
   simp only [hL]
   rw [if_neg h1, if_neg h1, if_pos (by omega), if_pos (by omega), if_pos (by omega), if_pos (by omega), aU ea, ep (by simp only [ByteArray.size_append, hz, dn]; omega), bE]
   by_cases h4 : l[i].f0 = 4 ∨ l[i].f0 = 5
   ·have q4 := p4 h4
    obtain ⟨b, hb⟩ := Int.eq_ofNat_of_zero_le q4.1
    have eb := ih b (by omega) (by omega)
    have sb := eX hp b (by omega)
    rw [← hb] at eb sb
    rw [if_pos h4, if_pos (by simpa using h4), aU eb, ep, ep (by simp only [ByteArray.size_append, hz, dn]; omega), ep (by simp only [ByteArray.size_append, hz, dn]; omega)]
    exact bB _
   ·rw [if_neg h4, if_neg (by simpa using h4), ep (by simp only [ByteArray.size_append, hz, dn]; omega)]
    exact bB _
theorem mJ (a b : Int) : fu.f a b = some (mn a b) := by
 unfold fu.f mn
 split <;> rfl
def fI (acc : List Int) (s : aA) : Int :=
 if s.f0 = 1 then (s.f1.size : Int) else if s.f0 = 4 ∨ s.f0 = 5 then mn 999 (wrap64 (wrap64 (rd acc s.f2 + rd acc s.f3) + 4)) else mn 999 (wrap64 (rd acc s.f2 + 3))
theorem lU (acc : List Int) (s : aA) : fI acc s = if s.f0 = 1 then (s.f1.size : Int) else if s.f0 = 4 ∨ s.f0 = 5 then mn 999 (wrap64 (wrap64 (rd acc s.f2 + rd acc s.f3) + 4)) else mn 999 (wrap64 (rd acc s.f2 + 3)) := rfl
theorem ni {l : List aA} (hp : bW l = true) : ∀ (n i : Nat), i < n → (hi : i < l.length) → rd (built fI l) (i : Int) = mn 999 ((eT l (i : Int)).size : Int) := by
 intro n
 induction n with
 | zero => intro i h; omega
 | succ n ih =>
  intro i hin hi
  obtain ⟨p1, p2, p3, p4, _⟩ := eu hi (dN hp i hi)
  have hb : rd (built fI l) (i : Int) = fI (built fI (l.take i)) l[i] := by
   have := lI fI l i hi
   unfold rd
   rw [List.getD_eq_getElem?_getD, Int.toNat_natCast, this]
   rfl
  have hr : ∀ a : Int, 0 ≤ a → a < i → rd (built fI (l.take i)) a = rd (built fI l) a := by
   intro a h0 h1
   unfold rd
   rw [List.getD_eq_getElem?_getD, List.getD_eq_getElem?_getD, iU fI l i a.toNat (by omega) (by omega)]
  rw [hb, gN hp i hi]
  rw [lU]
  by_cases h1 : l[i].f0 = 1
  ·have := fq (p2 h1)
   simp only [h1, if_true, mn]
   rw [if_pos (by omega)]
  ·have q3 := p3 h1
   obtain ⟨a, ha⟩ := Int.eq_ofNat_of_zero_le q3.1
   have ea := ih a (by omega) (by omega)
   have sa := eX hp a (by omega)
   rw [← ha] at ea sa
   have hz := iK (k := l[i].f0) (by omega)
   simp only [h1, if_false]
   rw [hr _ q3.1 q3.2, ea]
   by_cases h4 : l[i].f0 = 4 ∨ l[i].f0 = 5
   ·have q4 := p4 h4
    obtain ⟨b, hb⟩ := Int.eq_ofNat_of_zero_le q4.1
    have eb := ih b (by omega) (by omega)
    have sb := eX hp b (by omega)
    rw [← hb] at eb sb
    simp only [h4, if_true]
    rw [hr _ q4.1 q4.2, eb]
    simp only [ByteArray.size_append, hz, dn]
    unfold mn wrap64
    omega
   ·simp only [h4, if_false]
    simp only [ByteArray.size_append, hz, dn]
    unfold mn wrap64
    omega
theorem jZ {l : List aA} (hp : bW l = true) : Ev (fun k => aJ.f k l) (rd (built fI l) ((l.length : Int) - 1)) := by
 have hlen := eO hp
 have := kr (fun k s i => aJ.l0 k l s i) l.length (fun i s => s = built fI (l.take i)) (fun _ _ => rd (built fI l) ((l.length : Int) - 1)) (fun s hs => ?_) (fun i s hi hs => .inr ⟨s ++ [fI s l[i]], ?_, rfl, fun r hr => ?_⟩) 0 [] (Nat.zero_le _) rfl
 ·exact this
 ·subst hs
  rw [← aG]
  have hbl := eZ fI l
  have e : wrap64 ((((built fI l).length : Nat) : Int) - 1) = (l.length : Int) - 1 := by rw [hbl]; exact iX (by omega) (by omega)
  simp only [aJ.l0, List.take_length, e]
  rw [en, ep, ep]
  exact bB _
 ·rw [hs, kJ fI l i hi]
 ·obtain ⟨p1, p2, p3, p4, _⟩ := eu hi (dN hp i hi)
  have hsl : s.length = i := by rw [hs, eZ, List.length_take]; omega
  have hx : s.length < 17592186044416 := by omega
  rw [← aG]
  simp only [aJ.l0, gT l i hi, fH (i := i) (by omega), bE]
  rw [if_pos (by omega), if_pos (by omega)]
  rw [lU] at hr
  by_cases h1 : l[i].f0 = 1
  ·simp only [h1, if_true] at hr ⊢
   rw [if_pos hx]
   exact hr
  ·have q3 := p3 h1
   simp only [h1, if_false] at hr ⊢
   have hj : ∀ b : Bool, b = decide (l[i].f0 = 4 ∨ l[i].f0 = 5) → Ev (fun k => aJ.j1 k l s (i : Int) b l[i].f0 l[i].f1 l[i].f2 l[i].f3) r := by
    intro b hb
    rw [← aG]
    simp only [aJ.j1, fH (i := i) (by omega), mJ, Option.bind_some, bE, hb, decide_eq_true_eq]
    by_cases h4 : l[i].f0 = 4 ∨ l[i].f0 = 5
    ·have q4 := p4 h4
     simp only [h4, if_true] at hr ⊢
     rw [if_pos q3.1, if_pos (by omega), if_pos q4.1, if_pos (by omega), if_pos hx]
     exact hr
    ·simp only [h4, if_false] at hr ⊢
     rw [if_pos q3.1, if_pos (by omega), if_pos hx]
     exact hr
   by_cases h4 : l[i].f0 = 4
   ·rw [if_pos h4]
    exact hj _ (by simp [h4])
   ·rw [if_neg h4]
    refine hj _ ?_
    rw [Bool.eq_iff_iff]
    simp [h4]
def dG (l : List aA) : ByteArray := if bW l = true then (if ((eT l ((l.length - 1 : Nat) : Int)).size : Int) > 80 then (⟨#[]⟩ : ByteArray) else eT l ((l.length - 1 : Nat) : Int)) else (⟨#[]⟩ : ByteArray)
theorem jE (l : List aA) (hl : l.length < 4611686018427387904) : Ev (fun k => cZ.f k l) (dG l) := by
 unfold cZ.f dG
 rw [aU (iD l hl), bE]
 split
 ·rename_i hp
  have hlen := eO hp
  have e : wrap64 ((l.length : Int) - 1) = ((l.length - 1 : Nat) : Int) := by rw [iX (by omega) (by omega)]; omega
  have hz := jZ hp
  rw [show (l.length : Int) - 1 = ((l.length - 1 : Nat) : Int) by omega, ni hp l.length (l.length - 1) (by omega) (by omega)] at hz
  have ht := jW hp l.length (l.length - 1) (by omega) (by omega)
  rw [e]
  generalize eT l ((l.length - 1 : Nat) : Int) = T at hz ht ⊢
  have hm : mn 999 (T.size : Int) > 80 ↔ (T.size : Int) > 80 := by unfold mn; split <;> omega
  rw [aU hz, bE, aU ht]
  simp only [hm]
  split
  ·exact bB _
  ·exact bB _
 ·exact bB _
theorem jM (l : List aA) (hl : l.length < 4611686018427387904) : Ev (fun k => dH.f k l) (dG l) := by
 unfold dH.f dG
 rw [aU (iE l hl), bE]
 split
 ·rename_i hp
  have hlen := eO hp
  have e : wrap64 ((l.length : Int) - 1) = ((l.length - 1 : Nat) : Int) := by rw [iX (by omega) (by omega)]; omega
  rw [e, aU (jJ hp l.length (l.length - 1) (by omega) (by omega)), bE]
  split
  ·exact bB _
  ·exact bB _
 ·exact bB _
theorem evP {α : Type} {c : Prop} [Decidable c] {f g : Nat → Option α} {r : α} (h : c) : Ev (fun k => if c then f k else g k) r ↔ Ev f r := by rw [ep h]
theorem evN {α : Type} {c : Prop} [Decidable c] {f g : Nat → Option α} {r : α} (h : ¬ c) : Ev (fun k => if c then f k else g k) r ↔ Ev g r := by rw [en h]
theorem lY (l : List aA) (c : Int) (h0 : 0 ≤ c) (hc : c + 4 * l.length < 4611686018427387904) : Ev (fun k => aH.f k (fB (fun _ b => ⟨b, MT (b + 1), b + 2, b + 3⟩) (fun _ => 4) l c) c) (c + 4 * l.length) := by
 unfold aH.f
 have hw2 : eH (fun _ : aA => 4) (fB (fun _ b => ⟨b, MT (b + 1), b + 2, b + 3⟩) (fun _ => 4) l c) = 4 * l.length := by rw [gH, eB]
 have hml := eB (fun (_ : aA) b => (⟨b, MT (b + 1), b + 2, b + 3⟩ : aA)) (fun _ => 4) l c
 have := oz (fun k b i => aH.l0 k (fB (fun _ b => ⟨b, MT (b + 1), b + 2, b + 3⟩) (fun _ => 4) l c) b i) (fB (fun (_ : aA) b => (⟨b, MT (b + 1), b + 2, b + 3⟩ : aA)) (fun _ => 4) l c) (fun _ => 4) c ?_ ?_
 ·rw [hw2] at this
  have e : c + ((4 * l.length : Nat) : Int) = c + 4 * l.length := by omega
  rw [e] at this
  exact this
 ·intro b
  rw [← aG]
  simp only [aH.l0]
  rw [evN (by omega)]
  exact bB _
 ·intro i h b hb hle r hr
  have hil : i < l.length := by rw [hml] at h; exact h
  have hlt : (i : Int) < ((fB (fun (_ : aA) b => (⟨b, MT (b + 1), b + 2, b + 3⟩ : aA)) (fun _ => 4) l c).length : Int) := Int.ofNat_lt.mpr h
  have hg := jC (fun (_ : aA) b => (⟨b, MT (b + 1), b + 2, b + 3⟩ : aA)) (fun _ => 4) l c i hil
  have hbb : c + eH (fun _ : aA => 4) (l.take i) = b := by
   rw [hb, gH, gH, List.length_take, List.length_take, hml]
  rw [hbb] at hg
  have hb2 : b = c + 4 * i := by rw [← hbb, gH, List.length_take]; omega
  have hb1 : b + 1 < 4611686018427387904 := by clear hb hle hr hg hbb hw2; omega
  have e1 : wrap64 (b + 1) = b + 1 := iX (by omega) (by omega)
  have e2 : wrap64 (b + 1 + 1) = b + 2 := by rw [iX (by omega) (by omega)]; omega
  have e3 : wrap64 (b + 2 + 1) = b + 3 := by rw [iX (by omega) (by omega)]; omega
  have e4 : wrap64 (b + 3 + 1) = b + ((4 : Nat) : Int) := by rw [iX (by omega) (by omega)]; omega
  have w3 : wrap64 ((i : Int) + 1) = ((i + 1 : Nat) : Int) := fH (by omega)
  rw [← aG]
  simp only [aH.l0]
  rw [evP hlt, evP (Int.natCast_nonneg i)]
  simp only [gT _ i h, hg, e1, e2, e3, e4, w3]
  rw [evP trivial, aU (qh (b + 1) hb1)]
  simp only [if_true]
  exact hr
def tx (L : List UInt8) : ByteArray := ⟨L.toArray⟩
theorem ko (L : List UInt8) : (tx L).data.toList = L := by simp [tx]
theorem dQ (L : List UInt8) : (tx L).size = L.length := by
 show (L.toArray).size = _
 simp
theorem pV (L : List UInt8) (n : Nat) : (tx L).extract n (tx L).size = tx (L.drop n) := by
 apply ByteArray.ext
 rw [ByteArray.data_extract, dQ]
 apply Array.ext'
 simp [tx]
 rw [List.take_of_length_le (by rw [List.length_drop]; omega)]
theorem pE (L : List UInt8) (n : Nat) : (tx L).extract 0 n = tx (L.take n) := by
 apply ByteArray.ext
 rw [ByteArray.data_extract]
 apply Array.ext'
 simp [tx]
def hp (L : List UInt8) (c : UInt8) : Bool := match L with | [] => false | x :: _ => x == c
theorem kC (L : List UInt8) (c : UInt8) : HandRead.kP (tx L) c = hp L c := by
 unfold HandRead.kP Go.Lib.hasPrefix
 rw [ko]
 cases L with
 | nil => rfl
 | cons x r =>
  simp [List.isPrefixOf, hp]
  exact Bool.beq_comm
theorem l8 (L : List UInt8) (c : UInt8) : HandRead.jK (tx L) c = tx (if hp L c = true then L.drop 1 else L) := by
 have := kC L c
 unfold HandRead.kP at this
 unfold HandRead.jK Go.Lib.trimPrefix
 rw [this, ko]
 rfl
abbrev Stp := HandRead.Stp
def kdI (L : List UInt8) : Int := Go.Lib.indexByte HandRead.kinds (L.headD 0)
def gQ (L : List UInt8) (l : List Stp) (kd a b : Int) : Int × List UInt8 × List Stp :=
 if hp L 41 = true then ((l.length : Int), L.drop 1, l ++ [(kd, ⟨#[]⟩, a, b)]) else (-1, L, l)
def aZ : Nat → List UInt8 → List Stp → Int × List UInt8 × List Stp
 | 0, L, l => (-1, L, l)
 | k + 1, L, l =>
  if hp (L.drop (HandRead.lets L)) 40 = true then
   (if HandRead.lets L = 1 then
    (if kdI L < 2 then (-1, (L.drop (HandRead.lets L)).drop 1, l) else
     if (aZ k ((L.drop (HandRead.lets L)).drop 1) l).1 < 0 then (-1, (aZ k ((L.drop (HandRead.lets L)).drop 1) l).2.1, (aZ k ((L.drop (HandRead.lets L)).drop 1) l).2.2) else
     if kdI L = 4 ∨ kdI L = 5 then
      (if hp (aZ k ((L.drop (HandRead.lets L)).drop 1) l).2.1 44 = true then
       (if (aZ k ((aZ k ((L.drop (HandRead.lets L)).drop 1) l).2.1.drop 1) (aZ k ((L.drop (HandRead.lets L)).drop 1) l).2.2).1 < 0 then
        (-1, (aZ k ((aZ k ((L.drop (HandRead.lets L)).drop 1) l).2.1.drop 1) (aZ k ((L.drop (HandRead.lets L)).drop 1) l).2.2).2.1, (aZ k ((aZ k ((L.drop (HandRead.lets L)).drop 1) l).2.1.drop 1) (aZ k ((L.drop (HandRead.lets L)).drop 1) l).2.2).2.2)
       else gQ (aZ k ((aZ k ((L.drop (HandRead.lets L)).drop 1) l).2.1.drop 1) (aZ k ((L.drop (HandRead.lets L)).drop 1) l).2.2).2.1 (aZ k ((aZ k ((L.drop (HandRead.lets L)).drop 1) l).2.1.drop 1) (aZ k ((L.drop (HandRead.lets L)).drop 1) l).2.2).2.2 (kdI L) (aZ k ((L.drop (HandRead.lets L)).drop 1) l).1 (aZ k ((aZ k ((L.drop (HandRead.lets L)).drop 1) l).2.1.drop 1) (aZ k ((L.drop (HandRead.lets L)).drop 1) l).2.2).1)
      else (-1, (aZ k ((L.drop (HandRead.lets L)).drop 1) l).2.1, (aZ k ((L.drop (HandRead.lets L)).drop 1) l).2.2))
     else gQ (aZ k ((L.drop (HandRead.lets L)).drop 1) l).2.1 (aZ k ((L.drop (HandRead.lets L)).drop 1) l).2.2 (kdI L) (aZ k ((L.drop (HandRead.lets L)).drop 1) l).1 0)
   else (-1, (L.drop (HandRead.lets L)).drop 1, l))
  else ((l.length : Int), L.drop (HandRead.lets L), l ++ [(1, tx (L.take (HandRead.lets L)), 0, 0)])
theorem dY {L : List UInt8} {c : UInt8} (h : hp L c = true) : (L.drop 1).length + 1 = L.length := by
 cases L with
 | nil => cases h
 | cons x r => simp
theorem iJ : ∀ (k : Nat) (L : List UInt8) (l : List Stp), (aZ k L l).2.1.length ≤ L.length ∧ (aZ k L l).2.2.length + (aZ k L l).2.1.length ≤ l.length + L.length + 1 := by
 intro k
 induction k with
 | zero => intro L l; exact ⟨Nat.le_refl _, by simp only [aZ]; omega⟩
 | succ k ih =>
  intro L l
  have hd : (L.drop (HandRead.lets L)).length ≤ L.length := by rw [List.length_drop]; omega
  unfold aZ
  by_cases p1 : hp (L.drop (HandRead.lets L)) 40 = true
  ·rw [if_pos p1]
   have h1 := dY p1
   by_cases p2 : HandRead.lets L = 1
   ·rw [if_pos p2]
    by_cases p3 : kdI L < 2
    ·rw [if_pos p3]
     constructor <;> dsimp only <;> omega
    rw [if_neg p3]
    obtain ⟨a1, a2⟩ := ih ((L.drop (HandRead.lets L)).drop 1) l
    generalize aZ k ((L.drop (HandRead.lets L)).drop 1) l = r at a1 a2 ⊢
    by_cases p4 : r.1 < 0
    ·rw [if_pos p4]
     constructor <;> dsimp only <;> omega
    rw [if_neg p4]
    have hf : ∀ (R : List UInt8) (m : List Stp) (kd a b : Int), (gQ R m kd a b).2.1.length ≤ R.length ∧ (gQ R m kd a b).2.2.length + (gQ R m kd a b).2.1.length ≤ m.length + R.length := by
     intro R m kd a b
     unfold gQ
     split
     ·have := dY ‹_›
      simp only [List.length_append, List.length_cons, List.length_nil]
      constructor <;> omega
     ·exact ⟨Nat.le_refl _, Nat.le_refl _⟩
    by_cases p5 : kdI L = 4 ∨ kdI L = 5
    ·rw [if_pos p5]
     by_cases p6 : hp r.2.1 44 = true
     ·rw [if_pos p6]
      have h2 := dY p6
      obtain ⟨b1, b2⟩ := ih (r.2.1.drop 1) r.2.2
      generalize aZ k (r.2.1.drop 1) r.2.2 = q at b1 b2 ⊢
      by_cases p7 : q.1 < 0
      ·rw [if_pos p7]
       constructor <;> dsimp only <;> omega
      ·rw [if_neg p7]
       obtain ⟨c1, c2⟩ := hf q.2.1 q.2.2 (kdI L) r.1 q.1
       constructor <;> omega
     ·rw [if_neg p6]
      constructor <;> dsimp only <;> omega
    ·rw [if_neg p5]
     obtain ⟨c1, c2⟩ := hf r.2.1 r.2.2 (kdI L) r.1 0
     constructor <;> omega
   ·rw [if_neg p2]
    constructor <;> dsimp only <;> omega
  ·rw [if_neg p1]
   simp only [List.length_append, List.length_cons, List.length_nil]
   constructor <;> omega
theorem oZ : ∀ (k : Nat) (L : List UInt8) (l : List Stp), L.length < k → l.length + L.length < 900 → HandRead.jS k (tx L) l = some ((aZ k L l).1, tx (aZ k L l).2.1, (aZ k L l).2.2) := by
 intro k
 induction k with
 | zero => intro L l h; omega
 | succ k ih =>
  intro L l hk hs
  have hd : (L.drop (HandRead.lets L)).length ≤ L.length := by rw [List.length_drop]; omega
  unfold HandRead.jS aZ
  rw [if_pos (by rw [dQ]; omega), ko, pV, pE]
  rw [kC, l8]
  have hkd : Go.Lib.indexByte HandRead.kinds (L.headD 0) = kdI L := rfl
  rw [hkd]
  by_cases p1 : hp (L.drop (HandRead.lets L)) 40 = true
  ·simp only [if_pos p1]
   have h1 := dY p1
   by_cases p2 : HandRead.lets L = 1
   ·simp only [if_pos p2]
    by_cases p3 : kdI L < 2
    ·simp only [if_pos p3]
    simp only [if_neg p3]
    obtain ⟨a1, a2⟩ := iJ k ((L.drop (HandRead.lets L)).drop 1) l
    rw [ih ((L.drop (HandRead.lets L)).drop 1) l (by omega) (by omega)]
    generalize aZ k ((L.drop (HandRead.lets L)).drop 1) l = r at a1 a2 ⊢
    simp only [Option.bind_some]
    have hf : ∀ (R : List UInt8) (m : List Stp) (kd a b : Int), HandRead.fin (tx R) m kd a b = ((gQ R m kd a b).1, tx (gQ R m kd a b).2.1, (gQ R m kd a b).2.2) := by
     intro R m kd a b
     unfold HandRead.fin gQ
     rw [kC, l8]
     by_cases p : hp R 41 = true
     ·simp only [if_pos p]
     ·simp only [if_neg p]
    by_cases p4 : r.1 < 0
    ·simp only [if_pos p4]
    simp only [if_neg p4]
    by_cases p5 : kdI L = 4 ∨ kdI L = 5
    ·simp only [if_pos p5]
     rw [kC, l8]
     by_cases p6 : hp r.2.1 44 = true
     ·simp only [if_pos p6]
      have h2 := dY p6
      obtain ⟨b1, b2⟩ := iJ k (r.2.1.drop 1) r.2.2
      rw [ih (r.2.1.drop 1) r.2.2 (by omega) (by omega)]
      generalize aZ k (r.2.1.drop 1) r.2.2 = q at b1 b2 ⊢
      simp only [Option.bind_some]
      by_cases p7 : q.1 < 0
      ·simp only [if_pos p7]
      ·simp only [if_neg p7]
       rw [if_pos (by omega), hf]
     ·simp only [if_neg p6]
    ·simp only [if_neg p5]
     rw [if_pos (by omega), hf]
   ·simp only [if_neg p2]
  ·simp only [if_neg p1]
theorem oF (L : List UInt8) (i : Nat) (h : i < L.length) : bt (tx L) (i : Int) = ((L[i]'h).toNat : Int) := by
 have hs : i < (tx L).size := by rw [dQ]; exact h
 rw [kG _ i hs]
 simp [bytesOf, tx]
def kdS (L : List UInt8) : Int := if kdI L < 2 then 0 else kdI L
def bA : Nat → List UInt8 → List Stp → List Stp × Option (List UInt8)
 | 0, L, l => (l, none)
 | k + 1, L, l =>
  if L.length = 0 ∨ 9 ≤ l.length then (l, none) else
  if hp (L.drop 1) 40 = true then
   (match (bA k (L.drop 2) l).2 with
   | none => ((bA k (L.drop 2) l).1, none)
   | some R1 =>
    if kdS L = 4 ∨ kdS L = 5 then
     (if hp R1 44 = true then
      (match (bA k (R1.drop 1) (bA k (L.drop 2) l).1).2 with
      | none => ((bA k (R1.drop 1) (bA k (L.drop 2) l).1).1, none)
      | some R2 => if hp R2 41 = true ∧ ¬ kdS L = 0 then ((bA k (R1.drop 1) (bA k (L.drop 2) l).1).1 ++ [(kdS L, ⟨#[]⟩, ((bA k (L.drop 2) l).1.length : Int) - 1, ((bA k (R1.drop 1) (bA k (L.drop 2) l).1).1.length : Int) - 1)], some (R2.drop 1)) else ((bA k (R1.drop 1) (bA k (L.drop 2) l).1).1, none))
     else ((bA k (L.drop 2) l).1, none))
    else (if hp R1 41 = true ∧ ¬ kdS L = 0 then ((bA k (L.drop 2) l).1 ++ [(kdS L, ⟨#[]⟩, ((bA k (L.drop 2) l).1.length : Int) - 1, 0)], some (R1.drop 1)) else ((bA k (L.drop 2) l).1, none)))
  else (if bU (tx (L.take (HandRead.lets L))) = true then (l ++ [(1, tx (L.take (HandRead.lets L)), 0, 0)], some (L.drop (HandRead.lets L))) else (l, none))
theorem lN : ∀ (k : Nat) (L : List UInt8) (l : List Stp) (R : List UInt8), (bA k L l).2 = some R → ∃ n, R = L.drop n ∧ n ≤ L.length := by
 intro k
 induction k with
 | zero => intro L l R h; simp [bA] at h
 | succ k ih =>
  intro L l R h
  unfold bA at h
  by_cases p0 : L.length = 0 ∨ 9 ≤ l.length
  ·rw [if_pos p0] at h
   cases h
  rw [if_neg p0] at h
  by_cases p1 : hp (L.drop 1) 40 = true
  ·rw [if_pos p1] at h
   have h40 := dY p1
   rw [List.length_drop, List.length_drop] at h40
   cases hs : (bA k (L.drop 2) l).2 with
   | none =>
    rw [hs] at h
    cases h
   | some R1 =>
    rw [hs] at h
    dsimp only at h
    obtain ⟨n1, e1, hn1⟩ := ih _ _ _ hs
    rw [List.length_drop] at hn1
    have hR1 : R1.length = L.length - (2 + n1) := by rw [e1, List.drop_drop, List.length_drop]
    by_cases p2 : kdS L = 4 ∨ kdS L = 5
    ·rw [if_pos p2] at h
     by_cases p3 : hp R1 44 = true
     ·rw [if_pos p3] at h
      have h44 := dY p3
      cases hs2 : (bA k (R1.drop 1) (bA k (L.drop 2) l).1).2 with
      | none =>
       rw [hs2] at h
       cases h
      | some R2 =>
       rw [hs2] at h
       dsimp only at h
       obtain ⟨n2, e2, hn2⟩ := ih _ _ _ hs2
       rw [List.length_drop] at hn2
       by_cases p4 : hp R2 41 = true ∧ ¬ kdS L = 0
       ·rw [if_pos p4] at h
        have h41 := dY p4.1
        have hR2 : R2.length = R1.length - (1 + n2) := by rw [e2, List.drop_drop, List.length_drop]
        refine ⟨2 + n1 + (1 + n2) + 1, ?_, by omega⟩
        rw [← Option.some.inj h, e2, e1]
        simp only [List.drop_drop]
        congr 1 <;> omega
       ·rw [if_neg p4] at h
        cases h
     ·rw [if_neg p3] at h
      cases h
    ·rw [if_neg p2] at h
     by_cases p4 : hp R1 41 = true ∧ ¬ kdS L = 0
     ·rw [if_pos p4] at h
      have h41 := dY p4.1
      refine ⟨2 + n1 + 1, ?_, by omega⟩
      rw [← Option.some.inj h, e1]
      simp only [List.drop_drop]
      first | done | (congr 1 <;> omega)
     ·rw [if_neg p4] at h
      cases h
  ·rw [if_neg p1] at h
   split at h
   ·exact ⟨_, (Option.some.inj h).symm, by have := HandRead.iM L; omega⟩
   ·cases h
theorem jH : ∀ (k : Nat) (L : List UInt8) (l : List Stp), (match (bA k L l).2 with | none => (bA k L l).1.length ≤ l.length + L.length + 1 | some R => (bA k L l).1.length + R.length ≤ l.length + L.length) := by
 intro k
 induction k with
 | zero => intro L l; simp only [bA]; omega
 | succ k ih =>
  intro L l
  unfold bA
  by_cases p0 : L.length = 0 ∨ 9 ≤ l.length
  ·rw [if_pos p0]
   dsimp only
   omega
  rw [if_neg p0]
  by_cases p1 : hp (L.drop 1) 40 = true
  ·rw [if_pos p1]
   have h40 := dY p1
   rw [List.length_drop, List.length_drop] at h40
   have hi1 := ih (L.drop 2) l
   rw [List.length_drop] at hi1
   generalize bA k (L.drop 2) l = r at hi1 ⊢
   obtain ⟨l1, o1⟩ := r
   cases o1 with
   | none => dsimp only at hi1 ⊢; omega
   | some R1 =>
    dsimp only at hi1 ⊢
    by_cases p2 : kdS L = 4 ∨ kdS L = 5
    ·rw [if_pos p2]
     by_cases p3 : hp R1 44 = true
     ·rw [if_pos p3]
      have h44 := dY p3
      have hi2 := ih (R1.drop 1) l1
      generalize bA k (R1.drop 1) l1 = q at hi2 ⊢
      obtain ⟨l2, o2⟩ := q
      cases o2 with
      | none => dsimp only at hi2 ⊢; omega
      | some R2 =>
       dsimp only at hi2 ⊢
       by_cases p4 : hp R2 41 = true ∧ ¬ kdS L = 0
       ·rw [if_pos p4]
        have h41 := dY p4.1
        simp only [List.length_append, List.length_cons, List.length_nil]
        omega
       ·rw [if_neg p4]
        dsimp only
        omega
     ·rw [if_neg p3]
      dsimp only
      omega
    ·rw [if_neg p2]
     by_cases p4 : hp R1 41 = true ∧ ¬ kdS L = 0
     ·rw [if_pos p4]
      have h41 := dY p4.1
      simp only [List.length_append, List.length_cons, List.length_nil]
      omega
     ·rw [if_neg p4]
      dsimp only
      omega
  ·rw [if_neg p1]
   by_cases p4 : bU (tx (L.take (HandRead.lets L))) = true
   ·rw [if_pos p4]
    have hw := fq p4
    rw [dQ, List.length_take] at hw
    simp only [List.length_append, List.length_cons, List.length_nil, List.length_drop]
    omega
   ·rw [if_neg p4]
    dsimp only
    omega
def dZ (n : Nat) : Option (List UInt8) → Int
 | none => -1
 | some R => (n : Int) - R.length
set_option maxRecDepth 100000 in
set_option maxHeartbeats 4000000 in
theorem pF (S0 : List UInt8) (i : Nat) (hi : i < S0.length) (l : List aA) (a1 : ByteArray) (a2 a3 : Int) (r : List aA × Int) (h : Ev (fun k => ak.l1 k (tx S0) (i : Int) l 10 (kdS (S0.drop i)) a1 a2 a3) r) :
  Ev (fun k => ak.l1 k (tx S0) (i : Int) l 2 0 a1 a2 a3) r := by
 have hb := oF S0 i hi
 have hsz : (i : Int) < ((tx S0).size : Int) := by rw [dQ]; omega
 have step : ∀ (j : Int) (kd : Int), 2 ≤ j → j ≤ 9 → ∀ r, Ev (fun k => ak.l1 k (tx S0) (i : Int) l (j + 1) (if bt (⟨#[32, 32, 98, 109, 106, 105, 104, 110, 116, 100]⟩ : ByteArray) j = ((S0[i]'hi).toNat : Int) then j else kd) a1 a2 a3) r → Ev (fun k => ak.l1 k (tx S0) (i : Int) l j kd a1 a2 a3) r := by
  intro j kd h2 h9 r hr
  have hw : wrap64 (j + 1) = j + 1 := by unfold wrap64; omega
  rw [← aG]
  simp only [ak.l1, hb, hw]
  rw [evP h9, evP (by omega), evP (by omega), evP (by omega), evP hsz]
  by_cases hc : bt (⟨#[32, 32, 98, 109, 106, 105, 104, 110, 116, 100]⟩ : ByteArray) j = ((S0[i]'hi).toNat : Int)
  ·rw [if_pos hc] at hr
   rw [evP hc]
   exact hr
  ·rw [if_neg hc] at hr
   rw [evN hc]
   exact hr
 refine step 2 _ (by omega) (by omega) _ (step 3 _ (by omega) (by omega) _ (step 4 _ (by omega) (by omega) _ (step 5 _ (by omega) (by omega) _ (step 6 _ (by omega) (by omega) _ (step 7 _ (by omega) (by omega) _ (step 8 _ (by omega) (by omega) _ (step 9 _ (by omega) (by omega) _ ?_)))))))
 have hd : S0.drop i = (S0[i]'hi) :: S0.drop (i + 1) := List.drop_eq_getElem_cons hi
 have hk : ∀ c : UInt8, (let b : Int := (c.toNat : Int); if bt (⟨#[32, 32, 98, 109, 106, 105, 104, 110, 116, 100]⟩ : ByteArray) 9 = b then (9 : Int) else if bt (⟨#[32, 32, 98, 109, 106, 105, 104, 110, 116, 100]⟩ : ByteArray) 8 = b then 8 else if bt (⟨#[32, 32, 98, 109, 106, 105, 104, 110, 116, 100]⟩ : ByteArray) 7 = b then 7 else if bt (⟨#[32, 32, 98, 109, 106, 105, 104, 110, 116, 100]⟩ : ByteArray) 6 = b then 6 else if bt (⟨#[32, 32, 98, 109, 106, 105, 104, 110, 116, 100]⟩ : ByteArray) 5 = b then 5 else if bt (⟨#[32, 32, 98, 109, 106, 105, 104, 110, 116, 100]⟩ : ByteArray) 4 = b then 4 else if bt (⟨#[32, 32, 98, 109, 106, 105, 104, 110, 116, 100]⟩ : ByteArray) 3 = b then 3 else if bt (⟨#[32, 32, 98, 109, 106, 105, 104, 110, 116, 100]⟩ : ByteArray) 2 = b then 2 else 0)
   = (if Go.Lib.indexByte HandRead.kinds c < 2 then 0 else Go.Lib.indexByte HandRead.kinds c) := by
  intro c
  have h9 : bt (⟨#[32, 32, 98, 109, 106, 105, 104, 110, 116, 100]⟩ : ByteArray) 9 = 100 := by decide
  have h8 : bt (⟨#[32, 32, 98, 109, 106, 105, 104, 110, 116, 100]⟩ : ByteArray) 8 = 116 := by decide
  have h7 : bt (⟨#[32, 32, 98, 109, 106, 105, 104, 110, 116, 100]⟩ : ByteArray) 7 = 110 := by decide
  have h6 : bt (⟨#[32, 32, 98, 109, 106, 105, 104, 110, 116, 100]⟩ : ByteArray) 6 = 104 := by decide
  have h5 : bt (⟨#[32, 32, 98, 109, 106, 105, 104, 110, 116, 100]⟩ : ByteArray) 5 = 105 := by decide
  have h4 : bt (⟨#[32, 32, 98, 109, 106, 105, 104, 110, 116, 100]⟩ : ByteArray) 4 = 106 := by decide
  have h3 : bt (⟨#[32, 32, 98, 109, 106, 105, 104, 110, 116, 100]⟩ : ByteArray) 3 = 109 := by decide
  have h2 : bt (⟨#[32, 32, 98, 109, 106, 105, 104, 110, 116, 100]⟩ : ByteArray) 2 = 98 := by decide
  simp only [h9, h8, h7, h6, h5, h4, h3, h2]
  have key : ∀ n : Fin 256, (if (100 : Int) = (n.val : Int) then (9 : Int) else if (116 : Int) = (n.val : Int) then 8 else if (110 : Int) = (n.val : Int) then 7 else if (104 : Int) = (n.val : Int) then 6 else if (105 : Int) = (n.val : Int) then 5 else if (106 : Int) = (n.val : Int) then 4 else if (109 : Int) = (n.val : Int) then 3 else if (98 : Int) = (n.val : Int) then 2 else 0)
   = (if Go.Lib.indexByte HandRead.kinds (UInt8.ofNat n.val) < 2 then 0 else Go.Lib.indexByte HandRead.kinds (UInt8.ofNat n.val)) := by decide
  have := key ⟨c.toNat, c.toNat_lt⟩
  simpa using this
 have hk2 := hk (S0[i]'hi)
 dsimp only at hk2
 have e : kdS (S0.drop i) = (if Go.Lib.indexByte HandRead.kinds (S0[i]'hi) < 2 then 0 else Go.Lib.indexByte HandRead.kinds (S0[i]'hi)) := by
  unfold kdS kdI
  rw [hd]
  rfl
 rw [e, ← hk2] at h
 exact h
theorem qj (S0 : List UInt8) (p : Nat) (c : UInt8) (h : p < S0.length) : hp (S0.drop p) c = (S0[p] == c) := by
 rw [List.drop_eq_getElem_cons h]
 rfl
theorem nD (S0 : List UInt8) (p : Nat) (c : UInt8) (h : S0.length ≤ p) : hp (S0.drop p) c = false := by
 rw [List.drop_eq_nil_of_le h]
 rfl
theorem nN (S0 : List UInt8) (p : Nat) (c : UInt8) (h : p < S0.length) : (bt (tx S0) (p : Int) = (c.toNat : Int)) ↔ hp (S0.drop p) c = true := by
 rw [qj S0 p c h, oF S0 p h, beq_iff_eq]
 constructor
 ·intro e
  exact UInt8.toNat_inj.mp (by omega)
 ·intro e
  rw [e]
theorem kW : ∀ (L : List UInt8) (j : Nat), j < HandRead.lets L → ∃ h : j < L.length, HandRead.isL L[j] = true
 | [], j, h => by simp [HandRead.lets] at h
 | c :: r, j, h => by
  unfold HandRead.lets at h
  split at h
  ·cases j with
   | zero => exact ⟨by simp, ‹_›⟩
   | succ j =>
    obtain ⟨h1, h2⟩ := kW r j (by omega)
    exact ⟨by simpa using h1, by simpa using h2⟩
  ·omega
theorem lQ : ∀ (L : List UInt8) (h : HandRead.lets L < L.length), HandRead.isL (L[HandRead.lets L]'h) = false
 | [], h => by simp at h
 | c :: r, h => by
  by_cases hc : HandRead.isL c = true
  ·have e : HandRead.lets (c :: r) = HandRead.lets r + 1 := by simp [HandRead.lets, hc]
   have h2 : HandRead.lets r < r.length := by rw [e] at h; simpa using h
   have := lQ r h2
   simp only [e, List.getElem_cons_succ]
   exact this
  ·have e : HandRead.lets (c :: r) = 0 := by simp [HandRead.lets, hc]
   simp only [e, List.getElem_cons_zero]
   simpa using hc
theorem qp (S0 : List UInt8) (i n : Nat) : (tx S0).extract i (i + n) = tx ((S0.drop i).take n) := by
 apply ByteArray.ext
 rw [ByteArray.data_extract]
 apply Array.ext'
 simp [tx]
theorem oH (S0 : List UInt8) (p : Nat) (h : p < S0.length) : HandRead.isL S0[p] = true ↔ (bt (tx S0) (p : Int) ≥ 97 ∧ bt (tx S0) (p : Int) ≤ 122) := by
 rw [oF S0 p h]
 unfold HandRead.isL
 rw [decide_eq_true_iff]
 omega
theorem qd (S0 : List UInt8) (hS : S0.length < 1000) (i : Nat) (hi : i ≤ S0.length) (l : List aA) (hl : l.length < 3000) :
  Ev (fun k => ak.l0 k (tx S0) (i : Int) l (i : Int)) (if bU (tx ((S0.drop i).take (HandRead.lets (S0.drop i)))) = true then (l ++ [⟨1, tx ((S0.drop i).take (HandRead.lets (S0.drop i))), 0, 0⟩], ((i + HandRead.lets (S0.drop i) : Nat) : Int)) else (l, -1)) := by
 have hn := HandRead.iM (S0.drop i)
 rw [List.length_drop] at hn
 obtain ⟨n, hN⟩ : ∃ n, n = HandRead.lets (S0.drop i) := ⟨_, rfl⟩
 rw [← hN] at hn ⊢
 have key : ∀ d j, j + d = n → Ev (fun k => ak.l0 k (tx S0) (i : Int) l ((i + j : Nat) : Int)) (if bU (tx ((S0.drop i).take n)) = true then (l ++ [⟨1, tx ((S0.drop i).take n), 0, 0⟩], ((i + n : Nat) : Int)) else (l, -1)) := by
  intro d
  induction d with
  | zero =>
   intro j hj
   obtain rfl : j = n := by omega
   have hw := ig (tx ((S0.drop i).take j))
   have hcut : (tx S0).extract ((i : Int)).toNat (((i + j : Nat) : Int)).toNat = tx ((S0.drop i).take j) := by
    rw [Int.toNat_natCast, Int.toNat_natCast, qp]
   have fin : Ev (fun k => (aD.f k (tx ((S0.drop i).take j))).bind fun t => (if t = true then (if l.length < 3518437208883 then (some ((l ++ [(⟨1, tx ((S0.drop i).take j), 0, 0⟩ : aA)]), ((i + j : Nat) : Int))) else (none)) else (some (l, (-1)))))
     (if bU (tx ((S0.drop i).take j)) = true then (l ++ [⟨1, tx ((S0.drop i).take j), 0, 0⟩], ((i + j : Nat) : Int)) else (l, -1)) := by
    rw [aU hw]
    by_cases p : bU (tx ((S0.drop i).take j)) = true
    ·simp only [p, if_true]
     rw [evP (by omega)]
     exact bB _
    ·replace p := Bool.eq_false_iff.mpr p
     simp only [p, Bool.false_eq_true, if_false]
     exact bB _
   rw [← aG]
   simp only [ak.l0, dQ, hcut]
   by_cases hlt : i + j < S0.length
   ·have hst := lQ (S0.drop i) (by rw [← hN, List.length_drop]; omega)
    have hget : (S0.drop i)[HandRead.lets (S0.drop i)]'(by rw [← hN, List.length_drop]; omega) = S0[i + j] := by
     simp only [← hN, List.getElem_drop]
    rw [hget] at hst
    have hib := (oH S0 (i + j) hlt)
    rw [evP (by omega), evP (by omega)]
    by_cases h97 : bt (tx S0) ((i + j : Nat) : Int) ≥ 97
    ·have h122 : ¬ bt (tx S0) ((i + j : Nat) : Int) ≤ 122 := fun h => by
      rw [hib.mpr ⟨h97, h⟩] at hst
      cases hst
     rw [evP h97, evN h122, evP (by omega), evP (by omega), evP (by omega)]
     exact fin
    ·rw [evN h97, evP (by omega), evP (by omega), evP (by omega)]
     exact fin
   ·rw [evN (by omega), evP (by omega), evP (by omega), evP (by omega)]
    exact fin
  | succ d ih =>
   intro j hj
   obtain ⟨h1, h2⟩ := kW (S0.drop i) j (by omega)
   rw [List.length_drop] at h1
   rw [List.getElem_drop] at h2
   have q1 : ((i + j : Nat) : Int) < (S0.length : Int) := by omega
   have q2 : 0 ≤ ((i + j : Nat) : Int) := by omega
   obtain ⟨h97, h122⟩ := (oH S0 (i + j) (by omega)).mp h2
   have hw : wrap64 (((i + j : Nat) : Int) + 1) = ((i + (j + 1) : Nat) : Int) := by unfold wrap64; omega
   rw [← aG]
   simp only [ak.l0, dQ]
   rw [evP q1, evP q2, evP h97, evP h122, hw]
   exact ih (j + 1) (by omega)
 exact key n 0 (by omega)
abbrev ST := aI.st
theorem nJ (S0 : List UInt8) (hS : S0.length < 1000) (kd : Int) (m : List Stp) (o : Option (List UInt8)) (A B : Int) : (∀ R, o = some R → ∃ p, p ≤ S0.length ∧ R = S0.drop p) → m.length < 5000 →
   (if dZ S0.length o < 0 then (some (m.map ST, (-1 : Int))) else (if dZ S0.length o ≥ (S0.length : Int) then (some (m.map ST, (-1))) else (if 0 ≤ dZ S0.length o then (if dZ S0.length o < (S0.length : Int) then (if (bt (tx S0) (dZ S0.length o)) = 41 then (if kd = 0 then (some (m.map ST, (-1))) else (if (m.map ST).length < 3518437208883 then (some ((m.map ST ++ [(⟨kd, ⟨#[]⟩, A, B⟩ : aA)]), wrap64 (dZ S0.length o + 1))) else (none))) else (some (m.map ST, (-1)))) else (none)) else (none))))
   = some (match o with | none => (m.map ST, (-1 : Int)) | some R => if hp R 41 = true ∧ ¬ kd = 0 then ((m ++ [((kd, (⟨#[]⟩ : ByteArray), A, B) : Stp)]).map ST, dZ S0.length (some (R.drop 1))) else (m.map ST, -1)) := by
 intro ho hm
 cases o with
 | none => rfl
 | some R =>
  obtain ⟨p, hp1, rfl⟩ := ho R rfl
  have hpos : dZ S0.length (some (S0.drop p)) = (p : Int) := by simp only [dZ, List.length_drop]; omega
  rw [hpos, if_neg (by omega)]
  dsimp only
  by_cases he : (p : Int) ≥ (S0.length : Int)
  ·rw [if_pos he, nD S0 p 41 (by omega)]
   simp
  ·have hlt : p < S0.length := by omega
   have hb : (bt (tx S0) (p : Int) = 41) ↔ hp (S0.drop p) 41 = true := nN S0 p 41 hlt
   rw [if_neg he, if_pos (by omega), if_pos (by omega)]
   by_cases h41 : hp (S0.drop p) 41 = true
   ·rw [if_pos (hb.mpr h41), h41]
    by_cases hk0 : kd = 0
    ·rw [if_pos hk0, if_neg (by simp [hk0])]
    ·rw [if_neg hk0, if_pos (by rw [List.length_map]; omega), if_pos ⟨rfl, hk0⟩]
     have hw : wrap64 ((p : Int) + 1) = dZ S0.length (some ((S0.drop p).drop 1)) := by
      rw [List.drop_drop]
      simp only [dZ, List.length_drop]
      unfold wrap64
      omega
     rw [hw, List.map_append]
     rfl
   ·rw [if_neg (fun e => h41 (hb.mp e)), if_neg (fun e => h41 e.1)]
theorem pK (S0 : List UInt8) (hS : S0.length < 1000) (kd : Int) (p : Nat) (l1 l2 : List Stp) (o2 : Option (List UInt8)) (hple : p ≤ S0.length) (hl1 : l1.length < 4000)
  (IH : p < S0.length → Ev (fun f => ak.f f (tx S0) ((p + 1 : Nat) : Int) (l1.map ST)) (l2.map ST, dZ S0.length o2)) (ho2 : ∀ R, o2 = some R → ∃ p, p ≤ S0.length ∧ R = S0.drop p) (hl2 : l2.length < 5000) :
  Ev (fun f => ak.j4 f (tx S0) (p : Int) (l1.map ST) true kd (⟨#[]⟩ : ByteArray) ((l1.length : Int) - 1) 0)
   (if hp (S0.drop p) 44 = true then (match (generalizing := false) o2 with | none => (l2.map ST, (-1 : Int)) | some R2 => if hp R2 41 = true ∧ ¬ kd = 0 then ((l2 ++ [((kd, (⟨#[]⟩ : ByteArray), (l1.length : Int) - 1, (l2.length : Int) - 1) : Stp)]).map ST, dZ S0.length (some (R2.drop 1))) else (l2.map ST, -1)) else (l1.map ST, -1)) := by
 have hB : wrap64 (((l2.map ST).length : Int) - 1) = (l2.length : Int) - 1 := by rw [List.length_map]; unfold wrap64; omega
 have ht := nJ S0 hS kd l2 o2 ((l1.length : Int) - 1) ((l2.length : Int) - 1) ho2 hl2
 clear ho2
 rw [← aG]
 simp only [ak.j4, dQ, if_true]
 by_cases he : (p : Int) ≥ (S0.length : Int)
 ·rw [evP he, nD S0 p 44 (by omega), ← aG]
  simp only [ak.j5, if_true, Bool.false_eq_true, if_false]
  exact bB _
 have hlt : p < S0.length := by omega
 have hw : wrap64 ((p : Int) + 1) = ((p + 1 : Nat) : Int) := by unfold wrap64; omega
 have g1 : 0 ≤ (p : Int) := by omega
 have g2 : (p : Int) < (S0.length : Int) := by omega
 replace IH := IH hlt
 rw [evN he, evP g1, evP g2]
 clear g1 g2 hl1 hl2 hS
 cases h44 : hp (S0.drop p) 44 with
 | true =>
  have hx : (bt (tx S0) (p : Int) != 44) = false := by rw [(nN S0 p 44 hlt).mpr h44]; rfl
  rw [hx, ← aG]
  clear hx h44
  simp only [ak.j5, Bool.false_eq_true, if_false, if_true, hw, dQ]
  rw [aU IH]
  simp only [hB, ht]
  exact bB _
 | false =>
  have hx : (bt (tx S0) (p : Int) != 44) = true := by
   have hne : ¬ bt (tx S0) (p : Int) = 44 := fun e => by
    have := (nN S0 p 44 hlt).mp e
    rw [h44] at this
    cases this
   simp only [bne]
   rw [beq_false_of_ne hne]
   rfl
  rw [hx, ← aG]
  simp only [ak.j5, if_true, Bool.false_eq_true, if_false]
  exact bB _
theorem o9 (S0 : List UInt8) (hS : S0.length < 1000) : ∀ (k i : Nat) (l : List Stp), S0.length - i < k → i ≤ S0.length → l.length < 4000 →
  Ev (fun f => ak.f f (tx S0) (i : Int) (l.map ST)) ((bA k (S0.drop i) l).1.map ST, dZ S0.length (bA k (S0.drop i) l).2) := by
 intro k
 induction k with
 | zero => intro i l h; omega
 | succ k ih =>
  intro i l hk hi hl
  have hdl : (S0.drop i).length = S0.length - i := List.length_drop
  rw [← aG]
  simp only [ak.f, dQ, List.length_map]
  unfold bA
  by_cases p0 : (S0.drop i).length = 0 ∨ 9 ≤ l.length
  ·rw [if_pos p0]
   have hj : Ev (fun f => ak.j0 f (tx S0) (i : Int) (l.map ST) true) (l.map ST, dZ S0.length none) := by
    rw [← aG]
    simp only [ak.j0, if_true]
    exact bB _
   by_cases h1 : (i : Int) ≥ (S0.length : Int)
   ·rw [evP h1]
    exact hj
   ·have h9 : decide ((l.length : Int) ≥ 9) = true := decide_eq_true (by omega)
    rw [evN h1, h9]
    exact hj
  rw [if_neg p0]
  have hi2 : i < S0.length := by omega
  have h9 : decide ((l.length : Int) ≥ 9) = false := decide_eq_false (by omega)
  rw [evN (by omega), h9, ← aG]
  have hw1 : wrap64 ((i : Int) + 1) = ((i + 1 : Nat) : Int) := by unfold wrap64; omega
  have hdd : (S0.drop i).drop 1 = S0.drop (i + 1) := by rw [List.drop_drop]
  have hd2 : (S0.drop i).drop 2 = S0.drop (i + 2) := by rw [List.drop_drop]
  rw [hdd, hd2]
  simp only [ak.j0, dQ, hw1, Bool.false_eq_true, if_false]
  suffices hj1 : Ev (fun f => ak.j1 f (tx S0) (i : Int) (l.map ST) (!hp (S0.drop (i + 1)) 40)) _ by
   by_cases h1 : ((i + 1 : Nat) : Int) ≥ (S0.length : Int)
   ·rw [evP h1]
    rw [nD S0 (i + 1) 40 (by omega)] at hj1
    exact hj1
   ·have q1 : 0 ≤ ((i + 1 : Nat) : Int) := by omega
    have q2 : ((i + 1 : Nat) : Int) < (S0.length : Int) := by omega
    rw [evN h1, evP q1, evP q2]
    have hb := nN S0 (i + 1) 40 (by omega)
    have e : (bt (tx S0) ((i + 1 : Nat) : Int) != 40) = !hp (S0.drop (i + 1)) 40 := by
     cases hh : hp (S0.drop (i + 1)) 40 with
     | true =>
      have := hb.mpr hh
      simp only [bne, Bool.not_true]
      rw [this]
      rfl
     | false =>
      have hne : ¬ bt (tx S0) ((i + 1 : Nat) : Int) = 40 := fun e => by
       have := hb.mp e
       rw [hh] at this
       cases this
      simp only [bne, Bool.not_false]
      rw [beq_false_of_ne hne]
      rfl
    rw [e]
    exact hj1
  rw [← aG]
  simp only [ak.j1]
  by_cases p1 : hp (S0.drop (i + 1)) 40 = true
  ·rw [p1]
   simp only [Bool.not_true, Bool.false_eq_true, if_false, if_true]
   have h40 := dY p1
   rw [List.length_drop, List.length_drop] at h40
   refine pF S0 i hi2 (l.map ST) _ 0 0 _ ?_
   have hw2 : wrap64 ((i : Int) + 2) = ((i + 2 : Nat) : Int) := by unfold wrap64; omega
   rw [← aG]
   simp only [ak.l1, hw2]
   rw [evN (by decide)]
   generalize kdS (S0.drop i) = kd
   have htail := fun m o A B => nJ S0 hS kd m o A B
   have e1 := ih (i + 2) l (by omega) (by omega) (by omega)
   have hlen1 := jH k (S0.drop (i + 2)) l
   have hend1 := lN k (S0.drop (i + 2)) l
   rw [List.length_drop] at hlen1
   generalize bA k (S0.drop (i + 2)) l = r at e1 hlen1 hend1 ⊢
   obtain ⟨l1, o1⟩ := r
   dsimp only at e1 hlen1 hend1 ⊢
   have hend2 : ∀ R, o1 = some R → ∃ p, i + 2 ≤ p ∧ p ≤ S0.length ∧ R = S0.drop p := by
    intro R hR
    obtain ⟨n, e, hn⟩ := hend1 R hR
    rw [List.length_drop] at hn
    exact ⟨i + 2 + n, by omega, by omega, by rw [e, List.drop_drop]⟩
   have hl1 : l1.length < 4000 := by
    cases o1 with
    | none => dsimp only at hlen1; omega
    | some R => dsimp only at hlen1; omega
   rw [aU e1]
   dsimp only
   have hA : wrap64 (((l1.map ST).length : Int) - 1) = (l1.length : Int) - 1 := by rw [List.length_map]; unfold wrap64; omega
   rw [hA]
   have hj4 : ∀ A, Ev (fun f => ak.j4 f (tx S0) (dZ S0.length o1) (l1.map ST) false kd (⟨#[]⟩ : ByteArray) A 0) (match (generalizing := false) o1 with | none => (l1.map ST, -1) | some R => if hp R 41 = true ∧ ¬ kd = 0 then ((l1 ++ [((kd, (⟨#[]⟩ : ByteArray), A, 0) : Stp)]).map ST, dZ S0.length (some (R.drop 1))) else (l1.map ST, -1)) := by
    intro A
    rw [← aG]
    simp only [ak.j4, dQ, Bool.false_eq_true, if_false]
    rw [htail l1 o1 A 0 (fun R hR => by obtain ⟨p, _, h⟩ := hend2 R hR; exact ⟨p, h⟩) (by omega)]
    exact bB _
   cases ho : o1 with
   | none =>
    subst ho
    have hneg : ¬ dZ S0.length none ≥ 0 := by simp [dZ]
    rw [evN hneg]
    exact hj4 _
   | some R1 =>
    obtain ⟨p, hpi, hple, hRp⟩ := hend2 R1 ho
    subst ho
    subst hRp
    have hpos : dZ S0.length (some (S0.drop p)) = (p : Int) := by simp only [dZ, List.length_drop]; omega
    have hge : dZ S0.length (some (S0.drop p)) ≥ 0 := by rw [hpos]; omega
    dsimp only at hlen1 hj4 ⊢
    rw [List.length_drop] at hlen1
    rw [evP hge]
    by_cases p2 : kd = 4 ∨ kd = 5
    ·rw [if_pos p2]
     have hj5 : Ev (fun f => ak.j4 f (tx S0) (dZ S0.length (some (S0.drop p))) (l1.map ST) true kd (⟨#[]⟩ : ByteArray) ((l1.length : Int) - 1) 0)
       (if hp (S0.drop p) 44 = true then (match (bA k ((S0.drop p).drop 1) l1).2 with | none => ((bA k ((S0.drop p).drop 1) l1).1.map ST, (-1 : Int)) | some R2 => if hp R2 41 = true ∧ ¬ kd = 0 then (((bA k ((S0.drop p).drop 1) l1).1 ++ [((kd, (⟨#[]⟩ : ByteArray), (l1.length : Int) - 1, ((bA k ((S0.drop p).drop 1) l1).1.length : Int) - 1) : Stp)]).map ST, dZ S0.length (some (R2.drop 1))) else ((bA k ((S0.drop p).drop 1) l1).1.map ST, -1)) else (l1.map ST, -1)) := by
      have hdp : (S0.drop p).drop 1 = S0.drop (p + 1) := by rw [List.drop_drop]
      have hlen2 := jH k (S0.drop (p + 1)) l1
      have hend3 := lN k (S0.drop (p + 1)) l1
      rw [List.length_drop] at hlen2
      have e2 : p < S0.length → _ := fun h => ih (p + 1) l1 (by omega) (by omega) hl1
      rw [hdp, hpos]
      generalize bA k (S0.drop (p + 1)) l1 = q at e2 hlen2 hend3 ⊢
      obtain ⟨l2, o2⟩ := q
      dsimp only at e2 hlen2 hend3 ⊢
      refine pK S0 hS kd p l1 l2 o2 hple hl1 e2 (fun R hR => ?_) ?_
      ·obtain ⟨n, e, hn⟩ := hend3 R hR
       rw [List.length_drop] at hn
       by_cases hq : p < S0.length
       ·exact ⟨p + 1 + n, by omega, by rw [e, List.drop_drop]⟩
       ·exact ⟨S0.length, Nat.le_refl _, by rw [e, List.drop_drop, List.drop_eq_nil_of_le (by omega), List.drop_eq_nil_of_le (Nat.le_refl _)]⟩
      ·cases o2 with
       | none => dsimp only at hlen2; omega
       | some R => dsimp only at hlen2; omega
     have hres : ((if hp (S0.drop p) 44 = true then (match (bA k ((S0.drop p).drop 1) l1).2 with | none => ((bA k ((S0.drop p).drop 1) l1).1, none) | some R2 => if hp R2 41 = true ∧ ¬ kd = 0 then ((bA k ((S0.drop p).drop 1) l1).1 ++ [((kd, (⟨#[]⟩ : ByteArray), (l1.length : Int) - 1, ((bA k ((S0.drop p).drop 1) l1).1.length : Int) - 1) : Stp)], some (R2.drop 1)) else ((bA k ((S0.drop p).drop 1) l1).1, none)) else (l1, none) : List Stp × Option (List UInt8)).1.map ST, dZ S0.length (if hp (S0.drop p) 44 = true then (match (bA k ((S0.drop p).drop 1) l1).2 with | none => ((bA k ((S0.drop p).drop 1) l1).1, none) | some R2 => if hp R2 41 = true ∧ ¬ kd = 0 then ((bA k ((S0.drop p).drop 1) l1).1 ++ [((kd, (⟨#[]⟩ : ByteArray), (l1.length : Int) - 1, ((bA k ((S0.drop p).drop 1) l1).1.length : Int) - 1) : Stp)], some (R2.drop 1)) else ((bA k ((S0.drop p).drop 1) l1).1, none)) else (l1, none) : List Stp × Option (List UInt8)).2) = (if hp (S0.drop p) 44 = true then (match (bA k ((S0.drop p).drop 1) l1).2 with | none => ((bA k ((S0.drop p).drop 1) l1).1.map ST, (-1 : Int)) | some R2 => if hp R2 41 = true ∧ ¬ kd = 0 then (((bA k ((S0.drop p).drop 1) l1).1 ++ [((kd, (⟨#[]⟩ : ByteArray), (l1.length : Int) - 1, ((bA k ((S0.drop p).drop 1) l1).1.length : Int) - 1) : Stp)]).map ST, dZ S0.length (some (R2.drop 1))) else ((bA k ((S0.drop p).drop 1) l1).1.map ST, -1)) else (l1.map ST, -1)) := by
      split
      ·cases (bA k ((S0.drop p).drop 1) l1).2 with
       | none => rfl
       | some R2 =>
        dsimp only
        split <;> rfl
      ·rfl
     rw [hres]
     by_cases p4 : kd = 4
     ·rw [evP p4]
      exact hj5
     ·have p5 : (kd == 5) = true := by rw [beq_iff_eq]; omega
      rw [evN p4, p5]
      exact hj5
    ·rw [if_neg p2]
     have p5 : (kd == 5) = false := beq_false_of_ne (fun e => p2 (.inr e))
     rw [evN (fun e => p2 (.inl e)), p5]
     refine jq (hj4 _) ?_
     split <;> rfl
  ·replace p1 := Bool.eq_false_iff.mpr p1
   rw [p1]
   simp only [Bool.not_false, Bool.false_eq_true, if_false, if_true]
   have hw := qd S0 hS i hi (l.map ST) (by rw [List.length_map]; omega)
   refine jq hw ?_
   have hn := HandRead.iM (S0.drop i)
   by_cases p2 : bU (tx ((S0.drop i).take (HandRead.lets (S0.drop i)))) = true
   ·rw [if_pos p2, if_pos p2]
    simp only [List.map_append, List.map_cons, List.map_nil, dZ, List.length_drop]
    refine Prod.ext rfl ?_
    dsimp only
    omega
   ·rw [if_neg p2, if_neg p2]
    rfl
theorem pY : kdI [] = -1 := by decide
set_option maxRecDepth 100000 in
theorem om (c : UInt8) (r : List UInt8) (h : ¬ kdI (c :: r) < 2) : HandRead.isL c = true := by
 have key : ∀ n : Fin 256, ¬ Go.Lib.indexByte HandRead.kinds (UInt8.ofNat n.val) < 2 → HandRead.isL (UInt8.ofNat n.val) = true := by decide
 have := key ⟨c.toNat, c.toNat_lt⟩
 simp only [UInt8.ofNat_toNat] at this
 exact this h
theorem lD : HandRead.isL 40 = false := by decide
theorem oM (c : UInt8) (r : List UInt8) (hc : HandRead.isL c = true) (hr : hp r 40 = true) : HandRead.lets (c :: r) = 1 := by
 cases r with
 | nil => cases hr
 | cons d r =>
  have hd : d = 40 := by simpa [hp] using hr
  subst hd
  simp [HandRead.lets, hc, lD]
theorem nI {L : List UInt8} (h : ¬ kdS L = 0) : ¬ kdI L < 2 ∧ kdS L = kdI L := by
 unfold kdS at h ⊢
 by_cases p : kdI L < 2
 ·rw [if_pos p] at h
  exact absurd rfl h
 ·rw [if_neg p]
  exact ⟨p, rfl⟩
theorem nS (L : List UInt8) (hw : bU (tx (L.take (HandRead.lets L))) = true) : 1 ≤ HandRead.lets L := by
 have h := (fq hw).1
 rw [dQ, List.length_take] at h
 omega
theorem oo (L : List UInt8) (h1 : 1 ≤ HandRead.lets L) (hr : hp (L.drop (HandRead.lets L)) 40 = false) : hp (L.drop 1) 40 = false := by
 by_cases h2 : HandRead.lets L = 1
 ·rw [h2] at hr
  exact hr
 ·obtain ⟨h3, h4⟩ := kW L 1 (by omega)
  rw [qj L 1 40 h3]
  cases hc : (L[1] == 40) with
  | false => rfl
  | true =>
   rw [beq_iff_eq.mp hc] at h4
   cases h4
theorem lS (L : List UInt8) (hk : ¬ kdI L < 2) (h40 : hp (L.drop 1) 40 = true) : HandRead.lets L = 1 := by
 cases L with
 | nil => exact absurd (by rw [pY]; decide) hk
 | cons c r => exact oM c r (om c r hk) h40
theorem nE {L : List UInt8} {c d : UInt8} (h : hp L c = true) (hcd : c ≠ d) : hp L d = false := by
 cases L with
 | nil => rfl
 | cons x r =>
  have : x = c := by simpa [hp] using h
  subst this
  simpa [hp] using hcd
theorem nW : ∀ (k : Nat) (L : List UInt8) (l l' : List Stp) (R : List UInt8), bA k L l = (l', some R) → hp R 40 = false → aZ k L l = ((l'.length : Int) - 1, R, l') ∧ 1 ≤ l'.length := by
 intro k
 induction k with
 | zero => intro L l l' R h; simp [bA] at h
 | succ k ih =>
  intro L l l' R h hR
  unfold bA at h
  by_cases p0 : L.length = 0 ∨ 9 ≤ l.length
  ·rw [if_pos p0] at h
   cases (Prod.mk.inj h).2
  rw [if_neg p0] at h
  by_cases p1 : hp (L.drop 1) 40 = true
  ·rw [if_pos p1] at h
   cases hs : bA k (L.drop 2) l with
   | mk l1 o1 =>
   rw [hs] at h
   cases o1 with
   | none => cases (Prod.mk.inj h).2
   | some R1 =>
    dsimp only at h
    by_cases p2 : kdS L = 4 ∨ kdS L = 5
    ·rw [if_pos p2] at h
     by_cases p3 : hp R1 44 = true
     ·rw [if_pos p3] at h
      cases hs2 : bA k (R1.drop 1) l1 with
      | mk l2 o2 =>
      rw [hs2] at h
      cases o2 with
      | none => cases (Prod.mk.inj h).2
      | some R2 =>
       dsimp only at h
       by_cases p4 : hp R2 41 = true ∧ ¬ kdS L = 0
       ·rw [if_pos p4] at h
        obtain ⟨e1, e2⟩ := Prod.mk.inj h
        replace e2 := Option.some.inj e2
        obtain ⟨hk, hkk⟩ := nI p4.2
        have hl := lS L hk p1
        obtain ⟨a1, a2⟩ := ih _ _ _ _ hs (nE p3 (by decide))
        obtain ⟨b1, b2⟩ := ih _ _ _ _ hs2 (nE p4.1 (by decide))
        have hd : (L.drop 1).drop 1 = L.drop 2 := by rw [List.drop_drop]
        unfold aZ
        rw [hl, if_pos p1, if_pos rfl, if_neg hk, hd, a1]
        dsimp only
        rw [if_neg (by omega), if_pos (by rw [← hkk]; exact p2), if_pos p3, b1]
        dsimp only
        rw [if_neg (by omega)]
        unfold gQ
        rw [if_pos p4.1, ← e1, ← e2, ← hkk]
        simp only [List.length_append, List.length_cons, List.length_nil]
        refine ⟨Prod.ext ?_ rfl, by omega⟩
        dsimp only
        omega
       ·rw [if_neg p4] at h
        cases (Prod.mk.inj h).2
     ·rw [if_neg p3] at h
      cases (Prod.mk.inj h).2
    ·rw [if_neg p2] at h
     by_cases p4 : hp R1 41 = true ∧ ¬ kdS L = 0
     ·rw [if_pos p4] at h
      obtain ⟨e1, e2⟩ := Prod.mk.inj h
      replace e2 := Option.some.inj e2
      obtain ⟨hk, hkk⟩ := nI p4.2
      have hl := lS L hk p1
      obtain ⟨a1, a2⟩ := ih _ _ _ _ hs (nE p4.1 (by decide))
      have hd : (L.drop 1).drop 1 = L.drop 2 := by rw [List.drop_drop]
      unfold aZ
      rw [hl, if_pos p1, if_pos rfl, if_neg hk, hd, a1]
      dsimp only
      rw [if_neg (by omega), if_neg (by rw [← hkk]; exact p2)]
      unfold gQ
      rw [if_pos p4.1, ← e1, ← e2, ← hkk]
      simp only [List.length_append, List.length_cons, List.length_nil]
      refine ⟨Prod.ext ?_ rfl, by omega⟩
      dsimp only
      omega
     ·rw [if_neg p4] at h
      cases (Prod.mk.inj h).2
  ·rw [if_neg p1] at h
   by_cases p4 : bU (tx (L.take (HandRead.lets L))) = true
   ·rw [if_pos p4] at h
    obtain ⟨e1, e2⟩ := Prod.mk.inj h
    replace e2 := Option.some.inj e2
    unfold aZ
    rw [if_neg (by rw [e2, hR]; exact Bool.false_ne_true), e2, ← e1]
    simp only [List.length_append, List.length_cons, List.length_nil]
    refine ⟨Prod.ext ?_ rfl, by omega⟩
    dsimp only
    omega
   ·rw [if_neg p4] at h
    cases (Prod.mk.inj h).2
theorem iZ : ∀ (k : Nat) (L : List UInt8) (l : List Stp), ∃ m, (aZ k L l).2.2 = l ++ m ∧ (0 ≤ (aZ k L l).1 → 1 ≤ m.length ∧ (aZ k L l).1 = ((aZ k L l).2.2.length : Int) - 1) := by
 intro k
 induction k with
 | zero => intro L l; exact ⟨[], by simp [aZ], by simp [aZ]⟩
 | succ k ih =>
  intro L l
  have hf : ∀ (R : List UInt8) (m : List Stp) (kd a b : Int), ∃ x, (gQ R m kd a b).2.2 = m ++ x ∧ (0 ≤ (gQ R m kd a b).1 → 1 ≤ x.length ∧ (gQ R m kd a b).1 = ((gQ R m kd a b).2.2.length : Int) - 1) := by
   intro R m kd a b
   unfold gQ
   split
   ·refine ⟨_, rfl, fun _ => ⟨by simp, ?_⟩⟩
    simp only [List.length_append, List.length_cons, List.length_nil]
    omega
   ·exact ⟨[], by simp, by simp⟩
  have hneg : ∀ (m : List Stp) (R : List UInt8) (x : List Stp), (∃ y, m = l ++ y) → ∃ y, ((-1, R, m) : Int × List UInt8 × List Stp).2.2 = l ++ y ∧ (0 ≤ ((-1, R, m) : Int × List UInt8 × List Stp).1 → 1 ≤ y.length ∧ ((-1, R, m) : Int × List UInt8 × List Stp).1 = (((-1, R, m) : Int × List UInt8 × List Stp).2.2.length : Int) - 1) := by
   intro m R x ⟨y, hy⟩
   exact ⟨y, hy, fun h => absurd h (by simp)⟩
  unfold aZ
  split
  ·split
   ·split
    ·exact hneg _ _ [] ⟨[], by simp⟩
    obtain ⟨m1, h1, h1'⟩ := ih ((L.drop (HandRead.lets L)).drop 1) l
    generalize aZ k ((L.drop (HandRead.lets L)).drop 1) l = r at h1 h1' ⊢
    split
    ·exact hneg _ _ [] ⟨m1, h1⟩
    split
    ·split
     ·obtain ⟨m2, h2, h2'⟩ := ih (r.2.1.drop 1) r.2.2
      generalize aZ k (r.2.1.drop 1) r.2.2 = q at h2 h2' ⊢
      split
      ·exact hneg _ _ [] ⟨m1 ++ m2, by rw [h2, h1, List.append_assoc]⟩
      ·obtain ⟨x, hx, hx'⟩ := hf q.2.1 q.2.2 (kdI L) r.1 q.1
       refine ⟨m1 ++ m2 ++ x, by rw [hx, h2, h1]; simp only [List.append_assoc], fun h => ?_⟩
       obtain ⟨g1, g2⟩ := hx' h
       exact ⟨by simp only [List.length_append]; omega, g2⟩
     ·exact hneg _ _ [] ⟨m1, h1⟩
    ·obtain ⟨x, hx, hx'⟩ := hf r.2.1 r.2.2 (kdI L) r.1 0
     refine ⟨m1 ++ x, by rw [hx, h1]; simp only [List.append_assoc], fun h => ?_⟩
     obtain ⟨g1, g2⟩ := hx' h
     exact ⟨by simp only [List.length_append]; omega, g2⟩
   ·exact hneg _ _ [] ⟨[], by simp⟩
  ·refine ⟨_, rfl, fun _ => ⟨by simp, ?_⟩⟩
   simp only [List.length_append, List.length_cons, List.length_nil]
   omega
theorem nX : ∀ (k : Nat) (L : List UInt8) (l l' : List Stp) (R : List UInt8) (i : Int), aZ k L l = (i, R, l') → 0 ≤ i → l'.length ≤ 9 → (∀ x ∈ l', x.1 = 1 → bU x.2.1 = true) → bA k L l = (l', some R) := by
 intro k
 induction k with
 | zero =>
  intro L l l' R i h hi
  simp only [aZ] at h
  have := (Prod.mk.inj h).1
  omega
 | succ k ih =>
  intro L l l' R i h hi h9 hw
  obtain ⟨m, hm, hm'⟩ := iZ (k + 1) L l
  rw [h] at hm hm'
  dsimp only at hm hm'
  obtain ⟨hm1, _⟩ := hm' hi
  have hl9 : l.length < 9 := by
   have := congrArg List.length hm
   rw [List.length_append] at this
   omega
  clear hm'
  unfold aZ at h
  by_cases p1 : hp (L.drop (HandRead.lets L)) 40 = true
  ·rw [if_pos p1] at h
   by_cases p2 : HandRead.lets L = 1
   ·rw [if_pos p2] at h
    rw [p2] at h p1
    by_cases p3 : kdI L < 2
    ·rw [if_pos p3] at h
     have := (Prod.mk.inj h).1
     omega
    rw [if_neg p3] at h
    have hd : (L.drop 1).drop 1 = L.drop 2 := by rw [List.drop_drop]
    rw [hd] at h
    have hkd : kdS L = kdI L := by unfold kdS; rw [if_neg p3]
    have hk0 : ¬ kdS L = 0 := by rw [hkd]; omega
    have h0 : ¬ (L.length = 0 ∨ 9 ≤ l.length) := by
     have := dY p1
     rw [List.length_drop, List.length_drop] at this
     omega
    obtain ⟨m1, g1, g1'⟩ := iZ k (L.drop 2) l
    cases hs : aZ k (L.drop 2) l with
    | mk i1 q1 =>
    obtain ⟨R1, l1⟩ := q1
    rw [hs] at h g1 g1'
    dsimp only at h g1 g1'
    by_cases p4 : i1 < 0
    ·rw [if_pos p4] at h
     have := (Prod.mk.inj h).1
     omega
    rw [if_neg p4] at h
    have e1 := (g1' (by omega)).2
    by_cases p5 : kdI L = 4 ∨ kdI L = 5
    ·rw [if_pos p5] at h
     by_cases p6 : hp R1 44 = true
     ·rw [if_pos p6] at h
      obtain ⟨m2, g2, g2'⟩ := iZ k (R1.drop 1) l1
      cases hs2 : aZ k (R1.drop 1) l1 with
      | mk i2 q2 =>
      obtain ⟨R2, l2⟩ := q2
      rw [hs2] at h g2 g2'
      dsimp only at h g2 g2'
      by_cases p7 : i2 < 0
      ·rw [if_pos p7] at h
       have := (Prod.mk.inj h).1
       omega
      rw [if_neg p7] at h
      have e2 := (g2' (by omega)).2
      unfold gQ at h
      by_cases p8 : hp R2 41 = true
      ·rw [if_pos p8] at h
       have hl' := (Prod.mk.inj (Prod.mk.inj h).2).2
       have hR' := (Prod.mk.inj (Prod.mk.inj h).2).1
       have hl2 : l2.length + 1 = l'.length := by rw [← hl']; simp
       have hl12 : l1.length ≤ l2.length := by rw [g2, List.length_append]; omega
       have w2 : ∀ x ∈ l2, x.1 = 1 → bU x.2.1 = true := fun x hx => hw x (by rw [← hl']; exact List.mem_append_left _ hx)
       have w1 : ∀ x ∈ l1, x.1 = 1 → bU x.2.1 = true := fun x hx => w2 x (by rw [g2]; exact List.mem_append_left _ hx)
       have s1 := ih _ _ _ _ _ hs (by omega) (by omega) w1
       have s2 := ih _ _ _ _ _ hs2 (by omega) (by omega) w2
       unfold bA
       rw [if_neg h0, if_pos p1, s1]
       dsimp only
       rw [if_pos (by rw [hkd]; exact p5), if_pos p6, s2]
       dsimp only
       rw [if_pos ⟨p8, hk0⟩, ← hl', ← hR', hkd, e1, e2]
      ·rw [if_neg p8] at h
       have := (Prod.mk.inj h).1
       omega
     ·rw [if_neg p6] at h
      have := (Prod.mk.inj h).1
      omega
    ·rw [if_neg p5] at h
     unfold gQ at h
     by_cases p8 : hp R1 41 = true
     ·rw [if_pos p8] at h
      have hl' := (Prod.mk.inj (Prod.mk.inj h).2).2
      have hR' := (Prod.mk.inj (Prod.mk.inj h).2).1
      have hl2 : l1.length + 1 = l'.length := by rw [← hl']; simp
      have w1 : ∀ x ∈ l1, x.1 = 1 → bU x.2.1 = true := fun x hx => hw x (by rw [← hl']; exact List.mem_append_left _ hx)
      have s1 := ih _ _ _ _ _ hs (by omega) (by omega) w1
      unfold bA
      rw [if_neg h0, if_pos p1, s1]
      dsimp only
      rw [if_neg (by rw [hkd]; exact p5), if_pos ⟨p8, hk0⟩, ← hl', ← hR', hkd, e1]
     ·rw [if_neg p8] at h
      have := (Prod.mk.inj h).1
      omega
   ·rw [if_neg p2] at h
    have := (Prod.mk.inj h).1
    omega
  ·rw [if_neg p1] at h
   have hl' := (Prod.mk.inj (Prod.mk.inj h).2).2
   have hR' := (Prod.mk.inj (Prod.mk.inj h).2).1
   have hword : bU (tx (L.take (HandRead.lets L))) = true := hw (1, tx (L.take (HandRead.lets L)), 0, 0) (by rw [← hl']; simp) rfl
   have h1 := nS L hword
   have h40 := oo L h1 (Bool.eq_false_iff.mpr p1)
   have hle := HandRead.iM L
   unfold bA
   rw [if_neg (by omega), if_neg (by rw [h40]; exact Bool.false_ne_true), if_pos hword, ← hl', ← hR']
def eD (L : List UInt8) : List aA × Int := ((bA (L.length + 1) L []).1.map ST, dZ L.length (bA (L.length + 1) L []).2)
theorem kQ (L : List UInt8) (hS : L.length < 1000) (k : Nat) (hk : L.length < k) : Ev (fun f => ak.f f (tx L) 0 []) ((bA k L []).1.map ST, dZ L.length (bA k L []).2) :=
 o9 L hS k 0 [] (by omega) (by omega) (by simp)
theorem pq (L : List UInt8) (hS : L.length < 1000) (k : Nat) (hk : L.length < k) : ((bA k L []).1.map ST, dZ L.length (bA k L []).2) = eD L :=
 ou (kQ L hS k hk) (kQ L hS (L.length + 1) (by omega))
def iW (s : ByteArray) : List aA × Bool :=
 if (s.size : Int) > 80 then ([], false) else
 if (eD s.data.toList).2 = (s.size : Int) ∧ bW (eD s.data.toList).1 = true ∧ dG (eD s.data.toList).1 = s then ((eD s.data.toList).1, true) else ([], false)
theorem nL (s : ByteArray) : tx s.data.toList = s := by
 apply ByteArray.ext
 simp [tx]
theorem oJ {l : List Stp} (h : bW (l.map ST) = true) : ∀ x ∈ l, x.1 = 1 → bU x.2.1 = true := by
 intro x hx h1
 obtain ⟨i, hi, rfl⟩ := List.getElem_of_mem hx
 have hs := dN h i (by rw [List.length_map]; exact hi)
 unfold fA at hs
 rw [gT _ i (by rw [List.length_map]; exact hi), List.getElem_map] at hs
 have e0 : (ST l[i]).f0 = 1 := h1
 rw [if_pos e0, Bool.and_eq_true, Bool.and_eq_true] at hs
 exact hs.2.1
theorem mV (L : List UInt8) (hS : L.length < 1000) (k : Nat) (hk : L.length < k) :
  (if (aZ k L []).1 < 0 then (([], false) : List aA × Bool) else if (aZ k L []).2.1 = [] then (if bW ((aZ k L []).2.2.map ST) = true ∧ dG ((aZ k L []).2.2.map ST) = tx L then ((aZ k L []).2.2.map ST, true) else ([], false)) else ([], false))
   = if (eD L).2 = (L.length : Int) ∧ bW (eD L).1 = true ∧ dG (eD L).1 = tx L then ((eD L).1, true) else ([], false) := by
 have hR := pq L hS k hk
 have hgood : (eD L).2 = (L.length : Int) → ∃ l, (eD L).1 = l.map ST ∧ bA k L [] = (l, some []) := by
  intro h
  cases hs : bA k L [] with
  | mk l o =>
  rw [hs] at hR
  cases o with
  | none =>
   rw [← hR] at h
   simp only [dZ] at h
   omega
  | some R =>
   rw [← hR] at h ⊢
   simp only [dZ] at h
   have : R = [] := List.eq_nil_of_length_eq_zero (by omega)
   subst this
   exact ⟨l, rfl, rfl⟩
 by_cases c : (eD L).2 = (L.length : Int) ∧ bW (eD L).1 = true ∧ dG (eD L).1 = tx L
 ·obtain ⟨c1, c2, c3⟩ := c
  obtain ⟨l, e1, e2⟩ := hgood c1
  obtain ⟨a1, a2⟩ := nW k L [] l [] e2 rfl
  have hc : (eD L).2 = (L.length : Int) ∧ bW (eD L).1 = true ∧ dG (eD L).1 = tx L := ⟨c1, c2, c3⟩
  rw [if_pos hc, a1]
  dsimp only
  rw [if_neg (by omega), if_pos rfl, ← e1, if_pos ⟨c2, c3⟩]
 ·rw [if_neg c]
  by_cases h1 : (aZ k L []).1 < 0
  ·rw [if_pos h1]
  rw [if_neg h1]
  by_cases h2 : (aZ k L []).2.1 = []
  ·rw [if_pos h2]
   by_cases h3 : bW ((aZ k L []).2.2.map ST) = true ∧ dG ((aZ k L []).2.2.map ST) = tx L
   ·exfalso
    apply c
    have hlen := (eO h3.1).2
    rw [List.length_map] at hlen
    have e := nX k L [] (aZ k L []).2.2 [] (aZ k L []).1 (by rw [← h2]) (by omega) hlen (oJ h3.1)
    rw [e] at hR
    rw [← hR]
    exact ⟨by simp [dZ], h3.1, h3.2⟩
   ·rw [if_neg h3]
  ·rw [if_neg h2]
theorem oP {L : List UInt8} : (tx L).toList = ([] : List UInt8) ↔ L = [] := by
 rw [toList_data, ko]
theorem mX : ∀ (k : Nat) (L : List UInt8) (l : List Stp), L.length < k → aZ (k + 1) L l = aZ k L l := by
 intro k
 induction k with
 | zero => intro L l h; omega
 | succ k ih =>
  intro L l hk
  have hd : (L.drop (HandRead.lets L)).length ≤ L.length := by rw [List.length_drop]; omega
  conv => rhs; rw [aZ.eq_2]
  rw [aZ.eq_2]
  by_cases p1 : hp (L.drop (HandRead.lets L)) 40 = true
  ·have h1 := dY p1
   obtain ⟨a1, a2⟩ := iJ k ((L.drop (HandRead.lets L)).drop 1) l
   rw [ih ((L.drop (HandRead.lets L)).drop 1) l (by omega)]
   generalize aZ k ((L.drop (HandRead.lets L)).drop 1) l = r at a1 a2 ⊢
   by_cases p6 : hp r.2.1 44 = true
   ·have h2 := dY p6
    rw [ih (r.2.1.drop 1) r.2.2 (by omega)]
   ·simp only [if_neg p6]
  ·rw [if_neg p1, if_neg p1]
theorem ow (L : List UInt8) (l : List Stp) (k : Nat) (hk : L.length < k) : aZ k L l = aZ (L.length + 1) L l := by
 obtain ⟨d, rfl⟩ : ∃ d, k = L.length + 1 + d := ⟨k - (L.length + 1), by omega⟩
 clear hk
 induction d with
 | zero => rfl
 | succ d ih => rw [← ih]; exact mX (L.length + 1 + d) L l (by omega)
theorem jw (s : ByteArray) : Ev (fun k => aI.f k s) (iW s) := by
 unfold aI.f iW
 by_cases c : (s.size : Int) > 80
 ·rw [evP c, if_pos c]
  exact bB _
 rw [evN c, if_neg c]
 obtain ⟨L, hL⟩ : ∃ L, L = s.data.toList := ⟨_, rfl⟩
 have hs : s = tx L := by rw [hL, nL]
 have hsz : s.size = L.length := by rw [hs, dQ]
 rw [← hL]
 have hlen := (iJ (L.length + 1) L []).2
 have hk := mV L (by omega) (L.length + 1) (by omega)
 have hev : Ev (fun k => HandRead.jS k s []) ((aZ (L.length + 1) L []).1, tx (aZ (L.length + 1) L []).2.1, (aZ (L.length + 1) L []).2.2) := by
  refine ⟨L.length + 1, fun k hk => ?_⟩
  rw [hs, ← ow L [] k (by omega)]
  exact oZ k L [] (by omega) (by simp only [List.length_nil]; omega)
 rw [aU hev]
 rw [hsz, hs, ← hk]
 clear hk hev
 simp only [List.length_nil] at hlen
 generalize aZ (L.length + 1) L [] = q at hlen ⊢
 dsimp only
 by_cases h1 : q.1 < 0
 ·rw [evP h1, if_pos h1]
  exact bB _
 rw [evN h1, if_neg h1]
 by_cases h2 : q.2.1 = []
 ·have hl : (q.2.2.map aI.st).length < 4611686018427387904 := by rw [List.length_map]; omega
  rw [evP (oP.mpr h2), if_pos h2, aU (iE (q.2.2.map aI.st) hl)]
  by_cases h3 : bW (q.2.2.map aI.st) = true
  ·rw [evP h3, aU (jM (q.2.2.map aI.st) hl)]
   by_cases h4 : dG (q.2.2.map aI.st) = tx L
   ·rw [evP (toList_eq.mpr h4), if_pos ⟨h3, h4⟩]
    exact bB _
   ·rw [evN (fun h => h4 (toList_eq.mp h)), if_neg (fun h => h4 h.2)]
    exact bB _
  ·rw [evN h3, if_neg (fun h => h3 h.1)]
   exact bB _
 ·rw [evN (fun h => h2 (oP.mp h)), if_neg h2]
  exact bB _
theorem mE (L : List UInt8) : (eD L).1.length ≤ L.length + 2 := by
 have h := jH (L.length + 1) L []
 unfold eD
 rw [List.length_map]
 cases hs : (bA (L.length + 1) L []).2 with
 | none => rw [hs] at h; simp only [List.length_nil] at h; omega
 | some R => rw [hs] at h; simp only [List.length_nil] at h; omega
theorem jB (s : ByteArray) : Ev (fun k => dB.f k s) (iW s) := by
 unfold dB.f iW
 by_cases c : (s.size : Int) > 80
 ·rw [evP c, if_pos c]
  exact bB _
 rw [evN c, if_neg c]
 obtain ⟨L, hL⟩ : ∃ L, L = s.data.toList := ⟨_, rfl⟩
 have hs : s = tx L := by rw [hL, nL]
 have hsz : s.size = L.length := by rw [hs, dQ]
 rw [← hL]
 have hR := kQ L (by omega) (L.length + 1) (by omega)
 have e : ((bA (L.length + 1) L []).1.map ST, dZ L.length (bA (L.length + 1) L []).2) = eD L := rfl
 have hl := mE L
 rw [e, ← hs] at hR
 rw [aU hR]
 generalize eD L = q at hl ⊢
 by_cases h1 : q.2 = (s.size : Int)
 ·rw [evP h1, aU (iD q.1 (by omega))]
  by_cases h2 : bW q.1 = true
  ·rw [evP h2, aU (jE q.1 (by omega))]
   by_cases h3 : dG q.1 = s
   ·rw [evP (toList_eq.mpr h3), if_pos ⟨h1, h2, h3⟩]
    exact bB _
   ·rw [evN (fun h => h3 (toList_eq.mp h)), if_neg (fun h => h3 h.2.2)]
    exact bB _
  ·rw [evN h2, if_neg (fun h => h2 h.2.1)]
   exact bB _
 ·rw [evN h1, if_neg (fun h => h1 h.1)]
  exact bB _
theorem ng (s : ByteArray) : (iW s).1.length ≤ 9 := by
 unfold iW
 split
 ·exact Nat.zero_le _
 ·split
  ·exact (eO (by rename_i h; exact h.2.1)).2
  ·exact Nat.zero_le _
theorem gB : aC.Pure := by
 intro s _
 refine Ev.rounds ?_
 unfold aC.f
 by_cases c : (s.size : Int) > 1048576
 ·rw [evP c]
  exact bB _
 rw [evN c]
 have w := jB s
 have g := jw s
 have hl := ng s
 generalize iW s = q at w g hl
 obtain ⟨l, b⟩ := q
 replace hl : l.length ≤ 9 := hl
 have e := nC l (by omega)
 have m := l5 l 1 (by omega) (by omega)
 have h := lY l 1 (by omega) (by omega)
 simp only [aU w, aU g, aU e, if_true, bne_self_eq_false]
 rw [← aG]
 simp only [aC.j0, Bool.false_eq_true, if_false, aU m, aU h]
 rw [evN (by omega)]
 simp only [if_true, aU g, aU e, bne_self_eq_false]
 rw [← aG]
 simp only [aC.j1, Bool.false_eq_true, if_false, aU h]
 rw [evN (by omega)]
 simp only [if_true]
 exact bB _
end Go.Proofs.Ythjcicmmbmagbaa.Pure
