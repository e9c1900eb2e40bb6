/- The program's HalfSolvable returns what the reference's returns, for every argument; no further condition. -/
import Derived.Test.YthkfjbodohaglaaGreatDoorZHalfSolvableQ
import Derived.Test.YthkfjbodohaglaaGreatDoorZHalfSolvableEv
namespace Go.Proofs.YthkfjbodohaglaaGreatDoor.Pure
open Go.RowKit Go.Proofs.YthkfjbodohaglaaGreatDoor.PFnExactHalfSolvable Go.Proofs.YthkfjbodohaglaaGreatDoorW.PrintWords Go.Proofs.YthkfjbodohaglaaGreatDoorW.PrintLast Go.Proofs.YthkfjbodohaglaaGreatDoorW.PrintMore Go.Proofs.YthkfjbodohaglaaGreatDoor.Sem
set_option linter.unusedVariables false
set_option linter.unusedSimpArgs false
theorem Ee (xs : List nE) (i : Nat) (h : i < xs.length) : gY xs (i : Int) = xs[i] := by
 simp [gY, List.getD_eq_getElem?_getD, List.getElem?_eq_getElem h]
theorem FL (xs : List S81) (i : Nat) (h : i < xs.length) : kR xs (i : Int) = xs[i] := by
 simp [kR, List.getD_eq_getElem?_getD, List.getElem?_eq_getElem h]
theorem FJ (xs : List S57) (i : Nat) (h : i < xs.length) : mq xs (i : Int) = xs[i] := by
 simp [mq, List.getD_eq_getElem?_getD, List.getElem?_eq_getElem h]
theorem Bb (xs : List bQ) (i : Nat) (h : i < xs.length) : aj xs (i : Int) = xs[i] := by
 simp [aj, List.getD_eq_getElem?_getD, List.getElem?_eq_getElem h]
theorem IY (xs : List bQ) (i : Nat) (x : bQ) (h : i < xs.length) : aj (xs.set i x) (i : Int) = x := by
 rw [Bb _ i (by rw [List.length_set]; exact h), List.getElem_set_self]
theorem qh (xs : List S72) (i : Nat) (h : i < xs.length) : dY xs (i : Int) = xs[i] := by
 simp [dY, List.getD_eq_getElem?_getD, List.getElem?_eq_getElem h]
theorem JU (xs : List S72) (i : Nat) (x : S72) (h : i < xs.length) : dY (xs.set i x) (i : Int) = x := by
 rw [qh _ i (by rw [List.length_set]; exact h), List.getElem_set_self]
theorem BZ (xs : List S62) (i : Nat) (h : i < xs.length) : eT xs (i : Int) = xs[i] := by
 simp [eT, List.getD_eq_getElem?_getD, List.getElem?_eq_getElem h]
theorem JR (xs : List S62) (i : Nat) (x : S62) (h : i < xs.length) : eT (xs.set i x) (i : Int) = x := by
 rw [BZ _ i (by rw [List.length_set]; exact h), List.getElem_set_self]
theorem nK (xs : List S92) (i : Nat) (h : i < xs.length) : aT xs (i : Int) = xs[i] := by
 simp [aT, List.getD_eq_getElem?_getD, List.getElem?_eq_getElem h]
theorem FI (xs : List (List Int)) (i : Nat) (h : i < xs.length) : jB xs (i : Int) = xs[i] := by
 simp [jB, List.getD_eq_getElem?_getD, List.getElem?_eq_getElem h]
theorem lV (a b c : Int) : bD.f a b c = some (decide (b ≤ a ∧ a ≤ c)) := by
 unfold bD.f
 by_cases h : b ≤ a <;> simp [h]
theorem lq (a b c : Int) : dx.f a b c = some (decide (b ≤ a ∧ a ≤ c)) := by
 unfold dx.f
 by_cases h : b ≤ a <;> simp [h]
theorem at_eq (a b : Int) : nu.f a b = some (decide (0 ≤ a ∧ a < b)) := by
 unfold nu.f
 by_cases h : 0 ≤ a <;> simp [h]
theorem mU (a : Int) : eP.f a = some (decide (97 ≤ a ∧ a ≤ 122)) := by
 unfold eP.f
 by_cases h : 97 ≤ a <;> simp [h]
theorem Dg (l : List Int) (hl : l.length < 4611686018427387904) : Ev (fun k => fF.f k l l) true := by
 unfold fF.f
 rw [ep rfl]
 refine gP (jO (fun k i => fF.l0 k l l i) l (fun _ => true) ?_ (fun i hi hp r hr => ?_) (fun i hi hp => by cases hp)) (by simp)
 ·rw [← au]; simp [fF.l0, aI]
 ·rw [← au]
  simp only [fF.l0, bG (i := i) (by omega)]
  simp [aA, hi]
  exact hr
theorem Aj (l : List Int) (c : Int) (h0 : 0 ≤ c) (hc : c + l.length < 4611686018427387904) : Ev (fun k => fC.f k l c) (c + l.length, mF (fun _ b => b) (fun _ => 1) l c) := by
 have hw : jd (fun _ => 1) l = l.length := by rw [pX]; omega
 have := rG (fun k s b i => fC.l0 k s b i) l (fun _ => 1) (fun _ b => b) c (fun s b hs => ?_) (fun i hi s b hs hsi hb hb' r hr => ?_)
 ·rw [hw] at this
  exact this
 ·rw [← au]
  simp only [fC.l0]
  simp [hs, aI]
 ·rw [← au]
  rw [hw] at hb'
  have e : wrap64 (b + 1) = b + 1 := jC (by omega) (by omega)
  simp only [fC.l0, bG (i := i) (by omega), e]
  simp [aA, hi, hs]
  exact hr
theorem EI (l : List Int) (c : Int) (h0 : 0 ≤ c) (hc : c + l.length < 4611686018427387904) : Ev (fun k => fM.f k (mF (fun _ b => b) (fun _ => 1) l c) c) (c + l.length) := by
 have hw : jd (fun _ => 1) l = l.length := by rw [pX]; omega
 have := GQ (fun k b i => fM.l0 k (mF (fun _ b => b) (fun _ => 1) l c) b i) l (fun _ => 1) c (fun b => ?_) (fun i hi b hb hb' r hr => ?_)
 ·rw [hw] at this
  exact this
 ·rw [← au]
  simp only [fM.l0]
  simp [kQ, aI]
 ·rw [← au]
  rw [hw] at hb'
  have e : wrap64 (b + 1) = b + 1 := jC (by omega) (by omega)
  have hr' := nJ (mF (fun _ b => b) (fun _ => 1) l c) i (by rw [kQ]; exact hi)
  rw [wR _ _ _ _ _ hi] at hr'
  simp only [fM.l0, bG (i := i) (by omega), e, hr', ← hb]
  simp [aA, hi, kQ]
  exact hr
theorem Hq (l : List Int) (hl : l.length ≤ 17592186044416) : Ev (fun k => gG.f k l) l := by
 unfold gG.f
 rw [ep, ep]
 refine gP (pR (fun k s i => gG.l0 k l s i) l id 0 (fun s hs => ?_) (fun i hi s hs r hr => ?_)) (by simp)
 ·rw [← au]
  simp [gG.l0, aI]
 ·rw [← au]
  simp only [gG.l0, nJ l i hi, bG (i := i) (by omega)]
  simp [aA, hi, hs]
  exact hr
theorem sG (c : Int) : (strOfNums [c]).size = 1 := rfl
theorem CQ : ∀ (n : Nat) (x : Int) (s : ByteArray), x.toNat ≤ n → s.size + n < 9223372036854775807 → n < 4611686018427387904 → ∃ r, Ev (fun k => dB.l0 k x s) r := by
 intro n
 induction n with
 | zero =>
  intro x s hx hs hn
  refine ⟨(⟨#[109]⟩ : ByteArray) ++ s, ?_⟩
  rw [← au]
  simp only [dB.l0]
  rw [en, ep]
  exact aI _
 | succ n ih =>
  intro x s hx hs hn
  by_cases h : x > 0
  ·have h1 : Int.tdiv x 10 = x / 10 := Int.tdiv_eq_ediv_of_nonneg (by omega)
   have h2 : wrap64 (Int.tdiv x 10) = x / 10 := by rw [h1]; exact jC (by omega) (by omega)
   obtain ⟨r, hr⟩ := ih (x / 10) ((strOfNums [(wrap64 (48 + (Int.tmod x 10))) % 256]) ++ s) (by omega) (by rw [ByteArray.size_append, sG]; omega) (by omega)
   refine ⟨r, ?_⟩
   rw [← au]
   simp only [dB.l0, Option.bind_some, h2]
   rw [ep h, ep (by rw [sG]; omega)]
   exact hr
  ·refine ⟨(⟨#[109]⟩ : ByteArray) ++ s, ?_⟩
   rw [← au]
   simp only [dB.l0]
   rw [en h, ep]
   exact aI _
theorem EN (c : Int) (h : c < 4611686018427387904) : ∃ r, Ev (fun k => dB.f k c) r := by
 unfold dB.f
 by_cases h0 : c ≤ 0
 ·exact ⟨_, by rw [ep h0]; exact aI _⟩
 ·obtain ⟨r, hr⟩ := CQ c.toNat c ⟨#[]⟩ (Nat.le_refl _) (by show 0 + _ < _; omega) (by omega)
  exact ⟨r, by rw [en h0]; exact hr⟩
noncomputable def MT (c : Int) : ByteArray := open Classical in if h : ∃ r, Ev (fun k => dB.f k c) r then h.choose else ByteArray.empty
theorem Hu (c : Int) (h : c < 4611686018427387904) : Ev (fun k => dB.f k c) (MT c) := by
 have hx := EN c h
 unfold MT
 rw [dif_pos hx]
 exact hx.choose_spec
theorem BN (l : List ByteArray) (c : Int) (h0 : 0 ≤ c) (hc : c + l.length < 4611686018427387904) : Ev (fun k => eF.f k l c) (c + l.length, mF (fun _ b => MT b) (fun _ => 1) l c) := by
 have hw : jd (fun _ => 1) l = l.length := by rw [pX]; omega
 have := rG (fun k s b i => eF.l0 k s b i) l (fun _ => 1) (fun _ b => MT b) c (fun s b hs => ?_) (fun i hi s b hs hsi hb hb' r hr => ?_)
 ·rw [hw] at this
  exact this
 ·rw [← au]
  simp only [eF.l0]
  simp [hs, aI]
 ·rw [← au]
  rw [hw] at hb'
  have e : wrap64 (b + 1) = b + 1 := jC (by omega) (by omega)
  simp only [eF.l0, bG (i := i) (by omega), e]
  rw [ep, av (Hu b (by omega)), ep]
  exact hr
theorem Es (l : List ByteArray) (hl : l.length < 4611686018427387904) (hs : ∀ x ∈ l, x.size ≤ 140737488351232) (a : Int) (ha : 0 ≤ a) (ha' : a ≤ 1048576) : ∃ r, Ev (fun k => fq.f k l a) r ∧ r ≤ 1048576 := by
 unfold fq.f
 have w1 : wrap64 (a - (l.length : Int)) = a - l.length := jC (by omega) (by omega)
 simp only [aA, dX, w1]
 by_cases h : a - (l.length : Int) < 0
 ·exact ⟨-1, by simp [h]⟩
 ·simp only [h, if_false]
  refine Dl (fun k b i => fq.l0 k l b i) l 1048576 (fun b => ?_) (fun i hi b hb hb' => ?_) _ (by omega) (by omega)
  ·rw [← au]
   simp only [fq.l0]
   rw [en]
   exact aI _
  ·have hsz := hs _ (List.getElem_mem hi)
   have w3 : wrap64 (b - (l[i].size : Int)) = b - l[i].size := jC (by omega) (by omega)
   by_cases h2 : b - (l[i].size : Int) < 0
   ·refine .inl ?_
    rw [← au]
    simp only [fq.l0, lM ByteArray.empty l i hi, bG (i := i) (by omega), w3]
    simp [aA, dX, hi, h2]
   ·refine .inr ⟨b - l[i].size, by omega, by omega, fun r hr => ?_⟩
    rw [← au]
    simp only [fq.l0, lM ByteArray.empty l i hi, bG (i := i) (by omega), w3]
    rw [ep, ep, en h2]
    exact hr
theorem Et (l : List ByteArray) (hl : l.length ≤ 8796093022208) : Ev (fun k => dh.f k l) l := by
 unfold dh.f
 rw [ep, ep]
 refine gP (pR (fun k s i => dh.l0 k l s i) l id (⟨#[]⟩ : ByteArray) (fun s hs => ?_) (fun i hi s hs r hr => ?_)) (by simp)
 ·rw [← au]
  simp [dh.l0, aI]
 ·rw [← au]
  simp only [dh.l0, lM ByteArray.empty l i hi, bG (i := i) (by omega)]
  simp [aA, hi, hs]
  exact hr
theorem DT (l : List ByteArray) (hl : l.length < 4611686018427387904) : Ev (fun k => fG.f k l l) true := by
 unfold fG.f
 rw [ep rfl]
 refine gP (jO (fun k i => fG.l0 k l l i) l (fun _ => true) ?_ (fun i hi hp r hr => ?_) (fun i hi hp => by cases hp)) (by simp)
 ·rw [← au]; simp [fG.l0, aI]
 ·rw [← au]
  simp only [fG.l0, bG (i := i) (by omega)]
  simp [aA, hi]
  exact hr
theorem Da (l : List S57) (hl : l.length < 4611686018427387904) (hs : ∀ x ∈ l, x.f0.size ≤ 140737488351232) (a : Int) (ha : 0 ≤ a) (ha' : a ≤ 1048576) : ∃ r, Ev (fun k => eO.f k l a) r ∧ r ≤ 1048576 := by
 unfold eO.f
 have w1 : wrap64 (a - (l.length : Int)) = a - l.length := jC (by omega) (by omega)
 simp only [aA, dX, w1]
 by_cases h : a - (l.length : Int) < 0
 ·exact ⟨-1, by simp [h]⟩
 ·simp only [h, if_false]
  refine Dl (fun k b i => eO.l0 k l b i) l 1048576 (fun b => ?_) (fun i hi b hb hb' => ?_) _ (by omega) (by omega)
  ·rw [← au]
   simp only [eO.l0]
   rw [en]
   exact aI _
  ·have hsz := hs _ (List.getElem_mem hi)
   have w3 : wrap64 (b - (l[i].f0.size : Int)) = b - l[i].f0.size := jC (by omega) (by omega)
   by_cases h2 : b - (l[i].f0.size : Int) < 0
   ·refine .inl ?_
    rw [← au]
    simp only [eO.l0, jN.f, FJ l i hi, bG (i := i) (by omega), w3, if_pos h2, Option.bind_some]
    simp [aA, dX, hi]
   ·refine .inr ⟨b - l[i].f0.size, by omega, by omega, fun r hr => ?_⟩
    rw [← au]
    simp only [eO.l0, jN.f, FJ l i hi, bG (i := i) (by omega), w3, if_neg h2, Option.bind_some]
    rw [ep, ep]
    exact hr
def kV (x : S57) : S62 := ⟨x.f0, x.f1⟩
theorem Db (l : List S57) (hl : l.length ≤ 5864062014805) : Ev (fun k => bW.f k l) (l.map kV) := by
 unfold bW.f
 rw [ep, ep]
 refine pR (fun k s i => bW.l0 k l s i) l kV z62 (fun s hs => ?_) (fun i hi s hs r hr => ?_)
 ·rw [← au]
  simp [bW.l0, aI]
 ·rw [← au]
  simp only [bW.l0, lK.f, FJ l i hi, bG (i := i) (by omega), Option.bind_some]
  simp [aA, hi, hs]
  exact hr
theorem Cv (l : List S62) (hl : l.length < 4611686018427387904) : Ev (fun k => bT.f k l l) true := by
 unfold bT.f
 rw [ep rfl]
 refine gP (jO (fun k i => bT.l0 k l l i) l (fun _ => true) ?_ (fun i hi hp r hr => ?_) (fun i hi hp => by cases hp)) (by simp)
 ·rw [← au]; simp [bT.l0, aI]
 ·rw [← au]
  simp only [bT.l0, kG.f, bG (i := i) (by omega)]
  simp [aA, hi]
  exact hr
theorem Ay (l : List S62) (c : Int) (h0 : 0 ≤ c) (hc : c + 2 * l.length < 4611686018427387904) : Ev (fun k => dJ.f k l c) (c + 2 * l.length, mF (fun _ b => ⟨MT b, b + 1⟩) (fun _ => 2) l c) := by
 have hw : jd (fun _ => 2) l = 2 * l.length := pX _ _
 have := rG (fun k s b i => dJ.l0 k s b i) l (fun _ => 2) (fun _ b => ⟨MT b, b + 1⟩) c (fun s b hs => ?_) (fun i hi s b hs hsi hb hb' r hr => ?_)
 ·rw [hw] at this
  exact this
 ·rw [← au]
  simp only [dJ.l0]
  simp [hs, aI]
 ·rw [← au]
  rw [hw] at hb'
  have e : wrap64 (b + 1) = b + 1 := jC (by omega) (by omega)
  have e' : wrap64 (b + 1 + 1) = b + ((2 : Nat) : Int) := by rw [jC (by omega) (by omega)]; omega
  simp only [dJ.l0, bG (i := i) (by omega), e, e', Option.bind_some]
  rw [ep, av (Hu b (by omega)), ep]
  simp only [Int.toNat_natCast, JR, List.length_set, hs, hi, List.set_set]
  exact hr
def lW (c : Int) : Bool := decide (97 ≤ c ∧ c ≤ 122)
def iF (s : ByteArray) : Bool := decide (1 ≤ s.size ∧ s.size ≤ 8) && (bytesOf s).all lW
theorem gQ {s : ByteArray} (h : iF s = true) : 1 ≤ s.size ∧ s.size ≤ 8 := by
 simp [iF] at h
 exact h.1
theorem BI {s : ByteArray} (h : iF s = true) : ∀ c ∈ bytesOf s, 97 ≤ c ∧ c ≤ 122 := by
 simp [iF, lW] at h
 exact h.2
theorem iE (s : ByteArray) : Ev (fun k => bE.f k s) (iF s) := by
 simp only [bE.f, lV, Option.bind_some, aA, decide_eq_true_eq, iF]
 by_cases h : (1 : Int) ≤ s.size ∧ (s.size : Int) ≤ 8
 ·rw [if_pos h]
  have h' : 1 ≤ s.size ∧ s.size ≤ 8 := by omega
  simp only [h', decide_true, Bool.true_and, and_self]
  refine jO (fun k i => bE.l0 k s i) (bytesOf s) lW ?_ (fun i hi hp r hr => ?_) (fun i hi hp => ?_)
  ·rw [← au]; simp [bE.l0, bytesOf_length, aI]
  ·have hi' : i < s.size := by rw [bytesOf_length] at hi; exact hi
   rw [← au]
   simp [lW] at hp
   simp only [bE.l0, mK s i hi', bG (i := i) (by omega)]
   rw [ep, ep, en, en]
   exact hr
  ·have hi' : i < s.size := by rw [bytesOf_length] at hi; exact hi
   rw [← au]
   simp [lW] at hp
   simp only [bE.l0, mK s i hi', bG (i := i) (by omega)]
   rw [ep, ep, aA]
   by_cases h1 : (bytesOf s)[i] < 97
   ·rw [if_pos h1]; exact aI _
   ·rw [if_neg h1, ep]; exact aI _
 ·rw [if_neg h]
  have h' : ¬ (1 ≤ s.size ∧ s.size ≤ 8) := by omega
  simp [h', aI]
theorem iD (s : ByteArray) : Ev (fun k => bM.f k s) (iF s) := by
 simp only [bM.f, lq, Option.bind_some, aA, decide_eq_true_eq, iF]
 by_cases h : (1 : Int) ≤ s.size ∧ (s.size : Int) ≤ 8
 ·rw [if_pos h]
  have h' : 1 ≤ s.size ∧ s.size ≤ 8 := by omega
  simp only [h', decide_true, Bool.true_and, and_self]
  refine jO (fun k i => bM.l0 k s (s.size : Int) i) (bytesOf s) lW ?_ (fun i hi hp r hr => ?_) (fun i hi hp => ?_)
  ·rw [← au]; simp [bM.l0, bytesOf_length, aI]
  ·have hi' : i < s.size := by rw [bytesOf_length] at hi; exact hi
   rw [← au]
   simp [lW] at hp
   simp only [bM.l0, mK s i hi', bG (i := i) (by omega), mU, Option.bind_some]
   rw [ep, ep, ep, ep (by simpa using hp)]
   exact hr
  ·have hi' : i < s.size := by rw [bytesOf_length] at hi; exact hi
   rw [← au]
   simp only [lW] at hp
   simp only [bM.l0, mK s i hi', bG (i := i) (by omega), mU, Option.bind_some]
   rw [ep, ep, ep, en (by rw [hp]; decide)]
   exact aI _
 ·rw [if_neg h]
  have h' : ¬ (1 ≤ s.size ∧ s.size ≤ 8) := by omega
  simp [h', aI]
def Gw (w : ByteArray) (s : Int) (x : S62) : Bool := decide (x.f0 = w ∧ x.f1 = s)
def hasB (l : List S62) (w : ByteArray) (s : Int) : Bool := l.any (Gw w s)
theorem wU (l : List S62) (w : ByteArray) (s : Int) (hl : l.length < 4611686018427387904) : Ev (fun k => fO.f k l w s) (hasB l w s) := by
 refine pQ (fun k i => fO.l0 k l w s i) l _ ?_ (fun i hi hp r hr => ?_) (fun i hi hp => ?_)
 ·rw [← au]; simp [fO.l0, aI]
 ·rw [← au]
  simp only [fO.l0, BZ l i hi, bG (i := i) (by omega), toList_eq]
  simp [Gw] at hp
  simp [aA, hi]
  split
  ·rw [if_neg (hp ‹_›)]; exact hr
  ·exact hr
 ·rw [← au]
  simp only [fO.l0, BZ l i hi, bG (i := i) (by omega), toList_eq]
  simp [Gw] at hp
  simp [aA, hi, hp, aI]
theorem GH (l : List S62) (w : ByteArray) (s : Int) (hl : l.length < 4611686018427387904) : Ev (fun k => eD.f k l w s) (match l.findIdx? (Gw w s) with | some i => (i : Int) | none => -1) := by
 refine rF (fun k i => eD.l0 k l (l.length : Int) i w s) l _ ?_ (fun i hi hp r hr => ?_) (fun i hi hp => ?_)
 ·rw [← au]; simp [eD.l0, aI]
 ·rw [← au]
  simp only [eD.l0, BZ l i hi, bG (i := i) (by omega), jQ]
  simp [Gw] at hp
  simp [aA, hi]
  rw [if_neg (by intro h; exact hp h.1.symm h.2.symm)]
  exact hr
 ·rw [← au]
  simp only [eD.l0, BZ l i hi, bG (i := i) (by omega), jQ]
  simp [Gw] at hp
  simp [aA, hi, hp, aI]
theorem JB {α : Type} (l : List α) (p : α → Bool) : decide ((match l.findIdx? p with | some i => (i : Int) | none => -1) ≥ 0) = l.any p := by
 cases h : l.findIdx? p with
 | none =>
  have := List.findIdx?_eq_none_iff.1 h
  simp
  intro x hx
  simpa using this x hx
 | some i =>
  obtain ⟨h1, h2, _⟩ := List.findIdx?_eq_some_iff_getElem.1 h
  simp
  exact ⟨l[i], List.getElem_mem h1, h2⟩
theorem DL (l : List S62) (w : ByteArray) (s : Int) (hl : l.length < 4611686018427387904) : Ev (fun k => jh.f k l w s) (hasB l w s) := by
 unfold jh.f
 rw [av (GH l w s hl), JB]
 exact aI _
theorem wJ (l : List S62) (w : ByteArray) (s : Int) (hl : l.length < 4611686018427387904) : Ev (fun k => gZ.f k l w s) (hasB l w s) := by
 unfold gZ.f
 rw [av (DL l w s hl)]
 exact aI _
def toStep (x : nE) : bQ := ⟨x.f0, x.f1, x.f2, x.f3⟩
theorem FY (l : List nE) (hl : l.length ≤ 3518437208883) : Ev (fun k => fZ.f k l) (l.map toStep) := by
 unfold fZ.f
 rw [ep, ep]
 refine pR (fun k s i => fZ.l0 k l s i) l toStep ru (fun s hs => ?_) (fun i hi s hs r hr => ?_)
 ·rw [← au]
  simp [fZ.l0, aI]
 ·rw [← au]
  simp only [fZ.l0, mY.f, Ee l i hi, bG (i := i) (by omega), Option.bind_some]
  simp [aA, hi, hs]
  exact hr
theorem FC (l : List bQ) (hl : l.length < 4611686018427387904) : Ev (fun k => dQ.f k l l) true := by
 unfold dQ.f
 rw [ep rfl]
 refine gP (jO (fun k i => dQ.l0 k l l i) l (fun _ => true) ?_ (fun i hi hp r hr => ?_) (fun i hi hp => by cases hp)) (by simp)
 ·rw [← au]; simp [dQ.l0, aI]
 ·rw [← au]
  simp only [dQ.l0, mW.f, bG (i := i) (by omega)]
  simp [aA, hi]
  exact hr
theorem DZ (l : List bQ) (c : Int) (h0 : 0 ≤ c) (hc : c + 4 * l.length < 4611686018427387904) : Ev (fun k => dS.f k l c) (c + 4 * l.length, mF (fun _ b => ⟨b, MT (b + 1), b + 2, b + 3⟩) (fun _ => 4) l c) := by
 have hw : jd (fun _ => 4) l = 4 * l.length := pX _ _
 have := rG (fun k s b i => dS.l0 k s b i) l (fun _ => 4) (fun _ b => ⟨b, MT (b + 1), b + 2, b + 3⟩) c (fun s b hs => ?_) (fun i hi s b hs hsi hb hb' r hr => ?_)
 ·rw [hw] at this
  exact this
 ·rw [← au]
  simp only [dS.l0]
  simp [hs, aI]
 ·rw [← au]
  rw [hw] at hb'
  have e1 : wrap64 (b + 1) = b + 1 := jC (by omega) (by omega)
  have e2 : wrap64 (b + 1 + 1) = b + 2 := by rw [jC (by omega) (by omega)]; omega
  have e3 : wrap64 (b + 2 + 1) = b + 3 := by rw [jC (by omega) (by omega)]; omega
  have e4 : wrap64 (b + 3 + 1) = b + ((4 : Nat) : Int) := by rw [jC (by omega) (by omega)]; omega
  simp only [dS.l0, bG (i := i) (by omega), e1, e2, e3, e4, Option.bind_some]
  rw [ep, ep, av (Hu (b + 1) (by omega))]
  simp only [Int.toNat_natCast, IY, List.length_set, hs, hi, List.set_set]
  exact hr
theorem Ho (a0 : Int) (l : List nE) (hl : l.length ≤ 3518437208883) : Ev (fun k => lJ.f k a0 l) (a0, l.map toStep) := by
 unfold lJ.f
 rw [av (FY l hl)]
 exact aI _
theorem Gv (a0 : Int) (l : List bQ) (hl : l.length < 4611686018427387904) : Ev (fun k => lD.f k a0 l a0 l) true := by
 unfold lD.f
 rw [ep rfl, av (FC l hl), ep rfl]
 exact aI _
def BO (l : List bQ) (i : Nat) (two : Bool) (kind A B : Int) : Bool :=
 if kind = 1 then decide (A = 0 ∧ B = 0) else decide (0 ≤ A ∧ A < i) && (if two = true then decide (0 ≤ B ∧ B < i) else decide (B = 0) && (decide (kind = 2) || decide ((aj l A).f0 = 1)))
def nI (l : List bQ) (i : Nat) : Bool :=
 decide (1 ≤ (aj l i).f0 ∧ (aj l i).f0 ≤ 9) && ((if (aj l i).f0 = 1 then iF (aj l i).f1 else decide ((aj l i).f1.size = 0)) && BO l i (decide ((aj l i).f0 = 4 ∨ (aj l i).f0 = 5)) (aj l i).f0 (aj l i).f2 (aj l i).f3)
theorem EK (l : List bQ) (i : Nat) (hi : i < l.length) (hl : l.length < 4611686018427387904) (two : Bool) (kind : Int) (word : ByteArray) (A B : Int) : Ev (fun k => fE.j1 k l (i : Int) two kind word A B) (BO l i two kind A B) := by
 have e : wrap64 ((i : Int) - 1) = i - 1 := jC (by omega) (by omega)
 rw [← au]
 simp only [fE.j1, lV, Option.bind_some, e, BO, aA]
 by_cases h1 : kind = 1
 ·by_cases h2 : A = 0 <;> simp [h1, h2, dX] <;> rfl
 ·rw [if_neg h1, if_neg h1]
  by_cases h2 : 0 ≤ A ∧ A < (i : Int)
  ·have h2' : 0 ≤ A ∧ A ≤ (i : Int) - 1 := by omega
   simp only [h2, h2', and_self, decide_true, if_true, Bool.true_and]
   cases two
   ·simp only [Bool.false_eq_true, if_false]
    by_cases h3 : B = 0
    ·by_cases h4 : kind = 2
     ·simp [h3, h4, dX]
     ·simp only [h3, h4, if_true, if_false, decide_true, decide_false, Bool.true_and, Bool.false_or]
      rw [if_pos (by omega), dX]
      rfl
    ·simp [h3, dX]
   ·simp only [if_true]
    by_cases h3 : 0 ≤ B ∧ B < (i : Int)
    ·have h3' : 0 ≤ B ∧ B ≤ (i : Int) - 1 := by omega
     simp [h3, h3', dX]
    ·have h3' : ¬ (0 ≤ B ∧ B ≤ (i : Int) - 1) := by omega
     simp [h3, h3', dX]
  ·have h2' : ¬ (0 ≤ A ∧ A ≤ (i : Int) - 1) := by omega
   simp [h2, h2', dX]
theorem qQ (l : List bQ) (i : Nat) (hi : i < l.length) (hl : l.length < 4611686018427387904) (b : Bool) (kind : Int) (word : ByteArray) (A B : Int) : Ev (fun k => fE.j0 k l (i : Int) b kind word A B) (!b && BO l i (decide (kind = 4 ∨ kind = 5)) kind A B) := by
 rw [← au]
 simp only [fE.j0, aA]
 cases b
 ·simp only [Bool.false_eq_true, if_false, Bool.not_false, Bool.true_and]
  by_cases h : kind = 4
  ·simp only [h, if_true, true_or, decide_true]
   exact EK l i hi hl _ _ _ _ _
  ·simp only [h, if_false, false_or]
   have := EK l i hi hl (kind == 5) kind word A B
   exact this
 ·simp [dX]
theorem CY (l : List bQ) (i : Nat) (hi : i < l.length) (hl : l.length < 4611686018427387904) : Ev (fun k => fE.f k l (i : Int)) (nI l i) := by
 unfold fE.f
 rw [ep, ep]
 simp only [lV, Option.bind_some, decide_eq_true_eq]
 unfold nI
 generalize aj l (i : Int) = s
 rw [aA]
 by_cases h1 : 1 ≤ s.f0 ∧ s.f0 ≤ 9
 ·rw [if_pos h1, av (iE s.f1), aA]
  simp only [h1, and_self, decide_true, Bool.true_and]
  by_cases h2 : s.f0 = 1
  ·simp only [h2, beq_self_eq_true, if_true, aA]
   cases hw : iF s.f1
   ·simp only [Bool.true_bne, Bool.not_false, if_true]
    exact gP (qQ l i hi hl _ _ _ _ _) (by simp)
   ·simp only [Bool.true_bne, Bool.not_true, Bool.false_eq_true, if_false]
    exact gP (qQ l i hi hl _ _ _ _ _) (by simp)
  ·have h2' : (s.f0 == 1) = false := by simpa using h2
   simp only [h2, h2', if_false, aA, Bool.false_bne]
   cases hw : iF s.f1
   ·simp only [Bool.false_eq_true, if_false]
    refine gP (qQ l i hi hl _ _ _ _ _) ?_
    congr 1
    rw [Bool.eq_iff_iff]
    simp [bne, toList_nil]
   ·have hz : ¬ s.f1.size = 0 := by have := gQ hw; omega
    simp only [if_true]
    exact gP (qQ l i hi hl _ _ _ _ _) (by simp [hz])
 ·rw [if_neg h1]
  simp only [h1, decide_false, Bool.false_and]
  exact gP (qQ l i hi hl _ _ _ _ _) (by simp)
def mH (l : List bQ) : Bool := decide (1 ≤ l.length ∧ l.length ≤ 9) && (List.range l.length).all (nI l)
theorem Ah {l : List bQ} (h : mH l = true) : 1 ≤ l.length ∧ l.length ≤ 9 := by
 simp [mH] at h
 exact h.1
theorem tX {l : List bQ} (h : mH l = true) (i : Nat) (hi : i < l.length) : nI l i = true := by
 simp [mH] at h
 exact h.2 i hi
theorem qW (l : List bQ) (hl : l.length < 4611686018427387904) : Ev (fun k => dH.f k l) (mH l) := by
 unfold dH.f
 have hend : ∀ i : Nat, Ev (fun k => dH.j1 k l (i : Int) false) (decide (1 ≤ l.length ∧ l.length ≤ 9)) := by
  intro i
  rw [← au]
  simp only [dH.j1, lV, Option.bind_some, Bool.false_eq_true, if_false, dX]
  rw [Bool.eq_iff_iff]
  simp
  omega
 have := nA (fun k i => dH.l0 k l i) l.length (fun i => decide (1 ≤ l.length ∧ l.length ≤ 9) && ((List.range l.length).drop i).all (nI l)) ?_ (fun i hi => ?_) 0 (Nat.zero_le _)
 ·simpa [mH] using this
 ·rw [← au]
  simp only [dH.l0]
  rw [en, List.drop_eq_nil_of_le (by simp)]
  simpa using hend l.length
 ·have hd : (List.range l.length).drop i = i :: (List.range l.length).drop (i + 1) := by rw [List.drop_eq_getElem_cons (by simpa using hi)]; simp
  by_cases h9 : l.length ≤ 9
  ·have hu : ∀ r, Ev (fun k => dH.l0 k l (i : Int)) r ↔ if nI l i = true then Ev (fun k => dH.l0 k l ((i + 1 : Nat) : Int)) r else Ev (fun _ => some false) r := by
    intro r
    have h9' : decide ((l.length : Int) ≤ 9) = true := by simp; omega
    rw [← au]
    simp only [dH.l0, h9']
    rw [ep, ← au]
    simp only [dH.j1, if_true, bG (i := i) (by omega)]
    rw [av (CY l i hi hl), aA]
   rw [hd, List.all_cons]
   by_cases ho : nI l i = true
   ·refine .inr ⟨by simp [ho], fun r hr => ?_⟩
    rw [hu, if_pos ho]
    exact hr
   ·refine .inl ?_
    rw [hu, if_neg ho, dX]
    simp [ho]
  ·refine .inl ?_
   have h9' : decide ((l.length : Int) ≤ 9) = false := by simp; omega
   rw [← au]
   simp only [dH.l0, h9']
   rw [ep]
   exact gP (hend i) (by simp [h9])
theorem GJ (a : Int) : jm.f a = some (decide (a = 4 ∨ a = 5)) := by
 unfold jm.f
 by_cases h : a = 4
 ·simp [h]
 ·simp [h]; rfl
theorem Eb (a : Int) : jM.f a = some (decide (a = 3 ∨ a ≥ 6)) := by
 unfold jM.f
 by_cases h : a = 3 <;> simp [h]
theorem BG (l : List bQ) (i : Nat) (hi : i < l.length) (hl : l.length < 4611686018427387904) (b : Bool) (kind : Int) (word : ByteArray) (A B : Int) (r : Bool) :
  Ev (fun k => bY.j1 k l (i : Int) l (l.length : Int) (i : Int) b kind word A B) r ↔ if (!b && (if kind = 4 ∨ kind = 5 then decide (0 ≤ B ∧ B < i) else decide (B = 0))) = true then Ev (fun k => bY.l0 k l l (l.length : Int) ((i + 1 : Nat) : Int)) r else Ev (fun _ => some false) r := by
 rw [← au]
 simp only [bY.j1, GJ, at_eq, Option.bind_some, bG (i := i) (by omega), aA, decide_eq_true_eq]
 cases b
 ·by_cases h : kind = 4 ∨ kind = 5
  ·by_cases h2 : 0 ≤ B ∧ B < (i : Int) <;> simp [h, h2]
  ·by_cases h2 : B = 0 <;> simp [h, h2]
 ·simp
theorem Am (l : List bQ) (i : Nat) : nI l i = (decide (1 ≤ (aj l i).f0 ∧ (aj l i).f0 ≤ 9) && (if (aj l i).f0 = 1 then iF (aj l i).f1 && decide ((aj l i).f2 = 0 ∧ (aj l i).f3 = 0)
  else decide ((aj l i).f1.size = 0) && (decide (0 ≤ (aj l i).f2 ∧ (aj l i).f2 < i) && (!(decide ((aj l i).f0 = 3 ∨ (aj l i).f0 ≥ 6) && decide (¬ (aj l (aj l i).f2).f0 = 1)) && (if (aj l i).f0 = 4 ∨ (aj l i).f0 = 5 then decide (0 ≤ (aj l i).f3 ∧ (aj l i).f3 < i) else decide ((aj l i).f3 = 0)))))) := by
 unfold nI BO
 generalize aj l (i : Int) = s
 generalize (aj l s.f2).f0 = a
 by_cases h1 : 1 ≤ s.f0 ∧ s.f0 ≤ 9
 ·by_cases h2 : s.f0 = 1
  ·simp [h2]
  ·simp only [h1, h2, and_self, decide_true, Bool.true_and, if_false]
   by_cases h3 : s.f0 = 4 ∨ s.f0 = 5
   ·have h4 : ¬ (s.f0 = 3 ∨ s.f0 ≥ 6) := by omega
    simp [h3, h4]
   ·simp only [h3, decide_false, Bool.false_eq_true, if_false]
    by_cases h4 : s.f0 = 2
    ·have h5 : ¬ (s.f0 = 3 ∨ s.f0 ≥ 6) := by omega
     simp [h4]
    ·have h5 : s.f0 = 3 ∨ s.f0 ≥ 6 := by omega
     by_cases h6 : a = 1 <;> simp [h4, h5, h6]
 ·simp [h1]
theorem qO (l : List bQ) (hl : l.length < 4611686018427387904) : Ev (fun k => bY.f k l) (mH l) := by
 unfold bY.f
 simp only [lq, Option.bind_some, decide_eq_true_eq]
 unfold mH
 rw [aA]
 by_cases hlen : 1 ≤ l.length ∧ l.length ≤ 9
 ·rw [if_pos (by omega)]
  simp only [hlen, and_self, decide_true, Bool.true_and]
  have := nA (fun k i => bY.l0 k l l (l.length : Int) i) l.length (fun i => ((List.range l.length).drop i).all (nI l)) ?_ (fun i hi => ?_) 0 (Nat.zero_le _)
  ·simpa using this
  ·rw [← au]
   simp only [bY.l0]
   rw [en, dX, List.drop_eq_nil_of_le (by simp)]
   simp
  ·have hd : (List.range l.length).drop i = i :: (List.range l.length).drop (i + 1) := by rw [List.drop_eq_getElem_cons (by simpa using hi)]; simp
   have hu : ∀ r, Ev (fun k => bY.l0 k l l (l.length : Int) (i : Int)) r ↔ if nI l i = true then Ev (fun k => bY.l0 k l l (l.length : Int) ((i + 1 : Nat) : Int)) r else Ev (fun _ => some false) r := by
    intro r
    rw [← au]
    simp only [bY.l0, bG (i := i) (by omega), lq, Eb, at_eq, Option.bind_some, Am]
    generalize aj l (i : Int) = s
    simp only [aA, decide_eq_true_eq, av (iD s.f1), BG l i hi hl, toList_nil]
    rw [if_pos (by omega), if_pos (by omega), if_pos (by omega)]
    by_cases h1 : 1 ≤ s.f0 ∧ s.f0 ≤ 9
    ·by_cases h2 : s.f0 = 1
     ·simp only [h2]
      cases hw : iF s.f1
      ·simp
      ·by_cases h3 : s.f2 = 0
       ·by_cases h4 : s.f3 = 0 <;> simp [h3, h4]
       ·simp [h3]
     ·simp only [h1, h2, and_self, decide_true, Bool.true_and, if_true, if_false]
      by_cases h3 : s.f1.size = 0
      ·by_cases h4 : 0 ≤ s.f2 ∧ s.f2 < (i : Int)
       ·have h4' : s.f2 < (l.length : Int) := by omega
        by_cases h5 : s.f0 = 3 ∨ s.f0 ≥ 6
        ·simp only [h3, h4, h4', h5, and_self, decide_true, if_true, Bool.true_and]
         cases hb : ((aj l s.f2).f0 != 1)
         ·have hb' : (aj l s.f2).f0 = 1 := by simpa using hb
          simp [hb']
         ·have hb' : ¬ (aj l s.f2).f0 = 1 := by simpa using hb
          simp [hb']
        ·simp [h3, h4, h5]
       ·simp [h3, h4]
      ·simp [h3]
    ·simp [h1]
   rw [hd, List.all_cons]
   by_cases ho : nI l i = true
   ·refine .inr ⟨by simp [ho], fun r hr => ?_⟩
    rw [hu, if_pos ho]
    exact hr
   ·refine .inl ?_
    rw [hu, if_neg ho, dX]
    simp [ho]
 ·rw [if_neg (by omega)]
  simp [hlen, dX]
def lU (a : Int) (l : List bQ) : Bool := decide (1 ≤ a ∧ a ≤ 99) && mH l
theorem Ck (a : Int) (l : List bQ) (hl : l.length < 4611686018427387904) : Ev (fun k => lS.f k a l) (lU a l) := by
 unfold lS.f lU
 simp only [lV, Option.bind_some, aA, av (qW l hl), decide_eq_true_eq]
 by_cases h : 1 ≤ a ∧ a ≤ 99 <;> simp [h, dX]
theorem BD (a : Int) (l : List bQ) (hl : l.length < 4611686018427387904) : Ev (fun k => lC.f k a l) (lU a l) := by
 unfold lC.f lU
 simp only [lq, Option.bind_some, aA, av (qO l hl), decide_eq_true_eq]
 by_cases h : 1 ≤ a ∧ a ≤ 99 <;> simp [h, dX]
theorem wm {l : List bQ} {i : Nat} (hi : i < l.length) (h : nI l i = true) : (1 ≤ l[i].f0 ∧ l[i].f0 ≤ 9) ∧ (l[i].f0 = 1 → iF l[i].f1 = true) ∧ (¬ l[i].f0 = 1 → 0 ≤ l[i].f2 ∧ l[i].f2 < i) ∧ (l[i].f0 = 4 ∨ l[i].f0 = 5 → 0 ≤ l[i].f3 ∧ l[i].f3 < i) ∧ (¬ l[i].f0 = 1 → ¬ (l[i].f0 = 4 ∨ l[i].f0 = 5) → l[i].f3 = 0) ∧
  (l[i].f0 = 3 ∨ l[i].f0 ≥ 6 → (aj l l[i].f2).f0 = 1) ∧ (¬ l[i].f0 = 1 → l[i].f1.size = 0) ∧ (l[i].f0 = 1 → l[i].f2 = 0 ∧ l[i].f3 = 0) := by
 rw [Am, Bb l i hi] at h
 simp only [Bool.and_eq_true, decide_eq_true_eq] at h
 obtain ⟨h1, h2⟩ := h
 refine ⟨h1, fun e => ?_, fun e => ?_, fun e => ?_, fun e e' => ?_, fun e => ?_, fun e => ?_, fun e => ?_⟩
 ·rw [if_pos e] at h2; simp at h2; exact h2.1
 ·rw [if_neg e] at h2; simp at h2; exact h2.2.1
 ·have e' : ¬ l[i].f0 = 1 := by omega
  rw [if_neg e', if_pos e] at h2; simp at h2; exact h2.2.2.2
 ·rw [if_neg e, if_neg e'] at h2; simp at h2; exact h2.2.2.2
 ·have e' : ¬ l[i].f0 = 1 := by omega
  rw [if_neg e'] at h2; simp at h2
  have h3 := h2.2.2.1
  rcases h3 with h3 | h3
  ·omega
  ·exact h3
 ·rw [if_neg e] at h2; simp at h2; rw [h2.1]; rfl
 ·rw [if_pos e] at h2; simp at h2; exact h2.2
theorem CZ (l : List Int) (x : Int) (hl : l.length < 4611686018427387904) : Ev (fun k => iI.f k l x) (l.any (fun y => decide (y = x))) := by
 refine pQ (fun k i => iI.l0 k l x i) l _ ?_ (fun i hi hp r hr => ?_) (fun i hi hp => ?_)
 ·rw [← au]; simp [iI.l0, aI]
 ·rw [← au]
  simp only [iI.l0, nJ l i hi, bG (i := i) (by omega)]
  simp at hp
  simp [aA, hi, hp]
  exact hr
 ·rw [← au]
  simp only [iI.l0, nJ l i hi, bG (i := i) (by omega)]
  simp at hp
  simp [aA, hi, hp, aI]
def sj (c : Int) : Bool := decide (c = 35 ∨ c = 46)
def dW (R C : Int) (s : ByteArray) : Bool := decide ((2 ≤ R ∧ R ≤ 6) ∧ (2 ≤ C ∧ C ≤ 6) ∧ (s.size : Int) = R * C) && (bytesOf s).all sj
theorem jl {R C : Int} {s : ByteArray} (h : dW R C s = true) : (2 ≤ R ∧ R ≤ 6) ∧ (2 ≤ C ∧ C ≤ 6) ∧ (s.size : Int) = R * C ∧ ∀ c ∈ bytesOf s, c = 35 ∨ c = 46 := by
 simp [dW, sj] at h
 exact ⟨h.1.1, h.1.2.1, h.1.2.2, h.2⟩
theorem Ce {C : Int} (hC : 2 ≤ C ∧ C ≤ 6) : C = 2 ∨ C = 3 ∨ C = 4 ∨ C = 5 ∨ C = 6 := by omega
theorem tN {R C : Int} (hR : 2 ≤ R ∧ R ≤ 6) (hC : 2 ≤ C ∧ C ≤ 6) : 4 ≤ R * C ∧ R * C ≤ 36 := by
 rcases Ce hC with rfl | rfl | rfl | rfl | rfl <;> omega
theorem gI {R C : Int} {s : ByteArray} (h : dW R C s = true) : 4 ≤ s.size ∧ s.size ≤ 36 := by
 obtain ⟨h1, h2, h3, _⟩ := jl h
 have := tN h1 h2
 omega
theorem CV (R C : Int) (s : ByteArray) (hs : s.size < 4611686018427387904) : Ev (fun k => bL.l0 k 0 R C s) ((bytesOf s).all sj) := by
 refine jO (fun k i => bL.l0 k i R C s) (bytesOf s) sj ?_ (fun i hi hp r hr => ?_) (fun i hi hp => ?_)
 ·rw [← au]; simp [bL.l0, bytesOf_length, aI]
 ·have hi' : i < s.size := by rw [bytesOf_length] at hi; exact hi
  rw [← au]
  simp only [sj, decide_eq_true_eq] at hp
  simp only [bL.l0, mK s i hi', bG (i := i) (by omega)]
  rw [ep, ep, aA]
  by_cases h : (bytesOf s)[i] = 35
  ·rw [if_pos h]; exact hr
  ·rw [if_neg h, ep]; exact hr
 ·have hi' : i < s.size := by rw [bytesOf_length] at hi; exact hi
  rw [← au]
  simp only [sj, decide_eq_false_iff_not] at hp
  simp only [bL.l0, mK s i hi', bG (i := i) (by omega)]
  rw [ep, ep, en, en]
  exact aI _
theorem iM (R C : Int) (s : ByteArray) : Ev (fun k => bL.f k R C s) (dW R C s) := by
 simp only [bL.f, lV, Option.bind_some, aA, decide_eq_true_eq]
 by_cases hR : 2 ≤ R ∧ R ≤ 6
 ·rw [if_pos hR]
  by_cases hC : 2 ≤ C ∧ C ≤ 6
  ·rw [if_pos hC]
   have hm := tN hR hC
   have e : wrap64 (R * C) = R * C := jC (by omega) (by omega)
   rw [e, ← au]
   simp only [bL.j0, aA, bne_iff_ne, ne_eq]
   by_cases hs : (s.size : Int) = R * C
   ·rw [if_neg (not_not_intro hs)]
    exact gP (CV R C s (by omega)) (by simp [dW, hR, hC, hs])
   ·rw [if_pos hs]
    exact gP (aI _) (by simp [dW, hs])
  ·rw [if_neg hC, ← au]
   simp only [bL.j0, if_true]
   exact gP (aI _) (by simp [dW, hC])
 ·rw [if_neg hR, ← au]
  simp only [bL.j0, if_true]
  exact gP (aI _) (by simp [dW, hR])
theorem Cx (R C : Int) (s : ByteArray) (hs : s.size < 4611686018427387904) : Ev (fun k => bB.l0 k (s.size : Int) 0 R C s) ((bytesOf s).all sj) := by
 refine jO (fun k i => bB.l0 k (s.size : Int) i R C s) (bytesOf s) sj ?_ (fun i hi hp r hr => ?_) (fun i hi hp => ?_)
 ·rw [← au]; simp [bB.l0, bytesOf_length, aI]
 ·have hi' : i < s.size := by rw [bytesOf_length] at hi; exact hi
  rw [← au]
  simp only [sj, decide_eq_true_eq] at hp
  simp only [bB.l0, mK s i hi', bG (i := i) (by omega)]
  rw [ep, ep, ep, aA]
  by_cases h : (bytesOf s)[i] = 35
  ·rw [if_pos h]; exact hr
  ·rw [if_neg h, ep]; exact hr
 ·have hi' : i < s.size := by rw [bytesOf_length] at hi; exact hi
  rw [← au]
  simp only [sj, decide_eq_false_iff_not] at hp
  simp only [bB.l0, mK s i hi', bG (i := i) (by omega)]
  rw [ep, ep, ep, en, en]
  exact aI _
theorem jL (R C : Int) (s : ByteArray) : Ev (fun k => bB.f k R C s) (dW R C s) := by
 simp only [bB.f, lq, Option.bind_some, aA, decide_eq_true_eq]
 by_cases hR : 2 ≤ R ∧ R ≤ 6
 ·rw [if_pos hR]
  by_cases hC : 2 ≤ C ∧ C ≤ 6
  ·rw [if_pos hC]
   have hm := tN hR hC
   have e : wrap64 (R * C) = R * C := jC (by omega) (by omega)
   rw [e, ← au]
   simp only [bB.j0, aA, bne_iff_ne, ne_eq]
   by_cases hs : (s.size : Int) = R * C
   ·rw [if_neg (not_not_intro hs)]
    exact gP (Cx R C s (by omega)) (by simp [dW, hR, hC, hs])
   ·rw [if_pos hs]
    exact gP (aI _) (by simp [dW, hs])
  ·rw [if_neg hC, ← au]
   simp only [bB.j0, if_true]
   exact gP (aI _) (by simp [dW, hC])
 ·rw [if_neg hR, ← au]
  simp only [bB.j0, if_true]
  exact gP (aI _) (by simp [dW, hR])
theorem wS {j st : Int} (hj : 0 ≤ j ∧ j ≤ 6) (hs : 1 ≤ st ∧ st ≤ 6) : 0 ≤ j * st ∧ j * st ≤ 36 := by
 have : st = 1 ∨ st = 2 ∨ st = 3 ∨ st = 4 ∨ st = 5 ∨ st = 6 := by omega
 rcases this with rfl | rfl | rfl | rfl | rfl | rfl <;> omega
theorem JG (R C : Int) (s : ByteArray) (i st p n : Int) (hp : 0 ≤ p ∧ p ≤ 36) (hn : n ≤ 6) (hi : 0 ≤ i ∧ i ≤ 36) (hst : 1 ≤ st ∧ st ≤ 6) (hin : ∀ j, 0 ≤ j → p + j < n → 0 ≤ i + j * st ∧ i + j * st < (s.size : Int)) :
  ∀ (d : Nat) (j : Int), (n - p - j).toNat ≤ d → 0 ≤ j → j ≤ 6 → (∀ j', 0 ≤ j' → j' < j → p + j' < n ∧ bt s (i + j' * st) = 46) →
  ∃ r, Ev (fun k => bA.l0 k i st p n j R C s) r ∧ 0 ≤ r ∧ r ≤ 6 ∧ ∀ j', 0 ≤ j' → j' < r → p + j' < n ∧ bt s (i + j' * st) = 46 := by
 intro d
 induction d with
 | zero =>
  intro j hd h0 h6 hb
  have e1 : wrap64 (p + j) = p + j := jC (by omega) (by omega)
  refine ⟨j, ?_, h0, h6, hb⟩
  rw [← au]
  simp only [bA.l0, e1]
  rw [en]
  exact aI _
 | succ d ih =>
  intro j hd h0 h6 hb
  have e1 : wrap64 (p + j) = p + j := jC (by omega) (by omega)
  by_cases hc : p + j < n
  ·have hm := wS (j := j) (st := st) ⟨h0, h6⟩ hst
   have hj := hin j h0 hc
   have e2 : wrap64 (j * st) = j * st := jC (by omega) (by omega)
   have e3 : wrap64 (i + j * st) = i + j * st := jC (by omega) (by omega)
   have e4 : wrap64 (j + 1) = j + 1 := jC (by omega) (by omega)
   by_cases h46 : bt s (i + j * st) = 46
   ·obtain ⟨r, hr, h⟩ := ih (j + 1) (by omega) (by omega) (by omega) (fun j' h1 h2 => by
     by_cases hh : j' = j
     ·rw [hh]; exact ⟨hc, h46⟩
     ·exact hb j' h1 (by omega))
    refine ⟨r, ?_, h⟩
    rw [← au]
    simp only [bA.l0, e1, e2, e3, e4]
    rw [ep hc, ep hj.1, ep hj.2, ep h46]
    exact hr
   ·refine ⟨j, ?_, h0, h6, hb⟩
    rw [← au]
    simp only [bA.l0, e1, e2, e3, e4]
    rw [ep hc, ep hj.1, ep hj.2, en h46]
    exact aI _
  ·refine ⟨j, ?_, h0, h6, hb⟩
   rw [← au]
   simp only [bA.l0, e1]
   rw [en hc]
   exact aI _
theorem Kn (R C : Int) (s : ByteArray) (i st p n : Int) (hp : 0 ≤ p ∧ p ≤ 36) (hn : n ≤ 6) (hi : 0 ≤ i ∧ i ≤ 36) (his : i < (s.size : Int)) (hst : 1 ≤ st ∧ st ≤ 6) (hb : 0 < p → 0 ≤ i - st) (hin : ∀ j, 0 ≤ j → p + j < n → 0 ≤ i + j * st ∧ i + j * st < (s.size : Int)) :
  ∃ r, Ev (fun k => bA.j0 k i st p n R C s) r ∧ 0 ≤ r ∧ r ≤ 6 ∧ ∀ j', 0 ≤ j' → j' < r → p + j' < n ∧ bt s (i + j' * st) = 46 := by
 have hj1 : ∀ b : Bool, ∃ r, Ev (fun k => bA.j1 k i st p n b R C s) r ∧ 0 ≤ r ∧ r ≤ 6 ∧ ∀ j', 0 ≤ j' → j' < r → p + j' < n ∧ bt s (i + j' * st) = 46 := by
  intro b
  cases b with
  | true =>
   refine ⟨0, ?_, by omega, by omega, fun _ _ _ => by omega⟩
   rw [← au]
   simp only [bA.j1, if_true]
   exact aI _
  | false =>
   obtain ⟨r, hr, h⟩ := JG R C s i st p n hp hn hi hst hin _ 0 (Nat.le_refl _) (by omega) (by omega) (fun _ _ _ => by omega)
   refine ⟨r, ?_, h⟩
   rw [← au]
   simp only [bA.j1, Bool.false_eq_true, if_false]
   exact hr
 have e1 : wrap64 (i - st) = i - st := jC (by omega) (by omega)
 by_cases h46 : bt s i = 46
 ·by_cases hp0 : p > 0
  ·obtain ⟨r, hr, h⟩ := hj1 (bt s (i - st) == 46)
   have := hb hp0
   refine ⟨r, ?_, h⟩
   rw [← au]
   simp only [bA.j0, e1]
   rw [ep hi.1, ep his, ep h46, ep hp0, ep this, ep]
   exact hr
  ·obtain ⟨r, hr, h⟩ := hj1 false
   refine ⟨r, ?_, h⟩
   rw [← au]
   simp only [bA.j0, e1]
   rw [ep hi.1, ep his, ep h46, en hp0]
   exact hr
 ·obtain ⟨r, hr, h⟩ := hj1 true
  refine ⟨r, ?_, h⟩
  rw [← au]
  simp only [bA.j0, e1]
  rw [ep hi.1, ep his, en h46]
  exact hr
theorem Km {R C : Int} {s : ByteArray} (hg : dW R C s = true) (i : Nat) (hi : i < s.size) (b : Bool) :
  ∃ r, Ev (fun k => bA.f k R C s i b) r ∧ 0 ≤ r ∧ r ≤ 6 ∧ ∀ j, 0 ≤ j → j < r → 0 ≤ (i : Int) + j * (if b = true then C else 1) ∧ (i : Int) + j * (if b = true then C else 1) < s.size ∧ bt s ((i : Int) + j * (if b = true then C else 1)) = 46 := by
 obtain ⟨hR, hC, hs, _⟩ := jl hg
 have hm := tN hR hC
 have e1 : Int.tdiv (i : Int) C = (i : Int) / C := Int.tdiv_eq_ediv_of_nonneg (by omega)
 have e2 : Int.tmod (i : Int) C = (i : Int) % C := Int.tmod_eq_emod_of_nonneg (by omega)
 have hi2 : (i : Int) < R * C := by omega
 have hdiv : 0 ≤ (i : Int) / C ∧ (i : Int) / C ≤ 36 ∧ 0 ≤ (i : Int) % C ∧ (i : Int) % C ≤ 36 ∧ (0 < (i : Int) / C → 0 ≤ (i : Int) - C) ∧ (0 < (i : Int) % C → 0 ≤ (i : Int) - 1)
   ∧ (∀ j, 0 ≤ j → (i : Int) / C + j < R → 0 ≤ (i : Int) + j * C ∧ (i : Int) + j * C < R * C) ∧ (∀ j, 0 ≤ j → (i : Int) % C + j < C → 0 ≤ (i : Int) + j * 1 ∧ (i : Int) + j * 1 < R * C) := by
  rcases Ce hC with rfl | rfl | rfl | rfl | rfl <;> exact ⟨by omega, by omega, by omega, by omega, by omega, by omega, fun j h1 h2 => by omega, fun j h1 h2 => by omega⟩
 obtain ⟨d1, d2, d3, d4, d5, d6, d7, d8⟩ := hdiv
 have e3 : wrap64 ((i : Int) / C) = (i : Int) / C := jC (by omega) (by omega)
 have hc0 : ¬ C = 0 := by omega
 cases b with
 | true =>
  obtain ⟨r, hr, h0, h6, h⟩ := Kn R C s i C ((i : Int) / C) R ⟨d1, d2⟩ hR.2 (by omega) (by omega) (by omega) d5 (fun j h1 h2 => by rw [hs]; exact d7 j h1 h2)
  refine ⟨r, ?_, h0, h6, fun j h1 h2 => ?_⟩
  ·simp only [bA.f, e1, e3]
   rw [en hc0, ep trivial]
   exact hr
  ·have := h j h1 h2
   have := d7 j h1 this.1
   simp only [if_true]
   omega
 | false =>
  obtain ⟨r, hr, h0, h6, h⟩ := Kn R C s i 1 ((i : Int) % C) C ⟨d3, d4⟩ hC.2 (by omega) (by omega) (by omega) d6 (fun j h1 h2 => by rw [hs]; exact d8 j h1 h2)
  refine ⟨r, ?_, h0, h6, fun j h1 h2 => ?_⟩
  ·simp only [bA.f, e2]
   rw [en hc0, en (by simp)]
   exact hr
  ·have := h j h1 h2
   have := d8 j h1 this.1
   simp only [Bool.false_eq_true, if_false]
   omega
noncomputable def sQ (R C : Int) (s : ByteArray) (i : Int) (b : Bool) : Int := open Classical in if h : ∃ r, Ev (fun k => bA.f k R C s i b) r then h.choose else 0
theorem wz {R C : Int} {s : ByteArray} (hg : dW R C s = true) (i : Nat) (hi : i < s.size) (b : Bool) : Ev (fun k => bA.f k R C s i b) (sQ R C s i b) := by
 obtain ⟨r, hr, _⟩ := Km hg i hi b
 have hx : ∃ r, Ev (fun k => bA.f k R C s i b) r := ⟨r, hr⟩
 unfold sQ
 rw [dif_pos hx]
 exact hx.choose_spec
theorem Gm {R C : Int} {s : ByteArray} (hg : dW R C s = true) (i : Nat) (hi : i < s.size) (b : Bool) : 0 ≤ sQ R C s i b ∧ sQ R C s i b ≤ 6 ∧ ∀ j, 0 ≤ j → j < sQ R C s i b → 0 ≤ (i : Int) + j * (if b = true then C else 1) ∧ (i : Int) + j * (if b = true then C else 1) < s.size ∧ bt s ((i : Int) + j * (if b = true then C else 1)) = 46 := by
 obtain ⟨r, hr, h⟩ := Km hg i hi b
 rw [Gx (wz hg i hi b) hr]
 exact h
theorem Jc : ∀ k, (∀ a b c d e f g, eU.j0 k a b c d e f g = bA.j0 k a b c d e f g) ∧ (∀ a b c d x e f g, eU.j1 k a b c d x e f g = bA.j1 k a b c d x e f g) ∧ ∀ a b c d x e f g, eU.l0 k a b c d x e f g = bA.l0 k a b c d x e f g := by
 intro k
 induction k with
 | zero => exact ⟨fun _ _ _ _ _ _ _ => rfl, fun _ _ _ _ _ _ _ _ => rfl, fun _ _ _ _ _ _ _ _ => rfl⟩
 | succ k ih =>
  obtain ⟨h1, h2, h3⟩ := ih
  refine ⟨fun a b c d e f g => ?_, fun a b c d x e f g => ?_, fun a b c d x e f g => ?_⟩
  ·simp only [eU.j0, bA.j0, h2]
  ·simp only [eU.j1, bA.j1, h3]
  ·simp only [eU.l0, bA.l0, h3]
theorem run_eq (k : Nat) (R C : Int) (s : ByteArray) (i : Int) (b : Bool) : eU.f k R C s i b = bA.f k R C s i b := by
 simp only [eU.f, bA.f, (Jc k).1]
def slA (n i a : Int) : List S92 := if a ≥ 2 then [⟨n, false, i, a⟩] else []
def slD (n i d : Int) : List S92 := if d ≥ 2 then [⟨n, true, i, d⟩] else []
def qz (a d n : Int) : Int := if a ≥ 2 ∨ d ≥ 2 then n + 1 else n
def ql (a d : Int) (i : Nat) (st : List S92 × Int) : List S92 × Int := ((st.1 ++ slA (qz a d st.2) i a) ++ slD (qz a d st.2) i d, qz a d st.2)
noncomputable def nY (R C : Int) (s : ByteArray) (st : List S92 × Int) (i : Nat) : List S92 × Int := ql (sQ R C s i false) (sQ R C s i true) i st
noncomputable def slW (R C : Int) (s : ByteArray) (i : Nat) (st : List S92 × Int) : List S92 × Int := (List.range' i (s.size - i)).foldl (nY R C s) st
noncomputable def aU (R C : Int) (s : ByteArray) : List S92 := if dW R C s = true then (slW R C s 0 ([], 0)).1 else []
theorem Eo (R C : Int) (s : ByteArray) (st : List S92 × Int) : slW R C s s.size st = st := by simp [slW]
theorem Cg (R C : Int) (s : ByteArray) (i : Nat) (hi : i < s.size) (st : List S92 × Int) : slW R C s i st = slW R C s (i + 1) (nY R C s st i) := by
 unfold slW
 rw [show s.size - i = (s.size - (i + 1)) + 1 by omega, List.range'_succ]
 rfl
theorem Jd (a d n : Int) : n ≤ qz a d n ∧ qz a d n ≤ n + 1 := by unfold qz; split <;> omega
theorem FR (a d : Int) (i : Nat) (st : List S92 × Int) : (ql a d i st).1.length ≤ st.1.length + 2 := by
 have h1 : (slA (qz a d st.2) i a).length ≤ 1 := by unfold slA; split <;> simp
 have h2 : (slD (qz a d st.2) i d).length ≤ 1 := by unfold slD; split <;> simp
 simp only [ql, List.length_append]
 omega
def EW (i : Nat) (st : List S92 × Int) : Prop := st.1.length ≤ 2 * i ∧ 0 ≤ st.2 ∧ st.2 ≤ i
theorem sS (R C : Int) (s : ByteArray) (i : Nat) (st : List S92 × Int) (h : EW i st) : EW (i + 1) (nY R C s st i) := by
 obtain ⟨h1, h2, h3⟩ := h
 have := FR (sQ R C s i false) (sQ R C s i true) i st
 have := Jd (sQ R C s i false) (sQ R C s i true) st.2
 refine ⟨?_, ?_, ?_⟩
 ·unfold nY; omega
 ·unfold nY ql; dsimp only; omega
 ·unfold nY ql; dsimp only; omega
theorem qB {R C : Int} {s : ByteArray} (a d : Int) (i : Nat) (hi : i < 36) (l : List S92) (n : Int) (hl : l.length ≤ 72) (r : List S92)
  (hr : Ev (fun k => aN.l0 k ((l ++ slA n i a) ++ slD n i d) n ((i + 1 : Nat) : Int) R C s) r) : Ev (fun k => aN.j3 k l n i a d R C s) r := by
 rw [← au]
 simp only [aN.j3, bG (i := i) (by omega), Option.bind_some, aA]
 by_cases a2 : a ≥ 2 <;> by_cases d2 : d ≥ 2 <;> simp only [slA, slD, a2, d2, if_true, if_false, List.append_nil] at hr ⊢
 ·rw [if_pos (by omega), if_pos (by rw [List.length_append]; simp; omega)]
  exact hr
 ·rw [if_pos (by omega)]
  exact hr
 ·rw [if_pos (by omega)]
  exact hr
 ·exact hr
theorem Cn {R C : Int} {s : ByteArray} (hg : dW R C s = true) : Ev (fun k => aN.l0 k [] 0 0 R C s) (slW R C s 0 ([], 0)).1 := by
 have hsz := gI hg
 refine iG (σ := List S92 × Int) (fun k st i => aN.l0 k st.1 st.2 i R C s) s.size EW (fun i st => (slW R C s i st).1) (fun st hst => ?_) (fun i st hi hst => .inr ⟨nY R C s st i, sS R C s i st hst, ?_, fun r hr => ?_⟩) 0 ([], 0) (Nat.zero_le _) ⟨by simp, by simp, by simp⟩
 ·rw [Eo, ← au]
  simp only [aN.l0, Int.lt_irrefl, if_false]
  rw [← au]
  simp only [aN.j1, Bool.false_eq_true, if_false]
  exact aI _
 ·rw [Cg R C s i hi]
 ·obtain ⟨h1, h2, h3⟩ := hst
  have ha := wz hg i hi false
  have hd := wz hg i hi true
  unfold nY ql at hr
  generalize sQ R C s i false = a at ha hr
  generalize sQ R C s i true = d at hd hr
  have hn1 : wrap64 (st.2 + 1) = st.2 + 1 := jC (by omega) (by omega)
  rw [← au]
  simp only [aN.l0]
  rw [ep, av (iM R C s), hg, ← au]
  simp only [aN.j1, if_true]
  rw [av ha, av hd, aA]
  have hj2 : ∀ b : Bool, b = decide (a ≥ 2 ∨ d ≥ 2) → Ev (fun k => aN.j2 k st.1 st.2 i a d b R C s) r := by
   intro b hb
   rw [← au]
   simp only [aN.j2, hn1]
   rw [aA]
   by_cases h : a ≥ 2 ∨ d ≥ 2
   ·rw [if_pos (by rw [hb]; simpa using h)]
    simp only [qz, if_pos h] at hr
    exact qB a d i (by omega) st.1 _ (by omega) r hr
   ·rw [if_neg (by rw [hb]; simpa using h)]
    simp only [qz, if_neg h] at hr
    exact qB a d i (by omega) st.1 _ (by omega) r hr
  by_cases a2 : a ≥ 2
  ·rw [if_pos a2]
   exact hj2 _ (by simp [a2])
  ·rw [if_neg a2]
   exact hj2 _ (by simp only [a2, false_or])
theorem jw (R C : Int) (s : ByteArray) : Ev (fun k => aN.f k R C s) (aU R C s) := by
 unfold aU
 split
 ·rename_i hg
  exact Cn hg
 ·rename_i hg
  simp only [aN.f]
  rw [← au]
  simp only [aN.l0]
  rw [Bool.not_eq_true] at hg
  have : Ev (fun k => aN.j1 k [] 0 0 false R C s) [] := by
   rw [← au]
   simp only [aN.j1, Bool.false_eq_true, if_false]
   exact aI _
  rw [aA]
  split
  ·rw [av (iM R C s), hg]
   exact this
  ·exact this
theorem En {n i a : Int} {x : S92} (h : x ∈ slA n i a) : x = ⟨n, false, i, a⟩ ∧ a ≥ 2 := by
 unfold slA at h
 split at h
 ·exact ⟨List.mem_singleton.1 h, ‹_›⟩
 ·simp at h
theorem Gn {n i a : Int} {x : S92} (h : x ∈ slD n i a) : x = ⟨n, true, i, a⟩ ∧ a ≥ 2 := by
 unfold slD at h
 split at h
 ·exact ⟨List.mem_singleton.1 h, ‹_›⟩
 ·simp at h
def stepOf (C : Int) (x : S92) : Int := if x.f1 = true then C else 1
def JX (C : Int) (s : ByteArray) (x : S92) : Prop := 0 ≤ x.f2 ∧ x.f2 < s.size ∧ 2 ≤ x.f3 ∧ x.f3 ≤ 6 ∧ ∀ j, 0 ≤ j → j < x.f3 → 0 ≤ x.f2 + j * stepOf C x ∧ x.f2 + j * stepOf C x < s.size ∧ bt s (x.f2 + j * stepOf C x) = 46
theorem FT {R C : Int} {s : ByteArray} (hg : dW R C s = true) : ∀ (n i : Nat) (st : List S92 × Int), i + n = s.size → EW i st → (∀ x ∈ st.1, JX C s x ∧ x.f2 < i) → st.1.Nodup →
  (∀ x ∈ (slW R C s i st).1, JX C s x) ∧ (slW R C s i st).1.Nodup ∧ (slW R C s i st).1.length ≤ 72 := by
 have hsz := gI hg
 intro n
 induction n with
 | zero =>
  intro i st hi hv hx hnd
  have : i = s.size := by omega
  subst this
  rw [Eo]
  exact ⟨fun x h => (hx x h).1, hnd, by have := hv.1; omega⟩
 | succ n ih =>
  intro i st hi hv hx hnd
  rw [Cg R C s i (by omega)]
  have ia := Gm hg i (by omega) false
  have id := Gm hg i (by omega) true
  refine ih (i + 1) _ (by omega) (sS R C s i st hv) ?_ ?_
  ·intro x h
   unfold nY ql at h
   simp only [List.mem_append] at h
   rcases h with (h | h) | h
   ·have := hx x h
    exact ⟨this.1, by omega⟩
   ·obtain ⟨rfl, h2⟩ := En h
    refine ⟨⟨by show (0 : Int) ≤ (i : Int); omega, by show (i : Int) < (s.size : Int); omega, h2, ia.2.1, fun j h1 h3 => ?_⟩, by show (i : Int) < ((i + 1 : Nat) : Int); omega⟩
    have := ia.2.2 j h1 h3
    simpa [stepOf] using this
   ·obtain ⟨rfl, h2⟩ := Gn h
    refine ⟨⟨by show (0 : Int) ≤ (i : Int); omega, by show (i : Int) < (s.size : Int); omega, h2, id.2.1, fun j h1 h3 => ?_⟩, by show (i : Int) < ((i + 1 : Nat) : Int); omega⟩
    have := id.2.2 j h1 h3
    simpa [stepOf] using this
  ·unfold nY ql
   dsimp only
   rw [List.nodup_append, List.nodup_append]
   refine ⟨⟨hnd, ?_, ?_⟩, ?_, ?_⟩
   ·unfold slA; split <;> simp
   ·intro x h1 y h2 he
    obtain ⟨rfl, _⟩ := En h2
    have := (hx x h1).2
    rw [he] at this
    simp at this
   ·unfold slD; split <;> simp
   ·intro x h1 y h2 he
    obtain ⟨rfl, _⟩ := Gn h2
    rcases List.mem_append.1 h1 with h1 | h1
    ·have := (hx x h1).2
     rw [he] at this
     simp at this
    ·obtain ⟨rfl, _⟩ := En h1
     simp at he
theorem fA (R C : Int) (s : ByteArray) : (∀ x ∈ aU R C s, JX C s x) ∧ (aU R C s).Nodup ∧ (aU R C s).length ≤ 72 := by
 unfold aU
 split
 ·rename_i hg
  exact FT hg s.size 0 ([], 0) (by omega) ⟨by simp, by simp, by simp⟩ (by simp) (by simp)
 ·simp
theorem Ar {R C : Int} {s : ByteArray} {x : S92} (h : x ∈ aU R C s) : dW R C s = true := by
 unfold aU at h
 split at h
 ·assumption
 ·simp at h
theorem qy {R C : Int} {s : ByteArray} (a d : Int) (i : Nat) (hi : i < 36) (l : List S92) (n : Int) (hl : l.length ≤ 72) (r : List S92)
  (hr : Ev (fun k => aY.l0 k ((l ++ slA n i a) ++ slD n i d) n (s.size : Int) ((i + 1 : Nat) : Int) R C s) r) : Ev (fun k => aY.j2 k l n i a d (s.size : Int) i R C s) r := by
 rw [← au]
 simp only [aY.j2, bG (i := i) (by omega), Option.bind_some, aA]
 by_cases a2 : a ≥ 2 <;> by_cases d2 : d ≥ 2 <;> simp only [slA, slD, a2, d2, if_true, if_false, List.append_nil] at hr ⊢
 ·rw [if_pos (by omega), if_pos (by rw [List.length_append]; simp; omega)]
  exact hr
 ·rw [if_pos (by omega)]
  exact hr
 ·rw [if_pos (by omega)]
  exact hr
 ·exact hr
theorem BH {R C : Int} {s : ByteArray} (hg : dW R C s = true) : Ev (fun k => aY.l0 k [] 0 (s.size : Int) 0 R C s) (slW R C s 0 ([], 0)).1 := by
 have hsz := gI hg
 refine iG (σ := List S92 × Int) (fun k st i => aY.l0 k st.1 st.2 (s.size : Int) i R C s) s.size EW (fun i st => (slW R C s i st).1) (fun st hst => ?_) (fun i st hi hst => .inr ⟨nY R C s st i, sS R C s i st hst, ?_, fun r hr => ?_⟩) 0 ([], 0) (Nat.zero_le _) ⟨by simp, by simp, by simp⟩
 ·rw [Eo, ← au]
  simp only [aY.l0, Int.lt_irrefl, if_false]
  exact aI _
 ·rw [Cg R C s i hi]
 ·obtain ⟨h1, h2, h3⟩ := hst
  have ha := wz hg i hi false
  have hd := wz hg i hi true
  unfold nY ql at hr
  generalize sQ R C s i false = a at ha hr
  generalize sQ R C s i true = d at hd hr
  have hn1 : wrap64 (st.2 + 1) = st.2 + 1 := jC (by omega) (by omega)
  rw [← au]
  simp only [aY.l0, run_eq]
  rw [ep, av ha, av hd, aA]
  have hj2 : ∀ b : Bool, b = decide (a ≥ 2 ∨ d ≥ 2) → Ev (fun k => aY.j1 k st.1 st.2 i a d (s.size : Int) i b R C s) r := by
   intro b hb
   rw [← au]
   simp only [aY.j1, hn1]
   rw [aA]
   by_cases h : a ≥ 2 ∨ d ≥ 2
   ·rw [if_pos (by rw [hb]; simpa using h)]
    simp only [qz, if_pos h] at hr
    exact qy a d i (by omega) st.1 _ (by omega) r hr
   ·rw [if_neg (by rw [hb]; simpa using h)]
    simp only [qz, if_neg h] at hr
    exact qy a d i (by omega) st.1 _ (by omega) r hr
  by_cases a2 : a ≥ 2
  ·rw [if_pos a2]
   exact hj2 _ (by simp [a2])
  ·rw [if_neg a2]
   exact hj2 _ (by simp only [a2, false_or])
theorem nW (R C : Int) (s : ByteArray) : Ev (fun k => aY.f k R C s) (aU R C s) := by
 unfold aU aY.f
 rw [av (jL R C s), aA]
 split
 ·rename_i hg
  exact BH hg
 ·exact aI _
def dK (C : Int) (x : S92) : List Int := (List.range x.f3.toNat).map (fun (j : Nat) => x.f2 + (j : Int) * stepOf C x)
theorem iL (C : Int) (x : S92) : (dK C x).length = x.f3.toNat := by simp [dK]
theorem Bl (C : Int) (x : S92) (j : Nat) (h : j < (dK C x).length) : (dK C x)[j] = x.f2 + (j : Int) * stepOf C x := by simp [dK]
theorem wI {C : Int} {s : ByteArray} {x : S92} (h : JX C s x) : ∀ c ∈ dK C x, 0 ≤ c ∧ c < s.size ∧ bt s c = 46 := by
 intro c hc
 obtain ⟨j, hj, rfl⟩ := List.mem_map.1 hc
 have := List.mem_range.1 hj
 exact h.2.2.2.2 j (by omega) (by omega)
theorem Dr {C : Int} (hC : 2 ≤ C ∧ C ≤ 6) (x : S92) : 1 ≤ stepOf C x ∧ stepOf C x ≤ 6 := by unfold stepOf; split <;> omega
theorem AJ {R C : Int} {s : ByteArray} (hC : 2 ≤ C ∧ C ≤ 6) (x : S92) (hx : 0 ≤ x.f2 ∧ x.f2 ≤ 36 ∧ 0 ≤ x.f3 ∧ x.f3 ≤ 6) (l : List S92) (i : Nat) (hi : i < 4611686018427387903) (acc : List Int) (hacc : acc.length ≤ 100000) (r : List Int)
  (hr : Ev (fun k => bO.l0 k (acc ++ dK C x) l ((i + 1 : Nat) : Int) R C s x.f0 x.f1 x.f2 x.f3) r) : Ev (fun k => bO.l1 k acc l i 0 R C s x.f0 x.f1 x.f2 x.f3) r := by
 have hl := iL C x
 have hst := Dr hC x
 refine iG (σ := List Int) (fun k a j => bO.l1 k a l i j R C s x.f0 x.f1 x.f2 x.f3) (dK C x).length (fun j a => a = acc ++ (dK C x).take j) (fun _ _ => r) (fun a ha => ?_) (fun j a hj ha => .inr ⟨a ++ [(dK C x)[j]], ?_, rfl, fun r' hr' => ?_⟩) 0 acc (Nat.zero_le _) (by simp)
 ·rw [List.take_length] at ha
  subst ha
  rw [← au]
  simp only [bO.l1, bG (i := i) (by omega)]
  rw [en]
  exact hr
 ·rw [ha, List.take_succ_eq_append_getElem hj, List.append_assoc]
 ·have hal : a.length ≤ 200000 := by rw [ha, List.length_append, List.length_take]; omega
  have hm := wS (j := (j : Int)) (st := stepOf C x) (by omega) hst
  rw [Bl] at hr'
  rw [← au]
  simp only [bO.l1, bG (i := j) (by omega)]
  rw [ep, aA]
  unfold stepOf at hm hr'
  by_cases hd : x.f1 = true
  ·simp only [hd, if_true] at hm hr' ⊢
   have e1 : wrap64 ((j : Int) * C) = j * C := jC (by omega) (by omega)
   have e2 : wrap64 (x.f2 + (j : Int) * C) = x.f2 + j * C := jC (by omega) (by omega)
   rw [e1, e2, ep]
   exact hr'
  ·rw [Bool.not_eq_true] at hd
   simp only [hd, Bool.false_eq_true, if_false, Int.mul_one] at hm hr' ⊢
   have e2 : wrap64 (x.f2 + (j : Int)) = x.f2 + j := jC (by omega) (by omega)
   rw [e2, ep]
   exact hr'
theorem Gz {α β : Type} [DecidableEq α] (l : List α) (x : α) (c : List β) (h : x ∉ l) : l.flatMap (fun y => if y = x then c else []) = [] := by
 rw [List.flatMap_eq_nil_iff]
 intro y hy
 rw [if_neg]
 rintro rfl
 exact h hy
theorem Di {α β : Type} [DecidableEq α] (x : α) (c : List β) : ∀ l : List α, l.Nodup → x ∈ l → l.flatMap (fun y => if y = x then c else []) = c
 | [], _, h => by cases h
 | y :: l, hn, h => by
  rw [List.nodup_cons] at hn
  rw [List.flatMap_cons]
  by_cases he : y = x
  ·subst he
   rw [if_pos rfl, Gz l y c hn.1, List.append_nil]
  ·rw [if_neg he, List.nil_append]
   refine Di x c l hn.2 ?_
   rcases List.mem_cons.1 h with h | h
   ·exact absurd h.symm he
   ·exact h
theorem Bq {α β : Type} (f : α → List β) (n : Nat) : ∀ l : List α, (∀ x ∈ l, (f x).length ≤ n) → (l.flatMap f).length ≤ n * l.length
 | [], _ => by simp
 | x :: l, h => by
  have h1 := Bq f n l (fun y hy => h y (List.mem_cons_of_mem _ hy))
  have h2 := h x List.mem_cons_self
  rw [List.flatMap_cons, List.length_append, List.length_cons, Nat.mul_succ]
  omega
theorem nN {α β : Type} (f : α → List β) (n i : Nat) (l : List α) (h : ∀ x ∈ l, (f x).length ≤ n) : ((l.take i).flatMap f).length ≤ n * l.length := by
 have h1 := Bq f n (l.take i) (fun x hx => h x (List.mem_of_mem_take hx))
 have h2 : (l.take i).length ≤ l.length := by rw [List.length_take]; omega
 exact Nat.le_trans h1 (Nat.mul_le_mul_left n h2)
theorem nZ {R C : Int} {s : ByteArray} (x : S92) (hx : x ∈ aU R C s) : Ev (fun k => bO.f k R C s x.f0 x.f1 x.f2 x.f3) (dK C x) := by
 obtain ⟨good, hnd, hlen⟩ := fA R C s
 have hg := Ar hx
 have hC := (jl hg).2.1
 have hsz := gI hg
 have ok := good x hx
 unfold bO.f
 rw [av (jw R C s)]
 generalize aU R C s = l at hx hnd hlen
 letI : DecidableEq S92 := fun _ _ => Classical.propDecidable _
 have hfl : ∀ y ∈ l, (if y = x then dK C x else []).length ≤ 6 := by
  intro y _
  split
  ·rw [iL]; have := ok.2.2.2.1; omega
  ·simp
 refine gP (lX (fun k a i => bO.l0 k a l i R C s x.f0 x.f1 x.f2 x.f3) l (fun y => if y = x then dK C x else []) 0 (fun a => ?_) (fun i hi a ha r hr => ?_)) (Di x _ l hnd hx)
 ·rw [← au]; simp only [bO.l0, Int.lt_irrefl, if_false]; exact aI _
 ·have hb := nN _ 6 i l hfl
  rw [← au]
  simp only [bO.l0, nK l i hi, bG (i := i) (by omega)]
  rw [ep, ep, aA]
  by_cases he : l[i] = x
  ·simp only [he, if_true] at hr ⊢
   rw [if_neg (by simp)]
   exact AJ hC x ⟨ok.1, by have := ok.2.1; omega, by have := ok.2.2.1; omega, ok.2.2.2.1⟩ l i (by omega) a (by omega) r hr
  ·simp only [he, if_false, List.append_nil] at hr
   rw [if_pos]
   ·exact hr
   ·generalize l[i] = y at he
    obtain ⟨y0, y1, y2, y3⟩ := y
    obtain ⟨x0, x1, x2, x3⟩ := x
    simp only [S92.mk.injEq, not_and] at he
    simp only [Bool.or_eq_true, Bool.not_eq_true', beq_eq_false_iff_ne, ne_eq]
    by_cases h0 : y0 = x0
    ·by_cases h1 : y1 = x1
     ·by_cases h2 : y2 = x2
      ·exact .inr (.inr (.inr (he h0 h1 h2)))
      ·exact .inr (.inr (.inl h2))
     ·exact .inr (.inl h1)
    ·exact .inl h0
theorem CF {R C : Int} {s : ByteArray} (x : S92) (hx : x ∈ aU R C s) : Ev (fun k => fD.f k R C s x.f0 x.f1 x.f2 x.f3) (dK C x) := by
 obtain ⟨good, hnd, hlen⟩ := fA R C s
 have hg := Ar hx
 have hC := (jl hg).2.1
 have hsz := gI hg
 have ok := good x hx
 have hl := iL C x
 have hst := Dr hC x
 have q1 := ok.1
 have q2 := ok.2.1
 have q3 := ok.2.2.1
 have q4 := ok.2.2.2.1
 have key : Ev (fun k => fD.j0 k (stepOf C x) x.f0 x.f1 x.f2 x.f3) (dK C x) := by
  rw [← au]
  simp only [fD.j0]
  refine iG (σ := List Int) (fun k a j => fD.l0 k (stepOf C x) a x.f3 j x.f0 x.f1 x.f2 x.f3) (dK C x).length (fun j a => a = (dK C x).take j) (fun _ _ => dK C x) (fun a ha => ?_) (fun j a hj ha => .inr ⟨a ++ [(dK C x)[j]], ?_, rfl, fun r' hr' => ?_⟩) 0 [] (Nat.zero_le _) (by simp)
  ·rw [List.take_length] at ha
   subst ha
   rw [← au]
   simp only [fD.l0]
   rw [en]
   exact aI _
  ·rw [ha, List.take_succ_eq_append_getElem hj]
  ·have hal : a.length ≤ 6 := by rw [ha, List.length_take]; omega
   have hm := wS (j := (j : Int)) (st := stepOf C x) (by omega) hst
   rw [Bl] at hr'
   have e1 : wrap64 ((j : Int) * stepOf C x) = j * stepOf C x := jC (by omega) (by omega)
   have e2 : wrap64 (x.f2 + (j : Int) * stepOf C x) = x.f2 + j * stepOf C x := jC (by omega) (by omega)
   rw [← au]
   simp only [fD.l0, bG (i := j) (by omega), e1, e2]
   rw [ep, ep]
   exact hr'
 unfold fD.f
 unfold stepOf at key
 rw [aA]
 by_cases hd : x.f1 = true
 ·rw [if_pos hd] at key ⊢
  exact key
 ·rw [if_neg hd] at key ⊢
  exact key
theorem ny (R C : Int) (s : ByteArray) : Ev (fun k => eY.f k R C s) ((aU R C s).map (dK C)) := by
 obtain ⟨good, hnd, hlen⟩ := fA R C s
 unfold eY.f
 rw [av (nW R C s)]
 refine gP (lX (fun k a i => eY.l0 k a (aU R C s) ((aU R C s).length : Int) i R C s) (aU R C s) (fun x => [dK C x]) 0 (fun a => ?_) (fun i hi a ha r hr => ?_)) List.map_eq_flatMap.symm
 ·rw [← au]; simp only [eY.l0, Int.lt_irrefl, if_false]; exact aI _
 ·have hb := nN (fun x : S92 => [dK C x]) 1 i (aU R C s) (fun _ _ => by simp)
  rw [← au]
  simp only [eY.l0, nK _ i hi, bG (i := i) (by omega)]
  rw [ep, ep, ep, av (CF _ (List.getElem_mem hi)), ep]
  exact hr
def nV (c f : Int) : Bool := decide ((c = 35 ↔ f = 35) ∧ (f = 35 ∨ f = 63 ∨ (97 ≤ f ∧ f ≤ 122)))
def lg (R C : Int) (s f : ByteArray) : Bool := dW R C s && (decide (f.size = s.size) && (List.range f.size).all (fun i => nV (bt s i) (bt f i)))
theorem su {R C : Int} {s f : ByteArray} (h : lg R C s f = true) : dW R C s = true ∧ f.size = s.size ∧ ∀ i : Nat, i < f.size → nV (bt s i) (bt f i) = true := by
 simpa [lg] using h
theorem DV {R C : Int} {s : ByteArray} (hg : dW R C s = true) (i : Nat) (hi : i < s.size) : bt s (i : Int) = 35 ∨ bt s (i : Int) = 46 := by
 rw [mK s i hi]
 exact (jl hg).2.2.2 _ (List.getElem_mem _)
theorem pW {R C : Int} {s f : ByteArray} (k i : Nat) (hi : i < f.size) (hs : i < s.size) (h36 : i < 1000) (hc : bt s (i : Int) = 35 ∨ bt s (i : Int) = 46) :
  bS.l0 (k + 1) f i R C s = if nV (bt s i) (bt f i) = true then bS.l0 k f ((i + 1 : Nat) : Int) R C s else some false := by
 have h1 : (i : Int) < (f.size : Int) := by omega
 have h2 : (0 : Int) ≤ (i : Int) := by omega
 have h3 : (i : Int) < (s.size : Int) := by omega
 simp only [bS.l0, bG (i := i) (by omega), h1, h2, h3, if_true]
 generalize bS.l0 k f ((i + 1 : Nat) : Int) R C s = Y
 generalize bt s (i : Int) = c at hc ⊢
 generalize bt f (i : Int) = x
 simp only [nV, decide_eq_true_eq]
 repeat' split
 all_goals first | rfl | (exfalso; omega)
theorem CU {R C : Int} {s f : ByteArray} (hg : dW R C s = true) (hf : f.size = s.size) : Ev (fun k => bS.l0 k f 0 R C s) ((List.range f.size).all (fun i => nV (bt s i) (bt f i))) := by
 have hsz := gI hg
 refine jO (fun k i => bS.l0 k f i R C s) (List.range f.size) (fun i => nV (bt s i) (bt f i)) ?_ (fun i hi hp r hr => ?_) (fun i hi hp => ?_)
 ·rw [← au]; simp [bS.l0, aI]
 ·rw [List.length_range] at hi
  rw [List.getElem_range] at hp
  rw [← au]
  simp only [pW _ i hi (by omega) (by omega) (DV hg i (by omega)), hp, if_true]
  exact hr
 ·rw [List.length_range] at hi
  rw [List.getElem_range] at hp
  rw [← au]
  simp only [pW _ i hi (by omega) (by omega) (DV hg i (by omega)), hp, Bool.false_eq_true, if_false]
  exact aI _
theorem Cm (R C : Int) (s f : ByteArray) : Ev (fun k => bS.f k R C s f) (lg R C s f) := by
 unfold bS.f
 rw [av (iM R C s), aA]
 by_cases hg : dW R C s = true
 ·rw [if_pos hg, ← au]
  simp only [bS.j0, aA, bne_iff_ne, ne_eq]
  by_cases hf : f.size = s.size
  ·rw [if_neg (by omega)]
   exact gP (CU hg hf) (by simp [lg, hg, hf])
  ·rw [if_pos (by omega)]
   exact gP (aI _) (by simp [lg, hf])
 ·rw [if_neg hg, ← au]
  simp only [bS.j0, if_true]
  exact gP (aI _) (by simp [lg, hg])
theorem pK {R C : Int} {s f : ByteArray} (k i : Nat) (hi : i < f.size) (hs : i < s.size) (h36 : i < 1000) :
  dG.l0 (k + 1) f (f.size : Int) i R C s = if nV (bt s i) (bt f i) = true then dG.l0 k f (f.size : Int) ((i + 1 : Nat) : Int) R C s else some false := by
 have h1 : (i : Int) < (f.size : Int) := by omega
 have h2 : (0 : Int) ≤ (i : Int) := by omega
 have h3 : (i : Int) < (s.size : Int) := by omega
 simp only [dG.l0, bG (i := i) (by omega), h1, h2, h3, if_true, mU, Option.bind_some, decide_eq_true_eq]
 generalize dG.l0 k f (f.size : Int) ((i + 1 : Nat) : Int) R C s = Y
 generalize bt s (i : Int) = c
 generalize bt f (i : Int) = x
 by_cases he : (c = 35 ↔ x = 35)
 ·have e : ((c == 35) != (x == 35)) = false := by rw [bne_eq_false_iff_eq, Bool.eq_iff_iff, beq_iff_eq, beq_iff_eq]; exact he
  rw [e]
  simp only [nV, decide_eq_true_eq, Bool.false_eq_true, if_false]
  repeat' split
  all_goals first | rfl | (exfalso; omega)
 ·have e : ((c == 35) != (x == 35)) = true := by
   rw [bne_iff_ne]
   intro q
   rw [Bool.eq_iff_iff, beq_iff_eq, beq_iff_eq] at q
   exact he q
  rw [e, if_pos rfl, if_neg]
  simp only [nV, decide_eq_true_eq]
  exact fun q => he q.1
theorem Cw {R C : Int} {s f : ByteArray} (hg : dW R C s = true) (hf : f.size = s.size) : Ev (fun k => dG.l0 k f (f.size : Int) 0 R C s) ((List.range f.size).all (fun i => nV (bt s i) (bt f i))) := by
 have hsz := gI hg
 refine jO (fun k i => dG.l0 k f (f.size : Int) i R C s) (List.range f.size) (fun i => nV (bt s i) (bt f i)) ?_ (fun i hi hp r hr => ?_) (fun i hi hp => ?_)
 ·rw [← au]; simp [dG.l0, aI]
 ·rw [List.length_range] at hi
  rw [List.getElem_range] at hp
  rw [← au]
  simp only [pK (R := R) (C := C) (s := s) (f := f) _ i hi (by omega) (by omega), hp, if_true]
  exact hr
 ·rw [List.length_range] at hi
  rw [List.getElem_range] at hp
  rw [← au]
  simp only [pK (R := R) (C := C) (s := s) (f := f) _ i hi (by omega) (by omega), hp, Bool.false_eq_true, if_false]
  exact aI _
theorem BF (R C : Int) (s f : ByteArray) : Ev (fun k => dG.f k R C s f) (lg R C s f) := by
 unfold dG.f
 rw [av (jL R C s), aA]
 by_cases hg : dW R C s = true
 ·rw [if_pos hg, ← au]
  simp only [dG.j0, aA, bne_iff_ne, ne_eq]
  by_cases hf : f.size = s.size
  ·rw [if_neg (by omega)]
   exact gP (Cw hg hf) (by simp [lg, hg, hf])
  ·rw [if_pos (by omega)]
   exact gP (aI _) (by simp [lg, hf])
 ·rw [if_neg hg, ← au]
  simp only [dG.j0, if_true]
  exact gP (aI _) (by simp [lg, hg])
def oL (f : ByteArray) (l : List Int) : ByteArray := strOfNums (l.map (bt f))
theorem Ac (a b : List Int) : strOfNums (a ++ b) = strOfNums a ++ strOfNums b := by
 refine ByteArray.ext (Array.toList_inj.1 ?_)
 rw [ByteArray.data_append, Array.toList_append, strOfNums_data, strOfNums_data, strOfNums_data, List.map_append]
theorem EA (f : ByteArray) (hf : f.size ≤ 1000000) (c : Int) (h0 : 0 ≤ c) (h1 : c < f.size) : f.extract c.toNat (wrap64 (c + 1)).toNat = strOfNums [bt f c] := by
 have e : wrap64 (c + 1) = c + 1 := by unfold wrap64; omega
 have hc : c.toNat < f.size := by omega
 have hd : c.toNat < f.data.toList.length := by rw [Array.length_toList]; exact hc
 refine ByteArray.ext (Array.toList_inj.1 ?_)
 rw [e, show (c + 1).toNat = c.toNat + 1 by omega, strOfNums_data, ByteArray.data_extract, Array.toList_extract]
 have hb : bt f c = ((f.data.toList[c.toNat]).toNat : Int) := by
  unfold bt
  rw [dif_pos hc]
  rfl
 rw [List.extract_eq_drop_take', List.drop_take, List.drop_eq_getElem_cons hd]
 simp [hb]
theorem GY (f : ByteArray) (l : List Int) : (oL f l).size = l.length := by rw [oL, strOfNums_size, List.length_map]
theorem GZ (f : ByteArray) (l : List Int) (c : Int) : oL f (l ++ [c]) = oL f l ++ strOfNums [bt f c] := by
 rw [oL, List.map_append, Ac]; rfl
theorem sV (f : ByteArray) (l : List Int) (hl : l.length ≤ 100000) (hf : f.size ≤ 1000000) (hc : ∀ c ∈ l, 0 ≤ c ∧ c < f.size) : Ev (fun k => bC.l0 k f (⟨#[]⟩ : ByteArray) l 0) (oL f l) := by
 refine iG (σ := ByteArray) (fun k a i => bC.l0 k f a l i) l.length (fun i a => a = oL f (l.take i)) (fun _ _ => oL f l) (fun a ha => ?_) (fun i a hi ha => .inr ⟨a ++ strOfNums [bt f l[i]], ?_, rfl, fun r hr => ?_⟩) 0 _ (Nat.zero_le _) rfl
 ·rw [List.take_length] at ha
  rw [← au]
  simp only [bC.l0, Int.lt_irrefl, if_false, ha]
  exact aI _
 ·rw [ha, List.take_succ_eq_append_getElem hi, GZ]
 ·have hcc := hc _ (List.getElem_mem hi)
  have hx := EA f hf l[i] hcc.1 hcc.2
  have ew : wrap64 (l[i] + 1) = l[i] + 1 := by unfold wrap64; omega
  have hz : (strOfNums [bt f l[i]]).size = 1 := by rw [strOfNums_size]; rfl
  have has : a.size ≤ 100000 := by rw [ha, GY, List.length_take]; omega
  rw [← au]
  simp only [bC.l0, nJ l i hi, bG (i := i) (by omega), hx]
  rw [ep, ep, ep hcc.1, ep, ep, ep]
  exact hr
theorem rX {R C : Int} {s f : ByteArray} (hf : lg R C s f = true) (i : Nat) (hi : i < (aU R C s).length) : Ev (fun k => bC.f k R C s f i) (oL f (dK C (aU R C s)[i])) := by
 obtain ⟨good, hnd, hlen⟩ := fA R C s
 obtain ⟨hg, hfs, _⟩ := su hf
 have hsz := gI hg
 have hm := List.getElem_mem hi
 have ok := good _ hm
 have e : wrap64 (((aU R C s).length : Int) - 1) = (aU R C s).length - 1 := jC (by omega) (by omega)
 unfold bC.f
 rw [av (jw R C s), av (Cm R C s f), ep hf]
 simp only [lV, Option.bind_some, e]
 rw [← au]
 simp only [bC.j0, nK _ i hi]
 rw [en (by simp; omega), ep, ep, av (nZ _ hm)]
 exact sV f _ (by rw [iL]; have := ok.2.2.2.1; omega) (by omega) (fun c hc => by have := wI ok c hc; omega)
theorem tT (f : ByteArray) (l : List Int) (hl : l.length ≤ 100000) (hc : ∀ c ∈ l, 0 ≤ c ∧ c < f.size) : Ev (fun k => eZ.f k f l) (oL f l) := by
 unfold eZ.f
 refine iG (σ := List Int) (fun k a i => eZ.l0 k f a l (l.length : Int) i) l.length (fun i a => a = (l.take i).map (bt f)) (fun _ _ => oL f l) (fun a ha => ?_) (fun i a hi ha => .inr ⟨a ++ [bt f l[i]], ?_, rfl, fun r hr => ?_⟩) 0 _ (Nat.zero_le _) rfl
 ·rw [List.take_length] at ha
  rw [← au]
  simp only [eZ.l0, Int.lt_irrefl, if_false, ha]
  exact aI _
 ·rw [ha, List.take_succ_eq_append_getElem hi, List.map_append]; rfl
 ·have hcc := hc _ (List.getElem_mem hi)
  have has : a.length ≤ 100000 := by rw [ha, List.length_map, List.length_take]; omega
  rw [← au]
  simp only [eZ.l0, nJ l i hi, bG (i := i) (by omega)]
  rw [ep, ep, ep, ep hcc.1, ep hcc.2, ep]
  exact hr
noncomputable def Ap (R C : Int) (s f : ByteArray) : List ByteArray := if lg R C s f = true then (aU R C s).map (fun x => oL f (dK C x)) else []
theorem wN (R C : Int) (s f : ByteArray) : Ev (fun k => fK.f k R C s f) (Ap R C s f) := by
 unfold fK.f Ap
 rw [av (BF R C s f), aA]
 split
 ·rename_i hf
  obtain ⟨good, hnd, hlen⟩ := fA R C s
  obtain ⟨hg, hfs, _⟩ := su hf
  rw [av (ny R C s)]
  have hll : ((aU R C s).map (dK C)).length = (aU R C s).length := List.length_map _
  refine gP (lX (fun k a i => fK.l0 k f a ((aU R C s).map (dK C)) (((aU R C s).map (dK C)).length : Int) i) ((aU R C s).map (dK C)) (fun l => [oL f l]) 0 (fun a => ?_) (fun i hi a ha r hr => ?_)) (by rw [← List.map_eq_flatMap, List.map_map]; rfl)
  ·rw [← au]; simp only [fK.l0, Int.lt_irrefl, if_false]; exact aI _
  ·have hb := nN (fun l : List Int => [oL f l]) 1 i ((aU R C s).map (dK C)) (fun _ _ => by simp)
   have hi' : i < (aU R C s).length := by omega
   have ok := good _ (List.getElem_mem hi')
   have hL : ((aU R C s).map (dK C))[i] = dK C (aU R C s)[i] := List.getElem_map _
   have hr1 := tT f ((aU R C s).map (dK C))[i] (by rw [hL, iL]; have := ok.2.2.2.1; omega) (fun c hc => by rw [hL] at hc; have := wI ok c hc; omega)
   rw [← au]
   simp only [fK.l0, FI _ i hi, bG (i := i) (by omega)]
   rw [ep, ep, ep, av hr1, ep]
   exact hr
 ·exact aI _
theorem EC {α : Type} (q : α → Bool) (l : List α) : l.flatMap (fun s => if q s = true then [s] else []) = l.filter q := by
 induction l with
 | nil => rfl
 | cons x l ih => rw [List.flatMap_cons, ih, List.filter_cons]; split <;> simp
theorem Gy {α β : Type} (f : α → List β) (h : ∀ x, (f x).length ≤ 1) (l : List α) : (l.flatMap f).length ≤ l.length := by
 induction l with
 | nil => simp
 | cons x l ih => have := h x; simp only [List.flatMap_cons, List.length_append, List.length_cons]; omega
theorem CK (l : List ByteArray) (p : Nat → ByteArray → Option Bool) (q : ByteArray → Bool) (hl : l.length ≤ 8796093022208) (hp : ∀ s ∈ l, Ev (fun k => p k s) (q s)) : Ev (fun k => fJ.f k l p) (l.filter q) := by
 rw [← EC]
 refine lX (fun k x i => fJ.l0 k p x l (l.length : Int) i) l (fun s => if q s = true then [s] else []) 0 (fun x => ?_) (fun i hi x hx r hr => ?_)
 ·rw [← au]; simp [fJ.l0, aI]
 ·have hx' := Gy (fun s => if q s = true then [s] else []) (fun x => by split <;> simp) (l.take i)
  rw [List.length_take] at hx'
  rw [← au]
  simp only [fJ.l0, lM ByteArray.empty l i hi, bG (i := i) (by omega)]
  rw [ep, ep, ep, av (hp _ (List.getElem_mem hi)), aA]
  split
  ·rename_i hq
   rw [if_pos hq] at hr
   rw [ep]
   exact hr
  ·rename_i hq
   rw [if_neg hq, List.append_nil] at hr
   exact hr
theorem Hl (R C : Int) (s : ByteArray) (a : Int) (hs : s.size ≤ 140737488351232) (h0 : 0 ≤ a) (h1 : a ≤ 1048576) : ∃ r, lG.f R C s a = some r ∧ r ≤ 1048576 := by
 unfold lG.f
 rw [jC (by omega) (by omega)]
 split
 ·exact ⟨_, rfl, by omega⟩
 ·exact ⟨_, rfl, by omega⟩
def jV (x : S81) : S72 := ⟨x.f0, x.f1.map toStep⟩
theorem FX (l : List S81) (hl : l.length ≤ 8796093022208) (hs : ∀ x ∈ l, x.f1.length ≤ 3518437208883) : Ev (fun k => fV.f k l) (l.map jV) := by
 unfold fV.f
 rw [ep, ep]
 refine pR (fun k s i => fV.l0 k l s i) l jV z72 (fun s hs => ?_) (fun i hi s hs' r hr => ?_)
 ·rw [← au]
  simp [fV.l0, aI]
 ·rw [← au]
  simp only [fV.l0, FL l i hi, bG (i := i) (by omega)]
  rw [ep, ep, av (Ho _ _ (hs _ (List.getElem_mem hi))), ep]
  exact hr
theorem FB (l : List S72) (hl : l.length < 4611686018427387904) (hs : ∀ x ∈ l, x.f1.length < 4611686018427387904) : Ev (fun k => dP.f k l l) true := by
 unfold dP.f
 rw [ep rfl]
 refine gP (jO (fun k i => dP.l0 k l l i) l (fun _ => true) ?_ (fun i hi hp r hr => ?_) (fun i hi hp => by cases hp)) (by simp)
 ·rw [← au]; simp [dP.l0, aI]
 ·rw [← au]
  simp only [dP.l0, qh l i hi, bG (i := i) (by omega)]
  rw [ep, ep, ep, av (Gv _ _ (hs _ (List.getElem_mem hi))), ep rfl]
  exact hr
theorem Fe (R C : Int) (s : ByteArray) (l : List S81) (q : List Int) (e : Int) (hl : l.length ≤ 8796093022208) (hs : ∀ x ∈ l, x.f1.length ≤ 3518437208883) (hq : q.length ≤ 17592186044416) : Ev (fun k => iq.f k R C s l q e) (R, C, s, l.map jV, q, e) := by
 unfold iq.f
 simp only [mX.f, Option.bind_some]
 rw [av (FX l hl hs), av (Hq q hq)]
 exact aI _
theorem Ey (R C : Int) (s : ByteArray) (l : List S72) (q : List Int) (e : Int) (hl : l.length < 4611686018427387904) (hs : ∀ x ∈ l, x.f1.length < 4611686018427387904) (hq : q.length < 4611686018427387904) : Ev (fun k => kg.f k R C s l q e R C s l q e) true := by
 unfold kg.f
 simp only [mV.f, if_true, Option.bind_some]
 rw [av (FB l hl hs), ep rfl, av (Dg q hq), ep rfl]
 exact aI _
def EH (s : ByteArray) : ByteArray := if iF s = true then s.extract 0 1 else (⟨#[]⟩ : ByteArray)
theorem Cj (s : ByteArray) : Ev (fun k => kM.f k s) (EH s) := by
 unfold kM.f EH
 rw [av (iE s), aA]
 split
 ·rename_i h
  have := gQ h
  rw [ep, ep]
  exact aI _
 ·exact aI _
theorem BA (s : ByteArray) : Ev (fun k => kL.f k s) (EH s) := by
 unfold kL.f EH
 rw [av (iD s), aA]
 split
 ·rename_i h
  have := gQ h
  rw [ep, ep]
  exact aI _
 ·exact aI _
theorem FU (a b : List Int) : strOfNums (a ++ b) = strOfNums a ++ strOfNums b := by
 refine ByteArray.ext (Array.toList_inj.1 ?_)
 rw [ByteArray.data_append, Array.toList_append, strOfNums_data, strOfNums_data, strOfNums_data, List.map_append]
theorem Ez (s : ByteArray) (i : Nat) (h : i < s.size) : s.extract i (i + 1) = strOfNums [(bytesOf s)[i]'(by rw [bytesOf_length]; exact h)] := by
 have hd : i < s.data.toList.length := by rw [Array.length_toList]; exact h
 refine ByteArray.ext (Array.toList_inj.1 ?_)
 rw [strOfNums_data, ByteArray.data_extract, Array.toList_extract, List.extract_eq_drop_take', List.drop_take, List.drop_eq_getElem_cons hd]
 simp [bytesOf]
def AA (s : ByteArray) : ByteArray := strOfNums (bytesOf s).reverse
theorem rM (s : ByteArray) : (AA s).size = s.size := by rw [AA, strOfNums_size, List.length_reverse, bytesOf_length]
theorem oW (s : ByteArray) (hs : s.size ≤ 100) : Ev (fun k => dZ.f k s) (AA s) := by
 unfold dZ.f
 refine iG (σ := ByteArray) (fun k a i => dZ.l0 k s a i) s.size (fun i a => a = strOfNums ((bytesOf s).take i).reverse) (fun _ _ => AA s) (fun a ha => ?_) (fun i a hi ha => ?_) 0 _ (Nat.zero_le _) rfl
 ·rw [List.take_of_length_le (by rw [bytesOf_length]; exact Nat.le_refl _)] at ha
  rw [← au]
  simp only [dZ.l0, Int.lt_irrefl, if_false, ha]
  exact aI _
 ·have hb : i < (bytesOf s).length := by rw [bytesOf_length]; exact hi
  refine .inr ⟨strOfNums [(bytesOf s)[i]] ++ a, ?_, rfl, fun r hr => ?_⟩
  ·rw [List.take_succ_eq_append_getElem hb, List.reverse_append, FU, ha]
   rfl
  ·have h1 : (strOfNums [(bytesOf s)[i]]).size = 1 := by rw [strOfNums_size]; rfl
   have h2 : a.size ≤ 100 := by rw [ha, strOfNums_size, List.length_reverse, List.length_take]; omega
   rw [← au]
   simp only [dZ.l0, bG (i := i) (by omega), Int.toNat_natCast, Ez s i hi]
   rw [ep, ep, ep, ep, ep, ep]
   exact hr
theorem oO (s : ByteArray) (hs : s.size ≤ 100) : iC.f s = some (AA s) := by
 unfold iC.f AA
 rw [if_pos hs]
def Dq (s : ByteArray) : ByteArray := strOfNums ((bytesOf s).mergeSort (fun x y => decide (x ≤ y)))
def bucket (xs : List Int) (c : Nat) : List Int := xs.filter (fun b => decide (b = 97 + (c : Int)))
theorem tH (xs : List Int) (a : Int) : ∀ n : Nat, List.count a ((List.range n).flatMap (bucket xs)) = if 97 ≤ a ∧ a < 97 + (n : Int) then List.count a xs else 0
 | 0 => by rw [if_neg (by omega)]; rfl
 | n + 1 => by
  rw [List.range_succ, List.flatMap_append, List.count_append, tH xs a n]
  have hb : List.count a (([n] : List Nat).flatMap (bucket xs)) = if a = 97 + (n : Int) then List.count a xs else 0 := by
   simp only [List.flatMap_cons, List.flatMap_nil, List.append_nil, bucket]
   split
   ·rename_i h
    exact List.count_filter (by simpa using h)
   ·rename_i h
    refine List.count_eq_zero.2 (fun hm => h ?_)
    have := (List.mem_filter.1 hm).2
    simpa using this
  rw [hb]
  by_cases h1 : a = 97 + (n : Int)
  ·rw [if_pos h1, if_neg (by omega), if_pos (by omega)]
   omega
  ·rw [if_neg h1]
   by_cases h2 : 97 ≤ a ∧ a < 97 + (n : Int)
   ·rw [if_pos h2, if_pos (by omega)]
    omega
   ·rw [if_neg h2, if_neg (by omega)]
theorem Cu (xs : List Int) (h : ∀ x ∈ xs, 97 ≤ x ∧ x ≤ 122) : (List.range 26).flatMap (bucket xs) = xs.mergeSort (fun x y => decide (x ≤ y)) := by
 have hperm : ((List.range 26).flatMap (bucket xs)).Perm xs := by
  rw [List.perm_iff_count]
  intro a
  rw [tH]
  split
  ·rfl
  ·rename_i hn
   refine (List.count_eq_zero.2 (fun hm => hn ?_)).symm
   have := h a hm
   omega
 refine List.Perm.eq_of_pairwise (le := fun x y => decide (x ≤ y) = true) ?_ ?_ ?_ (hperm.trans (List.mergeSort_perm _ _).symm)
 ·intro a b _ _ h1 h2
  have h1 := of_decide_eq_true h1
  have h2 := of_decide_eq_true h2
  omega
 ·rw [List.pairwise_flatMap]
  refine ⟨fun c _ => ?_, ?_⟩
  ·rw [List.pairwise_iff_getElem]
   intro i j hi hj _
   have e1 := (List.mem_filter.1 (List.getElem_mem hi)).2
   have e2 := (List.mem_filter.1 (List.getElem_mem hj)).2
   have e1 := of_decide_eq_true e1
   have e2 := of_decide_eq_true e2
   exact decide_eq_true (by omega)
  ·refine List.Pairwise.imp ?_ (List.pairwise_lt_range (n := 26))
   intro a b hab x hx y hy
   have e1 := of_decide_eq_true (List.mem_filter.1 hx).2
   have e2 := of_decide_eq_true (List.mem_filter.1 hy).2
   exact decide_eq_true (by omega)
 ·refine List.pairwise_mergeSort ?_ ?_ _
  ·intro a b c h1 h2
   have h1 := of_decide_eq_true h1
   have h2 := of_decide_eq_true h2
   exact decide_eq_true (by omega)
  ·intro a b
   by_cases h : a ≤ b
   ·simp [h]
   ·have : b ≤ a := by omega
    simp [this]
theorem oq (s : ByteArray) (hw : iF s = true) : Ev (fun k => aZ.f k s) (Dq s) := by
 have hsz := gQ hw
 have hlet := BI hw
 have hlen : (bytesOf s).length = s.size := bytesOf_length s
 unfold aZ.f Dq
 rw [← Cu (bytesOf s) hlet]
 have hinner : ∀ (c : Nat) (a : ByteArray) (r : ByteArray), c < 26 → a.size ≤ 1000 → Ev (fun k => aZ.l0 k s (a ++ strOfNums (bucket (bytesOf s) c)) (97 + ((c + 1 : Nat) : Int))) r → Ev (fun k => aZ.l1 k s a (97 + (c : Int)) 0) r := by
  intro c a r hc ha hr
  refine iG (σ := ByteArray) (fun k b j => aZ.l1 k s b (97 + (c : Int)) j) s.size (fun j b => b = a ++ strOfNums (bucket ((bytesOf s).take j) c)) (fun _ _ => r) (fun b hb => ?_) (fun j b hj hb => ?_) 0 _ (Nat.zero_le _) (by simp [bucket, strOfNums]; exact (ByteArray.append_empty (b := a)).symm)
  ·rw [List.take_of_length_le (by omega)] at hb
   have e : wrap32 (97 + (c : Int) + 1) = 97 + ((c + 1 : Nat) : Int) := by unfold wrap32; omega
   rw [← au]
   simp only [aZ.l1, e, Int.lt_irrefl, if_false, hb]
   exact hr
  ·have hj' : j < (bytesOf s).length := by omega
   have hx := hlet _ (List.getElem_mem hj')
   have hsb : b.size ≤ 1000 + j := by
    rw [hb, ByteArray.size_append, strOfNums_size, bucket]
    have := List.length_filter_le (fun b => decide (b = 97 + (c : Int))) ((bytesOf s).take j)
    rw [List.length_take] at this
    omega
   have e : wrap32 (bt s (j : Int)) = (bytesOf s)[j] := by rw [mK s j hj]; unfold wrap32; omega
   have htk : bucket ((bytesOf s).take (j + 1)) c = bucket ((bytesOf s).take j) c ++ (if (bytesOf s)[j] = 97 + (c : Int) then [(bytesOf s)[j]] else []) := by
    rw [List.take_succ_eq_append_getElem hj', bucket, bucket, List.filter_append, List.filter_cons, List.filter_nil]
    simp only [decide_eq_true_eq]
   refine .inr ⟨a ++ strOfNums (bucket ((bytesOf s).take (j + 1)) c), rfl, rfl, fun q hq => ?_⟩
   rw [← au]
   simp only [aZ.l1, e, bG (i := j) (by omega), Int.toNat_natCast, Ez s j hj]
   rw [ep, ep, aA]
   rw [htk, FU, ← ByteArray.append_assoc, ← hb] at hq
   split
   ·rename_i h1
    rw [if_pos h1] at hq
    rw [ep, ep, ep (by rw [strOfNums_size]; simp; omega)]
    exact hq
   ·rename_i h1
    rw [if_neg h1, show strOfNums ([] : List Int) = ByteArray.empty from rfl, ByteArray.append_empty] at hq
    exact hq
 refine iG (σ := ByteArray) (fun k a i => aZ.l0 k s a (97 + i)) 26 (fun i a => a = strOfNums ((List.range i).flatMap (bucket (bytesOf s))) ∧ a.size ≤ 8 * i) (fun _ _ => strOfNums ((List.range 26).flatMap (bucket (bytesOf s)))) (fun a ha => ?_) (fun i a hi ha => ?_) 0 _ (Nat.zero_le _) ⟨rfl, Nat.le_refl _⟩
 ·rw [← au]
  simp only [aZ.l0]
  rw [en, ← au]
  simp only [aZ.j1, Bool.false_eq_true, if_false, ha.1]
  exact aI _
 ·have hbl : (bucket (bytesOf s) i).length ≤ 8 := by
   rw [bucket]
   have := List.length_filter_le (fun b => decide (b = 97 + (i : Int))) (bytesOf s)
   omega
  refine .inr ⟨a ++ strOfNums (bucket (bytesOf s) i), ⟨?_, ?_⟩, rfl, fun r hr => ?_⟩
  ·rw [List.range_succ, List.flatMap_append, FU, ← ha.1]
   simp only [List.flatMap_cons, List.flatMap_nil, List.append_nil]
  ·have := ha.2
   rw [ByteArray.size_append, strOfNums_size]
   omega
  ·rw [← au]
   simp only [aZ.l0]
   rw [ep, av (iE s), hw, ← au]
   simp only [aZ.j1, if_true]
   exact hinner i a r hi (by have := ha.2; omega) hr
theorem om (s : ByteArray) (hw : iF s = true) : Ev (fun k => iN.f k s) (Dq s) := by
 have hsz := gQ hw
 unfold iN.f Dq
 rw [av (iD s), hw, ep rfl, ep, Go.Proofs.YthkfjbodohaglaaGreatDoor.HandSort.Hg]
 exact aI _
def Cb (a b : ByteArray) : Bool := if iF a = true then (if iF b = true then (if a = b then false else decide (Dq a = Dq b)) else false) else false
theorem qX (a b : ByteArray) : Ev (fun k => iK.f k a b) (Cb a b) := by
 unfold iK.f Cb
 rw [av (iE a), aA]
 split
 ·rename_i h1
  rw [av (iE b), aA]
  split
  ·rename_i h2
   simp only [toList_eq, aA]
   split
   ·exact aI _
   ·rw [av (oq a h1), av (oq b h2), jQ]
    exact aI _
  ·exact aI _
 ·exact aI _
theorem qP (a b : ByteArray) : Ev (fun k => iJ.f k a b) (Cb a b) := by
 unfold iJ.f Cb
 rw [av (iD a), aA]
 split
 ·rename_i h1
  rw [av (iD b), aA]
  split
  ·rename_i h2
   simp only [toList_eq, aA]
   split
   ·exact aI _
   ·rw [av (om a h1), av (om b h2), jQ]
    exact aI _
  ·exact aI _
 ·exact aI _
def tZ (s : ByteArray) : ByteArray := if iF s = true then s.extract 1 s.size else (⟨#[]⟩ : ByteArray)
theorem rY (s : ByteArray) : Ev (fun k => iQ.f k s) (tZ s) := by
 unfold iQ.f tZ
 rw [av (iE s), aA]
 split
 ·rename_i h
  have := gQ h
  rw [ep]
  exact aI _
 ·exact aI _
theorem rT (s : ByteArray) : Ev (fun k => iO.f k s) (tZ s) := by
 unfold iO.f tZ
 rw [av (iD s), aA]
 split
 ·rename_i h
  have := gQ h
  rw [ep]
  exact aI _
 ·exact aI _
def wh (s : ByteArray) : ByteArray := if iF s = true then s.extract 0 (s.size - 1) else (⟨#[]⟩ : ByteArray)
theorem rZ (s : ByteArray) : Ev (fun k => iR.f k s) (wh s) := by
 unfold iR.f wh
 rw [av (iE s), aA]
 split
 ·rename_i h
  have := gQ h
  have e : wrap64 ((s.size : Int) - 1) = ((s.size - 1 : Nat) : Int) := by rw [jC (by omega) (by omega)]; omega
  rw [e, ep, ep]
  exact aI _
 ·exact aI _
theorem rU (s : ByteArray) : Ev (fun k => iP.f k s) (wh s) := by
 unfold iP.f wh
 rw [av (iD s), aA]
 split
 ·rename_i h
  have := gQ h
  have e : wrap64 ((s.size : Int) - 1) = ((s.size - 1 : Nat) : Int) := by rw [jC (by omega) (by omega)]; omega
  rw [e, ep, ep]
  exact aI _
 ·exact aI _
theorem oQ (L : Nat → Int → Option Bool) (n b : Nat) (f : Nat → Bool) (R : Bool) (hend : ∀ i : Nat, n ≤ i → i ≤ n + b → Ev (fun k => L k (i : Int)) R)
  (hstep : ∀ i : Nat, b ≤ i → i < n → ∀ r, Ev (fun k => L k ((i + 1 : Nat) : Int)) r → Ev (fun k => L k (i : Int)) (f i || r)) : ∀ a : Nat, b ≤ a → a ≤ n + b → Ev (fun k => L k (a : Int)) ((List.range' a (n - a)).any f || R) := by
 have key : ∀ d a : Nat, n - a = d → b ≤ a → a ≤ n + b → Ev (fun k => L k (a : Int)) ((List.range' a d).any f || R) := by
  intro d
  induction d with
  | zero =>
   intro a h hb ha
   exact gP (hend a (by omega) ha) (by simp)
  | succ d ih =>
   intro a h hb ha
   have := hstep a hb (by omega) _ (ih (a + 1) (by omega) (by omega) (by omega))
   rw [List.range'_succ, List.any_cons, Bool.or_assoc]
   exact this
 intro a hb ha
 exact key _ a rfl hb ha
def tV (p w : ByteArray) : Bool := if iF p = true then (if iF w = true then (List.range' 1 (w.size - p.size - 1)).any (fun i => decide (w.extract i (i + p.size) = p)) else false) else false
theorem wV (p w : ByteArray) : Ev (fun k => dD.f k p w) (tV p w) := by
 unfold dD.f tV
 rw [av (iE p), aA]
 split
 ·rename_i h1
  rw [av (iE w), ← au]
  simp only [dD.j0]
  rw [aA]
  by_cases h2 : iF w = true
  ·have s1 := gQ h1
   have s2 := gQ h2
   rw [if_neg (by rw [h2]; decide), if_pos h2]
   have e : ∀ i : Nat, i ≤ 20 → wrap64 ((i : Int) + (p.size : Int)) = ((i + p.size : Nat) : Int) := fun i hi => by rw [jC (by omega) (by omega)]; omega
   refine gP (oQ (fun k i => dD.l0 k p w i) (w.size - p.size) 1 _ false (fun i hi hi' => ?_) (fun i hb hi r hr => ?_) 1 (Nat.le_refl _) (by omega)) (by rw [Bool.or_false])
   ·rw [← au]
    simp only [dD.l0, e i (by omega)]
    rw [en]
    exact aI _
   ·rw [← au]
    simp only [dD.l0, e i (by omega), bG (i := i) (by omega), Int.toNat_natCast, toList_eq]
    rw [ep, ep, ep, ep, aA]
    split
    ·rename_i h3
     rw [decide_eq_true h3, Bool.true_or]
     exact aI _
    ·rename_i h3
     rw [decide_eq_false h3, Bool.false_or]
     exact hr
  ·rw [if_pos (by simpa using h2), if_neg h2]
   exact aI _
 ·rw [← au]
  simp only [dD.j0, if_true]
  exact aI _
theorem wK (p w : ByteArray) : Ev (fun k => dA.f k p w) (tV p w) := by
 unfold dA.f tV
 rw [av (iD p), aA]
 split
 ·rename_i h1
  rw [av (iD w), ← au]
  simp only [dA.j0]
  rw [aA]
  by_cases h2 : iF w = true
  ·have s1 := gQ h1
   have s2 := gQ h2
   rw [if_neg (by rw [h2]; decide), if_pos h2]
   have e : ∀ i : Nat, i ≤ 20 → wrap64 ((i : Int) + (p.size : Int)) = ((i + p.size : Nat) : Int) := fun i hi => by rw [jC (by omega) (by omega)]; omega
   refine gP (oQ (fun k i => dA.l0 k p w i) (w.size - p.size) 1 _ false (fun i hi hi' => ?_) (fun i hb hi r hr => ?_) 1 (Nat.le_refl _) (by omega)) (by rw [Bool.or_false])
   ·rw [← au]
    simp only [dA.l0, e i (by omega)]
    rw [en]
    exact aI _
   ·rw [← au]
    simp only [dA.l0, e i (by omega), bG (i := i) (by omega), Int.toNat_natCast, toList_eq]
    rw [ep, ep, ep, ep, aA]
    split
    ·rename_i h3
     rw [decide_eq_true h3, Bool.true_or]
     exact aI _
    ·rename_i h3
     rw [decide_eq_false h3, Bool.false_or]
     exact hr
  ·rw [if_pos (by simpa using h2), if_neg h2]
   exact aI _
 ·rw [← au]
  simp only [dA.j0, if_true]
  exact aI _
theorem DU {Q : Nat → Nat → Prop} (n : Nat) (h : ∀ p, p < n → ∃ K, ∀ k, K ≤ k → Q p k) : ∃ K, ∀ p, p < n → ∀ k, K ≤ k → Q p k := by
 induction n with
 | zero => exact ⟨0, fun p hp => absurd hp (Nat.not_lt_zero _)⟩
 | succ n ih =>
  obtain ⟨K, hK⟩ := ih (fun p hp => h p (by omega))
  obtain ⟨K', hK'⟩ := h n (by omega)
  refine ⟨max K K', fun p hp k hk => ?_⟩
  by_cases e : p = n
  ·subst e
   exact hK' k (by omega)
  ·exact hK p (by omega) k (by omega)
theorem GK (M M' : Nat → List bQ → Int → ByteArray → Option Bool) (l : List bQ) (s : ByteArray) (a0 : Int) (a1 : ByteArray) (a2 a3 : Int) (hs : s.size ≤ 100)
  (h : ∀ j p, 1 ≤ p → p < s.size → M j l a2 (s.extract 0 p) = M' j l a2 (s.extract 0 p) ∧ M j l a3 (s.extract p s.size) = M' j l a3 (s.extract p s.size)) :
  ∀ (k x : Nat), 1 ≤ x → x ≤ 100 → cu.l0 M k l s (x : Int) a0 a1 a2 a3 = cu.l0 M' k l s (x : Int) a0 a1 a2 a3 := by
 intro k
 induction k with
 | zero => intro x _ _; rfl
 | succ k ih =>
  intro x h1 h2
  simp only [cu.l0]
  by_cases hx : (x : Int) < (s.size : Int)
  ·have hp := h k x h1 (by omega)
   simp only [bG (i := x) (by omega), Int.toNat_natCast, hp.1, hp.2, ih (x + 1) (by omega) (by omega)]
  ·rw [if_neg hx, if_neg hx]
theorem AP (l : List bQ) (s : ByteArray) (a0 : Int) (a1 : ByteArray) (a2 a3 : Int) (f g : ByteArray → Bool) (hs : s.size ≤ 8) (h1 : 1 ≤ s.size)
  (hf : ∀ p, 1 ≤ p → p < s.size → Ev (fun k => bP.f k l a2 (s.extract 0 p)) (f (s.extract 0 p)))
  (hg : ∀ p, 1 ≤ p → p < s.size → Ev (fun k => bP.f k l a3 (s.extract p s.size)) (g (s.extract p s.size))) :
  Ev (fun k => cu.f (fun _ => bP.f k) k l a0 a1 a2 a3 s) ((List.range' 1 (s.size - 1)).any (fun p => f (s.extract 0 p) && g (s.extract p s.size))) := by
 obtain ⟨K, hK⟩ := DU (Q := fun p k => 1 ≤ p → bP.f k l a2 (s.extract 0 p) = some (f (s.extract 0 p)) ∧ bP.f k l a3 (s.extract p s.size) = some (g (s.extract p s.size))) s.size (fun p hp => by
  by_cases h : 1 ≤ p
  ·obtain ⟨K1, k1⟩ := hf p h hp
   obtain ⟨K2, k2⟩ := hg p h hp
   exact ⟨max K1 K2, fun k hk _ => ⟨k1 k (by omega), k2 k (by omega)⟩⟩
  ·exact ⟨0, fun _ _ h' => absurd h' h⟩)
 let M' : Nat → List bQ → Int → ByteArray → Option Bool := fun _ => bP.f K
 have hM' : ∀ p, 1 ≤ p → p < s.size → M' 0 l a2 (s.extract 0 p) = some (f (s.extract 0 p)) ∧ M' 0 l a3 (s.extract p s.size) = some (g (s.extract p s.size)) := fun p h hp => hK p hp K (Nat.le_refl _) h
 have hev : Ev (fun k => cu.l0 M' k l s 1 a0 a1 a2 a3) ((List.range' 1 (s.size - 1)).any (fun p => f (s.extract 0 p) && g (s.extract p s.size))) := by
  refine gP (oQ (fun k i => cu.l0 M' k l s i a0 a1 a2 a3) s.size 1 _ false (fun i hi hi' => ?_) (fun i hb hi r hr => ?_) 1 (Nat.le_refl _) (by omega)) (by rw [Bool.or_false])
  ·rw [← au]
   simp only [cu.l0]
   rw [en]
   exact aI _
  ·have hm := hM' i hb hi
   have hm1 : ∀ k, M' k l a2 (s.extract 0 i) = some (f (s.extract 0 i)) := fun k => hm.1
   have hm2 : ∀ k, M' k l a3 (s.extract i s.size) = some (g (s.extract i s.size)) := fun k => hm.2
   rw [← au]
   simp only [cu.l0, bG (i := i) (by omega), Int.toNat_natCast, hm1, hm2, Option.bind_some]
   rw [ep, ep, ep, aA]
   split
   ·rename_i h3
    rw [h3, Bool.true_and, aA]
    split
    ·rename_i h4
     rw [h4, Bool.true_or]
     exact aI _
    ·rename_i h4
     rw [Bool.not_eq_true] at h4
     rw [h4, Bool.false_or]
     exact hr
   ·rename_i h3
    rw [Bool.not_eq_true] at h3
    rw [h3, Bool.false_and, Bool.false_or]
    exact hr
 obtain ⟨K2, hK2⟩ := hev
 refine ⟨max K K2, fun k hk => ?_⟩
 show cu.l0 _ k l s 1 a0 a1 a2 a3 = _
 have := GK (fun _ => bP.f k) M' l s a0 a1 a2 a3 (by omega) (fun j p h hp => by
  have e1 := hK p hp k (by omega) h
  have e2 := hM' p h hp
  exact ⟨e1.1.trans e2.1.symm, e1.2.trans e2.2.symm⟩) k 1 (Nat.le_refl _) (by omega)
 rw [show ((1 : Nat) : Int) = 1 from rfl] at this
 rw [this]
 exact hK2 k (by omega)
theorem JE (M M' : Nat → List bQ → Int → ByteArray → Option Bool) (l : List bQ) (s : ByteArray) (a0 : Int) (a1 : ByteArray) (a2 a3 : Int) (hs : s.size ≤ 100)
  (h : ∀ j p q, 1 ≤ p → p < q → q < s.size → M j l a3 (s.extract p q) = M' j l a3 (s.extract p q) ∧ M j l a2 (s.extract 0 p ++ s.extract q s.size) = M' j l a2 (s.extract 0 p ++ s.extract q s.size)) :
  ∀ k : Nat, (∀ x : Nat, 1 ≤ x → x ≤ 100 → bN.l0 M k l s (x : Int) a0 a1 a2 a3 = bN.l0 M' k l s (x : Int) a0 a1 a2 a3) ∧ (∀ x y : Nat, 1 ≤ x → x < y → x ≤ 100 → y ≤ 102 → bN.l1 M k l s (x : Int) (y : Int) a0 a1 a2 a3 = bN.l1 M' k l s (x : Int) (y : Int) a0 a1 a2 a3) := by
 intro k
 induction k with
 | zero => exact ⟨fun x _ _ => by simp only [bN.l0], fun x y _ _ _ _ => by simp only [bN.l1]⟩
 | succ k ih =>
  refine ⟨fun x h1 h2 => ?_, fun x y h1 h2 h3 h4 => ?_⟩
  ·simp only [bN.l0, bG (i := x) (by omega)]
   by_cases hx : (x : Int) < (s.size : Int)
   ·rw [if_pos hx, if_pos hx, ih.2 x (x + 1) h1 (by omega) h2 (by omega)]
   ·rw [if_neg hx, if_neg hx]
  ·simp only [bN.l1, bG (i := x) (by omega), bG (i := y) (by omega), Int.toNat_natCast]
   by_cases hy : (y : Int) < (s.size : Int)
   ·have hp := h k x y h1 h2 (by omega)
    simp only [hp.1, hp.2, ih.2 x (y + 1) h1 (by omega) h3 (by omega)]
    rw [if_pos hy, if_pos hy]
   ·rw [if_neg hy, if_neg hy]
    by_cases hx : x + 1 ≤ 100
    ·exact ih.1 (x + 1) (by omega) hx
    ·cases k with
     | zero => simp only [bN.l0]
     | succ k =>
      simp only [bN.l0]
      rw [if_neg (by omega), if_neg (by omega)]
theorem CX (l : List bQ) (s : ByteArray) (a0 : Int) (a1 : ByteArray) (a2 a3 : Int) (f g : ByteArray → Bool) (hs : s.size ≤ 8) (h1 : 1 ≤ s.size)
  (hg : ∀ p q, 1 ≤ p → p < q → q < s.size → Ev (fun k => bP.f k l a3 (s.extract p q)) (g (s.extract p q)))
  (hf : ∀ p q, 1 ≤ p → p < q → q < s.size → Ev (fun k => bP.f k l a2 (s.extract 0 p ++ s.extract q s.size)) (f (s.extract 0 p ++ s.extract q s.size))) :
  Ev (fun k => bN.f (fun _ => bP.f k) k l a0 a1 a2 a3 s) ((List.range' 1 (s.size - 1)).any (fun p => (List.range' (p + 1) (s.size - (p + 1))).any (fun q => g (s.extract p q) && f (s.extract 0 p ++ s.extract q s.size)))) := by
 obtain ⟨K, hK⟩ := DU (Q := fun p k => ∀ q, q < s.size → 1 ≤ p → p < q → bP.f k l a3 (s.extract p q) = some (g (s.extract p q)) ∧ bP.f k l a2 (s.extract 0 p ++ s.extract q s.size) = some (f (s.extract 0 p ++ s.extract q s.size))) s.size (fun p hp => by
  obtain ⟨K, hK⟩ := DU (Q := fun q k => 1 ≤ p → p < q → bP.f k l a3 (s.extract p q) = some (g (s.extract p q)) ∧ bP.f k l a2 (s.extract 0 p ++ s.extract q s.size) = some (f (s.extract 0 p ++ s.extract q s.size))) s.size (fun q hq => by
   by_cases h : 1 ≤ p ∧ p < q
   ·obtain ⟨K1, k1⟩ := hg p q h.1 h.2 hq
    obtain ⟨K2, k2⟩ := hf p q h.1 h.2 hq
    exact ⟨max K1 K2, fun k hk _ _ => ⟨k1 k (by omega), k2 k (by omega)⟩⟩
   ·exact ⟨0, fun _ _ h' h'' => absurd ⟨h', h''⟩ h⟩)
  exact ⟨K, fun k hk q hq => hK q hq k hk⟩)
 let M' : Nat → List bQ → Int → ByteArray → Option Bool := fun _ => bP.f K
 have hM' : ∀ p q, 1 ≤ p → p < q → q < s.size → M' 0 l a3 (s.extract p q) = some (g (s.extract p q)) ∧ M' 0 l a2 (s.extract 0 p ++ s.extract q s.size) = some (f (s.extract 0 p ++ s.extract q s.size)) := fun p q h h' hq => hK p (by omega) K (Nat.le_refl _) q hq h h'
 have hev : Ev (fun k => bN.l0 M' k l s 1 a0 a1 a2 a3) ((List.range' 1 (s.size - 1)).any (fun p => (List.range' (p + 1) (s.size - (p + 1))).any (fun q => g (s.extract p q) && f (s.extract 0 p ++ s.extract q s.size)))) := by
  refine gP (oQ (fun k i => bN.l0 M' k l s i a0 a1 a2 a3) s.size 1 _ false (fun i hi hi' => ?_) (fun i hb hi r hr => ?_) 1 (Nat.le_refl _) (by omega)) (by rw [Bool.or_false])
  ·rw [← au]
   simp only [bN.l0]
   rw [en]
   exact aI _
  ·rw [← au]
   simp only [bN.l0, bG (i := i) (by omega)]
   rw [ep]
   refine oQ (fun k j => bN.l1 M' k l s (i : Int) j a0 a1 a2 a3) s.size (i + 1) _ r (fun j hj hj' => ?_) (fun j hjb hj q hq => ?_) (i + 1) (Nat.le_refl _) (by omega)
   ·rw [← au]
    simp only [bN.l1, bG (i := i) (by omega)]
    rw [en]
    exact hr
   ·have hm := hM' i j hb (by omega) hj
    have hm1 : ∀ k, M' k l a3 (s.extract i j) = some (g (s.extract i j)) := fun k => hm.1
    have hm2 : ∀ k, M' k l a2 (s.extract 0 i ++ s.extract j s.size) = some (f (s.extract 0 i ++ s.extract j s.size)) := fun k => hm.2
    have hz : (s.extract 0 i).size + (s.extract j s.size).size ≤ 9223372036854775807 := by simp only [ByteArray.size_extract]; omega
    rw [← au]
    simp only [bN.l1, bG (i := j) (by omega), Int.toNat_natCast, hm1, hm2, Option.bind_some]
    rw [ep, ep, ep, ep, aA]
    split
    ·rename_i h3
     have c1 : (i : Int) ≤ (s.size : Int) := by omega
     have c2 : (0 : Int) ≤ (j : Int) := by omega
     rw [h3, Bool.true_and]
     simp only [ep c1, if_pos c2, if_pos hz]
     split
     ·rename_i h4
      rw [h4, Bool.true_or]
      exact aI _
     ·rename_i h4
      rw [Bool.not_eq_true] at h4
      rw [h4, Bool.false_or]
      exact hq
    ·rename_i h3
     rw [Bool.not_eq_true] at h3
     rw [h3, Bool.false_and, Bool.false_or]
     exact hq
 obtain ⟨K2, hK2⟩ := hev
 refine ⟨max K K2, fun k hk => ?_⟩
 show bN.l0 _ k l s 1 a0 a1 a2 a3 = _
 have := (JE (fun _ => bP.f k) M' l s a0 a1 a2 a3 (by omega) (fun j p q h h' hq => by
  have e1 := hK p (by omega) k (by omega) q hq h h'
  have e2 := hM' p q h h' hq
  exact ⟨e1.1.trans e2.1.symm, e1.2.trans e2.2.symm⟩) k).1 1 (Nat.le_refl _) (by omega)
 rw [show ((1 : Nat) : Int) = 1 from rfl] at this
 rw [this]
 exact hK2 k (by omega)
def nC (l : List bQ) : Nat → Nat → ByteArray → Bool
 | 0, _, _ => false
 | n + 1, i, s =>
  if (aj l i).f0 = 1 then decide (s = (aj l i).f1)
  else if (aj l i).f0 = 2 then nC l n (aj l i).f2.toNat (AA s)
  else if (aj l i).f0 = 3 then Cb (aj l (aj l i).f2).f1 s
  else if (aj l i).f0 = 4 then (List.range' 1 (s.size - 1)).any (fun p => nC l n (aj l i).f2.toNat (s.extract 0 p) && nC l n (aj l i).f3.toNat (s.extract p s.size))
  else if (aj l i).f0 = 5 then (List.range' 1 (s.size - 1)).any (fun p => (List.range' (p + 1) (s.size - (p + 1))).any (fun q => nC l n (aj l i).f3.toNat (s.extract p q) && nC l n (aj l i).f2.toNat (s.extract 0 p ++ s.extract q s.size)))
  else if (aj l i).f0 = 6 then decide (s = EH (aj l (aj l i).f2).f1)
  else if (aj l i).f0 = 7 then decide (s = tZ (aj l (aj l i).f2).f1)
  else if (aj l i).f0 = 8 then decide (s = wh (aj l (aj l i).f2).f1)
  else tV s (aj l (aj l i).f2).f1
theorem tF (a b : ByteArray) : (a.toList == b.toList) = decide (b = a) := by
 rw [jQ]
 by_cases h : a = b
 ·subst h; rfl
 ·rw [decide_eq_false h, decide_eq_false (fun e => h e.symm)]
theorem Ab {l : List bQ} (hp : mH l = true) : ∀ (n i : Nat) (s : ByteArray), i < n → i < l.length → 1 ≤ s.size → s.size ≤ 8 → Ev (fun k => bP.f k l (i : Int) s) (nC l n i s) := by
 intro n
 induction n with
 | zero => intro i s h; exact absurd h (Nat.not_lt_zero _)
 | succ n ih =>
  intro i s hn hi h1 h8
  obtain ⟨o1, o2, o3, o4, o5, o6, o7, o8⟩ := wm hi (tX hp i hi)
  rw [← au]
  simp only [bP.f, nC, Bb l i hi]
  rw [ep, ep, aA]
  by_cases n1 : l[i].f0 = 1
  ·rw [if_pos n1, if_pos n1, tF]; exact aI _
  rw [if_neg n1, if_neg n1, aA]
  have oA := o3 n1
  have eA : l[i].f2 = ((l[i].f2.toNat : Nat) : Int) := by omega
  by_cases n2 : l[i].f0 = 2
  ·rw [if_pos n2, if_pos n2, av (oW s (by omega))]
   have := ih l[i].f2.toNat (AA s) (by omega) (by omega) (by rw [rM]; exact h1) (by rw [rM]; exact h8)
   rw [← eA] at this
   rw [av this]
   exact aI _
  rw [if_neg n2, if_neg n2, aA]
  by_cases n3 : l[i].f0 = 3
  ·rw [if_pos n3, if_pos n3, ep, ep, av (qX _ _)]
   exact aI _
  rw [if_neg n3, if_neg n3, aA]
  by_cases k4 : l[i].f0 = 4
  ·have oB := o4 (.inl k4)
   have eB : l[i].f3 = ((l[i].f3.toNat : Nat) : Int) := by omega
   rw [if_pos k4, if_pos k4, av (AP l s l[i].f0 l[i].f1 l[i].f2 l[i].f3 (nC l n l[i].f2.toNat) (nC l n l[i].f3.toNat) h8 h1 (fun p hp1 hp2 => ?_) (fun p hp1 hp2 => ?_))]
   ·exact aI _
   ·have := ih l[i].f2.toNat (s.extract 0 p) (by omega) (by omega) (by rw [ByteArray.size_extract]; omega) (by rw [ByteArray.size_extract]; omega)
    rw [← eA] at this
    exact this
   ·have := ih l[i].f3.toNat (s.extract p s.size) (by omega) (by omega) (by rw [ByteArray.size_extract]; omega) (by rw [ByteArray.size_extract]; omega)
    rw [← eB] at this
    exact this
  rw [if_neg k4, if_neg k4, aA]
  by_cases k5 : l[i].f0 = 5
  ·have oB := o4 (.inr k5)
   have eB : l[i].f3 = ((l[i].f3.toNat : Nat) : Int) := by omega
   rw [if_pos k5, if_pos k5, av (CX l s l[i].f0 l[i].f1 l[i].f2 l[i].f3 (nC l n l[i].f2.toNat) (nC l n l[i].f3.toNat) h8 h1 (fun p q hp1 hp2 hp3 => ?_) (fun p q hp1 hp2 hp3 => ?_))]
   ·exact aI _
   ·have := ih l[i].f3.toNat (s.extract p q) (by omega) (by omega) (by rw [ByteArray.size_extract]; omega) (by rw [ByteArray.size_extract]; omega)
    rw [← eB] at this
    exact this
   ·have := ih l[i].f2.toNat (s.extract 0 p ++ s.extract q s.size) (by omega) (by omega) (by rw [ByteArray.size_append, ByteArray.size_extract, ByteArray.size_extract]; omega) (by rw [ByteArray.size_append, ByteArray.size_extract, ByteArray.size_extract]; omega)
    rw [← eA] at this
    exact this
  rw [if_neg k5, if_neg k5, aA]
  by_cases k6 : l[i].f0 = 6
  ·rw [if_pos k6, if_pos k6, ep, ep, av (Cj _), tF]
   exact aI _
  rw [if_neg k6, if_neg k6, aA]
  by_cases k7 : l[i].f0 = 7
  ·rw [if_pos k7, if_pos k7, ep, ep, av (rY _), tF]
   exact aI _
  rw [if_neg k7, if_neg k7, aA]
  by_cases k8 : l[i].f0 = 8
  ·rw [if_pos k8, if_pos k8, ep, ep, av (rZ _), tF]
   exact aI _
  rw [if_neg k8, if_neg k8, ep, ep, av (wV _ _)]
  exact aI _
def mM (l : List bQ) (s : ByteArray) : Bool := if mH l = true then (if iF s = true then nC l l.length (l.length - 1) s else false) else false
theorem CW (l : List bQ) (s : ByteArray) (hl : l.length < 4611686018427387904) : Ev (fun k => mO.f k l s) (mM l s) := by
 unfold mO.f mM
 rw [av (qW l hl), aA]
 split
 ·rename_i hp
  have hlen := Ah hp
  rw [av (iE s), aA]
  split
  ·rename_i hw
   have hsz := gQ hw
   have e : wrap64 ((l.length : Int) - 1) = ((l.length - 1 : Nat) : Int) := by rw [jC (by omega) (by omega)]; omega
   rw [e, av (Ab hp l.length (l.length - 1) s (by omega) (by omega) (by omega) (by omega))]
   exact aI _
  ·exact aI _
 ·exact aI _
theorem CJ {l : List bQ} (hp : mH l = true) : ∀ (n i : Nat) (s : ByteArray), i < n → i < l.length → 1 ≤ s.size → s.size ≤ 8 → Ev (fun k => bn.f k l (i : Int) s) (nC l n i s) := by
 intro n
 induction n with
 | zero => intro i s h; exact absurd h (Nat.not_lt_zero _)
 | succ n ih =>
  intro i s hn hi h1 h8
  obtain ⟨o1, o2, o3, o4, o5, o6, o7, o8⟩ := wm hi (tX hp i hi)
  have hne : ¬ s.toList = ([] : List UInt8) := fun e => by have := toList_nil.1 e; omega
  have hA : 0 ≤ l[i].f2 ∧ l[i].f2 < (l.length : Int) := by
   by_cases n1 : l[i].f0 = 1
   ·have := (o8 n1).1; omega
   ·have := o3 n1; omega
  rw [← au]
  simp only [bn.f, nC, Bb l i hi]
  rw [ep, ep, en hne, ep hA.1, ep hA.2, aA]
  split
  ·rw [jQ]; exact aI _
  rename_i n1
  have oA := o3 n1
  have eA : l[i].f2 = ((l[i].f2.toNat : Nat) : Int) := by omega
  rw [aA]
  split
  ·have := ih l[i].f2.toNat (AA s) (by omega) (by omega) (by rw [rM]; exact h1) (by rw [rM]; exact h8)
   rw [← eA] at this
   simp only [oO s (show s.size ≤ 100 by omega), Option.bind_some]
   rw [av this]
   exact aI _
  rw [aA]
  split
  ·rw [av (qP _ _)]
   exact aI _
  rw [aA]
  split
  ·rename_i k4
   have oB := o4 (.inl k4)
   have eB : l[i].f3 = ((l[i].f3.toNat : Nat) : Int) := by omega
   refine gP (oQ (fun k j => bn.l0 k l s j l[i].f0 l[i].f1 l[i].f2 l[i].f3) s.size 1 _ false (fun j hj hj' => ?_) (fun j hb hj r hr => ?_) 1 (Nat.le_refl _) (by omega)) (by rw [Bool.or_false])
   ·rw [← au]
    simp only [bn.l0]
    rw [en]
    exact aI _
   ·have m1 := ih l[i].f2.toNat (s.extract 0 j) (by omega) (by omega) (by rw [ByteArray.size_extract]; omega) (by rw [ByteArray.size_extract]; omega)
    have m2 := ih l[i].f3.toNat (s.extract j s.size) (by omega) (by omega) (by rw [ByteArray.size_extract]; omega) (by rw [ByteArray.size_extract]; omega)
    rw [← eA] at m1
    rw [← eB] at m2
    rw [← au]
    simp only [bn.l0, bG (i := j) (by omega), Int.toNat_natCast]
    rw [ep, ep, ep, av m1, aA]
    split
    ·rename_i h3
     rw [h3, Bool.true_and, av m2, aA]
     split
     ·rename_i h4
      rw [h4, Bool.true_or]
      exact aI _
     ·rename_i h4
      rw [Bool.not_eq_true] at h4
      rw [h4, Bool.false_or]
      exact hr
    ·rename_i h3
     rw [Bool.not_eq_true] at h3
     rw [h3, Bool.false_and, Bool.false_or]
     exact hr
  rw [aA]
  split
  ·rename_i k5
   have oB := o4 (.inr k5)
   have eB : l[i].f3 = ((l[i].f3.toNat : Nat) : Int) := by omega
   refine gP (oQ (fun k j => bn.l1 k l s j l[i].f0 l[i].f1 l[i].f2 l[i].f3) s.size 1 _ false (fun j hj hj' => ?_) (fun j hb hj r hr => ?_) 1 (Nat.le_refl _) (by omega)) (by rw [Bool.or_false])
   ·rw [← au]
    simp only [bn.l1]
    rw [en]
    exact aI _
   ·rw [← au]
    simp only [bn.l1, bG (i := j) (by omega)]
    rw [ep]
    refine oQ (fun k q => bn.l2 k l s (j : Int) q l[i].f0 l[i].f1 l[i].f2 l[i].f3) s.size (j + 1) _ r (fun q hq hq' => ?_) (fun q hqb hq t ht => ?_) (j + 1) (Nat.le_refl _) (by omega)
    ·rw [← au]
     simp only [bn.l2, bG (i := j) (by omega)]
     rw [en]
     exact hr
    ·have m1 := ih l[i].f3.toNat (s.extract j q) (by omega) (by omega) (by rw [ByteArray.size_extract]; omega) (by rw [ByteArray.size_extract]; omega)
     have m2 := ih l[i].f2.toNat (s.extract 0 j ++ s.extract q s.size) (by omega) (by omega) (by rw [ByteArray.size_append, ByteArray.size_extract, ByteArray.size_extract]; omega) (by rw [ByteArray.size_append, ByteArray.size_extract, ByteArray.size_extract]; omega)
     rw [← eB] at m1
     rw [← eA] at m2
     have hz : (s.extract 0 j).size + (s.extract q s.size).size ≤ 9223372036854775807 := by simp only [ByteArray.size_extract]; omega
     rw [← au]
     simp only [bn.l2, bG (i := q) (by omega), Int.toNat_natCast]
     rw [ep, ep, ep, ep, av m1, aA]
     split
     ·rename_i h3
      have c1 : (j : Int) ≤ (s.size : Int) := by omega
      have c2 : (0 : Int) ≤ (q : Int) := by omega
      rw [h3, Bool.true_and]
      simp only [ep c1, if_pos c2, if_pos hz]
      rw [av m2, aA]
      split
      ·rename_i h4
       rw [h4, Bool.true_or]
       exact aI _
      ·rename_i h4
       rw [Bool.not_eq_true] at h4
       rw [h4, Bool.false_or]
       exact ht
     ·rename_i h3
      rw [Bool.not_eq_true] at h3
      rw [h3, Bool.false_and, Bool.false_or]
      exact ht
  rw [aA]
  split
  ·rw [av (BA _), jQ]
   exact aI _
  rw [aA]
  split
  ·rw [av (rT _), jQ]
   exact aI _
  rw [aA]
  split
  ·rw [av (rU _), jQ]
   exact aI _
  rw [ep, av (wK _ _)]
  exact aI _
theorem Cy (l : List bQ) (s : ByteArray) (hl : l.length < 4611686018427387904) : Ev (fun k => jg.f k l s) (mM l s) := by
 unfold jg.f mM
 rw [av (qO l hl), aA]
 split
 ·rename_i hp
  have hlen := Ah hp
  rw [av (iD s), aA]
  split
  ·rename_i hw
   have hsz := gQ hw
   have e : wrap64 ((l.length : Int) - 1) = ((l.length - 1 : Nat) : Int) := by rw [jC (by omega) (by omega)]; omega
   rw [e, av (CJ hp l.length (l.length - 1) s (by omega) (by omega) (by omega) (by omega))]
   exact aI _
  ·exact aI _
 ·exact aI _
def EG (l : List ByteArray) (w : ByteArray) : Bool := l.any (fun x => decide (x = w))
theorem AL (l : List ByteArray) (w : ByteArray) (hl : l.length < 4611686018427387904) : Ev (fun k => gK.f k l w) (EG l w) := by
 refine pQ (fun k i => gK.l0 k l w i) l _ ?_ (fun i hi hp r hr => ?_) (fun i hi hp => ?_)
 ·rw [← au]; simp [gK.l0, aI]
 ·rw [← au]
  simp only [gK.l0, lM ByteArray.empty l i hi, bG (i := i) (by omega), toList_eq]
  rw [ep, ep, en (of_decide_eq_false hp)]
  exact hr
 ·rw [← au]
  simp only [gK.l0, lM ByteArray.empty l i hi, toList_eq]
  rw [ep, ep, ep (of_decide_eq_true hp)]
  exact aI _
def jy (out : List ByteArray) (x : ByteArray) : List ByteArray := if EG out x = true then out else out ++ [x]
def Gl (l : List ByteArray) : List ByteArray := l.foldl jy []
theorem ER (out : List ByteArray) (x : ByteArray) : (jy out x).length ≤ out.length + 1 := by
 unfold jy
 split
 ·omega
 ·simp
theorem qd : ∀ (l out : List ByteArray), (l.foldl jy out).length ≤ out.length + l.length
 | [], out => by simp
 | x :: l, out => by
  have h1 := qd l (jy out x)
  have h2 := ER out x
  simp only [List.foldl_cons, List.length_cons]
  omega
theorem GU (q : ByteArray → Bool) (l : List ByteArray) (i : Nat) (h : i < l.length) : ((l.take (i + 1)).filter q).foldl jy [] = if q l[i] = true then jy (((l.take i).filter q).foldl jy []) l[i] else ((l.take i).filter q).foldl jy [] := by
 rw [List.take_succ_eq_append_getElem h, List.filter_append, List.foldl_append]
 by_cases hq : q l[i] = true
 ·rw [if_pos hq]; simp [hq]
 ·rw [if_neg hq]; simp [hq]
theorem GI (l : List ByteArray) (w : ByteArray) (hl : l.length < 4611686018427387904) : Ev (fun k => bJ.f k l w) (match l.findIdx? (fun x => decide (x = w)) with | some i => (i : Int) | none => -1) := by
 refine rF (fun k i => bJ.l0 k l w (l.length : Int) i) l _ ?_ (fun i hi hp r hr => ?_) (fun i hi hp => ?_)
 ·rw [← au]; simp [bJ.l0, aI]
 ·rw [← au]
  simp only [bJ.l0, lM ByteArray.empty l i hi, bG (i := i) (by omega), toList_eq]
  rw [ep, ep, ep, en (fun e => of_decide_eq_false hp e.symm)]
  exact hr
 ·rw [← au]
  simp only [bJ.l0, lM ByteArray.empty l i hi, toList_eq]
  rw [ep, ep, ep, aA, if_pos (of_decide_eq_true hp).symm]
  exact aI _
theorem Iq {α : Type} (l : List α) (p : α → Bool) : decide ((match l.findIdx? p with | some i => (i : Int) | none => -1) ≥ 0) = l.any p := by
 cases h : l.findIdx? p with
 | none =>
  have := List.findIdx?_eq_none_iff.1 h
  simp
  intro x hx
  simpa using this x hx
 | some i =>
  obtain ⟨h1, h2, _⟩ := List.findIdx?_eq_some_iff_getElem.1 h
  simp
  exact ⟨l[i], List.getElem_mem h1, h2⟩
theorem DN (l : List ByteArray) (w : ByteArray) (hl : l.length < 4611686018427387904) : Ev (fun k => fu.f k l w) (EG l w) := by
 unfold fu.f EG
 rw [av (GI l w hl), Iq]
 exact aI _
theorem DX (l : List ByteArray) (hl : l.length ≤ 8796093022208) : Ev (fun k => ig.f k l) (Gl l) := by
 unfold ig.f
 refine iG (σ := List ByteArray) (fun k out i => ig.l0 k out l (l.length : Int) i) l.length (fun i out => out = (l.take i).foldl jy []) (fun _ _ => Gl l) (fun out ho => ?_) (fun i out hi ho => ?_) 0 [] (Nat.zero_le _) rfl
 ·rw [List.take_length] at ho
  rw [← au]
  simp only [ig.l0, Int.lt_irrefl, if_false, ho]
  exact aI _
 ·have hlen : out.length ≤ i := by
   have := qd (l.take i) []
   rw [ho]
   simp only [List.length_nil, List.length_take] at this
   omega
  refine .inr ⟨jy out l[i], ?_, rfl, fun r hr => ?_⟩
  ·rw [List.take_succ_eq_append_getElem hi, List.foldl_append, ho]
   rfl
  ·rw [← au]
   simp only [ig.l0, lM ByteArray.empty l i hi, bG (i := i) (by omega)]
   rw [ep, ep, ep, av (DN out l[i] (by omega)), aA]
   unfold jy at hr
   split
   ·rename_i h
    rw [if_pos h] at hr
    exact hr
   ·rename_i h
    rw [if_neg h] at hr
    rw [ep]
    exact hr
def sM (p : ByteArray) : Bool := decide (1 ≤ p.size ∧ p.size ≤ 8) && (bytesOf p).all (fun c => decide (c = 63) || lW c)
theorem Ag {p : ByteArray} (h : sM p = true) : 1 ≤ p.size ∧ p.size ≤ 8 := by
 unfold sM at h
 rw [Bool.and_eq_true] at h
 exact of_decide_eq_true h.1
theorem wF (p : ByteArray) : Ev (fun k => bZ.f k p) (sM p) := by
 simp only [bZ.f, lV, Option.bind_some, aA, decide_eq_true_eq, sM]
 by_cases h : (1 : Int) ≤ p.size ∧ (p.size : Int) ≤ 8
 ·rw [if_pos h]
  have h' : 1 ≤ p.size ∧ p.size ≤ 8 := by omega
  simp only [h', decide_true, Bool.true_and, and_self]
  refine jO (fun k i => bZ.l0 k p i) (bytesOf p) _ ?_ (fun i hi hp r hr => ?_) (fun i hi hp => ?_)
  ·rw [← au]; simp [bZ.l0, bytesOf_length, aI]
  ·have hi' : i < p.size := by rw [bytesOf_length] at hi; exact hi
   rw [← au]
   simp only [bZ.l0, mK p i hi', bG (i := i) (by omega)]
   rw [ep, ep, aA]
   by_cases h63 : (bytesOf p)[i] = 63
   ·rw [if_pos h63]; exact hr
   ·simp [lW, h63] at hp
    rw [if_neg h63, en, en]
    exact hr
  ·have hi' : i < p.size := by rw [bytesOf_length] at hi; exact hi
   simp only [Bool.or_eq_false_iff, decide_eq_false_iff_not, lW] at hp
   rw [← au]
   simp only [bZ.l0, mK p i hi', bG (i := i) (by omega)]
   rw [ep, ep, en hp.1, aA]
   by_cases h1 : (bytesOf p)[i] < 97
   ·rw [if_pos h1]; exact aI _
   ·rw [if_neg h1, ep]; exact aI _
 ·rw [if_neg h]
  have h' : ¬ (1 ≤ p.size ∧ p.size ≤ 8) := by omega
  simp [h', aI]
def qJ (p w : ByteArray) : Bool := if sM p = true then (if iF w = true then (if p.size = w.size then (List.range p.size).all (fun i => decide (bt p (i : Int) = 63) || decide (bt p (i : Int) = bt w (i : Int))) else false) else false) else false
theorem rV (p w : ByteArray) : Ev (fun k => bK.f k p w) (qJ p w) := by
 have hf : Ev (fun k => bK.j0 k p w true) false := by
  rw [← au]
  simp only [bK.j0, if_true]
  exact aI _
 unfold bK.f qJ
 rw [av (wF p), aA]
 split
 ·rename_i h1
  have hs := Ag h1
  rw [av (iE w), aA]
  split
  ·by_cases h3 : p.size = w.size
   ·rw [if_pos h3, show ((p.size : Int) != (w.size : Int)) = false by rw [h3]; simp, ← au]
    simp only [bK.j0, Bool.false_eq_true, if_false]
    refine jO (fun k i => bK.l0 k p w i) (List.range p.size) _ ?_ (fun i hi hp r hr => ?_) (fun i hi hp => ?_)
    ·rw [← au]; simp [bK.l0, aI]
    ·rw [List.length_range] at hi
     rw [List.getElem_range] at hp
     rw [← au]
     simp only [bK.l0, bG (i := i) (by omega)]
     rw [ep, ep, aA]
     by_cases h63 : bt p (i : Int) = 63
     ·rw [if_pos h63]; exact hr
     ·have he : bt p (i : Int) = bt w (i : Int) := by simpa [h63] using hp
      rw [if_neg h63, ep, ep he]
      exact hr
    ·rw [List.length_range] at hi
     rw [List.getElem_range] at hp
     simp only [Bool.or_eq_false_iff, decide_eq_false_iff_not] at hp
     rw [← au]
     simp only [bK.l0, bG (i := i) (by omega)]
     rw [ep, ep, en hp.1, ep, en hp.2]
     exact aI _
   ·rw [if_neg h3, show ((p.size : Int) != (w.size : Int)) = true by simp; omega]
    exact hf
  ·exact hf
 ·exact hf
theorem tQ (p : ByteArray) : Ev (fun k => bX.f k p) (sM p) := by
 simp only [bX.f, lq, Option.bind_some, aA, decide_eq_true_eq, sM]
 by_cases h : (1 : Int) ≤ p.size ∧ (p.size : Int) ≤ 8
 ·rw [if_pos h]
  have h' : 1 ≤ p.size ∧ p.size ≤ 8 := by omega
  simp only [h', decide_true, Bool.true_and, and_self]
  refine jO (fun k i => bX.l0 k p (p.size : Int) i) (bytesOf p) _ ?_ (fun i hi hp r hr => ?_) (fun i hi hp => ?_)
  ·rw [← au]; simp [bX.l0, bytesOf_length, aI]
  ·have hi' : i < p.size := by rw [bytesOf_length] at hi; exact hi
   rw [← au]
   simp only [bX.l0, mK p i hi', bG (i := i) (by omega), mU, Option.bind_some]
   rw [ep, ep, ep, aA]
   by_cases h63 : (bytesOf p)[i] = 63
   ·rw [if_pos h63]; exact hr
   ·simp [lW, h63] at hp
    rw [if_neg h63, ep (by simpa using hp)]
    exact hr
  ·have hi' : i < p.size := by rw [bytesOf_length] at hi; exact hi
   simp only [Bool.or_eq_false_iff, decide_eq_false_iff_not, lW] at hp
   rw [← au]
   simp only [bX.l0, mK p i hi', bG (i := i) (by omega), mU, Option.bind_some]
   rw [ep, ep, ep, en hp.1, en (by simpa using hp.2)]
   exact aI _
 ·rw [if_neg h]
  have h' : ¬ (1 ≤ p.size ∧ p.size ≤ 8) := by omega
  simp [h', aI]
theorem rQ (p w : ByteArray) : Ev (fun k => aV.f k p w) (qJ p w) := by
 have hf : Ev (fun k => aV.j0 k p w true) false := by
  rw [← au]
  simp only [aV.j0, if_true]
  exact aI _
 unfold aV.f qJ
 rw [av (tQ p), aA]
 split
 ·rename_i h1
  have hs := Ag h1
  rw [av (iD w), aA]
  split
  ·by_cases h3 : p.size = w.size
   ·rw [if_pos h3, show ((p.size : Int) != (w.size : Int)) = false by rw [h3]; simp, ← au]
    simp only [aV.j0, Bool.false_eq_true, if_false]
    refine jO (fun k i => aV.l0 k p w (p.size : Int) i) (List.range p.size) _ ?_ (fun i hi hp r hr => ?_) (fun i hi hp => ?_)
    ·rw [← au]; simp [aV.l0, aI]
    ·rw [List.length_range] at hi
     rw [List.getElem_range] at hp
     rw [← au]
     simp only [aV.l0, bG (i := i) (by omega)]
     rw [ep, ep, ep, aA]
     by_cases h63 : bt p (i : Int) = 63
     ·rw [if_pos h63]; exact hr
     ·have he : bt p (i : Int) = bt w (i : Int) := by simpa [h63] using hp
      rw [if_neg h63, ep, ep he]
      exact hr
    ·rw [List.length_range] at hi
     rw [List.getElem_range] at hp
     simp only [Bool.or_eq_false_iff, decide_eq_false_iff_not] at hp
     rw [← au]
     simp only [aV.l0, bG (i := i) (by omega)]
     rw [ep, ep, ep, en hp.1, ep, en hp.2]
     exact aI _
   ·rw [if_neg h3, show ((p.size : Int) != (w.size : Int)) = true by simp; omega]
    exact hf
  ·exact hf
 ·exact hf
def qg (how a : Int) (pl : List bQ) (d : List S62) (pat w : ByteArray) : Bool := qJ pat w && ((decide (Int.tmod how 2 = 0) || hasB d w a) && (decide (how < 2) || mM pl w))
def nQ (how a : Int) (pl : List bQ) (d : List S62) (l : List ByteArray) (pat : ByteArray) : List ByteArray := if 0 ≤ how ∧ how ≤ 3 then Gl (l.filter (qg how a pl d pat)) else []
theorem sU (a : Int) (pl : List bQ) (d : List S62) (l : List ByteArray) (pat : ByteArray) (how : Int) (hp : pl.length < 4611686018427387904) (hd : d.length < 4611686018427387904) (hl : l.length ≤ 8796093022208) : Ev (fun k => aR.f k a pl d l pat how) (nQ how a pl d l pat) := by
 have hend : ∀ (out : List ByteArray) (i : Int), Ev (fun k => aR.j1 k d l pat how out i false a pl) out := by
  intro out i
  rw [← au]
  simp only [aR.j1, Bool.false_eq_true, if_false]
  exact aI _
 have hj3 : ∀ (out : List ByteArray) (i : Nat) (w : ByteArray) (sn py : Bool) (r : List ByteArray), i < 4611686018427387904 → out.length < 8796093022208 → Ev (fun k => aR.l0 k d l pat how (if (qJ pat w && (sn && py)) = true then jy out w else out) ((i + 1 : Nat) : Int) a pl) r → Ev (fun k => aR.j3 k d l pat how out (i : Int) w sn py a pl) r := by
  intro out i w sn py r hi ho hr
  rw [← au]
  simp only [aR.j3, bG (i := i) hi]
  rw [av (rV pat w), aA]
  by_cases h1 : qJ pat w = true
  ·rw [if_pos h1, aA]
   by_cases h2 : sn = true
   ·rw [if_pos h2, aA]
    by_cases h3 : py = true
    ·rw [if_pos h3, av (AL out w (by omega)), aA]
     rw [h1, h2, h3] at hr
     simp only [Bool.and_self, if_true] at hr
     unfold jy at hr
     by_cases h4 : EG out w = true
     ·rw [if_pos h4] at hr ⊢
      exact hr
     ·rw [if_neg h4] at hr ⊢
      rw [ep]
      exact hr
    ·rw [if_neg h3]
     rw [if_neg (by simp [h3])] at hr
     exact hr
   ·rw [if_neg h2]
    rw [if_neg (by simp [h2])] at hr
    exact hr
  ·rw [if_neg h1]
   rw [if_neg (by simp [h1])] at hr
   exact hr
 have hj2 : ∀ (out : List ByteArray) (i : Int) (w : ByteArray) (sn : Bool) (r : List ByteArray), Ev (fun k => aR.j3 k d l pat how out i w sn (decide (how < 2) || mM pl w) a pl) r → Ev (fun k => aR.j2 k d l pat how out i w sn a pl) r := by
  intro out i w sn r hr
  rw [← au]
  simp only [aR.j2]
  rw [aA]
  by_cases h : how < 2
  ·rw [if_pos h]
   rw [decide_eq_true h, Bool.true_or] at hr
   exact hr
  ·rw [if_neg h, av (CW pl w hp)]
   rw [decide_eq_false h, Bool.false_or] at hr
   exact hr
 unfold aR.f nQ
 by_cases hh : 0 ≤ how ∧ how ≤ 3
 ·rw [if_pos hh]
  refine iG (σ := List ByteArray) (fun k out i => aR.l0 k d l pat how out i a pl) l.length (fun i out => out = ((l.take i).filter (qg how a pl d pat)).foldl jy []) (fun _ _ => Gl (l.filter (qg how a pl d pat))) (fun out ho => ?_) (fun i out hi ho => ?_) 0 [] (Nat.zero_le _) rfl
  ·rw [List.take_length] at ho
   rw [← au]
   simp only [aR.l0, Int.lt_irrefl, if_false]
   rw [ho]
   exact hend _ _
  ·have hlen : out.length ≤ i := by
    have h1 := qd ((l.take i).filter (qg how a pl d pat)) []
    have h2 := List.length_filter_le (qg how a pl d pat) (l.take i)
    rw [ho]
    simp only [List.length_nil, List.length_take] at h1 h2
    omega
   refine .inr ⟨if qg how a pl d pat l[i] = true then jy out l[i] else out, ?_, rfl, fun r hr => ?_⟩
   ·rw [GU _ l i hi, ← ho]
   ·have hr' := hj2 out (i : Int) l[i] (decide (Int.tmod how 2 = 0) || hasB d l[i] a) r (hj3 out i l[i] _ _ r (by omega) (by omega) hr)
    rw [← au]
    simp only [aR.l0, lV, Option.bind_some, decide_eq_true hh]
    rw [ep, ← au]
    simp only [aR.j1, if_true, lM ByteArray.empty l i hi]
    rw [ep, ep, aA]
    by_cases h : Int.tmod how 2 = 0
    ·rw [if_pos h]
     rw [decide_eq_true h, Bool.true_or] at hr'
     exact hr'
    ·rw [if_neg h, av (wU d l[i] a hd)]
     rw [decide_eq_false h, Bool.false_or] at hr'
     exact hr'
 ·rw [if_neg hh, ← au]
  simp only [aR.l0, lV, Option.bind_some, decide_eq_false hh]
  rw [aA]
  split
  ·exact hend _ _
  ·exact hend _ _
theorem CG (how a : Int) (pl : List bQ) (d : List S62) (pat w : ByteArray) (hh : 0 ≤ how ∧ how ≤ 3) (hp : pl.length < 4611686018427387904) (hd : d.length < 4611686018427387904) : Ev (fun k => aQ.g how k a pl d pat w) (qg how a pl d pat w) := by
 have hc : how = 0 ∨ how = 1 ∨ how = 2 ∨ how = 3 := by omega
 have f := rQ pat w
 have h := wJ d w a hd
 have m := Cy pl w hp
 unfold qg
 generalize qJ pat w = fb at *
 generalize hasB d w a = hb at *
 generalize mM pl w = mb at *
 rcases hc with rfl | rfl | rfl | rfl
 ·rw [show Int.tmod 0 2 = 0 by decide]
  simp only [aQ.g, aQ.g0, if_true]
  rw [av f, aA]
  cases fb <;> simp [dX]
 ·rw [show Int.tmod 1 2 = 1 by decide]
  simp only [aQ.g, aQ.g1, if_true, show ¬ (1 : Int) = 0 by decide, if_false]
  rw [av f, aA, av h, aA]
  cases fb <;> cases hb <;> simp [dX]
 ·rw [show Int.tmod 2 2 = 0 by decide]
  simp only [aQ.g, aQ.g2, if_true, show ¬ (2 : Int) = 0 by decide, show ¬ (2 : Int) = 1 by decide, if_false]
  rw [av f, aA, av m]
  cases fb <;> simp [dX]
 ·rw [show Int.tmod 3 2 = 1 by decide]
  simp only [aQ.g, aQ.g3, show ¬ (3 : Int) = 0 by decide, show ¬ (3 : Int) = 1 by decide, show ¬ (3 : Int) = 2 by decide, if_false]
  rw [av f, aA, av h, aA, av m]
  cases fb <;> cases hb <;> simp [dX]
theorem sK (a : Int) (pl : List bQ) (d : List S62) (l : List ByteArray) (pat : ByteArray) (how : Int) (hp : pl.length < 4611686018427387904) (hd : d.length < 4611686018427387904) (hl : l.length ≤ 8796093022208) : Ev (fun k => aQ.f k a pl d l pat how) (nQ how a pl d l pat) := by
 unfold aQ.f nQ
 simp only [lq, Option.bind_some, decide_eq_true_eq, aA]
 by_cases hh : 0 ≤ how ∧ how ≤ 3
 ·rw [if_pos hh, if_pos hh, av (CK l _ (qg how a pl d pat) hl (fun s _ => CG how a pl d pat s hh hp hd))]
  exact DX _ (Nat.le_trans (List.length_filter_le _ _) hl)
 ·rw [if_neg hh, if_neg hh]
  exact aI _
def Nb (R C : Int) (i j : Nat) : Prop := ∃ r c r' c' : Int, (0 ≤ r ∧ r < R) ∧ (0 ≤ c ∧ c < C) ∧ (0 ≤ r' ∧ r' < R) ∧ (0 ≤ c' ∧ c' < C) ∧ (i : Int) = r * C + c ∧ (j : Int) = r' * C + c' ∧ ((r' = r - 1 ∧ c' = c) ∨ (r' = r + 1 ∧ c' = c) ∨ (r' = r ∧ c' = c - 1) ∨ (r' = r ∧ c' = c + 1))
def Wh (s : ByteArray) (i : Nat) : Prop := bt s (i : Int) = 46
inductive pF (R C : Int) (s : ByteArray) (a : Nat) : Nat → Prop
 | refl : pF R C s a a
 | step {x y : Nat} : pF R C s a x → Nb R C x y → Wh s y → pF R C s a y
theorem pF.trans {R C : Int} {s : ByteArray} {a x y : Nat} (h1 : pF R C s a x) (h2 : pF R C s x y) : pF R C s a y := by
 induction h2 with
 | refl => exact h1
 | step _ hn hw ih => exact .step ih hn hw
theorem Gf {C r c r' c' : Int} (hc : 0 ≤ c ∧ c < C) (hc' : 0 ≤ c' ∧ c' < C) (h : r * C + c = r' * C + c') : r = r' ∧ c = c' := by
 have h1 : (r * C + c) / C = r := by rw [Int.add_comm, Int.add_mul_ediv_right _ _ (by omega), Int.ediv_eq_zero_of_lt hc.1 hc.2]; omega
 have h2 : (r' * C + c') / C = r' := by rw [Int.add_comm, Int.add_mul_ediv_right _ _ (by omega), Int.ediv_eq_zero_of_lt hc'.1 hc'.2]; omega
 have h3 : r = r' := by rw [← h1, h, h2]
 subst h3
 exact ⟨rfl, by omega⟩
theorem cell_of (C : Int) (i : Nat) : (i : Int) = ((i : Int) / C) * C + (i : Int) % C := by
 have := Int.mul_ediv_add_emod (i : Int) C
 rw [Int.mul_comm]
 omega
theorem Gg {R C : Int} {i : Nat} (hC : 0 < C) (hi : (i : Int) < R * C) : (0 ≤ (i : Int) / C ∧ (i : Int) / C < R) ∧ (0 ≤ (i : Int) % C ∧ (i : Int) % C < C) :=
 ⟨⟨Int.ediv_nonneg (by omega) (by omega), Int.ediv_lt_of_lt_mul hC hi⟩, Int.emod_nonneg _ (by omega), Int.emod_lt_of_pos _ hC⟩
theorem AX {R C r c : Int} (hr : 0 ≤ r ∧ r < R) (hc : 0 ≤ c ∧ c < C) : 0 ≤ r * C + c ∧ r * C + c < R * C := by
 have h1 : 0 ≤ r * C := Int.mul_nonneg hr.1 (by omega)
 have h2 : (r + 1) * C ≤ R * C := Int.mul_le_mul_of_nonneg_right (by omega) (by omega)
 rw [Int.add_mul] at h2
 omega
theorem Nb.lt {R C : Int} {i j : Nat} (h : Nb R C i j) : (j : Int) < R * C := by
 obtain ⟨r, c, r', c', _, _, h3, h4, _, e, _⟩ := h
 have := AX h3 h4
 omega
theorem Nb.symm {R C : Int} {i j : Nat} (h : Nb R C i j) : Nb R C j i := by
 obtain ⟨r, c, r', c', h1, h2, h3, h4, e1, e2, h5⟩ := h
 exact ⟨r', c', r, c, h3, h4, h1, h2, e2, e1, by omega⟩
def cnt (n : Nat) (d : Nat → Bool) : Nat := (List.range n).countP (fun j => !d j)
theorem cnt_mono {n : Nat} {d d' : Nat → Bool} (h : ∀ j, d j = true → d' j = true) : cnt n d' ≤ cnt n d := by
 refine List.countP_mono_left (fun j _ hj => ?_)
 have := h j
 revert hj this
 cases d j <;> cases d' j <;> simp
theorem cnt_lt {d d' : Nat → Bool} (h : ∀ j, d j = true → d' j = true) (i : Nat) (h0 : d i = false) (h1 : d' i = true) : ∀ n, i < n → cnt n d' < cnt n d := by
 intro n
 induction n with
 | zero => intro hi; omega
 | succ n ih =>
  intro hi
  unfold cnt at *
  rw [List.range_succ, List.countP_append, List.countP_append]
  by_cases e : i = n
  ·subst e
   have := cnt_mono (n := i) h
   unfold cnt at this
   simp [h0, h1]
   omega
  ·have h2 := ih (by omega)
   have h3 : List.countP (fun j => !d' j) [n] ≤ List.countP (fun j => !d j) [n] := by
    refine List.countP_mono_left (fun j _ hj => ?_)
    have := h j
    revert hj this
    cases d j <;> cases d' j <;> simp
   omega
theorem KR (d : Array Bool) (i j : Nat) (hi : i < d.size) : (d.setIfInBounds i true)[j]! = (decide (j = i) || d[j]!) := by
 simp only [getElem!_def, Array.getElem?_setIfInBounds]
 by_cases h : j = i
 ·subst h; simp [hi]
 ·rw [if_neg (by omega)]; simp [h]
def Kr (R C : Int) (s : ByteArray) (d : Array Bool) (r c : Int) (d' : Array Bool) : Prop :=
 d'.size = d.size ∧ (∀ j : Nat, d[j]! = true → d'[j]! = true) ∧ (∀ i : Nat, (0 ≤ r ∧ r < R) → (0 ≤ c ∧ c < C) → (i : Int) = r * C + c → Wh s i → d'[i]! = true) ∧
 ∀ j : Nat, d'[j]! = true → d[j]! = false → (∃ i : Nat, (0 ≤ r ∧ r < R) ∧ (0 ≤ c ∧ c < C) ∧ (i : Int) = r * C + c ∧ Wh s i ∧ pF R C s i j) ∧ ∀ y, Nb R C j y → Wh s y → d'[y]! = true
theorem Kr.from {R C : Int} {s : ByteArray} {d d' : Array Bool} {r c r1 c1 : Int} {i : Nat} (hr : 0 ≤ r ∧ r < R) (hc : 0 ≤ c ∧ c < C) (hi : (i : Int) = r * C + c) (hn : (r1 = r - 1 ∧ c1 = c) ∨ (r1 = r + 1 ∧ c1 = c) ∨ (r1 = r ∧ c1 = c - 1) ∨ (r1 = r ∧ c1 = c + 1)) (h : Kr R C s d r1 c1 d') :
  ∀ j : Nat, d'[j]! = true → d[j]! = false → pF R C s i j ∧ ∀ y, Nb R C j y → Wh s y → d'[y]! = true := by
 intro j h1 h2
 obtain ⟨⟨i1, a1, a2, a3, a4, a5⟩, h3⟩ := h.2.2.2 j h1 h2
 exact ⟨(pF.step .refl ⟨r, c, r1, c1, hr, hc, a1, a2, hi, a3, hn⟩ a4).trans a5, h3⟩
theorem KL {R C : Int} {s : ByteArray} (hs : (s.size : Int) = R * C) : ∀ (m : Nat) (d : Array Bool) (r c : Int), d.size = s.size → cnt s.size (fun j => d[j]!) < m → ∃ d', Ev (fun k => HandForm.dfs R C s k d r c) d' ∧ Kr R C s d r c d' := by
 intro m
 induction m with
 | zero => intro d r c _ h; omega
 | succ m ih =>
  intro d r c hd hm
  by_cases hstop : HandForm.qC R C s d r c = true
  ·refine ⟨d, ?_, rfl, fun _ h => h, fun i hr hc hi hw => ?_, fun j h1 h2 => by rw [h1] at h2; cases h2⟩
   ·rw [← au]
    simp only [HandForm.dfs, hstop, if_true]
    exact aI _
   ·unfold HandForm.qC at hstop
    unfold Wh at hw
    rw [if_pos hr, if_pos hc, ← hi, hw] at hstop
    simpa using hstop
  ·have hgo := hstop
   unfold HandForm.qC at hgo
   have hr : 0 ≤ r ∧ r < R := Decidable.byContradiction fun h => hgo (by rw [if_neg h])
   rw [if_pos hr] at hgo
   have hc : 0 ≤ c ∧ c < C := Decidable.byContradiction fun h => hgo (by rw [if_neg h])
   rw [if_pos hc] at hgo
   have hlt := AX hr hc
   obtain ⟨i, hi⟩ : ∃ i : Nat, (i : Int) = r * C + c := ⟨(r * C + c).toNat, by omega⟩
   rw [← hi] at hgo
   simp only [Int.toNat_natCast, Bool.or_eq_true, Bool.not_eq_true', beq_eq_false_iff_ne, not_or, Bool.not_eq_true, ne_eq, Decidable.not_not] at hgo
   obtain ⟨hdi, hwi⟩ := hgo
   have hid : i < d.size := by omega
   have hget := fun j => KR d i j hid
   have hd0 : (d.setIfInBounds i true).size = s.size := by rw [Array.size_setIfInBounds]; exact hd
   have hsub : ∀ j : Nat, d[j]! = true → (d.setIfInBounds i true)[j]! = true := fun j h => by rw [hget, h, Bool.or_true]
   have hc0 : cnt s.size (fun j => (d.setIfInBounds i true)[j]!) < m := by
    have := cnt_lt (d := fun j => d[j]!) (d' := fun j => (d.setIfInBounds i true)[j]!) hsub i hdi (by show (d.setIfInBounds i true)[i]! = true; rw [hget]; simp) s.size (by omega)
    omega
   obtain ⟨d1, e1, p1⟩ := ih (d.setIfInBounds i true) (r - 1) c hd0 hc0
   have c1 := Nat.lt_of_le_of_lt (cnt_mono (n := s.size) (d := fun j => (d.setIfInBounds i true)[j]!) (d' := fun j => d1[j]!) p1.2.1) hc0
   have z1 : d1.size = s.size := p1.1.trans hd0
   obtain ⟨d2, e2, p2⟩ := ih d1 (r + 1) c z1 c1
   have c2 := Nat.lt_of_le_of_lt (cnt_mono (n := s.size) (d := fun j => d1[j]!) (d' := fun j => d2[j]!) p2.2.1) c1
   have z2 : d2.size = s.size := p2.1.trans z1
   obtain ⟨d3, e3, p3⟩ := ih d2 r (c - 1) z2 c2
   have c3 := Nat.lt_of_le_of_lt (cnt_mono (n := s.size) (d := fun j => d2[j]!) (d' := fun j => d3[j]!) p3.2.1) c2
   have z3 : d3.size = s.size := p3.1.trans z2
   obtain ⟨d4, e4, p4⟩ := ih d3 r (c + 1) z3 c3
   have i4 : d4[i]! = true := p4.2.1 i (p3.2.1 i (p2.2.1 i (p1.2.1 i (by rw [hget]; simp))))
   have clI : ∀ y, Nb R C i y → Wh s y → d4[y]! = true := by
    rintro y ⟨r1, c1, r', c', b1, b2, b3, b4, q1, q2, q3⟩ hw
    obtain ⟨rfl, rfl⟩ := Gf b2 hc (q1.symm.trans hi)
    rcases q3 with ⟨rfl, rfl⟩ | ⟨rfl, rfl⟩ | ⟨rfl, rfl⟩ | ⟨rfl, rfl⟩
    ·exact p4.2.1 y (p3.2.1 y (p2.2.1 y (p1.2.2.1 y b3 b4 q2 hw)))
    ·exact p4.2.1 y (p3.2.1 y (p2.2.2.1 y b3 b4 q2 hw))
    ·exact p4.2.1 y (p3.2.2.1 y b3 b4 q2 hw)
    ·exact p4.2.2.1 y b3 b4 q2 hw
   refine ⟨d4, ?_, by rw [p4.1, z3, hd], fun j h => p4.2.1 j (p3.2.1 j (p2.2.1 j (p1.2.1 j (hsub j h)))), fun i' _ _ hi' _ => ?_, fun j h1 h2 => ?_⟩
   ·rw [← au]
    simp only [HandForm.dfs, hstop, Bool.false_eq_true, if_false, ← hi, Int.toNat_natCast]
    rw [av e1, av e2, av e3]
    exact e4
   ·rw [show i' = i by omega]; exact i4
   ·have : pF R C s i j ∧ ∀ y, Nb R C j y → Wh s y → d4[y]! = true := by
     cases h3 : d3[j]! with
     | false => exact p4.from hr hc hi (by omega) j h1 h3
     | true =>
      have up : (pF R C s i j ∧ ∀ y, Nb R C j y → Wh s y → d3[y]! = true) → pF R C s i j ∧ ∀ y, Nb R C j y → Wh s y → d4[y]! = true := fun q => ⟨q.1, fun y a b => p4.2.1 y (q.2 y a b)⟩
      cases h4 : d2[j]! with
      | false => exact up (p3.from hr hc hi (by omega) j h3 h4)
      | true =>
       have up2 : (pF R C s i j ∧ ∀ y, Nb R C j y → Wh s y → d2[y]! = true) → pF R C s i j ∧ ∀ y, Nb R C j y → Wh s y → d4[y]! = true := fun q => up ⟨q.1, fun y a b => p3.2.1 y (q.2 y a b)⟩
       cases h5 : d1[j]! with
       | false => exact up2 (p2.from hr hc hi (by omega) j h4 h5)
       | true =>
        cases h6 : (d.setIfInBounds i true)[j]! with
        | false =>
         have q := p1.from hr hc hi (by omega) j h5 h6
         exact up2 ⟨q.1, fun y a b => p2.2.1 y (q.2 y a b)⟩
        | true =>
         rw [hget, h2, Bool.or_false] at h6
         have := of_decide_eq_true h6
         subst this
         exact ⟨.refl, clI⟩
    exact ⟨⟨i, hr, hc, hi, hwi, this.1⟩, this.2⟩
def Met (R C : Int) (s : ByteArray) (i j : Nat) : Prop := ∃ a, a < i ∧ Wh s a ∧ pF R C s a j
theorem Met.closed {R C : Int} {s : ByteArray} {i x y : Nat} (h : Met R C s i x) (hn : Nb R C x y) (hw : Wh s y) : Met R C s i y := by
 obtain ⟨a, h1, h2, h3⟩ := h
 exact ⟨a, h1, h2, .step h3 hn hw⟩
theorem Met.succ {R C : Int} {s : ByteArray} {i j : Nat} : Met R C s (i + 1) j ↔ Met R C s i j ∨ (Wh s i ∧ pF R C s i j) := by
 constructor
 ·rintro ⟨a, h1, h2, h3⟩
  by_cases e : a = i
  ·subst e; exact .inr ⟨h2, h3⟩
  ·exact .inl ⟨a, by omega, h2, h3⟩
 ·rintro (⟨a, h1, h2, h3⟩ | ⟨h1, h2⟩)
  ·exact ⟨a, by omega, h2, h3⟩
  ·exact ⟨i, by omega, h1, h2⟩
theorem Met.same {R C : Int} {s : ByteArray} {i j : Nat} (h : Wh s i → Met R C s i i) : Met R C s (i + 1) j ↔ Met R C s i j := by
 rw [Met.succ]
 refine ⟨fun q => q.elim id (fun ⟨h1, h2⟩ => ?_), .inl⟩
 obtain ⟨a, a1, a2, a3⟩ := h h1
 exact ⟨a, a1, a2, a3.trans h2⟩
open Classical in
noncomputable def root (R C : Int) (s : ByteArray) (i : Nat) : Nat := if Wh s i ∧ ¬ Met R C s i i then 1 else 0
noncomputable def roots (R C : Int) (s : ByteArray) (i : Nat) : Nat := ((List.range' i (s.size - i)).map (root R C s)).sum
theorem Dp (R C : Int) (s : ByteArray) : roots R C s s.size = 0 := by simp [roots]
theorem Cc (R C : Int) (s : ByteArray) (i : Nat) (hi : i < s.size) : roots R C s i = root R C s i + roots R C s (i + 1) := by
 unfold roots
 rw [show s.size - i = (s.size - (i + 1)) + 1 by omega, List.range'_succ]
 simp
theorem EU {R C : Int} {s : ByteArray} {i : Nat} (h : Wh s i) (h' : ¬ Met R C s i i) : root R C s i = 1 := by unfold root; rw [if_pos ⟨h, h'⟩]
theorem Em {R C : Int} {s : ByteArray} {i : Nat} (h : Wh s i → Met R C s i i) : root R C s i = 0 := by unfold root; rw [if_neg (fun q => q.2 (h q.1))]
theorem JA {R C : Int} {s : ByteArray} (hs : (s.size : Int) = R * C) (hC : 0 < C) (d : Array Bool) (hd : d.size = s.size) (i : Nat) (hi : i < s.size) (hw : Wh s i) (hm : ∀ j : Nat, d[j]! = true ↔ Met R C s i j) :
  ∃ d', Ev (fun k => HandForm.dfs R C s k d ((i : Int) / C) ((i : Int) % C)) d' ∧ d'.size = s.size ∧ ∀ j : Nat, d'[j]! = true ↔ Met R C s (i + 1) j := by
 have hin := Gg hC (show (i : Int) < R * C by omega)
 have hof := cell_of C i
 obtain ⟨d', e, p1, p2, p3, p4⟩ := KL hs _ d ((i : Int) / C) ((i : Int) % C) hd (Nat.lt_succ_self _)
 refine ⟨d', e, p1.trans hd, fun j => ?_⟩
 rw [Met.succ, ← hm]
 constructor
 ·intro h
  cases h0 : d[j]! with
  | true => exact .inl rfl
  | false =>
   obtain ⟨⟨i', _, _, a3, _, a5⟩, _⟩ := p4 j h h0
   rw [show i' = i by omega] at a5
   exact .inr ⟨hw, a5⟩
 ·rintro (h | ⟨_, h⟩)
  ·exact p2 j h
  ·induction h with
   | refl => exact p3 i hin.1 hin.2 hof hw
   | step hx hn hwy ih =>
    rename_i x y
    cases h0 : d[x]! with
    | true => exact p2 y ((hm y).2 (((hm x).1 h0).closed hn hwy))
    | false => exact (p4 x ih h0).2 y hn hwy
theorem IV {R C : Int} {s : ByteArray} (hs : (s.size : Int) = R * C) (hC : 0 < C) : Ev (fun k => HandForm.parts R C s k (Array.replicate s.size false) 0 0) (roots R C s 0 : Int) := by
 have := iG (σ := Array Bool × Int) (fun k st i => HandForm.parts R C s k st.1 i st.2) s.size (fun i st => st.1.size = s.size ∧ ∀ j : Nat, st.1[j]! = true ↔ Met R C s i j) (fun i st => st.2 + (roots R C s i : Int)) (fun st hst => ?_) (fun i st hi hst => ?_) 0 (Array.replicate s.size false, 0) (Nat.zero_le _) ⟨by simp, fun j => ?_⟩
 ·simpa using this
 ·rw [Dp, ← au]
  simp only [HandForm.parts, Int.lt_irrefl, if_false]
  exact gP (aI _) (by simp)
 ·obtain ⟨hd, hm⟩ := hst
  have hrs := Cc R C s i hi
  by_cases hw : Wh s i
  ·cases h0 : st.1[i]! with
   | true =>
    refine .inr ⟨st, ⟨hd, fun j => ?_⟩, ?_, fun r hr => ?_⟩
    ·rw [hm, Met.same (fun _ => (hm i).1 h0)]
    ·rw [hrs, Em (fun _ => (hm i).1 h0)]; simp
    ·rw [← au]
     unfold Wh at hw
     simp only [HandForm.parts, Int.toNat_natCast, h0, if_true, hw]
     rw [ep]
     exact hr
   | false =>
    have hnm : ¬ Met R C s i i := fun q => by have := (hm i).2 q; rw [h0] at this; cases this
    obtain ⟨d', e, z, hm'⟩ := JA hs hC st.1 hd i hi hw hm
    refine .inr ⟨(d', st.2 + 1), ⟨z, hm'⟩, ?_, fun r hr => ?_⟩
    ·rw [hrs, EU hw hnm]; simp; omega
    ·rw [← au]
     unfold Wh at hw
     simp only [HandForm.parts, Int.toNat_natCast, h0, Bool.false_eq_true, if_false, if_true, hw]
     rw [ep, av e]
     exact hr
  ·refine .inr ⟨st, ⟨hd, fun j => ?_⟩, ?_, fun r hr => ?_⟩
   ·rw [hm, Met.same (fun h => absurd h hw)]
   ·rw [hrs, Em (fun h => absurd h hw)]; simp
   ·rw [← au]
    unfold Wh at hw
    simp only [HandForm.parts, hw, if_false]
    rw [ep]
    exact hr
 ·constructor
  ·intro h
   exfalso
   rw [getElem!_def, Array.getElem?_replicate] at h
   split at h <;> simp_all
  ·rintro ⟨a, h, _⟩
   omega
noncomputable def sO (R C : Int) (s : ByteArray) : Int := if dW R C s = true then (roots R C s 0 : Int) else 0
theorem Av (R C : Int) (s : ByteArray) : Ev (fun k => jU.f k R C s) (sO R C s) := by
 unfold jU.f sO
 rw [av (jL R C s), aA]
 split
 ·rename_i hg
  obtain ⟨_, h2, h3, _⟩ := jl hg
  exact IV h3 (by omega)
 ·exact aI _
theorem EO {R C : Int} {x : List Bool} (hC : 0 < C) (hx : (x.length : Int) = R * C) (y : Nat) (hy : y < x.length) : HandReach.tY C x (y : Int) = true ↔ ∃ a : Nat, Nb R C a y ∧ x.getD a false = true := by
 have hin := Gg hC (show (y : Int) < R * C by omega)
 have hof := cell_of C y
 unfold HandReach.tY
 constructor
 ·intro h
  simp only [Bool.or_eq_true, Bool.and_eq_true, decide_eq_true_eq] at h
  rcases h with ((⟨h1, h2⟩ | ⟨h1, h2⟩) | ⟨h1, h2⟩) | ⟨h1, h2⟩
  ·have h0 : 0 ≤ ((y : Int) / C) * C := Int.mul_nonneg hin.1.1 (by omega)
   exact ⟨((y : Int) - 1).toNat, ⟨(y : Int) / C, (y : Int) % C - 1, (y : Int) / C, (y : Int) % C, hin.1, by omega, hin.1, hin.2, by omega, hof, by omega⟩, h2⟩
  ·exact ⟨((y : Int) + 1).toNat, ⟨(y : Int) / C, (y : Int) % C + 1, (y : Int) / C, (y : Int) % C, hin.1, by omega, hin.1, hin.2, by omega, hof, by omega⟩, h2⟩
  ·have h3 : 1 ≤ (y : Int) / C := by
    refine Decidable.byContradiction fun q => ?_
    rw [show (y : Int) / C = 0 by omega] at hof
    omega
   have h4 : ((y : Int) / C - 1) * C = (y : Int) / C * C - C := by rw [Int.sub_mul, Int.one_mul]
   exact ⟨((y : Int) - C).toNat, ⟨(y : Int) / C - 1, (y : Int) % C, (y : Int) / C, (y : Int) % C, by omega, hin.2, hin.1, hin.2, by omega, hof, by omega⟩, h2⟩
  ·have h4 : ((y : Int) / C + 1) * C = (y : Int) / C * C + C := by rw [Int.add_mul, Int.one_mul]
   have h3 : (y : Int) / C + 1 < R := by
    refine Decidable.byContradiction fun q => ?_
    have : R * C ≤ ((y : Int) / C + 1) * C := Int.mul_le_mul_of_nonneg_right (by omega) (by omega)
    omega
   exact ⟨((y : Int) + C).toNat, ⟨(y : Int) / C + 1, (y : Int) % C, (y : Int) / C, (y : Int) % C, by omega, hin.2, hin.1, hin.2, by omega, hof, by omega⟩, h2⟩
 ·rintro ⟨a, ⟨r, c, r', c', b1, b2, b3, b4, q1, q2, q3⟩, h2⟩
  obtain ⟨e1, e2⟩ := Gf b4 hin.2 (q2.symm.trans hof)
  subst e1 e2
  have hat : ∀ z : Int, z = a → gJ false x z = true := fun z hz => by subst hz; exact h2
  simp only [Bool.or_eq_true, Bool.and_eq_true, decide_eq_true_eq]
  rcases q3 with ⟨e1, e2⟩ | ⟨e1, e2⟩ | ⟨e1, e2⟩ | ⟨e1, e2⟩
  ·have h4 : r * C = (y : Int) / C * C + C := by rw [show r = (y : Int) / C + 1 by omega, Int.add_mul, Int.one_mul]
   have h5 := AX b1 b2
   exact .inr ⟨by omega, hat _ (by omega)⟩
  ·have h4 : r * C = (y : Int) / C * C - C := by rw [show r = (y : Int) / C - 1 by omega, Int.sub_mul, Int.one_mul]
   have h5 := AX b1 b2
   exact .inl (.inr ⟨by omega, hat _ (by omega)⟩)
  ·subst e1
   exact .inl (.inl (.inr ⟨by omega, hat _ (by omega)⟩))
  ·subst e1
   exact .inl (.inl (.inl ⟨by omega, hat _ (by omega)⟩))
def Hy (R C : Int) (s : ByteArray) (x x' : List Bool) : Prop :=
 x'.length = x.length ∧ (∀ j : Nat, x.getD j false = true → x'.getD j false = true) ∧ (∀ a y : Nat, x'.getD a false = true → Nb R C a y → Wh s y → x'.getD y false = true) ∧ ∀ j : Nat, x'.getD j false = true → ∃ a, x.getD a false = true ∧ pF R C s a j
theorem Br (x : List Bool) (i j : Nat) (b : Bool) (hi : i < x.length) : (x.set i b).getD j false = if j = i then b else x.getD j false := by
 simp only [List.getD_eq_getElem?_getD, List.getElem?_set]
 by_cases h : j = i
 ·subst h; simp [hi]
 ·rw [if_neg (by omega), if_neg h]
theorem getD_lt {x : List Bool} {j : Nat} (h : x.getD j false = true) : j < x.length := by
 refine Decidable.byContradiction fun q => ?_
 rw [List.getD_eq_getElem?_getD, List.getElem?_eq_none (by omega)] at h
 cases h
theorem IZ {R C : Int} {s : ByteArray} (hs : (s.size : Int) = R * C) (hC : 0 < C) : ∀ (m : Nat) (x : List Bool), x.length = s.size → cnt s.size (fun j => x.getD j false) < m → ∃ x', Ev (fun k => HandReach.qj C s k x true) x' ∧ Hy R C s x x' := by
 intro m
 induction m with
 | zero => intro x _ h; omega
 | succ m ih =>
  have inner : ∀ (d i : Nat) (x : List Bool) (g : Bool), i + d = s.size → x.length = s.size → (g = true → cnt s.size (fun j => x.getD j false) < m) → (g = false → cnt s.size (fun j => x.getD j false) < m + 1 ∧ ∀ j, j < i → x.getD j false = true ∨ ¬ Wh s j ∨ HandReach.tY C x (j : Int) = false) →
    ∃ x', Ev (fun k => HandReach.nL C s k x g (i : Int)) x' ∧ Hy R C s x x' := by
   intro d
   induction d with
   | zero =>
    intro i x g hi hx h1 h2
    have hi' : i = s.size := by omega
    subst hi'
    have hlast : ∀ x', Ev (fun k => HandReach.qj C s k x g) x' → Ev (fun k => HandReach.nL C s k x g (s.size : Int)) x' := by
     intro x' hx'
     rw [← au]
     simp only [HandReach.nL]
     rw [en]
     exact hx'
    cases g with
    | true =>
     obtain ⟨x', e, p⟩ := ih x hx (h1 rfl)
     exact ⟨x', hlast x' e, p⟩
    | false =>
     refine ⟨x, hlast x ?_, rfl, fun _ h => h, fun a y ha hn hw => ?_, fun j h => ⟨j, h, .refl⟩⟩
     ·rw [← au]
      simp only [HandReach.qj, Bool.false_eq_true, if_false]
      exact aI _
     ·have hy : y < x.length := by have := hn.lt; omega
      rcases (h2 rfl).2 y (by omega) with h | h | h
      ·exact h
      ·exact absurd hw h
      ·rw [(EO hC (by omega) y hy).2 ⟨a, hn, ha⟩] at h
       cases h
   | succ d ihd =>
    intro i x g hi hx h1 h2
    have hil : i < x.length := by omega
    have hri : gJ false x (i : Int) = x.getD i false := rfl
    by_cases hb : x.getD i false = true ∨ ¬ Wh s i
    ·obtain ⟨x', e, p⟩ := ihd (i + 1) x g (by omega) hx h1 (fun hg => ⟨(h2 hg).1, fun j hj => by
      by_cases hji : j = i
      ·subst hji; exact hb.elim .inl (fun q => .inr (.inl q))
      ·exact (h2 hg).2 j (by omega)⟩)
     refine ⟨x', ?_, p⟩
     rw [← au]
     simp only [HandReach.nL, hri]
     rw [ep, aA, if_pos]
     ·exact e
     ·rcases hb with h | h
      ·rw [h, Bool.true_or]
      ·have : (bt s (i : Int) != 46) = true := bne_iff_ne.2 h
       rw [this, Bool.or_true]
    ·have hb1 : x.getD i false = false := by simpa using fun q => hb (.inl q)
     have hb2 : Wh s i := Classical.byContradiction fun q => hb (.inr q)
     have hcond : (x.getD i false || (bt s (i : Int) != 46)) = false := by rw [hb1, show bt s (i : Int) = 46 from hb2]; rfl
     by_cases hn : HandReach.tY C x (i : Int) = true
     ·have hset := fun j => Br x i j true hil
      have hsub : ∀ j : Nat, x.getD j false = true → (x.set i true).getD j false = true := fun j h => by
       rw [hset]; split
       ·rfl
       ·exact h
      have hcl : cnt s.size (fun j => (x.set i true).getD j false) < m := by
       have h3 := cnt_lt (d := fun j => x.getD j false) (d' := fun j => (x.set i true).getD j false) hsub i hb1 (by show (x.set i true).getD i false = true; rw [hset, if_pos rfl]) s.size (by omega)
       cases g with
       | true => have := h1 rfl; omega
       | false => have := (h2 rfl).1; omega
      obtain ⟨x', e, p1, p2, p3, p4⟩ := ihd (i + 1) (x.set i true) true (by omega) (by rw [List.length_set]; exact hx) (fun _ => hcl) (fun h => by cases h)
      refine ⟨x', ?_, by rw [p1, List.length_set], fun j h => p2 j (hsub j h), p3, fun j h => ?_⟩
      ·rw [← au]
       simp only [HandReach.nL, hri, hcond, Bool.false_eq_true, if_false, hn, if_true, Int.toNat_natCast]
       rw [ep]
       exact e
      ·obtain ⟨a, ha, hc⟩ := p4 j h
       rw [hset] at ha
       by_cases hai : a = i
       ·subst hai
        obtain ⟨b, hb1, hb3⟩ := (EO (R := R) hC (by omega) a hil).1 hn
        exact ⟨b, hb3, (pF.step .refl hb1 hb2).trans hc⟩
       ·rw [if_neg hai] at ha
        exact ⟨a, ha, hc⟩
     ·rw [Bool.not_eq_true] at hn
      obtain ⟨x', e, p⟩ := ihd (i + 1) x g (by omega) hx h1 (fun hg => ⟨(h2 hg).1, fun j hj => by
       by_cases hji : j = i
       ·subst hji; exact .inr (.inr hn)
       ·exact (h2 hg).2 j (by omega)⟩)
      refine ⟨x', ?_, p⟩
      rw [← au]
      simp only [HandReach.nL, hri, hcond, Bool.false_eq_true, if_false, hn]
      rw [ep]
      exact e
  intro x hx hm
  obtain ⟨x', e, p⟩ := inner s.size 0 x false (by omega) hx (fun h => by cases h) (fun _ => ⟨hm, fun j hj => by omega⟩)
  refine ⟨x', ?_, p⟩
  rw [← au]
  simp only [HandReach.qj, if_true]
  exact e
theorem FM {R C : Int} {s : ByteArray} (hg : dW R C s = true) (i : Nat) (hi : i < s.size) : ∃ x', Ev (fun k => ku.f k R C s (List.replicate s.size false) (i : Int)) x' ∧ x'.length = s.size ∧ ∀ j : Nat, x'.getD j false = true ↔ pF R C s i j := by
 obtain ⟨hR, hC, hs, _⟩ := jl hg
 have hl : (List.replicate s.size false).length = s.size := List.length_replicate
 have hset := fun j => Br (List.replicate s.size false) i j true (by omega)
 have hrep : ∀ j : Nat, (List.replicate s.size false).getD j false = false := fun j => by
  rw [List.getD_eq_getElem?_getD, List.getElem?_replicate]
  split <;> rfl
 obtain ⟨x', e, p1, p2, p3, p4⟩ := IZ hs (by omega) _ ((List.replicate s.size false).set i true) (by rw [List.length_set, hl]) (Nat.lt_succ_self _)
 refine ⟨x', ?_, by rw [p1, List.length_set, hl], fun j => ⟨fun h => ?_, fun h => ?_⟩⟩
 ·unfold ku.f HandReach.Ef
  rw [aA, if_pos ⟨hR, hC, hs, by omega, by omega, by omega⟩, Int.toNat_natCast]
  exact e
 ·obtain ⟨a, h1, h2⟩ := p4 j h
  rw [hset, hrep] at h1
  by_cases ha : a = i
  ·subst ha; exact h2
  ·rw [if_neg ha] at h1; cases h1
 ·induction h with
  | refl => exact p2 i (by rw [hset, if_pos rfl])
  | step hx hn hw ih => exact p3 _ _ ih hn hw
theorem Fq {R C : Int} {s : ByteArray} (n : Int) (x one : List Bool) (hx : x.length = s.size) (ho : one.length = s.size) (hsz : s.size ≤ 36) (i : Nat) (r : Int)
  (hr : ∀ x' : List Bool, x'.length = s.size → (∀ j : Nat, x'.getD j false = true ↔ x.getD j false = true ∨ one.getD j false = true) → Ev (fun k => aM.l1 k n x' (wrap64 ((i : Int) + 1)) R C s) r) : Ev (fun k => aM.l3 k n x (i : Int) one 0 R C s) r := by
 refine iG (σ := List Bool) (fun k a j => aM.l3 k n a (i : Int) one j R C s) s.size (fun t a => a.length = s.size ∧ ∀ j : Nat, a.getD j false = true ↔ x.getD j false = true ∨ (j < t ∧ one.getD j false = true)) (fun _ _ => r) (fun a ha => ?_) (fun t a ht ha => ?_) 0 x (Nat.zero_le _) ⟨hx, fun j => by simp⟩
 ·rw [← au]
  simp only [aM.l3]
  rw [en]
  refine hr a ha.1 (fun j => ?_)
  rw [ha.2]
  exact ⟨fun q => q.imp id (·.2), fun q => q.imp id (fun h => ⟨by have := getD_lt h; omega, h⟩)⟩
 ·have htl : t < a.length := by omega
  have hra : gJ false a (t : Int) = a.getD t false := rfl
  have hro : gJ false one (t : Int) = one.getD t false := rfl
  refine .inr ⟨a.set t (a.getD t false || one.getD t false), ⟨by rw [List.length_set]; exact ha.1, fun j => ?_⟩, rfl, fun r' hr' => ?_⟩
  ·rw [Br _ _ _ _ htl]
   by_cases hj : j = t
   ·subst hj
    rw [if_pos rfl, Bool.or_eq_true, ha.2]
    constructor
    ·rintro ((h | ⟨h, _⟩) | h)
     ·exact .inl h
     ·omega
     ·exact .inr ⟨by omega, h⟩
    ·rintro (h | ⟨_, h⟩)
     ·exact .inl (.inl h)
     ·exact .inr h
   ·rw [if_neg hj, ha.2]
    exact ⟨fun q => q.imp id (fun h => ⟨by omega, h.2⟩), fun q => q.imp id (fun h => ⟨by omega, h.2⟩)⟩
  ·rw [← au]
   simp only [aM.l3, hra, hro, bG (i := t) (by omega), Int.toNat_natCast]
   rw [ep, ep, aA]
   by_cases h : a.getD t false = true
   ·rw [if_pos h]
    rw [h, Bool.true_or] at hr'
    exact hr'
   ·rw [Bool.not_eq_true] at h
    rw [h, Bool.false_or] at hr'
    rw [if_neg (by rw [h]; exact Bool.false_ne_true), ep]
    exact hr'
theorem Fp {R C : Int} {s : ByteArray} (n : Int) (x : List Bool) (hx : x.length = s.size) (hsz : s.size ≤ 36) (i : Nat) (one : List Bool) (r : Int) (ho : Ev (fun k => ku.f k R C s (List.replicate s.size false) (i : Int)) one)
  (hr : Ev (fun k => aM.l3 k n x (i : Int) one 0 R C s) r) : Ev (fun k => aM.l2 k n x (i : Int) [] 0 R C s) r := by
 refine iG (σ := List Bool) (fun k a j => aM.l2 k n x (i : Int) a j R C s) s.size (fun t a => a = List.replicate t false) (fun _ _ => r) (fun a ha => ?_) (fun t a ht ha => .inr ⟨a ++ [false], ?_, rfl, fun r' hr' => ?_⟩) 0 [] (Nat.zero_le _) rfl
 ·subst ha
  rw [← au]
  simp only [aM.l2]
  rw [en, av ho]
  exact hr
 ·rw [ha, List.replicate_succ']
 ·have hal : a.length = t := by rw [ha, List.length_replicate]
  rw [← au]
  simp only [aM.l2, bG (i := t) (by omega)]
  rw [ep, ep]
  exact hr'
theorem Fj {R C : Int} {s : ByteArray} (hg : dW R C s = true) : Ev (fun k => aM.l1 k 0 (List.replicate s.size false) 0 R C s) (roots R C s 0 : Int) := by
 obtain ⟨hR, hC, hs, _⟩ := jl hg
 have hsz := gI hg
 have := iG (σ := List Bool × Int) (fun k st i => aM.l1 k st.2 st.1 i R C s) s.size (fun i st => (st.1.length = s.size ∧ 0 ≤ st.2 ∧ st.2 ≤ i) ∧ ∀ j : Nat, st.1.getD j false = true ↔ Met R C s i j) (fun i st => st.2 + (roots R C s i : Int)) (fun st hst => ?_) (fun i st hi hst => ?_) 0 (List.replicate s.size false, 0) (Nat.zero_le _) ⟨⟨by simp, by simp, by simp⟩, fun j => ?_⟩
 ·simpa using this
 ·rw [Dp, ← au]
  simp only [aM.l1, Int.lt_irrefl, if_false]
  rw [← au]
  simp only [aM.j2, Bool.false_eq_true, if_false]
  exact gP (aI _) (by simp)
 ·obtain ⟨⟨hx, hn0, hni⟩, hm⟩ := hst
  have hrs := Cc R C s i hi
  have hri : gJ false st.1 (i : Int) = st.1.getD i false := rfl
  have start : ∀ b : Bool, (if bt s (i : Int) = 46 then (!(st.1.getD i false)) else false) = b → ∀ r, Ev (fun k => aM.j3 k st.2 st.1 (i : Int) b R C s) r → Ev (fun k => aM.l1 k st.2 st.1 (i : Int) R C s) r := by
   intro b hb r hr
   rw [← au]
   simp only [aM.l1]
   rw [ep, av (iM R C s), hg, ← au]
   simp only [aM.j2, if_true, hri]
   rw [ep, ep, aA]
   by_cases hw : bt s (i : Int) = 46
   ·rw [if_pos hw] at hb ⊢
    rw [ep, hb]
    exact hr
   ·rw [if_neg hw] at hb ⊢
    rw [hb]
    exact hr
  have skip : (Wh s i → Met R C s i i) → (if bt s (i : Int) = 46 then (!(st.1.getD i false)) else false) = false → ∃ s' : List Bool × Int, ((s'.1.length = s.size ∧ 0 ≤ s'.2 ∧ s'.2 ≤ ((i + 1 : Nat) : Int)) ∧ ∀ j : Nat, s'.1.getD j false = true ↔ Met R C s (i + 1) j) ∧ st.2 + (roots R C s i : Int) = s'.2 + (roots R C s (i + 1) : Int) ∧ ∀ r, Ev (fun k => aM.l1 k s'.2 s'.1 ((i + 1 : Nat) : Int) R C s) r → Ev (fun k => aM.l1 k st.2 st.1 (i : Int) R C s) r := by
   intro h hb
   refine ⟨st, ⟨⟨hx, hn0, by omega⟩, fun j => ?_⟩, ?_, fun r hr => start false hb r ?_⟩
   ·rw [hm, Met.same h]
   ·rw [hrs, Em h]; simp
   ·rw [← au]
    simp only [aM.j3, Bool.false_eq_true, if_false, bG (i := i) (by omega)]
    exact hr
  by_cases hw : Wh s i
  ·cases h0 : st.1.getD i false with
   | true => exact .inr (skip (fun _ => (hm i).1 h0) (by unfold Wh at hw; rw [if_pos hw, h0]; rfl))
   | false =>
    have hnm : ¬ Met R C s i i := fun q => by have := (hm i).2 q; rw [h0] at this; cases this
    obtain ⟨one, e, z, hone⟩ := FM hg i hi
    obtain ⟨x', hx'⟩ : ∃ x' : List Bool, x'.length = s.size ∧ ∀ j : Nat, x'.getD j false = true ↔ st.1.getD j false = true ∨ one.getD j false = true := by
     refine ⟨(List.range s.size).map (fun j => st.1.getD j false || one.getD j false), by simp, fun j => ?_⟩
     by_cases hj : j < s.size
     ·rw [List.getD_eq_getElem?_getD, List.getElem?_map, List.getElem?_range hj]
      simp
     ·rw [List.getD_eq_getElem?_getD, List.getElem?_eq_none (by simp; omega)]
      constructor
      ·intro q
       cases q
      ·intro q
       rcases q with q | q
       ·have := getD_lt q; omega
       ·have := getD_lt q; omega
    have hsame : ∀ y : List Bool, y.length = s.size → (∀ j : Nat, y.getD j false = true ↔ st.1.getD j false = true ∨ one.getD j false = true) → y = x' := by
     intro y hy1 hy2
     refine List.ext_getElem (by omega) (fun j h1 h2 => ?_)
     have e1 : y.getD j false = y[j] := by simp [List.getD_eq_getElem?_getD, List.getElem?_eq_getElem h1]
     have e2 : x'.getD j false = x'[j] := by simp [List.getD_eq_getElem?_getD, List.getElem?_eq_getElem h2]
     rw [← e1, ← e2, Bool.eq_iff_iff, hy2, hx'.2]
    refine .inr ⟨(x', st.2 + 1), ⟨⟨hx'.1, by show 0 ≤ st.2 + 1; omega, by show st.2 + 1 ≤ _; omega⟩, fun j => ?_⟩, ?_, fun r hr => start true (by unfold Wh at hw; rw [if_pos hw, h0]; rfl) r ?_⟩
    ·rw [hx'.2, hm, hone, Met.succ]
     exact ⟨fun q => q.imp id (fun h => ⟨hw, h⟩), fun q => q.imp id (·.2)⟩
    ·rw [hrs, EU hw hnm]; simp; omega
    ·have e1 : wrap64 (st.2 + 1) = st.2 + 1 := jC (by omega) (by omega)
     rw [← au]
     simp only [aM.j3, if_true, e1]
     refine Fp _ _ hx hsz.2 i one r e (Fq _ _ one hx z hsz.2 i r (fun y hy1 hy2 => ?_))
     rw [hsame y hy1 hy2, bG (i := i) (by omega)]
     exact hr
  ·exact .inr (skip (fun h => absurd h hw) (by unfold Wh at hw; rw [if_neg hw]))
 ·constructor
  ·intro h
   exfalso
   rw [List.getD_eq_getElem?_getD, List.getElem?_replicate] at h
   split at h <;> simp at h
  ·rintro ⟨a, h, _⟩
   omega
theorem Bc {R C : Int} {s : ByteArray} (hsz : s.size < 140737488355328) (r : Int) (hr : Ev (fun k => aM.l1 k 0 (List.replicate s.size false) 0 R C s) r) : Ev (fun k => aM.f k R C s) r := by
 unfold aM.f
 refine iG (σ := List Bool) (fun k a j => aM.l0 k 0 a j R C s) s.size (fun t a => a = List.replicate t false) (fun _ _ => r) (fun a ha => ?_) (fun t a ht ha => .inr ⟨a ++ [false], ?_, rfl, fun r' hr' => ?_⟩) 0 [] (Nat.zero_le _) rfl
 ·subst ha
  rw [← au]
  simp only [aM.l0, Int.lt_irrefl, if_false]
  exact hr
 ·rw [ha, List.replicate_succ']
 ·have hal : a.length = t := by rw [ha, List.length_replicate]
  rw [← au]
  simp only [aM.l0, bG (i := t) (by omega)]
  rw [ep, ep]
  exact hr'
theorem AO (R C : Int) (s : ByteArray) (hsz : s.size < 140737488355328) : Ev (fun k => aM.f k R C s) (sO R C s) := by
 unfold sO
 split
 ·rename_i hg
  exact Bc hsz _ (Fj hg)
 ·rename_i hg
  rw [Bool.not_eq_true] at hg
  refine Bc hsz _ ?_
  have : Ev (fun k => aM.j2 k 0 (List.replicate s.size false) 0 false R C s) 0 := by
   rw [← au]
   simp only [aM.j2, Bool.false_eq_true, if_false]
   exact aI _
  rw [← au]
  simp only [aM.l1]
  rw [aA]
  split
  ·rw [av (iM R C s), hg]
   exact this
  ·exact this
def Jf (R C : Int) (s : ByteArray) : Bool := dW R C s && decide (AA s = s)
theorem wX {R C : Int} {s : ByteArray} (hg : dW R C s = true) : Ev (fun k => kr.f k R C s) (R, C, AA s) := by
 have := gI hg
 unfold kr.f
 rw [av (iM R C s), ep hg, av (oW s (by omega))]
 exact aI _
theorem wM {R C : Int} {s : ByteArray} (hg : dW R C s = true) : Ev (fun k => jY.f k R C s) (R, C, AA s) := by
 have := gI hg
 unfold jY.f
 rw [av (jL R C s), ep hg]
 simp only [oO s (by omega), Option.bind_some]
 exact aI _
theorem rW (R C : Int) (s : ByteArray) : Ev (fun k => eG.f k R C s) (Jf R C s) := by
 unfold eG.f Jf
 rw [av (iM R C s), aA]
 split
 ·rename_i hg
  rw [av (wX hg)]
  exact gP (aI _) (by simp [hg, jQ])
 ·rename_i hg
  exact gP (aI _) (by simp [hg])
theorem rR (R C : Int) (s : ByteArray) : Ev (fun k => eu.f k R C s) (Jf R C s) := by
 unfold eu.f Jf
 rw [av (jL R C s), aA]
 split
 ·rename_i hg
  rw [av (wM hg)]
  exact gP (aI _) (by simp [hg, jQ, eq_comm])
 ·rename_i hg
  exact gP (aI _) (by simp [hg])
theorem GD (l : List Int) (x : Int) (hl : l.length < 4611686018427387904) : Ev (fun k => cO.f k l x) (match l.findIdx? (fun y => decide (y = x)) with | some i => (i : Int) | none => -1) := by
 refine rF (fun k i => cO.l0 k l x (l.length : Int) i) l _ ?_ (fun i hi hp r hr => ?_) (fun i hi hp => ?_)
 ·rw [← au]; simp [cO.l0, aI]
 ·rw [← au]
  simp only [cO.l0, nJ l i hi, bG (i := i) (by omega)]
  rw [ep, ep, ep, en (fun e => of_decide_eq_false hp e.symm)]
  exact hr
 ·rw [← au]
  simp only [cO.l0, nJ l i hi]
  rw [ep, ep, ep, aA, if_pos (of_decide_eq_true hp).symm]
  exact aI _
theorem EB {α : Type} (l : List α) (p : α → Bool) : decide ((match l.findIdx? p with | some i => (i : Int) | none => -1) ≥ 0) = l.any p := by
 cases h : l.findIdx? p with
 | none =>
  have := List.findIdx?_eq_none_iff.1 h
  simp
  intro x hx
  simpa using this x hx
 | some i =>
  obtain ⟨h1, h2, _⟩ := List.findIdx?_eq_some_iff_getElem.1 h
  simp
  exact ⟨l[i], List.getElem_mem h1, h2⟩
theorem DK (l : List Int) (x : Int) (hl : l.length < 4611686018427387904) : Ev (fun k => gN.f k l x) (l.any (fun y => decide (y = x))) := by
 unfold gN.f
 rw [av (GD l x hl), EB]
 exact aI _
def Bu (C : Int) (c : Int) (x : S92) : Bool := (dK C x).any (fun y => decide (y = c))
noncomputable def nS (R C : Int) (s : ByteArray) (c : Int) : List Int := (List.range (aU R C s).length).flatMap (fun (i : Nat) => if ((aU R C s)[i]?).any (Bu C c) = true then [(i : Int)] else [])
theorem sF (R C : Int) (s : ByteArray) (c : Int) (i : Nat) : (((List.range (aU R C s).length).take i).flatMap (fun (i : Nat) => if ((aU R C s)[i]?).any (Bu C c) = true then [(i : Int)] else [])).length ≤ 72 := by
 have h1 := nN (fun i : Nat => if ((aU R C s)[i]?).any (Bu C c) = true then [(i : Int)] else []) 1 i (List.range (aU R C s).length) (fun x _ => by split <;> simp)
 have h2 := (fA R C s).2.2
 rw [List.length_range] at h1
 omega
theorem Ep (R C : Int) (s : ByteArray) (c : Int) : (((nS R C s c).length : Int) = 0) ↔ c ∉ ((aU R C s).map (dK C)).flatten := by
 have : ((nS R C s c).length : Int) = 0 ↔ nS R C s c = [] := by rw [← List.length_eq_zero_iff]; omega
 rw [this]
 unfold nS
 rw [List.flatMap_eq_nil_iff]
 simp only [List.mem_range, List.mem_flatten, List.mem_map]
 constructor
 ·rintro h ⟨l, ⟨x, hx, rfl⟩, hc⟩
  obtain ⟨i, hi, rfl⟩ := List.getElem_of_mem hx
  have := h i hi
  rw [if_pos] at this
  ·cases this
  ·rw [List.getElem?_eq_getElem hi]
   show Bu C c (aU R C s)[i] = true
   exact List.any_eq_true.2 ⟨c, hc, decide_eq_true rfl⟩
 ·intro h i hi
  rw [if_neg]
  rw [List.getElem?_eq_getElem hi]
  intro q
  obtain ⟨y, hy, e⟩ := List.any_eq_true.1 (show Bu C c (aU R C s)[i] = true from q)
  have := of_decide_eq_true e
  subst this
  exact h ⟨_, ⟨_, List.getElem_mem hi, rfl⟩, hy⟩
theorem oh (R C : Int) (s : ByteArray) (c : Int) : Ev (fun k => cK.f k R C s c) (nS R C s c) := by
 have hlen := (fA R C s).2.2
 have hlr : (List.range (aU R C s).length).length = (aU R C s).length := List.length_range
 unfold cK.f
 rw [av (jw R C s)]
 refine lX (fun k a i => cK.l0 k c a (aU R C s) i R C s) (List.range (aU R C s).length) (fun (i : Nat) => if ((aU R C s)[i]?).any (Bu C c) = true then [(i : Int)] else []) 0 (fun a => ?_) (fun i hi a ha r hr => ?_)
 ·rw [← au]; simp only [cK.l0, hlr, Int.lt_irrefl, if_false]; exact aI _
 ·have hb := sF R C s c i
  have hi' : i < (aU R C s).length := by omega
  have hm := List.getElem_mem hi'
  have hcl : (dK C (aU R C s)[i]).length < 4611686018427387904 := by rw [iL]; have := ((fA R C s).1 _ hm).2.2.2.1; omega
  rw [List.getElem_range, List.getElem?_eq_getElem hi'] at hr
  rw [← au]
  simp only [cK.l0, nK _ i hi', bG (i := i) (by omega)]
  rw [ep, ep, av (nZ _ hm), av (CZ _ c hcl), aA]
  by_cases h : (dK C (aU R C s)[i]).any (fun y => decide (y = c)) = true
  ·rw [if_pos (show Option.any (Bu C c) (some (aU R C s)[i]) = true from h)] at hr
   rw [if_pos h, ep]
   exact hr
  ·rw [if_neg (show ¬ Option.any (Bu C c) (some (aU R C s)[i]) = true from h), List.append_nil] at hr
   rw [if_neg h]
   exact hr
noncomputable def Ew (R C : Int) (s : ByteArray) (c : Int) : Bool := ((nS R C s c).length : Int) == 2
noncomputable def ow (R C : Int) (s : ByteArray) (x : S92) : Int := (((dK C x).countP (fun c => !Ew R C s c) : Nat) : Int)
theorem oZ (R C : Int) (s : ByteArray) (c : Int) : Ev (fun k => jP.f k R C s c) (Ew R C s c) := by
 unfold jP.f
 rw [av (oh R C s c)]
 exact aI _
theorem ou (R C : Int) (s : ByteArray) (i : Nat) (hi : i < (aU R C s).length) : Ev (fun k => dM.f k R C s (i : Int)) (ow R C s (aU R C s)[i]) := by
 have hlen := (fA R C s).2.2
 have hm := List.getElem_mem hi
 have ok := (fA R C s).1 _ hm
 have hcl := iL C (aU R C s)[i]
 have hok := ok.2.2.2.1
 have e : wrap64 (((aU R C s).length : Int) - 1) = (aU R C s).length - 1 := jC (by omega) (by omega)
 unfold dM.f
 rw [av (jw R C s)]
 simp only [lV, Option.bind_some, e, nK _ i hi]
 rw [ep (by simp; omega), ep, ep, av (nZ _ hm)]
 unfold ow
 generalize dK C (aU R C s)[i] = l at hcl
 have := iG (σ := Nat) (fun k a j => dM.l0 k l (a : Int) j R C s) l.length (fun j a => a ≤ j) (fun j a => ((a + (l.drop j).countP (fun c => !Ew R C s c) : Nat) : Int)) (fun a ha => ?_) (fun j a hj ha => ?_) 0 0 (Nat.zero_le _) (Nat.le_refl _)
 ·simpa using this
 ·rw [← au]
  simp only [dM.l0, List.drop_length, List.countP_nil, Nat.add_zero, Int.lt_irrefl, if_false]
  exact aI _
 ·rw [List.drop_eq_getElem_cons hj, List.countP_cons]
  have ew : wrap64 ((a : Int) + 1) = ((a + 1 : Nat) : Int) := bG (by omega)
  by_cases h : Ew R C s l[j] = true
  ·refine .inr ⟨a, by omega, by simp [h], fun r hr => ?_⟩
   rw [← au]
   simp only [dM.l0, nJ l j hj, bG (i := j) (by omega), ew]
   rw [ep, ep, av (oZ R C s l[j]), ep h]
   exact hr
  ·refine .inr ⟨a + 1, by omega, by simp [h]; omega, fun r hr => ?_⟩
   rw [← au]
   simp only [dM.l0, nJ l j hj, bG (i := j) (by omega), ew]
   rw [ep, ep, av (oZ R C s l[j]), en h]
   exact hr
theorem Fg (R C : Int) (s : ByteArray) (x : S92) (hx : x ∈ aU R C s) : 0 ≤ ow R C s x ∧ ow R C s x ≤ 6 := by
 have ok := (fA R C s).1 _ hx
 have h1 := iL C x
 have h2 := ok.2.2.2.1
 have h3 : (dK C x).countP (fun c => !Ew R C s c) ≤ (dK C x).length := List.countP_le_length
 unfold ow
 omega
theorem Aw (R C : Int) (s : ByteArray) (c : Int) : Ev (fun k => fU.f k R C s c) (nS R C s c) := by
 have hlen := (fA R C s).2.2
 have hlr : (List.range (aU R C s).length).length = (aU R C s).length := List.length_range
 have hll : ((aU R C s).map (dK C)).length = (aU R C s).length := List.length_map _
 unfold fU.f
 rw [av (ny R C s)]
 refine lX (fun k a i => fU.l0 k c a ((aU R C s).map (dK C)) (((aU R C s).map (dK C)).length : Int) i) (List.range (aU R C s).length) (fun (i : Nat) => if ((aU R C s)[i]?).any (Bu C c) = true then [(i : Int)] else []) 0 (fun a => ?_) (fun i hi a ha r hr => ?_)
 ·rw [← au]; simp only [fU.l0, hlr, hll, Int.lt_irrefl, if_false]; exact aI _
 ·have hb := sF R C s c i
  have hi' : i < (aU R C s).length := by omega
  have hm := List.getElem_mem hi'
  have hcl : (dK C (aU R C s)[i]).length < 4611686018427387904 := by rw [iL]; have := ((fA R C s).1 _ hm).2.2.2.1; omega
  have hL : ((aU R C s).map (dK C))[i]'(by omega) = dK C (aU R C s)[i] := List.getElem_map _
  rw [List.getElem_range, List.getElem?_eq_getElem hi'] at hr
  rw [← au]
  simp only [fU.l0, FI ((aU R C s).map (dK C)) i (by omega), hL, bG (i := i) (by omega)]
  rw [ep, ep, ep, av (DK _ c hcl), aA]
  by_cases h : (dK C (aU R C s)[i]).any (fun y => decide (y = c)) = true
  ·rw [if_pos (show Option.any (Bu C c) (some (aU R C s)[i]) = true from h)] at hr
   rw [if_pos h, ep]
   exact hr
  ·rw [if_neg (show ¬ Option.any (Bu C c) (some (aU R C s)[i]) = true from h), List.append_nil] at hr
   rw [if_neg h]
   exact hr
theorem oP (R C : Int) (s : ByteArray) (c : Int) : Ev (fun k => jK.f k R C s c) (Ew R C s c) := by
 unfold jK.f
 rw [av (Aw R C s c)]
 exact aI _
theorem oo (R C : Int) (s : ByteArray) (i : Nat) (hi : i < (aU R C s).length) : Ev (fun k => dL.f k R C s (i : Int)) (ow R C s (aU R C s)[i]) := by
 have hlen := (fA R C s).2.2
 have hm := List.getElem_mem hi
 have ok := (fA R C s).1 _ hm
 have hcl := iL C (aU R C s)[i]
 have hok := ok.2.2.2.1
 have hll : ((aU R C s).map (dK C)).length = (aU R C s).length := List.length_map _
 have hL : ((aU R C s).map (dK C))[i]'(by omega) = dK C (aU R C s)[i] := List.getElem_map _
 unfold dL.f
 rw [av (ny R C s)]
 simp only [at_eq, Option.bind_some, FI ((aU R C s).map (dK C)) i (by omega), hL]
 rw [ep (by simp; omega), ep, ep]
 unfold ow
 generalize dK C (aU R C s)[i] = l at hcl
 have := iG (σ := Nat) (fun k a j => dL.l0 k (a : Int) l (l.length : Int) j R C s) l.length (fun j a => a ≤ j) (fun j a => ((a + (l.drop j).countP (fun c => !Ew R C s c) : Nat) : Int)) (fun a ha => ?_) (fun j a hj ha => ?_) 0 0 (Nat.zero_le _) (Nat.le_refl _)
 ·simpa using this
 ·rw [← au]
  simp only [dL.l0, List.drop_length, List.countP_nil, Nat.add_zero, Int.lt_irrefl, if_false]
  exact aI _
 ·rw [List.drop_eq_getElem_cons hj, List.countP_cons]
  have ew : wrap64 ((a : Int) + 1) = ((a + 1 : Nat) : Int) := bG (by omega)
  by_cases h : Ew R C s l[j] = true
  ·refine .inr ⟨a, by omega, by simp [h], fun r hr => ?_⟩
   rw [← au]
   simp only [dL.l0, nJ l j hj, bG (i := j) (by omega), ew]
   rw [ep, ep, ep, av (oP R C s l[j]), ep h]
   exact hr
  ·refine .inr ⟨a + 1, by omega, by simp [h]; omega, fun r hr => ?_⟩
   rw [← au]
   simp only [dL.l0, nJ l j hj, bG (i := j) (by omega), ew]
   rw [ep, ep, ep, av (oP R C s l[j]), en h]
   exact hr
noncomputable def FQ (R C : Int) (s : ByteArray) : Bool := (aU R C s).any (fun x => decide (x.f3 < 3))
noncomputable def wQ (R C : Int) (s : ByteArray) : Bool := (aU R C s).any (fun x => decide (2 * ow R C s x > x.f3))
noncomputable def oH (R C : Int) (s : ByteArray) (c : Nat) : Bool := decide (bt s (c : Int) = 46) && decide (((nS R C s c).length : Int) = 0)
noncomputable def qK (R C : Int) (s : ByteArray) : Int :=
 if dW R C s = true then (if Jf R C s = true then (if (sO R C s == 1) = true then (if FQ R C s = true then 4 else if (wQ R C s || (List.range s.size).any (oH R C s)) = true then 5 else 0) else 3) else 2) else 1
theorem qA {R C : Int} {s : ByteArray} (hg : dW R C s = true) (c : Nat) (hc : c < s.size) : Ev (fun k => kS.f k R C s (c : Int)) (bt s (c : Int) == 46) := by
 have := gI hg
 have e : wrap64 ((s.size : Int) - 1) = s.size - 1 := jC (by omega) (by omega)
 unfold kS.f
 rw [av (iM R C s), ep hg]
 simp only [lV, Option.bind_some, e]
 rw [ep (by simp; omega), ep, ep]
 exact aI _
theorem Aa (R C : Int) (s : ByteArray) : Ev (fun k => fP.f k R C s) (FQ R C s) := by
 have hlen := (fA R C s).2.2
 unfold fP.f
 rw [av (jw R C s)]
 refine pQ (fun k i => fP.l0 k (aU R C s) i) (aU R C s) (fun x => decide (x.f3 < 3)) ?_ (fun i hi hp r hr => ?_) (fun i hi hp => ?_)
 ·rw [← au]; simp [fP.l0, aI]
 ·rw [← au]
  simp only [fP.l0, nK _ i hi, bG (i := i) (by omega)]
  rw [ep, ep, en (of_decide_eq_false hp)]
  exact hr
 ·rw [← au]
  simp only [fP.l0, nK _ i hi]
  rw [ep, ep, ep (of_decide_eq_true hp)]
  exact aI _
theorem wZ {R C : Int} {s : ByteArray} (hg : dW R C s = true) : Ev (fun k => bH.l1 k 0 R C s) ((List.range s.size).any (oH R C s)) := by
 have hsz := gI hg
 have hlr : (List.range s.size).length = s.size := List.length_range
 refine pQ (fun k i => bH.l1 k i R C s) (List.range s.size) (oH R C s) ?_ (fun i hi hp r hr => ?_) (fun i hi hp => ?_)
 ·rw [← au]; simp [bH.l1, aI]
 ·have hi' : i < s.size := by omega
  rw [List.getElem_range] at hp
  rw [← au]
  simp only [bH.l1, bG (i := i) (by omega)]
  rw [ep, av (qA hg i hi'), aA]
  unfold oH at hp
  by_cases h : bt s (i : Int) = 46
  ·rw [if_pos (by rw [h]; rfl), av (oh R C s i), aA, if_neg]
   ·exact hr
   ·simpa [h] using hp
  ·rw [if_neg (by simpa using h)]
   exact hr
 ·have hi' : i < s.size := by omega
  rw [List.getElem_range] at hp
  rw [← au]
  simp only [bH.l1, bG (i := i) (by omega)]
  unfold oH at hp
  rw [Bool.and_eq_true, decide_eq_true_eq, decide_eq_true_eq] at hp
  rw [ep, av (qA hg i hi'), ep (by rw [hp.1]; rfl), av (oh R C s i), ep hp.2]
  exact aI _
theorem Bo {α : Type} (l : List α) (p : α → Bool) (i : Nat) (h : i < l.length) : (l.drop i).any p = (p l[i] || (l.drop (i + 1)).any p) := by rw [List.drop_eq_getElem_cons h, List.any_cons]
theorem Io {α : Type} (l : List α) (p : α → Bool) (i : Nat) (h : i < l.length) : (l.drop i).all p = (p l[i] && (l.drop (i + 1)).all p) := by rw [List.drop_eq_getElem_cons h, List.all_cons]
theorem wY {R C : Int} {s : ByteArray} (hg : dW R C s = true) : Ev (fun k => bH.f k R C s) (wQ R C s || (List.range s.size).any (oH R C s)) := by
 have hlen := (fA R C s).2.2
 unfold bH.f
 rw [av (jw R C s)]
 have := nA (fun k i => bH.l0 k (aU R C s) i R C s) (aU R C s).length (fun i => ((aU R C s).drop i).any (fun x => decide (2 * ow R C s x > x.f3)) || (List.range s.size).any (oH R C s)) ?_ (fun i hi => ?_) 0 (Nat.zero_le _)
 ·simpa [wQ] using this
 ·rw [← au]
  simp only [bH.l0, Int.lt_irrefl, if_false, List.drop_length, List.any_nil, Bool.false_or]
  exact wZ hg
 ·have hu := Fg R C s _ (List.getElem_mem hi)
  have e2 : wrap64 (2 * ow R C s (aU R C s)[i]) = 2 * ow R C s (aU R C s)[i] := jC (by omega) (by omega)
  rw [Bo _ _ _ hi]
  by_cases h : 2 * ow R C s (aU R C s)[i] > (aU R C s)[i].f3
  ·refine .inl ?_
   rw [← au]
   simp only [bH.l0, nK _ i hi]
   rw [ep, av (ou R C s i hi), ep, ep (by rw [e2]; exact h)]
   exact gP (aI _) (by simp [h])
  ·refine .inr ⟨by simp [h], fun r hr => ?_⟩
   rw [← au]
   simp only [bH.l0, nK _ i hi, bG (i := i) (by omega)]
   rw [ep, av (ou R C s i hi), ep, en (by rw [e2]; exact h)]
   exact hr
theorem Ci (R C : Int) (s : ByteArray) (hs : s.size < 140737488355328) : Ev (fun k => lQ.f k R C s) (qK R C s) := by
 unfold lQ.f qK
 rw [av (iM R C s), aA]
 split
 ·rename_i hg
  rw [av (rW R C s), aA]
  split
  ·have hcon : Ev (fun k => ji.f k R C s) (sO R C s == 1) := by
    unfold ji.f
    rw [av (AO R C s hs)]
    exact aI _
   rw [av hcon, aA]
   split
   ·rw [av (Aa R C s), aA]
    split
    ·exact aI _
    ·rw [av (wY hg), aA]
     split <;> exact aI _
   ·exact aI _
  ·exact aI _
 ·exact aI _
theorem Cz {R C : Int} {s : ByteArray} (hg : dW R C s = true) : Ev (fun k => nH.f k R C s s) ((List.range s.size).any (oH R C s)) := by
 have hsz := gI hg
 obtain ⟨good, _, hlen⟩ := fA R C s
 have hlr : (List.range s.size).length = s.size := List.length_range
 have hcl : ∀ l ∈ (aU R C s).map (dK C), l.length ≤ 6 := by
  intro l hl
  obtain ⟨x, hx, rfl⟩ := List.mem_map.1 hl
  rw [iL]
  have := (good x hx).2.2.2.1
  omega
 have hfl : ((aU R C s).map (dK C)).flatten.length ≤ 6 * 72 := by
  have h1 := Bq (fun l : List Int => l) 6 ((aU R C s).map (dK C)) hcl
  rw [List.length_map] at h1
  rw [List.flatMap_id'] at h1
  have : 6 * (aU R C s).length ≤ 6 * 72 := Nat.mul_le_mul_left 6 hlen
  omega
 have hcells : ∀ c ∈ ((aU R C s).map (dK C)).flatten, 0 ≤ c ∧ c < 1000000 := by
  intro c hc
  obtain ⟨l, hl, hcl⟩ := List.mem_flatten.1 hc
  obtain ⟨x, hx, rfl⟩ := List.mem_map.1 hl
  have := wI (good x hx) c hcl
  omega
 unfold nH.f
 rw [av (ny R C s)]
 unfold HandAlone.DC
 rw [aA, if_pos ⟨by omega, by omega, by rw [List.length_map]; omega, hcells⟩]
 have hnil := fun c : Nat => Ep R C s (c : Int)
 generalize ((aU R C s).map (dK C)).flatten = S at hnil
 refine pQ (fun k i => HandAlone.oG eP.f S s s k i) (List.range s.size) (oH R C s) ?_ (fun i hi hp r hr => ?_) (fun i hi hp => ?_)
 ·rw [← au]; simp [HandAlone.oG, aI]
 ·rw [List.getElem_range] at hp
  rw [← au]
  simp only [HandAlone.oG]
  unfold oH at hp
  rw [ep, aA]
  by_cases h : bt s (i : Int) = 46
  ·rw [if_pos h, aA, if_pos]
   ·exact hr
   ·rw [h, decide_eq_true rfl, Bool.true_and, decide_eq_false_iff_not, hnil] at hp
    exact Classical.byContradiction hp
  ·rw [if_neg h]
   exact hr
 ·rw [List.getElem_range] at hp
  unfold oH at hp
  rw [Bool.and_eq_true, decide_eq_true_eq, decide_eq_true_eq, hnil] at hp
  rw [← au]
  simp only [HandAlone.oG]
  rw [ep, ep hp.1, en hp.2, ep]
  simp only [mU, hp.1, Option.bind_some]
  exact gP (aI _) rfl
theorem Bz {R C : Int} {s : ByteArray} (hg : dW R C s = true) : Ev (fun k => dI.l1 k (aU R C s) ((aU R C s).length : Int) 0 R C s) (if (wQ R C s || (List.range s.size).any (oH R C s)) = true then 5 else 0) := by
 have hlen := (fA R C s).2.2
 have := nA (fun k i => dI.l1 k (aU R C s) ((aU R C s).length : Int) i R C s) (aU R C s).length (fun i => if (((aU R C s).drop i).any (fun x => decide (2 * ow R C s x > x.f3)) || (List.range s.size).any (oH R C s)) = true then (5 : Int) else 0) ?_ (fun i hi => ?_) 0 (Nat.zero_le _)
 ·exact this
 ·rw [← au]
  simp only [dI.l1, Int.lt_irrefl, if_false, List.drop_length, List.any_nil, Bool.false_or]
  rw [av (Cz hg), aA]
  split <;> exact aI _
 ·have hu := Fg R C s _ (List.getElem_mem hi)
  have e2 : wrap64 (2 * ow R C s (aU R C s)[i]) = 2 * ow R C s (aU R C s)[i] := jC (by omega) (by omega)
  rw [Bo _ _ _ hi]
  by_cases h : 2 * ow R C s (aU R C s)[i] > (aU R C s)[i].f3
  ·refine .inl ?_
   rw [← au]
   simp only [dI.l1, nK _ i hi]
   rw [ep, ep, ep, av (oo R C s i hi), ep (by rw [e2]; exact h)]
   exact gP (aI _) (by simp [h])
  ·refine .inr ⟨by simp [h], fun r hr => ?_⟩
   rw [← au]
   simp only [dI.l1, nK _ i hi, bG (i := i) (by omega)]
   rw [ep, ep, ep, av (oo R C s i hi), en (by rw [e2]; exact h)]
   exact hr
theorem Bw {R C : Int} {s : ByteArray} (hg : dW R C s = true) : Ev (fun k => dI.l0 k (aU R C s) (aU R C s) ((aU R C s).length : Int) 0 R C s) (if FQ R C s = true then 4 else if (wQ R C s || (List.range s.size).any (oH R C s)) = true then 5 else 0) := by
 have hlen := (fA R C s).2.2
 have := nA (fun k i => dI.l0 k (aU R C s) (aU R C s) ((aU R C s).length : Int) i R C s) (aU R C s).length (fun i => if ((aU R C s).drop i).any (fun x => decide (x.f3 < 3)) = true then (4 : Int) else if (wQ R C s || (List.range s.size).any (oH R C s)) = true then 5 else 0) ?_ (fun i hi => ?_) 0 (Nat.zero_le _)
 ·exact this
 ·rw [← au]
  simp only [dI.l0, Int.lt_irrefl, if_false, List.drop_length, List.any_nil, Bool.false_eq_true]
  exact Bz hg
 ·rw [Bo _ _ _ hi]
  by_cases h : (aU R C s)[i].f3 < 3
  ·refine .inl ?_
   rw [← au]
   simp only [dI.l0, nK _ i hi]
   rw [ep, ep, ep, ep h]
   exact gP (aI _) (by simp [h])
  ·refine .inr ⟨by simp [h], fun r hr => ?_⟩
   rw [← au]
   simp only [dI.l0, nK _ i hi, bG (i := i) (by omega)]
   rw [ep, ep, ep, en h]
   exact hr
theorem Bv (R C : Int) (s : ByteArray) : Ev (fun k => dI.f k R C s) (qK R C s) := by
 unfold dI.f qK
 rw [av (jL R C s), aA]
 split
 ·rename_i hg
  rw [av (rR R C s), aA]
  split
  ·have hcon : Ev (fun k => jf.f k R C s) (sO R C s == 1) := by
    unfold jf.f
    rw [av (Av R C s)]
    exact aI _
   rw [av hcon, aA]
   split
   ·rw [av (nW R C s)]
    exact Bw hg
   ·exact aI _
  ·exact aI _
 ·exact aI _
noncomputable def oD (R C : Int) (s : ByteArray) (l : List S72) (q : List Int) (e : Int) : Bool :=
 decide (qK R C s = 0) && (decide ((l.length : Int) = ((aU R C s).length : Int)) && (decide ((q.length : Int) = ((aU R C s).length : Int)) && (decide (1 ≤ e ∧ e ≤ 9999) && l.all (fun x => lU x.f0 x.f1))))
theorem pq {R C : Int} {s : ByteArray} {l : List S72} {q : List Int} {e : Int} (h : oD R C s l q e = true) : qK R C s = 0 ∧ l.length = (aU R C s).length ∧ q.length = (aU R C s).length ∧ (1 ≤ e ∧ e ≤ 9999) ∧ ∀ x ∈ l, lU x.f0 x.f1 = true := by
 unfold oD at h
 simp only [Bool.and_eq_true, decide_eq_true_eq, List.all_eq_true] at h
 exact ⟨h.1, by have := h.2.1; omega, by have := h.2.2.1; omega, h.2.2.2.1, h.2.2.2.2⟩
theorem wW (R C : Int) (s : ByteArray) (l : List S72) (q : List Int) (e : Int) (hs : s.size < 140737488355328) (hl : l.length < 4611686018427387904) (hx : ∀ x ∈ l, x.f1.length < 4611686018427387904) : Ev (fun k => eX.f k R C s l q e) (oD R C s l q e) := by
 unfold eX.f
 have key : ∀ b : Bool, b = l.all (fun x => lU x.f0 x.f1) → Ev (fun k => eX.f k R C s l q e) (if b = true then (decide (qK R C s = 0) && (decide ((l.length : Int) = ((aU R C s).length : Int)) && (decide ((q.length : Int) = ((aU R C s).length : Int)) && decide (1 ≤ e ∧ e ≤ 9999)))) else false) := by
  intro b hb
  subst hb
  unfold eX.f
  have := nA (fun k i => eX.l0 k i R C s l q e) l.length (fun i => if (l.drop i).all (fun x => lU x.f0 x.f1) = true then (decide (qK R C s = 0) && (decide ((l.length : Int) = ((aU R C s).length : Int)) && (decide ((q.length : Int) = ((aU R C s).length : Int)) && decide (1 ≤ e ∧ e ≤ 9999)))) else false) ?_ (fun i hi => ?_) 0 (Nat.zero_le _)
  ·exact this
  ·rw [← au]
   simp only [eX.l0, Int.lt_irrefl, if_false, List.drop_length, List.all_nil, if_true, lV, Option.bind_some]
   rw [av (jw R C s), av (Ci R C s hs), aA]
   by_cases h1 : qK R C s = 0
   ·rw [if_pos h1, aA]
    by_cases h2 : (l.length : Int) = ((aU R C s).length : Int)
    ·rw [if_pos h2, aA]
     by_cases h3 : (q.length : Int) = ((aU R C s).length : Int)
     ·rw [if_pos h3]
      exact gP (aI _) (by rw [decide_eq_true h1, decide_eq_true h2, decide_eq_true h3]; rfl)
     ·rw [if_neg h3]
      exact gP (aI _) (by rw [decide_eq_false h3, Bool.false_and, Bool.and_false, Bool.and_false])
    ·rw [if_neg h2]
     exact gP (aI _) (by rw [decide_eq_false h2, Bool.false_and, Bool.and_false])
   ·rw [if_neg h1]
    exact gP (aI _) (by rw [decide_eq_false h1, Bool.false_and])
  ·have hc := Ck l[i].f0 l[i].f1 (hx _ (List.getElem_mem hi))
   rw [Io _ _ _ hi]
   by_cases h : lU l[i].f0 l[i].f1 = true
   ·refine .inr ⟨by simp only [h, Bool.true_and], fun r hr => ?_⟩
    rw [← au]
    simp only [eX.l0, qh _ i hi, bG (i := i) (by omega)]
    rw [ep, ep, av hc, ep h]
    exact hr
   ·refine .inl ?_
    rw [← au]
    simp only [eX.l0, qh _ i hi]
    rw [ep, ep, av hc, en h]
    exact gP (aI _) (by simp only [h, Bool.false_and, Bool.false_eq_true, if_false])
 refine gP (key _ rfl) ?_
 unfold oD
 cases l.all (fun x => lU x.f0 x.f1) <;> simp
theorem EP (l : List S72) (x : ByteArray) (hl : l.length < 4611686018427387904) (hx : ∀ x ∈ l, x.f1.length < 4611686018427387904) : Ev (fun k => kP.f k l x) (l.any (fun x => !lU x.f0 x.f1)) := by
 have hi : Ev (fun k => gq.f k l x) (match l.findIdx? (fun x => !lU x.f0 x.f1) with | some i => (i : Int) | none => -1) := by
  have h1 : ∀ i (hi : i < l.length), Ev (fun k => jr.f k l[i].f0 l[i].f1) (!lU l[i].f0 l[i].f1) := by
   intro i hi
   unfold jr.f
   rw [av (BD _ _ (hx _ (List.getElem_mem hi)))]
   exact aI _
  refine rF (fun k i => gq.l0 k l (l.length : Int) i) l _ ?_ (fun i hi hp r hr => ?_) (fun i hi hp => ?_)
  ·rw [← au]; simp [gq.l0, aI]
  ·rw [← au]
   simp only [gq.l0, qh _ i hi, bG (i := i) (by omega)]
   rw [ep, ep, ep, av (h1 i hi), en (by rw [hp]; exact Bool.false_ne_true)]
   exact hr
  ·rw [← au]
   simp only [gq.l0, qh _ i hi]
   rw [ep, ep, ep, av (h1 i hi), ep hp]
   exact aI _
 unfold kP.f
 rw [av hi, EB]
 exact aI _
theorem wL (R C : Int) (s : ByteArray) (l : List S72) (q : List Int) (e : Int) (hl : l.length < 4611686018427387904) (hx : ∀ x ∈ l, x.f1.length < 4611686018427387904) : Ev (fun k => jX.f k R C s l q e) (oD R C s l q e) := by
 unfold jX.f oD
 rw [av (Bv R C s), aA]
 by_cases h1 : qK R C s = 0
 ·rw [if_pos h1, av (nW R C s), aA, decide_eq_true h1, Bool.true_and]
  by_cases h2 : (l.length : Int) = ((aU R C s).length : Int)
  ·rw [if_pos h2, aA, decide_eq_true h2, Bool.true_and]
   by_cases h3 : (q.length : Int) = ((aU R C s).length : Int)
   ·rw [if_pos h3, decide_eq_true h3, Bool.true_and]
    simp only [lq, Option.bind_some]
    rw [aA]
    by_cases h4 : 1 ≤ e ∧ e ≤ 9999
    ·rw [if_pos (by simpa using h4), av (EP l _ hl hx), decide_eq_true h4, Bool.true_and]
     exact gP (aI _) (by rw [List.not_any_eq_all_not]; simp)
    ·rw [if_neg (by simpa using h4), decide_eq_false h4, Bool.false_and]
     exact aI _
   ·rw [if_neg h3, decide_eq_false h3, Bool.false_and]
    exact aI _
  ·rw [if_neg h2, decide_eq_false h2, Bool.false_and]
   exact aI _
 ·rw [if_neg h1, decide_eq_false h1, Bool.false_and]
  exact aI _
def KP (l : List Int) : Prop := ∀ c ∈ l, 0 ≤ c ∧ c ≤ 255
theorem tJ (l : List Int) (h : KP l) : bytesOf (strOfNums l) = l := by
 unfold bytesOf
 rw [strOfNums_data, List.map_map]
 have : ∀ c ∈ l, ((fun c : UInt8 => (c.toNat : Int)) ∘ fun n : Int => UInt8.ofNat n.toNat) c = c := by
  intro c hc
  have := h c hc
  simp only [Function.comp_apply, UInt8.toNat_ofNat']
  omega
 conv => rhs; rw [← List.map_id l]
 exact List.map_congr_left (fun c hc => by rw [this c hc]; rfl)
theorem Gd (s : ByteArray) (j : Nat) : bt s (j : Int) = (bytesOf s).getD j 0 := by rw [← BX]; rfl
theorem evP {α : Type} {c : Prop} [Decidable c] {f g : Nat → Option α} {r : α} (h : c) : Ev (fun k => if c then f k else g k) r ↔ Ev f r := by rw [ep h]
theorem evN {α : Type} {c : Prop} [Decidable c] {f g : Nat → Option α} {r : α} (h : ¬ c) : Ev (fun k => if c then f k else g k) r ↔ Ev g r := by rw [en h]
def iY (R C : Int) (s : ByteArray) : ByteArray := if dW R C s = true then strOfNums ((bytesOf s).map (fun c => if c = 35 then 35 else 63)) else (⟨#[]⟩ : ByteArray)
theorem tL {R C : Int} {s : ByteArray} (h : dW R C s = true) : bytesOf (iY R C s) = (bytesOf s).map (fun c => if c = 35 then 35 else 63) := by
 unfold iY
 rw [if_pos h]
 refine tJ _ ?_
 intro c hc
 obtain ⟨x, _, rfl⟩ := List.mem_map.mp hc
 split <;> omega
theorem Ae {R C : Int} {s : ByteArray} (h : dW R C s = true) : lg R C s (iY R C s) = true := by
 have hb := tL h
 have hl : (iY R C s).size = s.size := by rw [← bytesOf_length, hb, List.length_map, bytesOf_length]
 unfold lg
 rw [h, Bool.true_and, Bool.and_eq_true, List.all_eq_true]
 refine ⟨decide_eq_true hl, fun i hi => ?_⟩
 have hi' := List.mem_range.1 hi
 have hbs : i < (bytesOf s).length := by rw [bytesOf_length]; omega
 have e : bt (iY R C s) (i : Int) = if bt s (i : Int) = 35 then 35 else 63 := by
  rw [Gd, Gd, hb]
  simp only [List.getD_eq_getElem?_getD, List.getElem?_map, List.getElem?_eq_getElem hbs, Option.map_some, Option.getD_some]
 have hc := DV h i (by omega)
 unfold nV
 rw [e]
 refine decide_eq_true ?_
 rcases hc with q | q <;> rw [q] <;> simp
theorem JY (a b : List Int) : strOfNums (a ++ b) = strOfNums a ++ strOfNums b := by
 apply ByteArray.ext
 rw [ByteArray.data_append]
 apply Array.ext'
 rw [Array.toList_append]
 show List.map (fun n : Int => UInt8.ofNat n.toNat) (a ++ b) = List.map (fun n : Int => UInt8.ofNat n.toNat) a ++ List.map (fun n : Int => UInt8.ofNat n.toNat) b
 exact List.map_append
theorem wE (R C : Int) (s : ByteArray) : Ev (fun k => bU.f k R C s) (iY R C s) := by
 unfold bU.f
 have hg := iM R C s
 have hstop : ∀ (t : ByteArray) (i : Int), Ev (fun k => bU.j1 k t i false R C s) t := by
  intro t i
  rw [← au]
  simp only [bU.j1, Bool.false_eq_true, if_false]
  exact aI _
 by_cases hp : dW R C s = true
 ·have hsz := gI hp
  rw [hp] at hg
  have e0 : iY R C s = strOfNums ((bytesOf s).map (fun c => if c = 35 then 35 else 63)) := by unfold iY; rw [if_pos hp]
  have key := iG (σ := ByteArray) (fun k t i => bU.l0 k t i R C s) s.size (fun i t => t = strOfNums (((bytesOf s).take i).map (fun c => if c = 35 then 35 else 63))) (fun _ _ => iY R C s)
   (fun t ht => by
    rw [List.take_of_length_le (by rw [bytesOf_length]; omega)] at ht
    rw [← au]
    simp only [bU.l0]
    rw [evN (by omega), e0, ← ht]
    exact hstop _ _)
   (fun i t hi ht => by
    have hib : i < (bytesOf s).length := by rw [bytesOf_length]; exact hi
    have hts : t.size = i := by rw [ht, strOfNums_size, List.length_map, List.length_take]; omega
    have hbt : bt s (i : Int) = (bytesOf s)[i] := mK s i hi
    refine .inr ⟨strOfNums (((bytesOf s).take (i + 1)).map (fun c => if c = 35 then 35 else 63)), rfl, rfl, fun r hr => ?_⟩
    rw [List.take_succ_eq_append_getElem hib, List.map_append, JY, ← ht] at hr
    rw [← au]
    simp only [bU.l0]
    rw [evP (by omega), av hg, ← au]
    simp only [bU.j1]
    rw [evP trivial, evP (by omega), evP (by omega), hbt]
    by_cases h35 : (bytesOf s)[i] = 35
    ·rw [evP h35, evP (by omega), bG (by omega)]
     simp only [List.map_cons, List.map_nil, h35, if_true] at hr
     exact hr
    ·rw [evN h35, evP (by omega), bG (by omega)]
     simp only [List.map_cons, List.map_nil, if_neg h35] at hr
     exact hr) 0 (⟨#[]⟩ : ByteArray) (Nat.zero_le _) rfl
  exact key
 ·have e0 : iY R C s = (⟨#[]⟩ : ByteArray) := by unfold iY; rw [if_neg hp]
  rw [Bool.eq_false_iff.mpr hp] at hg
  rw [e0, ← au]
  simp only [bU.l0]
  by_cases h : (0 : Int) < (s.size : Int)
  ·rw [evP h, av hg]
   exact hstop _ _
  ·rw [evN h]
   exact hstop _ _
theorem tO (R C : Int) (s : ByteArray) : Ev (fun k => jJ.f k R C s) (iY R C s) := by
 unfold jJ.f
 rw [av (jL R C s)]
 by_cases hp : dW R C s = true
 ·have hsz := gI hp
  have hc := (jl hp).2.2.2
  have e : (⟨(HandRepl.pE 46 63 s.data.toList).toArray⟩ : ByteArray) = iY R C s := by
   refine bytes_inj ?_
   rw [tL hp]
   unfold bytesOf HandRepl.pE
   simp only [List.map_map]
   refine List.map_congr_left (fun c hm => ?_)
   have hcc := hc (c.toNat : Int) (List.mem_map.mpr ⟨c, hm, rfl⟩)
   simp only [Function.comp]
   by_cases h46 : c = 46
   ·subst h46
    rfl
   ·have h35 : c.toNat = 35 := by
     rcases hcc with q | q
     ·omega
     ·exact absurd (UInt8.toNat_inj.mp (show c.toNat = (46 : UInt8).toNat by show c.toNat = 46; omega)) h46
    unfold HandRepl.Je
    rw [if_neg h46, if_pos (show (c.toNat : Int) = 35 by omega)]
    omega
  rw [evP hp]
  unfold strings_ReplaceAll.f
  rw [if_pos ⟨rfl, rfl, by omega⟩, e]
  exact aI _
 ·have e0 : iY R C s = (⟨#[]⟩ : ByteArray) := by unfold iY; rw [if_neg hp]
  rw [evN hp, e0]
  exact aI _
theorem BM {β : Type} (L : Nat → Int → Int → Option Int) (xs : List β) (wd : β → Nat) (B : Int)
  (hend : ∀ b, Ev (fun k => L k b (xs.length : Int)) b)
  (hstep : ∀ i (h : i < xs.length) (b : Int), 0 ≤ b → b ≤ B → Ev (fun k => L k b (i : Int)) (-1) ∨ ∃ b', 0 ≤ b' ∧ b' + wd xs[i] ≤ b ∧ ∀ r, Ev (fun k => L k b' ((i + 1 : Nat) : Int)) r → Ev (fun k => L k b (i : Int)) r) :
  ∀ a, 0 ≤ a → a ≤ B → ∃ r, Ev (fun k => L k a 0) r ∧ r ≤ B ∧ (0 ≤ r → r + jd wd xs ≤ a) := by
 have key : ∀ (d i : Nat) (b : Int), i + d = xs.length → 0 ≤ b → b ≤ B → ∃ r, Ev (fun k => L k b (i : Int)) r ∧ r ≤ B ∧ (0 ≤ r → r + jd wd (xs.drop i) ≤ b) := by
  intro d
  induction d with
  | zero =>
   intro i b hi _ hb
   have : i = xs.length := by omega
   subst this
   exact ⟨b, hend b, hb, fun _ => by rw [List.drop_length]; simp [jd]⟩
  | succ d ih =>
   intro i b hi hb hb'
   rcases hstep i (by omega) b hb hb' with h | ⟨b', h1, h2, h3⟩
   ·exact ⟨-1, h, by omega, fun h => by omega⟩
   ·obtain ⟨r, hr, hrb, hrs⟩ := ih (i + 1) b' (by omega) h1 (by omega)
    refine ⟨r, h3 r hr, hrb, fun h0 => ?_⟩
    rw [List.drop_eq_getElem_cons (show i < xs.length by omega)]
    have := hrs h0
    simp only [jd]
    omega
 intro a h0 h1
 simpa using key xs.length 0 a (by omega) h0 h1
theorem Fa (l : List nE) (hl : l.length < 4611686018427387904) (hs : ∀ x ∈ l, x.f1.size ≤ 140737488351232) (a : Int) (ha : 0 ≤ a) (ha' : a ≤ 1048576) : ∃ r, Ev (fun k => gB.f k l a) r ∧ r ≤ 1048576 ∧ (0 ≤ r → r + l.length ≤ a) := by
 unfold gB.f
 have w1 : wrap64 (a - (l.length : Int)) = a - l.length := jC (by omega) (by omega)
 simp only [aA, dX, w1]
 by_cases h : a - (l.length : Int) < 0
 ·exact ⟨-1, by simp [h]⟩
 ·simp only [h, if_false]
  obtain ⟨r, hr, hrb, hrs⟩ := BM (fun k b i => gB.l0 k l b i) l (fun _ => 0) 1048576 (fun b => by
    rw [← au]
    simp only [gB.l0]
    rw [en]
    exact aI _) (fun i hi b hb hb' => by
    have hsz := hs _ (List.getElem_mem hi)
    have w3 : wrap64 (b - (l[i].f1.size : Int)) = b - l[i].f1.size := jC (by omega) (by omega)
    by_cases h2 : b - (l[i].f1.size : Int) < 0
    ·refine .inl ?_
     rw [← au]
     simp only [gB.l0, lI.f, Ee l i hi, bG (i := i) (by omega), w3, if_pos h2, Option.bind_some]
     simp [aA, dX, hi]
    ·refine .inr ⟨b - l[i].f1.size, by omega, by show _ + ((0 : Nat) : Int) ≤ _; omega, fun r hr => ?_⟩
     rw [← au]
     simp only [gB.l0, lI.f, Ee l i hi, bG (i := i) (by omega), w3, if_neg h2, Option.bind_some]
     rw [ep, ep]
     exact hr) (a - l.length) (by omega) (by omega)
  exact ⟨r, hr, hrb, fun h0 => by have := hrs h0; omega⟩
theorem FV (a0 : Int) (l : List nE) (hl : l.length < 4611686018427387904) (hs : ∀ x ∈ l, x.f1.size ≤ 140737488351232) (a : Int) (ha : 0 ≤ a) (ha' : a ≤ 1048576) : ∃ r, Ev (fun k => lF.f k a0 l a) r ∧ r ≤ 1048576 ∧ (0 ≤ r → r + l.length ≤ a) := by
 obtain ⟨r, hr, hb, hc⟩ := Fa l hl hs a ha ha'
 unfold lF.f
 by_cases h : r < 0
 ·exact ⟨-1, by rw [av hr, ep h]; exact aI _, by omega, fun h => by omega⟩
 ·exact ⟨r, by rw [av hr, en h]; exact aI _, hb, hc⟩
theorem EZ (l : List S81) (hl : l.length < 4611686018427387904) (hs : ∀ x ∈ l, x.f1.length < 4611686018427387904 ∧ ∀ y ∈ x.f1, y.f1.size ≤ 140737488351232) (a : Int) (ha : 0 ≤ a) (ha' : a ≤ 1048576) : ∃ r, Ev (fun k => gy.f k l a) r ∧ r ≤ 1048576 ∧ (0 ≤ r → r + l.length + jd (fun x => x.f1.length) l ≤ a) := by
 unfold gy.f
 have w1 : wrap64 (a - (l.length : Int)) = a - l.length := jC (by omega) (by omega)
 simp only [aA, dX, w1]
 by_cases h : a - (l.length : Int) < 0
 ·exact ⟨-1, by simp [h]⟩
 ·simp only [h, if_false]
  obtain ⟨r, hr, hrb, hrs⟩ := BM (fun k b i => gy.l0 k l b i) l (fun x => x.f1.length) 1048576 (fun b => by
    rw [← au]
    simp only [gy.l0]
    rw [en]
    exact aI _) (fun i hi b hb hb' => by
    have hsz := hs _ (List.getElem_mem hi)
    obtain ⟨r, hr, hrb, hrs⟩ := FV l[i].f0 l[i].f1 hsz.1 hsz.2 b hb hb'
    by_cases h2 : r < 0
    ·refine .inl ?_
     rw [← au]
     simp only [gy.l0, FL l i hi]
     rw [ep, ep, av hr, ep h2]
     exact aI _
    ·refine .inr ⟨r, by omega, hrs (by omega), fun q hq => ?_⟩
     rw [← au]
     simp only [gy.l0, FL l i hi, bG (i := i) (by omega)]
     rw [ep, ep, av hr, en h2]
     exact hq) (a - l.length) (by omega) (by omega)
  exact ⟨r, hr, hrb, fun h0 => by have := hrs h0; omega⟩
theorem Er (R C : Int) (s : ByteArray) (l : List S81) (q : List Int) (e : Int) (hs : s.size ≤ 140737488351232) (hl : l.length < 4611686018427387904) (hx : ∀ x ∈ l, x.f1.length < 4611686018427387904 ∧ ∀ y ∈ x.f1, y.f1.size ≤ 140737488351232) (hq : q.length < 4611686018427387904) (a : Int) (h0 : 0 ≤ a) (h1 : a ≤ 1048576) : ∃ r, Ev (fun k => ko.f k R C s l q e a) r ∧ r ≤ 1048576 ∧ (0 ≤ r → r + l.length + jd (fun x => x.f1.length) l ≤ 1048576) := by
 unfold ko.f
 obtain ⟨g, hg, hgb⟩ := Hl R C s a hs h0 h1
 simp only [hg, Option.bind_some]
 by_cases n1 : g < 0
 ·exact ⟨-1, by rw [ep n1]; exact aI _, by omega, fun h => by omega⟩
 obtain ⟨c, hc, hcb, hcs⟩ := EZ l hl hx g (by omega) hgb
 by_cases n2 : c < 0
 ·exact ⟨-1, by rw [en n1, av hc, ep n2]; exact aI _, by omega, fun h => by omega⟩
 have hi0 : ∃ i, lH.f q c = some i ∧ i ≤ c := by
  unfold lH.f
  rw [jC (by omega) (by omega)]
  split
  ·exact ⟨_, rfl, by omega⟩
  ·exact ⟨_, rfl, by omega⟩
 obtain ⟨i, hi, hib⟩ := hi0
 by_cases n3 : i < 0
 ·exact ⟨-1, by rw [en n1, av hc, en n2]; simp only [hi, Option.bind_some, if_pos n3]; exact aI _, by omega, fun h => by omega⟩
 ·exact ⟨i, by rw [en n1, av hc, en n2]; simp only [hi, Option.bind_some, if_neg n3]; exact aI _, by omega, fun h => by have := hcs (by omega); omega⟩
abbrev cwd (x : S72) : Nat := 1 + 4 * x.f1.length
theorem Im : ∀ l : List S81, jd cwd (l.map jV) = l.length + 4 * jd (fun x => x.f1.length) l
 | [] => rfl
 | x :: l => by
  have : cwd (jV x) = 1 + 4 * x.f1.length := by simp [cwd, jV]
  simp only [List.map_cons, jd, Im l, List.length_cons]
  omega
theorem Gh : ∀ l : List S72, l.length ≤ jd cwd l
 | [] => Nat.le_refl _
 | x :: l => by
  have := Gh l
  have : 1 ≤ cwd x := by simp only [cwd]; omega
  simp only [jd, List.length_cons]
  omega
theorem DY (l : List S72) (c : Int) (h0 : 0 ≤ c) (hc : c + jd cwd l < 4611686018427387904) : Ev (fun k => fH.f k l c) (c + jd cwd l) := by
 have hll := Gh l
 have := iG (σ := List S72 × Int) (fun k s i => fH.l0 k s.1 s.2 i) l.length (fun i s => s.1.length = l.length ∧ s.1.drop i = l.drop i ∧ s.2 = c + jd cwd (l.take i))
  (fun _ _ => c + (jd cwd l : Int)) (fun s ⟨h1, h2, h4⟩ => ?_) (fun i s hi ⟨h1, h2, h4⟩ => ?_) 0 (l, c) (Nat.zero_le _) (by simp [jd])
 ·exact this
 ·rw [← au]
  simp only [fH.l0]
  rw [en, h4, List.take_of_length_le (Nat.le_refl _)]
  exact aI _
 ·have hil : i < s.1.length := by omega
  have hsi : s.1[i] = l[i] := by
   rw [List.drop_eq_getElem_cons hil, List.drop_eq_getElem_cons hi] at h2
   exact (List.cons.inj h2).1
  have hw := oK cwd l i hi
  have hle := qm cwd l (i + 1)
  have hwd : cwd l[i] = 1 + 4 * l[i].f1.length := rfl
  have e1 : wrap64 (s.2 + 1) = s.2 + 1 := jC (by omega) (by omega)
  have hm := DZ l[i].f1 (s.2 + 1) (by omega) (by omega)
  obtain ⟨m, hmm⟩ : ∃ m, m = mF (fun (_ : bQ) b => (⟨b, MT (b + 1), b + 2, b + 3⟩ : bQ)) (fun _ => 4) l[i].f1 (s.2 + 1) := ⟨_, rfl⟩
  rw [← hmm] at hm
  refine .inr ⟨((s.1.set i ⟨s.2, l[i].f1⟩).set i ⟨s.2, m⟩, s.2 + 1 + 4 * l[i].f1.length), ⟨by rw [List.length_set, List.length_set]; exact h1, ?_, by show s.2 + 1 + 4 * (l[i].f1.length : Int) = _; rw [hw, h4]; omega⟩, rfl, fun r hr => ?_⟩
  ·show (((s.1.set i _).set i _).drop (i + 1)) = l.drop (i + 1)
   rw [List.drop_set_of_lt (by omega), List.drop_set_of_lt (by omega)]
   rw [List.drop_eq_getElem_cons hil, List.drop_eq_getElem_cons hi] at h2
   exact (List.cons.inj h2).2
  ·rw [← au]
   simp only [fH.l0, qh s.1 i hil, hsi, e1, bG (i := i) (by omega), Option.bind_some, Int.toNat_natCast]
   rw [ep, ep]
   simp only [JU s.1 i _ hil]
   rw [av hm]
   exact hr
theorem CP (R C : Int) (s : ByteArray) (l : List S72) (q : List Int) (e : Int) (c : Int) (h0 : 0 ≤ c) (hc : c + jd cwd l + q.length < 4611686018427387904) : Ev (fun k => jv.f k R C s l q e c) (c + jd cwd l + q.length, mF (fun _ b => b) (fun _ => 1) q (c + jd cwd l)) := by
 unfold jv.f
 rw [av (DY l c h0 (by omega)), av (Aj q (c + jd cwd l) (by omega) (by omega))]
 exact aI _
theorem wo {R C : Int} {s : ByteArray} {l : List S72} {q : List Int} {e : Int} (h : oD R C s l q e = true) : dW R C s = true := by
 have h0 := (pq h).1
 by_cases hg : dW R C s = true
 ·exact hg
 ·exfalso
  unfold qK at h0
  rw [if_neg hg] at h0
  omega
noncomputable def Dj (R C : Int) (s : ByteArray) (l : List S72) (d : List S62) (w : List ByteArray) (i : Nat) : Bool :=
 match (aU R C s)[i]?, l[i]? with
 | some x, some c => decide ((nQ 1 c.f0 c.f1 d w (oL (iY R C s) (dK C x))).length = 1)
 | _, _ => false
noncomputable def qM (R C : Int) (s : ByteArray) (l : List S72) (d : List S62) (w : List ByteArray) (i : Nat) : List Int := ((List.range' i ((aU R C s).length - i)).filter (Dj R C s l d w)).map (fun (j : Nat) => (j : Int))
noncomputable def pJ (R C : Int) (s : ByteArray) (l : List S72) (q : List Int) (e : Int) (d : List S62) (w : List ByteArray) : List Int :=
 if oD R C s l q e = true then qM R C s l d w 0 else []
theorem Dk (R C : Int) (s : ByteArray) (l : List S72) (d : List S62) (w : List ByteArray) : qM R C s l d w (aU R C s).length = [] := by simp [qM]
theorem Bt (R C : Int) (s : ByteArray) (l : List S72) (d : List S62) (w : List ByteArray) (i : Nat) (hi : i < (aU R C s).length) : qM R C s l d w i = (if Dj R C s l d w i = true then [(i : Int)] else []) ++ qM R C s l d w (i + 1) := by
 unfold qM
 rw [show (aU R C s).length - i = ((aU R C s).length - (i + 1)) + 1 by omega, List.range'_succ, List.filter_cons]
 split <;> simp
theorem DW (R C : Int) (s : ByteArray) (l : List S72) (q : List Int) (e : Int) (d : List S62) (w : List ByteArray) : (pJ R C s l q e d w).length ≤ (aU R C s).length := by
 unfold pJ qM
 split
 ·rw [List.length_map]
  exact Nat.le_trans (List.length_filter_le _ _) (by rw [List.length_range']; omega)
 ·exact Nat.zero_le _
theorem EF {R C : Int} {s : ByteArray} {l : List S72} (d : List S62) (w : List ByteArray) (i : Nat) (hi : i < (aU R C s).length) (hl : i < l.length) : Dj R C s l d w i = decide ((nQ 1 l[i].f0 l[i].f1 d w (oL (iY R C s) (dK C (aU R C s)[i]))).length = 1) := by
 unfold Dj
 rw [List.getElem?_eq_getElem hi, List.getElem?_eq_getElem hl]
theorem qV (R C : Int) (s : ByteArray) (l : List S72) (q : List Int) (e : Int) (d : List S62) (w : List ByteArray) (hs : s.size < 140737488355328) (hl : l.length < 4611686018427387904) (hx : ∀ x ∈ l, x.f1.length < 4611686018427387904) (hd : d.length < 4611686018427387904) (hw : w.length ≤ 8796093022208) :
  Ev (fun k => aW.f k R C s l q e d w) (pJ R C s l q e d w) := by
 have hend : ∀ (out : List Int) (i : Int), Ev (fun k => aW.j1 k d w out i false R C s l q e) out := by
  intro out i
  rw [← au]
  simp only [aW.j1, Bool.false_eq_true, if_false]
  exact aI _
 have hp := wW R C s l q e hs hl hx
 unfold aW.f
 by_cases hok : oD R C s l q e = true
 ·have hlen : l.length = (aU R C s).length := (pq hok).2.1
  have hn := (fA R C s).2.2
  have hF := Ae (wo hok)
  have hrb : pJ R C s l q e d w = [] ++ qM R C s l d w 0 := by unfold pJ; rw [if_pos hok]; rfl
  rw [hrb]
  refine iG (σ := List Int) (fun k out i => aW.l0 k d w out i R C s l q e) (aU R C s).length (fun i out => out.length ≤ i) (fun i out => out ++ qM R C s l d w i) (fun out _ => ?_) (fun i out hi hout => .inr ⟨out ++ (if Dj R C s l d w i = true then [(i : Int)] else []), by rw [List.length_append]; split <;> simp <;> omega, by rw [Bt R C s l d w i hi, List.append_assoc], fun r hr => ?_⟩) 0 [] (Nat.zero_le _) (Nat.le_refl _)
  ·rw [Dk, List.append_nil, ← au]
   simp only [aW.l0]
   rw [en]
   exact hend out _
  ·have hil : i < l.length := by omega
   have hgs := sU l[i].f0 l[i].f1 d w (oL (iY R C s) (dK C (aU R C s)[i])) 1 (hx _ (List.getElem_mem hil)) hd hw
   rw [EF d w i hi hil] at hr
   rw [← au]
   simp only [aW.l0]
   rw [ep, av hp, hok, ← au]
   simp only [aW.j1, if_true, qh _ i hil, bG (i := i) (by omega)]
   rw [av (wE R C s), av (rX hF i hi), ep, ep, av hgs, aA]
   generalize nQ 1 l[i].f0 l[i].f1 d w (oL (iY R C s) (dK C (aU R C s)[i])) = g at hr ⊢
   by_cases h1 : g.length = 1
   ·rw [if_pos (decide_eq_true h1)] at hr
    rw [if_pos (by omega), ep]
    exact hr
   ·rw [if_neg (by simpa using h1), List.append_nil] at hr
    rw [if_neg (by omega)]
    exact hr
 ·have hrb : pJ R C s l q e d w = [] := by unfold pJ; rw [if_neg hok]
  rw [Bool.eq_false_iff.mpr hok] at hp
  rw [hrb, ← au]
  simp only [aW.l0]
  rw [aA]
  split
  ·rw [av hp]
   exact hend _ _
  ·exact hend _ _
theorem qN (R C : Int) (s : ByteArray) (l : List S72) (q : List Int) (e : Int) (d : List S62) (w : List ByteArray) (hl : l.length < 4611686018427387904) (hx : ∀ x ∈ l, x.f1.length < 4611686018427387904) (hd : d.length < 4611686018427387904) (hw : w.length ≤ 8796093022208) :
  Ev (fun k => bF.f k R C s l q e d w) (pJ R C s l q e d w) := by
 unfold bF.f
 rw [av (wL R C s l q e hl hx), aA]
 split
 ·rename_i hok
  have hlen : l.length = (aU R C s).length := (pq hok).2.1
  have hn := (fA R C s).2.2
  have hF := Ae (wo hok)
  have hrb : pJ R C s l q e d w = [] ++ qM R C s l d w 0 := by unfold pJ; rw [if_pos hok]; rfl
  rw [hrb, av (tO R C s), av (wN R C s (iY R C s))]
  have hpe : Ap R C s (iY R C s) = (aU R C s).map (fun x => oL (iY R C s) (dK C x)) := by unfold Ap; rw [if_pos hF]
  have hpl : (Ap R C s (iY R C s)).length = (aU R C s).length := by rw [hpe, List.length_map]
  refine iG (σ := List Int) (fun k out i => bF.l0 k d w out (Ap R C s (iY R C s)) ((Ap R C s (iY R C s)).length : Int) i R C s l q e) (aU R C s).length (fun i out => out.length ≤ i) (fun i out => out ++ qM R C s l d w i) (fun out _ => ?_) (fun i out hi hout => .inr ⟨out ++ (if Dj R C s l d w i = true then [(i : Int)] else []), by rw [List.length_append]; split <;> simp <;> omega, by rw [Bt R C s l d w i hi, List.append_assoc], fun r hr => ?_⟩) 0 [] (Nat.zero_le _) (Nat.le_refl _)
  ·rw [Dk, List.append_nil, ← au]
   simp only [bF.l0]
   rw [en]
   exact aI _
  ·have hil : i < l.length := by omega
   have hgs := sK l[i].f0 l[i].f1 d w (oL (iY R C s) (dK C (aU R C s)[i])) 1 (hx _ (List.getElem_mem hil)) hd hw
   have hpi : gJ ByteArray.empty (Ap R C s (iY R C s)) (i : Int) = oL (iY R C s) (dK C (aU R C s)[i]) := by
    rw [lM ByteArray.empty _ i (by omega)]
    simp only [hpe, List.getElem_map]
   rw [EF d w i hi hil] at hr
   rw [← au]
   simp only [bF.l0, qh _ i hil, hpi, bG (i := i) (by omega)]
   rw [ep, ep, ep, ep, av hgs, aA]
   generalize nQ 1 l[i].f0 l[i].f1 d w (oL (iY R C s) (dK C (aU R C s)[i])) = g at hr ⊢
   by_cases h1 : g.length = 1
   ·rw [if_pos (decide_eq_true h1)] at hr
    rw [if_pos (by omega), ep]
    exact hr
   ·rw [if_neg (by simpa using h1), List.append_nil] at hr
    rw [if_neg (by omega)]
    exact hr
 ·rename_i hok
  have hrb : pJ R C s l q e d w = [] := by unfold pJ; rw [if_neg hok]
  rw [hrb]
  exact aI _
theorem FnExactHalfSolvable : bR.Pure := by
 intro y d w ⟨⟨_, _, h0⟩, ⟨h1, h2, h3⟩, ⟨h4, h5, _⟩, _⟩ ⟨i1, i2, i3⟩ ⟨j1, j2, j3⟩
 refine Ev.rounds ?_
 unfold bR.f
 have hx : ∀ x ∈ y.f1, x.f1.length ≤ 3518437208883 := fun x hx => by have := (h3 x hx).2.1; omega
 obtain ⟨a, ha, hab, hsum⟩ := Er y.f0.f0 y.f0.f1 y.f0.f2 y.f1 y.f2 y.f3 h0 (by omega) (fun x hx => ⟨by have := (h3 x hx).2.1; omega, fun t ht => ((h3 x hx).2.2.2 t ht).2.1⟩) (by omega) 1048576 (by omega) (by omega)
 rw [av ha, aA]
 split
 ·exact aI _
 rename_i ha0
 replace hsum := hsum (by omega)
 obtain ⟨c, hc, hcb⟩ := Da d (by omega) (fun x hx => (i3 x hx).1) a (by omega) hab
 rw [av hc, aA]
 split
 ·exact aI _
 obtain ⟨e, he, _⟩ := Es w (by omega) (fun x hx => j3 x hx) c (by omega) hcb
 rw [av he, aA]
 split
 ·exact aI _
 have t1 := Fe y.f0.f0 y.f0.f1 y.f0.f2 y.f1 y.f2 y.f3 (by omega) hx (by omega)
 have t2 := Db d (by omega)
 have t3 := Et w (by omega)
 have l1 : (y.f1.map jV).length = y.f1.length := List.length_map _
 have l2 : (d.map kV).length = d.length := List.length_map _
 have hx' : ∀ x ∈ y.f1.map jV, x.f1.length < 4611686018427387904 := by
  intro x hm
  obtain ⟨u, hu, rfl⟩ := List.mem_map.1 hm
  have := hx u hu
  simp only [jV, List.length_map]
  omega
 have hcw := Im y.f1
 have s := qV y.f0.f0 y.f0.f1 y.f0.f2 (y.f1.map jV) y.f2 y.f3 (d.map kV) w (by omega) (by omega) hx' (by omega) (by omega)
 have i := qN y.f0.f0 y.f0.f1 y.f0.f2 (y.f1.map jV) y.f2 y.f3 (d.map kV) w (by omega) hx' (by omega) (by omega)
 have e1 := Ey y.f0.f0 y.f0.f1 y.f0.f2 (y.f1.map jV) y.f2 y.f3 (by omega) hx' (by omega)
 have e2 := Cv (d.map kV) (by omega)
 have e3 := DT w (by omega)
 have hg := DW y.f0.f0 y.f0.f1 y.f0.f2 (y.f1.map jV) y.f2 y.f3 (d.map kV) w
 have hn := (fA y.f0.f0 y.f0.f1 y.f0.f2).2.2
 have m1 := CP y.f0.f0 y.f0.f1 y.f0.f2 (y.f1.map jV) y.f2 y.f3 1 (by omega) (by omega)
 have m2 := Ay (d.map kV) (1 + jd cwd (y.f1.map jV) + y.f2.length) (by omega) (by omega)
 have m3 := BN w (1 + jd cwd (y.f1.map jV) + y.f2.length + 2 * (d.map kV).length) (by omega) (by omega)
 generalize pJ y.f0.f0 y.f0.f1 y.f0.f2 (y.f1.map jV) y.f2 y.f3 (d.map kV) w = g at s i hg
 have e4 := Dg g (by omega)
 have m4 := Aj g 1 (by omega) (by omega)
 have d4 := EI g 1 (by omega) (by omega)
 simp only [av t1, av t2, av t3, av s, av i, av e1, av e2, av e3, av e4, av m1, av m2, av m3, aA, if_true]
 rw [if_neg (by omega), ← au]
 simp only [bR.j0, Bool.not_true, Bool.false_eq_true, if_false, av t1, av t2, av t3, av i, av e4, av m4, av d4, aA, if_true]
 rw [if_neg (by omega)]
 exact aI _
end Go.Proofs.YthkfjbodohaglaaGreatDoor.Pure
