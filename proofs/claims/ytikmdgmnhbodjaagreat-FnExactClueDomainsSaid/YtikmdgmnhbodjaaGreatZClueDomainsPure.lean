/- The program's ClueDomains returns what the reference's returns, for every argument; no further condition. -/
import Derived.Test.YtikmdgmnhbodjaaGreatZClueDomainsQ
import Derived.Test.YtikmdgmnhbodjaaGreatZClueDomainsEv
namespace Go.Proofs.YtikmdgmnhbodjaaGreat.Pure
open Go.RowKit Go.Proofs.YtikmdgmnhbodjaaGreat.PFnExactClueDomains Go.Proofs.YtikmdgmnhbodjaaGreatW.PrintWords Go.Proofs.YtikmdgmnhbodjaaGreatW.PrintLast Go.Proofs.YtikmdgmnhbodjaaGreatW.PrintMore Go.Proofs.YtikmdgmnhbodjaaGreat.Sem
set_option linter.unusedVariables false
set_option linter.unusedSimpArgs false
theorem BR (xs : List nQ) (i : Nat) (h : i < xs.length) : iD xs (i : Int) = xs[i] := by
 simp [iD, List.getD_eq_getElem?_getD, List.getElem?_eq_getElem h]
theorem DT (xs : List S84) (i : Nat) (h : i < xs.length) : lH xs (i : Int) = xs[i] := by
 simp [lH, List.getD_eq_getElem?_getD, List.getElem?_eq_getElem h]
theorem DN (xs : List S64) (i : Nat) (h : i < xs.length) : mQ xs (i : Int) = xs[i] := by
 simp [mQ, List.getD_eq_getElem?_getD, List.getElem?_eq_getElem h]
theorem wF (xs : List bW) (i : Nat) (h : i < xs.length) : aj xs (i : Int) = xs[i] := by
 simp [aj, List.getD_eq_getElem?_getD, List.getElem?_eq_getElem h]
theorem Gn (xs : List bW) (i : Nat) (x : bW) (h : i < xs.length) : aj (xs.set i x) (i : Int) = x := by
 rw [wF _ i (by rw [List.length_set]; exact h), List.getElem_set_self]
theorem mM (xs : List eZ) (i : Nat) (h : i < xs.length) : aN xs (i : Int) = xs[i] := by
 simp [aN, List.getD_eq_getElem?_getD, List.getElem?_eq_getElem h]
theorem qz (xs : List S70) (i : Nat) (h : i < xs.length) : eU xs (i : Int) = xs[i] := by
 simp [eU, List.getD_eq_getElem?_getD, List.getElem?_eq_getElem h]
theorem HV (xs : List S70) (i : Nat) (x : S70) (h : i < xs.length) : eU (xs.set i x) (i : Int) = x := by
 rw [qz _ i (by rw [List.length_set]; exact h), List.getElem_set_self]
theorem zN (xs : List S73) (i : Nat) (h : i < xs.length) : fF xs (i : Int) = xs[i] := by
 simp [fF, List.getD_eq_getElem?_getD, List.getElem?_eq_getElem h]
theorem HY (xs : List S73) (i : Nat) (x : S73) (h : i < xs.length) : fF (xs.set i x) (i : Int) = x := by
 rw [zN _ i (by rw [List.length_set]; exact h), List.getElem_set_self]
theorem BQ (xs : List (List ByteArray)) (i : Nat) (h : i < xs.length) : kg xs (i : Int) = xs[i] := by
 simp [kg, List.getD_eq_getElem?_getD, List.getElem?_eq_getElem h]
theorem DL (xs : List (List Int)) (i : Nat) (h : i < xs.length) : jP xs (i : Int) = xs[i] := by
 simp [jP, List.getD_eq_getElem?_getD, List.getElem?_eq_getElem h]
theorem mE (a b c : Int) : bF.f a b c = some (decide (b ≤ a ∧ a ≤ c)) := by
 unfold bF.f
 by_cases h : b ≤ a <;> simp [h]
theorem lS (a b c : Int) : dN.f a b c = some (decide (b ≤ a ∧ a ≤ c)) := by
 unfold dN.f
 by_cases h : b ≤ a <;> simp [h]
theorem at_eq (a b : Int) : nK.f a b = some (decide (0 ≤ a ∧ a < b)) := by
 unfold nK.f
 by_cases h : 0 ≤ a <;> simp [h]
theorem nA (a : Int) : fE.f a = some (decide (97 ≤ a ∧ a ≤ 122)) := by
 unfold fE.f
 by_cases h : 97 ≤ a <;> simp [h]
theorem EG (l : List Int) (hl : l.length < 4611686018427387904) : Ev (fun k => iG.f k l l) true := by
 unfold iG.f
 rw [ep rfl]
 refine iw (jL (fun k i => iG.l0 k l l i) l (fun _ => true) ?_ (fun i hi hp r hr => ?_) (fun i hi hp => by cases hp)) (by simp)
 ·rw [← au]; simp [iG.l0, aI]
 ·rw [← au]
  simp only [iG.l0, bJ (i := i) (by omega)]
  simp [aG, hi]
  exact hr
theorem CJ (l : List Int) (c : Int) (h0 : 0 ≤ c) (hc : c + l.length < 4611686018427387904) : Ev (fun k => gN.f k l c) (c + l.length, kG (fun _ b => b) (fun _ => 1) l c) := by
 have hw : jf (fun _ => 1) l = l.length := by rw [qw]; omega
 have := qj (fun k s b i => gN.l0 k s b i) l (fun _ => 1) (fun _ b => b) c (fun s b hs => ?_) (fun i hi s b hs hsi hb hb' r hr => ?_)
 ·rw [hw] at this
  exact this
 ·rw [← au]
  simp only [gN.l0]
  simp [hs, aI]
 ·rw [← au]
  rw [hw] at hb'
  have e : wrap64 (b + 1) = b + 1 := jQ (by omega) (by omega)
  simp only [gN.l0, bJ (i := i) (by omega), e]
  simp [aG, hi, hs]
  exact hr
theorem Fq (l : List Int) (hl : l.length ≤ 17592186044416) : Ev (fun k => gY.f k l) l := by
 unfold gY.f
 rw [ep, ep]
 refine iw (qh (fun k s i => gY.l0 k l s i) l id 0 (fun s hs => ?_) (fun i hi s hs r hr => ?_)) (by simp)
 ·rw [← au]
  simp [gY.l0, aI]
 ·rw [← au]
  simp only [gY.l0, oC l i hi, bJ (i := i) (by omega)]
  simp [aG, hi, hs]
  exact hr
theorem tq (c : Int) : (strOfNums [c]).size = 1 := rfl
theorem Aw : ∀ (n : Nat) (x : Int) (s : ByteArray), x.toNat ≤ n → s.size + n < 9223372036854775807 → n < 4611686018427387904 → ∃ r, Ev (fun k => dH.l0 k x s) r := by
 intro n
 induction n with
 | zero =>
  intro x s hx hs hn
  refine ⟨(⟨#[109]⟩ : ByteArray) ++ s, ?_⟩
  rw [← au]
  simp only [dH.l0]
  rw [en, ep]
  exact aI _
 | succ n ih =>
  intro x s hx hs hn
  by_cases h : x > 0
  ·have h1 : Int.tdiv x 10 = x / 10 := Int.tdiv_eq_ediv_of_nonneg (by omega)
   have h2 : wrap64 (Int.tdiv x 10) = x / 10 := by rw [h1]; exact jQ (by omega) (by omega)
   obtain ⟨r, hr⟩ := ih (x / 10) ((strOfNums [(wrap64 (48 + (Int.tmod x 10))) % 256]) ++ s) (by omega) (by rw [ByteArray.size_append, tq]; omega) (by omega)
   refine ⟨r, ?_⟩
   rw [← au]
   simp only [dH.l0, Option.bind_some, h2]
   rw [ep h, ep (by rw [tq]; omega)]
   exact hr
  ·refine ⟨(⟨#[109]⟩ : ByteArray) ++ s, ?_⟩
   rw [← au]
   simp only [dH.l0]
   rw [en h, ep]
   exact aI _
theorem CK (c : Int) (h : c < 4611686018427387904) : ∃ r, Ev (fun k => dH.f k c) r := by
 unfold dH.f
 by_cases h0 : c ≤ 0
 ·exact ⟨_, by rw [ep h0]; exact aI _⟩
 ·obtain ⟨r, hr⟩ := Aw c.toNat c ⟨#[]⟩ (Nat.le_refl _) (by show 0 + _ < _; omega) (by omega)
  exact ⟨r, by rw [en h0]; exact hr⟩
noncomputable def MT (c : Int) : ByteArray := open Classical in if h : ∃ r, Ev (fun k => dH.f k c) r then h.choose else ByteArray.empty
theorem Ei (c : Int) (h : c < 4611686018427387904) : Ev (fun k => dH.f k c) (MT c) := by
 have hx := CK c h
 unfold MT
 rw [dif_pos hx]
 exact hx.choose_spec
theorem rC (l : List ByteArray) (c : Int) (h0 : 0 ≤ c) (hc : c + l.length < 4611686018427387904) : Ev (fun k => eu.f k l c) (c + l.length, kG (fun _ b => MT b) (fun _ => 1) l c) := by
 have hw : jf (fun _ => 1) l = l.length := by rw [qw]; omega
 have := qj (fun k s b i => eu.l0 k s b i) l (fun _ => 1) (fun _ b => MT b) c (fun s b hs => ?_) (fun i hi s b hs hsi hb hb' r hr => ?_)
 ·rw [hw] at this
  exact this
 ·rw [← au]
  simp only [eu.l0]
  simp [hs, aI]
 ·rw [← au]
  rw [hw] at hb'
  have e : wrap64 (b + 1) = b + 1 := jQ (by omega) (by omega)
  simp only [eu.l0, bJ (i := i) (by omega), e]
  rw [ep, av (Ei b (by omega)), ep]
  exact hr
theorem wU (l : List ByteArray) (c : Int) (h0 : 0 ≤ c) (hc : c + l.length < 4611686018427387904) : Ev (fun k => fH.f k (kG (fun _ b => MT b) (fun _ => 1) l c) c) (c + l.length) := by
 have hw : jf (fun _ => 1) l = l.length := by rw [qw]; omega
 have := Bb (fun k b i => fH.l0 k (kG (fun _ b => MT b) (fun _ => 1) l c) b i) l (fun _ => 1) c (fun b => ?_) (fun i hi b hb hb' r hr => ?_)
 ·rw [hw] at this
  exact this
 ·rw [← au]
  simp only [fH.l0]
  simp [kH, aI]
 ·rw [← au]
  rw [hw] at hb'
  have e : wrap64 (b + 1) = b + 1 := jQ (by omega) (by omega)
  have hr' := lJ ByteArray.empty (kG (fun _ b => MT b) (fun _ => 1) l c) i (by rw [kH]; exact hi)
  rw [rU _ _ _ _ _ hi] at hr'
  simp only [fH.l0, bJ (i := i) (by omega), e, hr', ← hb]
  rw [ep (by rw [kH]; omega), ep, av (Ei b (by omega)), ep rfl]
  exact hr
theorem Cg (l : List ByteArray) (hl : l.length < 4611686018427387904) (hs : ∀ x ∈ l, x.size ≤ 140737488351232) (a : Int) (ha : 0 ≤ a) (ha' : a ≤ 1048576) : ∃ r, Ev (fun k => fP.f k l a) r ∧ r ≤ 1048576 := by
 unfold fP.f
 have w1 : wrap64 (a - (l.length : Int)) = a - l.length := jQ (by omega) (by omega)
 simp only [aG, eY, w1]
 by_cases h : a - (l.length : Int) < 0
 ·exact ⟨-1, by simp [h]⟩
 ·simp only [h, if_false]
  refine Bc (fun k b i => fP.l0 k l b i) l 1048576 (fun b => ?_) (fun i hi b hb hb' => ?_) _ (by omega) (by omega)
  ·rw [← au]
   simp only [fP.l0]
   rw [en]
   exact aI _
  ·have hsz := hs _ (List.getElem_mem hi)
   have w3 : wrap64 (b - (l[i].size : Int)) = b - l[i].size := jQ (by omega) (by omega)
   by_cases h2 : b - (l[i].size : Int) < 0
   ·refine .inl ?_
    rw [← au]
    simp only [fP.l0, lJ ByteArray.empty l i hi, bJ (i := i) (by omega), w3]
    simp [aG, eY, hi, h2]
   ·refine .inr ⟨b - l[i].size, by omega, by omega, fun r hr => ?_⟩
    rw [← au]
    simp only [fP.l0, lJ ByteArray.empty l i hi, bJ (i := i) (by omega), w3]
    rw [ep, ep, en h2]
    exact hr
theorem Ch (l : List ByteArray) (hl : l.length ≤ 8796093022208) : Ev (fun k => bZ.f k l) l := by
 unfold bZ.f
 rw [ep, ep]
 refine iw (qh (fun k s i => bZ.l0 k l s i) l id (⟨#[]⟩ : ByteArray) (fun s hs => ?_) (fun i hi s hs r hr => ?_)) (by simp)
 ·rw [← au]
  simp [bZ.l0, aI]
 ·rw [← au]
  simp only [bZ.l0, lJ ByteArray.empty l i hi, bJ (i := i) (by omega)]
  simp [aG, hi, hs]
  exact hr
theorem uf (l : List ByteArray) (hl : l.length < 4611686018427387904) : Ev (fun k => dK.f k l l) true := by
 unfold dK.f
 rw [ep rfl]
 refine iw (jL (fun k i => dK.l0 k l l i) l (fun _ => true) ?_ (fun i hi hp r hr => ?_) (fun i hi hp => by cases hp)) (by simp)
 ·rw [← au]; simp [dK.l0, aI]
 ·rw [← au]
  simp only [dK.l0, bJ (i := i) (by omega)]
  simp [aG, hi]
  exact hr
theorem AQ (l : List S64) (hl : l.length < 4611686018427387904) (hs : ∀ x ∈ l, x.f0.size ≤ 140737488351232) (a : Int) (ha : 0 ≤ a) (ha' : a ≤ 1048576) : ∃ r, Ev (fun k => fD.f k l a) r ∧ r ≤ 1048576 := by
 unfold fD.f
 have w1 : wrap64 (a - (l.length : Int)) = a - l.length := jQ (by omega) (by omega)
 simp only [aG, eY, w1]
 by_cases h : a - (l.length : Int) < 0
 ·exact ⟨-1, by simp [h]⟩
 ·simp only [h, if_false]
  refine Bc (fun k b i => fD.l0 k l b i) l 1048576 (fun b => ?_) (fun i hi b hb hb' => ?_) _ (by omega) (by omega)
  ·rw [← au]
   simp only [fD.l0]
   rw [en]
   exact aI _
  ·have hsz := hs _ (List.getElem_mem hi)
   have w3 : wrap64 (b - (l[i].f0.size : Int)) = b - l[i].f0.size := jQ (by omega) (by omega)
   by_cases h2 : b - (l[i].f0.size : Int) < 0
   ·refine .inl ?_
    rw [← au]
    simp only [fD.l0, jZ.f, DN l i hi, bJ (i := i) (by omega), w3, if_pos h2, Option.bind_some]
    simp [aG, eY, hi]
   ·refine .inr ⟨b - l[i].f0.size, by omega, by omega, fun r hr => ?_⟩
    rw [← au]
    simp only [fD.l0, jZ.f, DN l i hi, bJ (i := i) (by omega), w3, if_neg h2, Option.bind_some]
    rw [ep, ep]
    exact hr
def lq (x : S64) : S73 := ⟨x.f0, x.f1⟩
theorem AU (l : List S64) (hl : l.length ≤ 5864062014805) : Ev (fun k => bN.f k l) (l.map lq) := by
 unfold bN.f
 rw [ep, ep]
 refine qh (fun k s i => bN.l0 k l s i) l lq z73 (fun s hs => ?_) (fun i hi s hs r hr => ?_)
 ·rw [← au]
  simp [bN.l0, aI]
 ·rw [← au]
  simp only [bN.l0, mg.f, DN l i hi, bJ (i := i) (by omega), Option.bind_some]
  simp [aG, hi, hs]
  exact hr
theorem Af (l : List S73) (hl : l.length < 4611686018427387904) : Ev (fun k => bX.f k l l) true := by
 unfold bX.f
 rw [ep rfl]
 refine iw (jL (fun k i => bX.l0 k l l i) l (fun _ => true) ?_ (fun i hi hp r hr => ?_) (fun i hi hp => by cases hp)) (by simp)
 ·rw [← au]; simp [bX.l0, aI]
 ·rw [← au]
  simp only [bX.l0, kV.f, bJ (i := i) (by omega)]
  simp [aG, hi]
  exact hr
theorem vT (l : List S73) (c : Int) (h0 : 0 ≤ c) (hc : c + 2 * l.length < 4611686018427387904) : Ev (fun k => dX.f k l c) (c + 2 * l.length, kG (fun _ b => ⟨MT b, b + 1⟩) (fun _ => 2) l c) := by
 have hw : jf (fun _ => 2) l = 2 * l.length := qw _ _
 have := qj (fun k s b i => dX.l0 k s b i) l (fun _ => 2) (fun _ b => ⟨MT b, b + 1⟩) c (fun s b hs => ?_) (fun i hi s b hs hsi hb hb' r hr => ?_)
 ·rw [hw] at this
  exact this
 ·rw [← au]
  simp only [dX.l0]
  simp [hs, aI]
 ·rw [← au]
  rw [hw] at hb'
  have e : wrap64 (b + 1) = b + 1 := jQ (by omega) (by omega)
  have e' : wrap64 (b + 1 + 1) = b + ((2 : Nat) : Int) := by rw [jQ (by omega) (by omega)]; omega
  simp only [dX.l0, bJ (i := i) (by omega), e, e', Option.bind_some]
  rw [ep, av (Ei b (by omega)), ep]
  simp only [Int.toNat_natCast, HY, List.length_set, hs, hi, List.set_set]
  exact hr
def mF (c : Int) : Bool := decide (97 ≤ c ∧ c ≤ 122)
def iU (s : ByteArray) : Bool := decide (1 ≤ s.size ∧ s.size ≤ 8) && (bytesOf s).all mF
theorem iB {s : ByteArray} (h : iU s = true) : 1 ≤ s.size ∧ s.size ≤ 8 := by
 simp [iU] at h
 exact h.1
theorem zF {s : ByteArray} (h : iU s = true) : ∀ c ∈ bytesOf s, 97 ≤ c ∧ c ≤ 122 := by
 simp [iU, mF] at h
 exact h.2
theorem iP (s : ByteArray) : Ev (fun k => bH.f k s) (iU s) := by
 simp only [bH.f, mE, Option.bind_some, aG, decide_eq_true_eq, iU]
 by_cases h : (1 : Int) ≤ s.size ∧ (s.size : Int) ≤ 8
 ·rw [if_pos h]
  have h' : 1 ≤ s.size ∧ s.size ≤ 8 := by omega
  simp only [h', decide_true, Bool.true_and, and_self]
  refine jL (fun k i => bH.l0 k s i) (bytesOf s) mF ?_ (fun i hi hp r hr => ?_) (fun i hi hp => ?_)
  ·rw [← au]; simp [bH.l0, bytesOf_length, aI]
  ·have hi' : i < s.size := by rw [bytesOf_length] at hi; exact hi
   rw [← au]
   simp [mF] at hp
   simp only [bH.l0, nJ s i hi', bJ (i := i) (by omega)]
   rw [ep, ep, en, en]
   exact hr
  ·have hi' : i < s.size := by rw [bytesOf_length] at hi; exact hi
   rw [← au]
   simp [mF] at hp
   simp only [bH.l0, nJ s i hi', bJ (i := i) (by omega)]
   rw [ep, ep, aG]
   by_cases h1 : (bytesOf s)[i] < 97
   ·rw [if_pos h1]; exact aI _
   ·rw [if_neg h1, ep]; exact aI _
 ·rw [if_neg h]
  have h' : ¬ (1 ≤ s.size ∧ s.size ≤ 8) := by omega
  simp [h', aI]
theorem iO (s : ByteArray) : Ev (fun k => bO.f k s) (iU s) := by
 simp only [bO.f, lS, Option.bind_some, aG, decide_eq_true_eq, iU]
 by_cases h : (1 : Int) ≤ s.size ∧ (s.size : Int) ≤ 8
 ·rw [if_pos h]
  have h' : 1 ≤ s.size ∧ s.size ≤ 8 := by omega
  simp only [h', decide_true, Bool.true_and, and_self]
  refine jL (fun k i => bO.l0 k s (s.size : Int) i) (bytesOf s) mF ?_ (fun i hi hp r hr => ?_) (fun i hi hp => ?_)
  ·rw [← au]; simp [bO.l0, bytesOf_length, aI]
  ·have hi' : i < s.size := by rw [bytesOf_length] at hi; exact hi
   rw [← au]
   simp [mF] at hp
   simp only [bO.l0, nJ s i hi', bJ (i := i) (by omega), nA, Option.bind_some]
   rw [ep, ep, ep, ep (by simpa using hp)]
   exact hr
  ·have hi' : i < s.size := by rw [bytesOf_length] at hi; exact hi
   rw [← au]
   simp only [mF] at hp
   simp only [bO.l0, nJ s i hi', bJ (i := i) (by omega), nA, Option.bind_some]
   rw [ep, ep, ep, en (by rw [hp]; decide)]
   exact aI _
 ·rw [if_neg h]
  have h' : ¬ (1 ≤ s.size ∧ s.size ≤ 8) := by omega
  simp [h', aI]
def EH (w : ByteArray) (s : Int) (x : S73) : Bool := decide (x.f0 = w ∧ x.f1 = s)
def hasB (l : List S73) (w : ByteArray) (s : Int) : Bool := l.any (EH w s)
theorem vk (l : List S73) (w : ByteArray) (s : Int) (hl : l.length < 4611686018427387904) : Ev (fun k => gF.f k l w s) (hasB l w s) := by
 refine qg (fun k i => gF.l0 k l w s i) l _ ?_ (fun i hi hp r hr => ?_) (fun i hi hp => ?_)
 ·rw [← au]; simp [gF.l0, aI]
 ·rw [← au]
  simp only [gF.l0, zN l i hi, bJ (i := i) (by omega), toList_eq]
  simp [EH] at hp
  simp [aG, hi]
  split
  ·rw [if_neg (hp ‹_›)]; exact hr
  ·exact hr
 ·rw [← au]
  simp only [gF.l0, zN l i hi, bJ (i := i) (by omega), toList_eq]
  simp [EH] at hp
  simp [aG, hi, hp, aI]
theorem EN (l : List S73) (w : ByteArray) (s : Int) (hl : l.length < 4611686018427387904) : Ev (fun k => fB.f k l w s) (match l.findIdx? (EH w s) with | some i => (i : Int) | none => -1) := by
 refine rT (fun k i => fB.l0 k l (l.length : Int) i w s) l _ ?_ (fun i hi hp r hr => ?_) (fun i hi hp => ?_)
 ·rw [← au]; simp [fB.l0, aI]
 ·rw [← au]
  simp only [fB.l0, zN l i hi, bJ (i := i) (by omega), kr]
  simp [EH] at hp
  simp [aG, hi]
  rw [if_neg (by intro h; exact hp h.1.symm h.2.symm)]
  exact hr
 ·rw [← au]
  simp only [fB.l0, zN l i hi, bJ (i := i) (by omega), kr]
  simp [EH] at hp
  simp [aG, hi, hp, aI]
theorem GV {α : Type} (l : List α) (p : α → Bool) : decide ((match l.findIdx? p with | some i => (i : Int) | none => -1) ≥ 0) = l.any p := by
 cases h : l.findIdx? p with
 | none =>
  have := List.findIdx?_eq_none_iff.1 h
  simp
  intro x hx
  simpa using this x hx
 | some i =>
  obtain ⟨h1, h2, _⟩ := List.findIdx?_eq_some_iff_getElem.1 h
  simp
  exact ⟨l[i], List.getElem_mem h1, h2⟩
theorem BD (l : List S73) (w : ByteArray) (s : Int) (hl : l.length < 4611686018427387904) : Ev (fun k => jB.f k l w s) (hasB l w s) := by
 unfold jB.f
 rw [av (EN l w s hl), GV]
 exact aI _
theorem uR (l : List S73) (w : ByteArray) (s : Int) (hl : l.length < 4611686018427387904) : Ev (fun k => iE.f k l w s) (hasB l w s) := by
 unfold iE.f
 rw [av (BD l w s hl)]
 exact aI _
def toStep (x : nQ) : bW := ⟨x.f0, x.f1, x.f2, x.f3⟩
theorem Ee (l : List nQ) (hl : l.length ≤ 3518437208883) : Ev (fun k => gL.f k l) (l.map toStep) := by
 unfold gL.f
 rw [ep, ep]
 refine qh (fun k s i => gL.l0 k l s i) l toStep z127 (fun s hs => ?_) (fun i hi s hs r hr => ?_)
 ·rw [← au]
  simp [gL.l0, aI]
 ·rw [← au]
  simp only [gL.l0, nG.f, BR l i hi, bJ (i := i) (by omega), Option.bind_some]
  simp [aG, hi, hs]
  exact hr
theorem Dz (l : List bW) (hl : l.length < 4611686018427387904) : Ev (fun k => eH.f k l l) true := by
 unfold eH.f
 rw [ep rfl]
 refine iw (jL (fun k i => eH.l0 k l l i) l (fun _ => true) ?_ (fun i hi hp r hr => ?_) (fun i hi hp => by cases hp)) (by simp)
 ·rw [← au]; simp [eH.l0, aI]
 ·rw [← au]
  simp only [eH.l0, nD.f, bJ (i := i) (by omega)]
  simp [aG, hi]
  exact hr
theorem BJ (l : List bW) (c : Int) (h0 : 0 ≤ c) (hc : c + 4 * l.length < 4611686018427387904) : Ev (fun k => eO.f k l c) (c + 4 * l.length, kG (fun _ b => ⟨b, MT (b + 1), b + 2, b + 3⟩) (fun _ => 4) l c) := by
 have hw : jf (fun _ => 4) l = 4 * l.length := qw _ _
 have := qj (fun k s b i => eO.l0 k s b i) l (fun _ => 4) (fun _ b => ⟨b, MT (b + 1), b + 2, b + 3⟩) c (fun s b hs => ?_) (fun i hi s b hs hsi hb hb' r hr => ?_)
 ·rw [hw] at this
  exact this
 ·rw [← au]
  simp only [eO.l0]
  simp [hs, aI]
 ·rw [← au]
  rw [hw] at hb'
  have e1 : wrap64 (b + 1) = b + 1 := jQ (by omega) (by omega)
  have e2 : wrap64 (b + 1 + 1) = b + 2 := by rw [jQ (by omega) (by omega)]; omega
  have e3 : wrap64 (b + 2 + 1) = b + 3 := by rw [jQ (by omega) (by omega)]; omega
  have e4 : wrap64 (b + 3 + 1) = b + ((4 : Nat) : Int) := by rw [jQ (by omega) (by omega)]; omega
  simp only [eO.l0, bJ (i := i) (by omega), e1, e2, e3, e4, Option.bind_some]
  rw [ep, ep, av (Ei (b + 1) (by omega))]
  simp only [Int.toNat_natCast, Gn, List.length_set, hs, hi, List.set_set]
  exact hr
theorem Fp (a0 : Int) (l : List nQ) (hl : l.length ≤ 3518437208883) : Ev (fun k => lZ.f k a0 l) (a0, l.map toStep) := by
 unfold lZ.f
 rw [av (Ee l hl)]
 exact aI _
theorem EF (a0 : Int) (l : List bW) (hl : l.length < 4611686018427387904) : Ev (fun k => lU.f k a0 l a0 l) true := by
 unfold lU.f
 rw [ep rfl, av (Dz l hl), ep rfl]
 exact aI _
def zK (l : List bW) (i : Nat) (two : Bool) (kind A B : Int) : Bool :=
 if kind = 1 then decide (A = 0 ∧ B = 0) else decide (0 ≤ A ∧ A < i) && (if two = true then decide (0 ≤ B ∧ B < i) else decide (B = 0) && (decide (kind = 2) || decide ((aj l A).f0 = 1)))
def nU (l : List bW) (i : Nat) : Bool :=
 decide (1 ≤ (aj l i).f0 ∧ (aj l i).f0 ≤ 9) && ((if (aj l i).f0 = 1 then iU (aj l i).f1 else decide ((aj l i).f1.size = 0)) && zK l i (decide ((aj l i).f0 = 4 ∨ (aj l i).f0 = 5)) (aj l i).f0 (aj l i).f2 (aj l i).f3)
theorem CF (l : List bW) (i : Nat) (hi : i < l.length) (hl : l.length < 4611686018427387904) (two : Bool) (kind : Int) (word : ByteArray) (A B : Int) : Ev (fun k => fZ.j1 k l (i : Int) two kind word A B) (zK l i two kind A B) := by
 have e : wrap64 ((i : Int) - 1) = i - 1 := jQ (by omega) (by omega)
 rw [← au]
 simp only [fZ.j1, mE, Option.bind_some, e, zK, aG]
 by_cases h1 : kind = 1
 ·by_cases h2 : A = 0 <;> simp [h1, h2, eY] <;> rfl
 ·rw [if_neg h1, if_neg h1]
  by_cases h2 : 0 ≤ A ∧ A < (i : Int)
  ·have h2' : 0 ≤ A ∧ A ≤ (i : Int) - 1 := by omega
   simp only [h2, h2', and_self, decide_true, if_true, Bool.true_and]
   cases two
   ·simp only [Bool.false_eq_true, if_false]
    by_cases h3 : B = 0
    ·by_cases h4 : kind = 2
     ·simp [h3, h4, eY]
     ·simp only [h3, h4, if_true, if_false, decide_true, decide_false, Bool.true_and, Bool.false_or]
      rw [if_pos (by omega), eY]
      rfl
    ·simp [h3, eY]
   ·simp only [if_true]
    by_cases h3 : 0 ≤ B ∧ B < (i : Int)
    ·have h3' : 0 ≤ B ∧ B ≤ (i : Int) - 1 := by omega
     simp [h3, h3', eY]
    ·have h3' : ¬ (0 ≤ B ∧ B ≤ (i : Int) - 1) := by omega
     simp [h3, h3', eY]
  ·have h2' : ¬ (0 ≤ A ∧ A ≤ (i : Int) - 1) := by omega
   simp [h2, h2', eY]
theorem rA (l : List bW) (i : Nat) (hi : i < l.length) (hl : l.length < 4611686018427387904) (b : Bool) (kind : Int) (word : ByteArray) (A B : Int) : Ev (fun k => fZ.j0 k l (i : Int) b kind word A B) (!b && zK l i (decide (kind = 4 ∨ kind = 5)) kind A B) := by
 rw [← au]
 simp only [fZ.j0, aG]
 cases b
 ·simp only [Bool.false_eq_true, if_false, Bool.not_false, Bool.true_and]
  by_cases h : kind = 4
  ·simp only [h, if_true, true_or, decide_true]
   exact CF l i hi hl _ _ _ _ _
  ·simp only [h, if_false, false_or]
   have := CF l i hi hl (kind == 5) kind word A B
   exact this
 ·simp [eY]
theorem AO (l : List bW) (i : Nat) (hi : i < l.length) (hl : l.length < 4611686018427387904) : Ev (fun k => fZ.f k l (i : Int)) (nU l i) := by
 unfold fZ.f
 rw [ep, ep]
 simp only [mE, Option.bind_some, decide_eq_true_eq]
 unfold nU
 generalize aj l (i : Int) = s
 rw [aG]
 by_cases h1 : 1 ≤ s.f0 ∧ s.f0 ≤ 9
 ·rw [if_pos h1, av (iP s.f1), aG]
  simp only [h1, and_self, decide_true, Bool.true_and]
  by_cases h2 : s.f0 = 1
  ·simp only [h2, beq_self_eq_true, if_true, aG]
   cases hw : iU s.f1
   ·simp only [Bool.true_bne, Bool.not_false, if_true]
    exact iw (rA l i hi hl _ _ _ _ _) (by simp)
   ·simp only [Bool.true_bne, Bool.not_true, Bool.false_eq_true, if_false]
    exact iw (rA l i hi hl _ _ _ _ _) (by simp)
  ·have h2' : (s.f0 == 1) = false := by simpa using h2
   simp only [h2, h2', if_false, aG, Bool.false_bne]
   cases hw : iU s.f1
   ·simp only [Bool.false_eq_true, if_false]
    refine iw (rA l i hi hl _ _ _ _ _) ?_
    congr 1
    rw [Bool.eq_iff_iff]
    simp [bne, toList_nil]
   ·have hz : ¬ s.f1.size = 0 := by have := iB hw; omega
    simp only [if_true]
    exact iw (rA l i hi hl _ _ _ _ _) (by simp [hz])
 ·rw [if_neg h1]
  simp only [h1, decide_false, Bool.false_and]
  exact iw (rA l i hi hl _ _ _ _ _) (by simp)
def mW (l : List bW) : Bool := decide (1 ≤ l.length ∧ l.length ≤ 9) && (List.range l.length).all (nU l)
theorem vI {l : List bW} (h : mW l = true) : 1 ≤ l.length ∧ l.length ≤ 9 := by
 simp [mW] at h
 exact h.1
theorem uo {l : List bW} (h : mW l = true) (i : Nat) (hi : i < l.length) : nU l i = true := by
 simp [mW] at h
 exact h.2 i hi
theorem rF (l : List bW) (hl : l.length < 4611686018427387904) : Ev (fun k => dU.f k l) (mW l) := by
 unfold dU.f
 have hend : ∀ i : Nat, Ev (fun k => dU.j1 k l (i : Int) false) (decide (1 ≤ l.length ∧ l.length ≤ 9)) := by
  intro i
  rw [← au]
  simp only [dU.j1, mE, Option.bind_some, Bool.false_eq_true, if_false, eY]
  rw [Bool.eq_iff_iff]
  simp
  omega
 have := nM (fun k i => dU.l0 k l i) l.length (fun i => decide (1 ≤ l.length ∧ l.length ≤ 9) && ((List.range l.length).drop i).all (nU l)) ?_ (fun i hi => ?_) 0 (Nat.zero_le _)
 ·simpa [mW] using this
 ·rw [← au]
  simp only [dU.l0]
  rw [en, List.drop_eq_nil_of_le (by simp)]
  simpa using hend l.length
 ·have hd : (List.range l.length).drop i = i :: (List.range l.length).drop (i + 1) := by rw [List.drop_eq_getElem_cons (by simpa using hi)]; simp
  by_cases h9 : l.length ≤ 9
  ·have hu : ∀ r, Ev (fun k => dU.l0 k l (i : Int)) r ↔ if nU l i = true then Ev (fun k => dU.l0 k l ((i + 1 : Nat) : Int)) r else Ev (fun _ => some false) r := by
    intro r
    have h9' : decide ((l.length : Int) ≤ 9) = true := by simp; omega
    rw [← au]
    simp only [dU.l0, h9']
    rw [ep, ← au]
    simp only [dU.j1, if_true, bJ (i := i) (by omega)]
    rw [av (AO l i hi hl), aG]
   rw [hd, List.all_cons]
   by_cases ho : nU l i = true
   ·refine .inr ⟨by simp [ho], fun r hr => ?_⟩
    rw [hu, if_pos ho]
    exact hr
   ·refine .inl ?_
    rw [hu, if_neg ho, eY]
    simp [ho]
  ·refine .inl ?_
   have h9' : decide ((l.length : Int) ≤ 9) = false := by simp; omega
   rw [← au]
   simp only [dU.l0, h9']
   rw [ep]
   exact iw (hend i) (by simp [h9])
theorem EP (a : Int) : jD.f a = some (decide (a = 4 ∨ a = 5)) := by
 unfold jD.f
 by_cases h : a = 4
 ·simp [h]
 ·simp [h]; rfl
theorem BN (a : Int) : jY.f a = some (decide (a = 3 ∨ a ≥ 6)) := by
 unfold jY.f
 by_cases h : a = 3 <;> simp [h]
theorem zC (l : List bW) (i : Nat) (hi : i < l.length) (hl : l.length < 4611686018427387904) (b : Bool) (kind : Int) (word : ByteArray) (A B : Int) (r : Bool) :
  Ev (fun k => dz.j1 k l (i : Int) l (l.length : Int) (i : Int) b kind word A B) r ↔ if (!b && (if kind = 4 ∨ kind = 5 then decide (0 ≤ B ∧ B < i) else decide (B = 0))) = true then Ev (fun k => dz.l0 k l l (l.length : Int) ((i + 1 : Nat) : Int)) r else Ev (fun _ => some false) r := by
 rw [← au]
 simp only [dz.j1, EP, at_eq, Option.bind_some, bJ (i := i) (by omega), aG, decide_eq_true_eq]
 cases b
 ·by_cases h : kind = 4 ∨ kind = 5
  ·by_cases h2 : 0 ≤ B ∧ B < (i : Int) <;> simp [h, h2]
  ·by_cases h2 : B = 0 <;> simp [h, h2]
 ·simp
theorem vK (l : List bW) (i : Nat) : nU l i = (decide (1 ≤ (aj l i).f0 ∧ (aj l i).f0 ≤ 9) && (if (aj l i).f0 = 1 then iU (aj l i).f1 && decide ((aj l i).f2 = 0 ∧ (aj l i).f3 = 0)
  else decide ((aj l i).f1.size = 0) && (decide (0 ≤ (aj l i).f2 ∧ (aj l i).f2 < i) && (!(decide ((aj l i).f0 = 3 ∨ (aj l i).f0 ≥ 6) && decide (¬ (aj l (aj l i).f2).f0 = 1)) && (if (aj l i).f0 = 4 ∨ (aj l i).f0 = 5 then decide (0 ≤ (aj l i).f3 ∧ (aj l i).f3 < i) else decide ((aj l i).f3 = 0)))))) := by
 unfold nU zK
 generalize aj l (i : Int) = s
 generalize (aj l s.f2).f0 = a
 by_cases h1 : 1 ≤ s.f0 ∧ s.f0 ≤ 9
 ·by_cases h2 : s.f0 = 1
  ·simp [h2]
  ·simp only [h1, h2, and_self, decide_true, Bool.true_and, if_false]
   by_cases h3 : s.f0 = 4 ∨ s.f0 = 5
   ·have h4 : ¬ (s.f0 = 3 ∨ s.f0 ≥ 6) := by omega
    simp [h3, h4]
   ·simp only [h3, decide_false, Bool.false_eq_true, if_false]
    by_cases h4 : s.f0 = 2
    ·have h5 : ¬ (s.f0 = 3 ∨ s.f0 ≥ 6) := by omega
     simp [h4]
    ·have h5 : s.f0 = 3 ∨ s.f0 ≥ 6 := by omega
     by_cases h6 : a = 1 <;> simp [h4, h5, h6]
 ·simp [h1]
theorem ru (l : List bW) (hl : l.length < 4611686018427387904) : Ev (fun k => dz.f k l) (mW l) := by
 unfold dz.f
 simp only [lS, Option.bind_some, decide_eq_true_eq]
 unfold mW
 rw [aG]
 by_cases hlen : 1 ≤ l.length ∧ l.length ≤ 9
 ·rw [if_pos (by omega)]
  simp only [hlen, and_self, decide_true, Bool.true_and]
  have := nM (fun k i => dz.l0 k l l (l.length : Int) i) l.length (fun i => ((List.range l.length).drop i).all (nU l)) ?_ (fun i hi => ?_) 0 (Nat.zero_le _)
  ·simpa using this
  ·rw [← au]
   simp only [dz.l0]
   rw [en, eY, List.drop_eq_nil_of_le (by simp)]
   simp
  ·have hd : (List.range l.length).drop i = i :: (List.range l.length).drop (i + 1) := by rw [List.drop_eq_getElem_cons (by simpa using hi)]; simp
   have hu : ∀ r, Ev (fun k => dz.l0 k l l (l.length : Int) (i : Int)) r ↔ if nU l i = true then Ev (fun k => dz.l0 k l l (l.length : Int) ((i + 1 : Nat) : Int)) r else Ev (fun _ => some false) r := by
    intro r
    rw [← au]
    simp only [dz.l0, bJ (i := i) (by omega), lS, BN, at_eq, Option.bind_some, vK]
    generalize aj l (i : Int) = s
    simp only [aG, decide_eq_true_eq, av (iO s.f1), zC l i hi hl, toList_nil]
    rw [if_pos (by omega), if_pos (by omega), if_pos (by omega)]
    by_cases h1 : 1 ≤ s.f0 ∧ s.f0 ≤ 9
    ·by_cases h2 : s.f0 = 1
     ·simp only [h2]
      cases hw : iU s.f1
      ·simp
      ·by_cases h3 : s.f2 = 0
       ·by_cases h4 : s.f3 = 0 <;> simp [h3, h4]
       ·simp [h3]
     ·simp only [h1, h2, and_self, decide_true, Bool.true_and, if_true, if_false]
      by_cases h3 : s.f1.size = 0
      ·by_cases h4 : 0 ≤ s.f2 ∧ s.f2 < (i : Int)
       ·have h4' : s.f2 < (l.length : Int) := by omega
        by_cases h5 : s.f0 = 3 ∨ s.f0 ≥ 6
        ·simp only [h3, h4, h4', h5, and_self, decide_true, if_true, Bool.true_and]
         cases hb : ((aj l s.f2).f0 != 1)
         ·have hb' : (aj l s.f2).f0 = 1 := by simpa using hb
          simp [hb']
         ·have hb' : ¬ (aj l s.f2).f0 = 1 := by simpa using hb
          simp [hb']
        ·simp [h3, h4, h5]
       ·simp [h3, h4]
      ·simp [h3]
    ·simp [h1]
   rw [hd, List.all_cons]
   by_cases ho : nU l i = true
   ·refine .inr ⟨by simp [ho], fun r hr => ?_⟩
    rw [hu, if_pos ho]
    exact hr
   ·refine .inl ?_
    rw [hu, if_neg ho, eY]
    simp [ho]
 ·rw [if_neg (by omega)]
  simp [hlen, eY]
def mD (a : Int) (l : List bW) : Bool := decide (1 ≤ a ∧ a ≤ 99) && mW l
theorem zW (a : Int) (l : List bW) (hl : l.length < 4611686018427387904) : Ev (fun k => mo.f k a l) (mD a l) := by
 unfold mo.f mD
 simp only [mE, Option.bind_some, aG, av (rF l hl), decide_eq_true_eq]
 by_cases h : 1 ≤ a ∧ a ≤ 99 <;> simp [h, eY]
theorem wZ (a : Int) (l : List bW) (hl : l.length < 4611686018427387904) : Ev (fun k => lT.f k a l) (mD a l) := by
 unfold lT.f mD
 simp only [lS, Option.bind_some, aG, av (ru l hl), decide_eq_true_eq]
 by_cases h : 1 ≤ a ∧ a ≤ 99 <;> simp [h, eY]
theorem uD {l : List bW} {i : Nat} (hi : i < l.length) (h : nU l i = true) : (1 ≤ l[i].f0 ∧ l[i].f0 ≤ 9) ∧ (l[i].f0 = 1 → iU l[i].f1 = true) ∧ (¬ l[i].f0 = 1 → 0 ≤ l[i].f2 ∧ l[i].f2 < i) ∧ (l[i].f0 = 4 ∨ l[i].f0 = 5 → 0 ≤ l[i].f3 ∧ l[i].f3 < i) ∧ (¬ l[i].f0 = 1 → ¬ (l[i].f0 = 4 ∨ l[i].f0 = 5) → l[i].f3 = 0) ∧
  (l[i].f0 = 3 ∨ l[i].f0 ≥ 6 → (aj l l[i].f2).f0 = 1) ∧ (¬ l[i].f0 = 1 → l[i].f1.size = 0) ∧ (l[i].f0 = 1 → l[i].f2 = 0 ∧ l[i].f3 = 0) := by
 rw [vK, wF l i hi] at h
 simp only [Bool.and_eq_true, decide_eq_true_eq] at h
 obtain ⟨h1, h2⟩ := h
 refine ⟨h1, fun e => ?_, fun e => ?_, fun e => ?_, fun e e' => ?_, fun e => ?_, fun e => ?_, fun e => ?_⟩
 ·rw [if_pos e] at h2; simp at h2; exact h2.1
 ·rw [if_neg e] at h2; simp at h2; exact h2.2.1
 ·have e' : ¬ l[i].f0 = 1 := by omega
  rw [if_neg e', if_pos e] at h2; simp at h2; exact h2.2.2.2
 ·rw [if_neg e, if_neg e'] at h2; simp at h2; exact h2.2.2.2
 ·have e' : ¬ l[i].f0 = 1 := by omega
  rw [if_neg e'] at h2; simp at h2
  have h3 := h2.2.2.1
  rcases h3 with h3 | h3
  ·omega
  ·exact h3
 ·rw [if_neg e] at h2; simp at h2; rw [h2.1]; rfl
 ·rw [if_pos e] at h2; simp at h2; exact h2.2
theorem AP (l : List Int) (x : Int) (hl : l.length < 4611686018427387904) : Ev (fun k => iX.f k l x) (l.any (fun y => decide (y = x))) := by
 refine qg (fun k i => iX.l0 k l x i) l _ ?_ (fun i hi hp r hr => ?_) (fun i hi hp => ?_)
 ·rw [← au]; simp [iX.l0, aI]
 ·rw [← au]
  simp only [iX.l0, oC l i hi, bJ (i := i) (by omega)]
  simp at hp
  simp [aG, hi, hp]
  exact hr
 ·rw [← au]
  simp only [iX.l0, oC l i hi, bJ (i := i) (by omega)]
  simp at hp
  simp [aG, hi, hp, aI]
def sO (c : Int) : Bool := decide (c = 35 ∨ c = 46)
def fU (R C : Int) (s : ByteArray) : Bool := decide ((2 ≤ R ∧ R ≤ 6) ∧ (2 ≤ C ∧ C ≤ 6) ∧ (s.size : Int) = R * C) && (bytesOf s).all sO
theorem jR {R C : Int} {s : ByteArray} (h : fU R C s = true) : (2 ≤ R ∧ R ≤ 6) ∧ (2 ≤ C ∧ C ≤ 6) ∧ (s.size : Int) = R * C ∧ ∀ c ∈ bytesOf s, c = 35 ∨ c = 46 := by
 simp [fU, sO] at h
 exact ⟨h.1.1, h.1.2.1, h.1.2.2, h.2⟩
theorem zR {C : Int} (hC : 2 ≤ C ∧ C ≤ 6) : C = 2 ∨ C = 3 ∨ C = 4 ∨ C = 5 ∨ C = 6 := by omega
theorem ug {R C : Int} (hR : 2 ≤ R ∧ R ≤ 6) (hC : 2 ≤ C ∧ C ≤ 6) : 4 ≤ R * C ∧ R * C ≤ 36 := by
 rcases zR hC with rfl | rfl | rfl | rfl | rfl <;> omega
theorem iK {R C : Int} {s : ByteArray} (h : fU R C s = true) : 4 ≤ s.size ∧ s.size ≤ 36 := by
 obtain ⟨h1, h2, h3, _⟩ := jR h
 have := ug h1 h2
 omega
theorem AA (R C : Int) (s : ByteArray) (hs : s.size < 4611686018427387904) : Ev (fun k => bP.l0 k 0 R C s) ((bytesOf s).all sO) := by
 refine jL (fun k i => bP.l0 k i R C s) (bytesOf s) sO ?_ (fun i hi hp r hr => ?_) (fun i hi hp => ?_)
 ·rw [← au]; simp [bP.l0, bytesOf_length, aI]
 ·have hi' : i < s.size := by rw [bytesOf_length] at hi; exact hi
  rw [← au]
  simp only [sO, decide_eq_true_eq] at hp
  simp only [bP.l0, nJ s i hi', bJ (i := i) (by omega)]
  rw [ep, ep, aG]
  by_cases h : (bytesOf s)[i] = 35
  ·rw [if_pos h]; exact hr
  ·rw [if_neg h, ep]; exact hr
 ·have hi' : i < s.size := by rw [bytesOf_length] at hi; exact hi
  rw [← au]
  simp only [sO, decide_eq_false_iff_not] at hp
  simp only [bP.l0, nJ s i hi', bJ (i := i) (by omega)]
  rw [ep, ep, en, en]
  exact aI _
theorem jr (R C : Int) (s : ByteArray) : Ev (fun k => bP.f k R C s) (fU R C s) := by
 simp only [bP.f, mE, Option.bind_some, aG, decide_eq_true_eq]
 by_cases hR : 2 ≤ R ∧ R ≤ 6
 ·rw [if_pos hR]
  by_cases hC : 2 ≤ C ∧ C ≤ 6
  ·rw [if_pos hC]
   have hm := ug hR hC
   have e : wrap64 (R * C) = R * C := jQ (by omega) (by omega)
   rw [e, ← au]
   simp only [bP.j0, aG, bne_iff_ne, ne_eq]
   by_cases hs : (s.size : Int) = R * C
   ·rw [if_neg (not_not_intro hs)]
    exact iw (AA R C s (by omega)) (by simp [fU, hR, hC, hs])
   ·rw [if_pos hs]
    exact iw (aI _) (by simp [fU, hs])
  ·rw [if_neg hC, ← au]
   simp only [bP.j0, if_true]
   exact iw (aI _) (by simp [fU, hC])
 ·rw [if_neg hR, ← au]
  simp only [bP.j0, if_true]
  exact iw (aI _) (by simp [fU, hR])
theorem Ai (R C : Int) (s : ByteArray) (hs : s.size < 4611686018427387904) : Ev (fun k => bG.l0 k (s.size : Int) 0 R C s) ((bytesOf s).all sO) := by
 refine jL (fun k i => bG.l0 k (s.size : Int) i R C s) (bytesOf s) sO ?_ (fun i hi hp r hr => ?_) (fun i hi hp => ?_)
 ·rw [← au]; simp [bG.l0, bytesOf_length, aI]
 ·have hi' : i < s.size := by rw [bytesOf_length] at hi; exact hi
  rw [← au]
  simp only [sO, decide_eq_true_eq] at hp
  simp only [bG.l0, nJ s i hi', bJ (i := i) (by omega)]
  rw [ep, ep, ep, aG]
  by_cases h : (bytesOf s)[i] = 35
  ·rw [if_pos h]; exact hr
  ·rw [if_neg h, ep]; exact hr
 ·have hi' : i < s.size := by rw [bytesOf_length] at hi; exact hi
  rw [← au]
  simp only [sO, decide_eq_false_iff_not] at hp
  simp only [bG.l0, nJ s i hi', bJ (i := i) (by omega)]
  rw [ep, ep, ep, en, en]
  exact aI _
theorem kU (R C : Int) (s : ByteArray) : Ev (fun k => bG.f k R C s) (fU R C s) := by
 simp only [bG.f, lS, Option.bind_some, aG, decide_eq_true_eq]
 by_cases hR : 2 ≤ R ∧ R ≤ 6
 ·rw [if_pos hR]
  by_cases hC : 2 ≤ C ∧ C ≤ 6
  ·rw [if_pos hC]
   have hm := ug hR hC
   have e : wrap64 (R * C) = R * C := jQ (by omega) (by omega)
   rw [e, ← au]
   simp only [bG.j0, aG, bne_iff_ne, ne_eq]
   by_cases hs : (s.size : Int) = R * C
   ·rw [if_neg (not_not_intro hs)]
    exact iw (Ai R C s (by omega)) (by simp [fU, hR, hC, hs])
   ·rw [if_pos hs]
    exact iw (aI _) (by simp [fU, hs])
  ·rw [if_neg hC, ← au]
   simp only [bG.j0, if_true]
   exact iw (aI _) (by simp [fU, hC])
 ·rw [if_neg hR, ← au]
  simp only [bG.j0, if_true]
  exact iw (aI _) (by simp [fU, hR])
theorem uY {j st : Int} (hj : 0 ≤ j ∧ j ≤ 6) (hs : 1 ≤ st ∧ st ≤ 6) : 0 ≤ j * st ∧ j * st ≤ 36 := by
 have : st = 1 ∨ st = 2 ∨ st = 3 ∨ st = 4 ∨ st = 5 ∨ st = 6 := by omega
 rcases this with rfl | rfl | rfl | rfl | rfl | rfl <;> omega
theorem Hf (R C : Int) (s : ByteArray) (i st p n : Int) (hp : 0 ≤ p ∧ p ≤ 36) (hn : n ≤ 6) (hi : 0 ≤ i ∧ i ≤ 36) (hst : 1 ≤ st ∧ st ≤ 6) (hin : ∀ j, 0 ≤ j → p + j < n → 0 ≤ i + j * st ∧ i + j * st < (s.size : Int)) :
  ∀ (d : Nat) (j : Int), (n - p - j).toNat ≤ d → 0 ≤ j → j ≤ 6 → (∀ j', 0 ≤ j' → j' < j → p + j' < n ∧ bt s (i + j' * st) = 46) →
  ∃ r, Ev (fun k => bC.l0 k i st p n j R C s) r ∧ 0 ≤ r ∧ r ≤ 6 ∧ ∀ j', 0 ≤ j' → j' < r → p + j' < n ∧ bt s (i + j' * st) = 46 := by
 intro d
 induction d with
 | zero =>
  intro j hd h0 h6 hb
  have e1 : wrap64 (p + j) = p + j := jQ (by omega) (by omega)
  refine ⟨j, ?_, h0, h6, hb⟩
  rw [← au]
  simp only [bC.l0, e1]
  rw [en]
  exact aI _
 | succ d ih =>
  intro j hd h0 h6 hb
  have e1 : wrap64 (p + j) = p + j := jQ (by omega) (by omega)
  by_cases hc : p + j < n
  ·have hm := uY (j := j) (st := st) ⟨h0, h6⟩ hst
   have hj := hin j h0 hc
   have e2 : wrap64 (j * st) = j * st := jQ (by omega) (by omega)
   have e3 : wrap64 (i + j * st) = i + j * st := jQ (by omega) (by omega)
   have e4 : wrap64 (j + 1) = j + 1 := jQ (by omega) (by omega)
   by_cases h46 : bt s (i + j * st) = 46
   ·obtain ⟨r, hr, h⟩ := ih (j + 1) (by omega) (by omega) (by omega) (fun j' h1 h2 => by
     by_cases hh : j' = j
     ·rw [hh]; exact ⟨hc, h46⟩
     ·exact hb j' h1 (by omega))
    refine ⟨r, ?_, h⟩
    rw [← au]
    simp only [bC.l0, e1, e2, e3, e4]
    rw [ep hc, ep hj.1, ep hj.2, ep h46]
    exact hr
   ·refine ⟨j, ?_, h0, h6, hb⟩
    rw [← au]
    simp only [bC.l0, e1, e2, e3, e4]
    rw [ep hc, ep hj.1, ep hj.2, en h46]
    exact aI _
  ·refine ⟨j, ?_, h0, h6, hb⟩
   rw [← au]
   simp only [bC.l0, e1]
   rw [en hc]
   exact aI _
theorem Iq (R C : Int) (s : ByteArray) (i st p n : Int) (hp : 0 ≤ p ∧ p ≤ 36) (hn : n ≤ 6) (hi : 0 ≤ i ∧ i ≤ 36) (his : i < (s.size : Int)) (hst : 1 ≤ st ∧ st ≤ 6) (hb : 0 < p → 0 ≤ i - st) (hin : ∀ j, 0 ≤ j → p + j < n → 0 ≤ i + j * st ∧ i + j * st < (s.size : Int)) :
  ∃ r, Ev (fun k => bC.j0 k i st p n R C s) r ∧ 0 ≤ r ∧ r ≤ 6 ∧ ∀ j', 0 ≤ j' → j' < r → p + j' < n ∧ bt s (i + j' * st) = 46 := by
 have hj1 : ∀ b : Bool, ∃ r, Ev (fun k => bC.j1 k i st p n b R C s) r ∧ 0 ≤ r ∧ r ≤ 6 ∧ ∀ j', 0 ≤ j' → j' < r → p + j' < n ∧ bt s (i + j' * st) = 46 := by
  intro b
  cases b with
  | true =>
   refine ⟨0, ?_, by omega, by omega, fun _ _ _ => by omega⟩
   rw [← au]
   simp only [bC.j1, if_true]
   exact aI _
  | false =>
   obtain ⟨r, hr, h⟩ := Hf R C s i st p n hp hn hi hst hin _ 0 (Nat.le_refl _) (by omega) (by omega) (fun _ _ _ => by omega)
   refine ⟨r, ?_, h⟩
   rw [← au]
   simp only [bC.j1, Bool.false_eq_true, if_false]
   exact hr
 have e1 : wrap64 (i - st) = i - st := jQ (by omega) (by omega)
 by_cases h46 : bt s i = 46
 ·by_cases hp0 : p > 0
  ·obtain ⟨r, hr, h⟩ := hj1 (bt s (i - st) == 46)
   have := hb hp0
   refine ⟨r, ?_, h⟩
   rw [← au]
   simp only [bC.j0, e1]
   rw [ep hi.1, ep his, ep h46, ep hp0, ep this, ep]
   exact hr
  ·obtain ⟨r, hr, h⟩ := hj1 false
   refine ⟨r, ?_, h⟩
   rw [← au]
   simp only [bC.j0, e1]
   rw [ep hi.1, ep his, ep h46, en hp0]
   exact hr
 ·obtain ⟨r, hr, h⟩ := hj1 true
  refine ⟨r, ?_, h⟩
  rw [← au]
  simp only [bC.j0, e1]
  rw [ep hi.1, ep his, en h46]
  exact hr
theorem Ip {R C : Int} {s : ByteArray} (hg : fU R C s = true) (i : Nat) (hi : i < s.size) (b : Bool) :
  ∃ r, Ev (fun k => bC.f k R C s i b) r ∧ 0 ≤ r ∧ r ≤ 6 ∧ ∀ j, 0 ≤ j → j < r → 0 ≤ (i : Int) + j * (if b = true then C else 1) ∧ (i : Int) + j * (if b = true then C else 1) < s.size ∧ bt s ((i : Int) + j * (if b = true then C else 1)) = 46 := by
 obtain ⟨hR, hC, hs, _⟩ := jR hg
 have hm := ug hR hC
 have e1 : Int.tdiv (i : Int) C = (i : Int) / C := Int.tdiv_eq_ediv_of_nonneg (by omega)
 have e2 : Int.tmod (i : Int) C = (i : Int) % C := Int.tmod_eq_emod_of_nonneg (by omega)
 have hi2 : (i : Int) < R * C := by omega
 have hdiv : 0 ≤ (i : Int) / C ∧ (i : Int) / C ≤ 36 ∧ 0 ≤ (i : Int) % C ∧ (i : Int) % C ≤ 36 ∧ (0 < (i : Int) / C → 0 ≤ (i : Int) - C) ∧ (0 < (i : Int) % C → 0 ≤ (i : Int) - 1)
   ∧ (∀ j, 0 ≤ j → (i : Int) / C + j < R → 0 ≤ (i : Int) + j * C ∧ (i : Int) + j * C < R * C) ∧ (∀ j, 0 ≤ j → (i : Int) % C + j < C → 0 ≤ (i : Int) + j * 1 ∧ (i : Int) + j * 1 < R * C) := by
  rcases zR hC with rfl | rfl | rfl | rfl | rfl <;> exact ⟨by omega, by omega, by omega, by omega, by omega, by omega, fun j h1 h2 => by omega, fun j h1 h2 => by omega⟩
 obtain ⟨d1, d2, d3, d4, d5, d6, d7, d8⟩ := hdiv
 have e3 : wrap64 ((i : Int) / C) = (i : Int) / C := jQ (by omega) (by omega)
 have hc0 : ¬ C = 0 := by omega
 cases b with
 | true =>
  obtain ⟨r, hr, h0, h6, h⟩ := Iq R C s i C ((i : Int) / C) R ⟨d1, d2⟩ hR.2 (by omega) (by omega) (by omega) d5 (fun j h1 h2 => by rw [hs]; exact d7 j h1 h2)
  refine ⟨r, ?_, h0, h6, fun j h1 h2 => ?_⟩
  ·simp only [bC.f, e1, e3]
   rw [en hc0, ep trivial]
   exact hr
  ·have := h j h1 h2
   have := d7 j h1 this.1
   simp only [if_true]
   omega
 | false =>
  obtain ⟨r, hr, h0, h6, h⟩ := Iq R C s i 1 ((i : Int) % C) C ⟨d3, d4⟩ hC.2 (by omega) (by omega) (by omega) d6 (fun j h1 h2 => by rw [hs]; exact d8 j h1 h2)
  refine ⟨r, ?_, h0, h6, fun j h1 h2 => ?_⟩
  ·simp only [bC.f, e2]
   rw [en hc0, en (by simp)]
   exact hr
  ·have := h j h1 h2
   have := d8 j h1 this.1
   simp only [Bool.false_eq_true, if_false]
   omega
noncomputable def tL (R C : Int) (s : ByteArray) (i : Int) (b : Bool) : Int := open Classical in if h : ∃ r, Ev (fun k => bC.f k R C s i b) r then h.choose else 0
theorem uH {R C : Int} {s : ByteArray} (hg : fU R C s = true) (i : Nat) (hi : i < s.size) (b : Bool) : Ev (fun k => bC.f k R C s i b) (tL R C s i b) := by
 obtain ⟨r, hr, _⟩ := Ip hg i hi b
 have hx : ∃ r, Ev (fun k => bC.f k R C s i b) r := ⟨r, hr⟩
 unfold tL
 rw [dif_pos hx]
 exact hx.choose_spec
theorem Ew {R C : Int} {s : ByteArray} (hg : fU R C s = true) (i : Nat) (hi : i < s.size) (b : Bool) : 0 ≤ tL R C s i b ∧ tL R C s i b ≤ 6 ∧ ∀ j, 0 ≤ j → j < tL R C s i b → 0 ≤ (i : Int) + j * (if b = true then C else 1) ∧ (i : Int) + j * (if b = true then C else 1) < s.size ∧ bt s ((i : Int) + j * (if b = true then C else 1)) = 46 := by
 obtain ⟨r, hr, h⟩ := Ip hg i hi b
 rw [EI (uH hg i hi b) hr]
 exact h
theorem Gs : ∀ k, (∀ a b c d e f g, fI.j0 k a b c d e f g = bC.j0 k a b c d e f g) ∧ (∀ a b c d x e f g, fI.j1 k a b c d x e f g = bC.j1 k a b c d x e f g) ∧ ∀ a b c d x e f g, fI.l0 k a b c d x e f g = bC.l0 k a b c d x e f g := by
 intro k
 induction k with
 | zero => exact ⟨fun _ _ _ _ _ _ _ => rfl, fun _ _ _ _ _ _ _ _ => rfl, fun _ _ _ _ _ _ _ _ => rfl⟩
 | succ k ih =>
  obtain ⟨h1, h2, h3⟩ := ih
  refine ⟨fun a b c d e f g => ?_, fun a b c d x e f g => ?_, fun a b c d x e f g => ?_⟩
  ·simp only [fI.j0, bC.j0, h2]
  ·simp only [fI.j1, bC.j1, h3]
  ·simp only [fI.l0, bC.l0, h3]
theorem run_eq (k : Nat) (R C : Int) (s : ByteArray) (i : Int) (b : Bool) : fI.f k R C s i b = bC.f k R C s i b := by
 simp only [fI.f, bC.f, (Gs k).1]
def slA (n i a : Int) : List eZ := if a ≥ 2 then [⟨n, false, i, a⟩] else []
def slD (n i d : Int) : List eZ := if d ≥ 2 then [⟨n, true, i, d⟩] else []
def qI (a d n : Int) : Int := if a ≥ 2 ∨ d ≥ 2 then n + 1 else n
def qB (a d : Int) (i : Nat) (st : List eZ × Int) : List eZ × Int := ((st.1 ++ slA (qI a d st.2) i a) ++ slD (qI a d st.2) i d, qI a d st.2)
noncomputable def oF (R C : Int) (s : ByteArray) (st : List eZ × Int) (i : Nat) : List eZ × Int := qB (tL R C s i false) (tL R C s i true) i st
noncomputable def slW (R C : Int) (s : ByteArray) (i : Nat) (st : List eZ × Int) : List eZ × Int := (List.range' i (s.size - i)).foldl (oF R C s) st
noncomputable def aW (R C : Int) (s : ByteArray) : List eZ := if fU R C s = true then (slW R C s 0 ([], 0)).1 else []
theorem Cb (R C : Int) (s : ByteArray) (st : List eZ × Int) : slW R C s s.size st = st := by simp [slW]
theorem zS (R C : Int) (s : ByteArray) (i : Nat) (hi : i < s.size) (st : List eZ × Int) : slW R C s i st = slW R C s (i + 1) (oF R C s st i) := by
 unfold slW
 rw [show s.size - i = (s.size - (i + 1)) + 1 by omega, List.range'_succ]
 rfl
theorem Gt (a d n : Int) : n ≤ qI a d n ∧ qI a d n ≤ n + 1 := by unfold qI; split <;> omega
theorem DY (a d : Int) (i : Nat) (st : List eZ × Int) : (qB a d i st).1.length ≤ st.1.length + 2 := by
 have h1 : (slA (qI a d st.2) i a).length ≤ 1 := by unfold slA; split <;> simp
 have h2 : (slD (qI a d st.2) i d).length ≤ 1 := by unfold slD; split <;> simp
 simp only [qB, List.length_append]
 omega
def CX (i : Nat) (st : List eZ × Int) : Prop := st.1.length ≤ 2 * i ∧ 0 ≤ st.2 ∧ st.2 ≤ i
theorem tN (R C : Int) (s : ByteArray) (i : Nat) (st : List eZ × Int) (h : CX i st) : CX (i + 1) (oF R C s st i) := by
 obtain ⟨h1, h2, h3⟩ := h
 have := DY (tL R C s i false) (tL R C s i true) i st
 have := Gt (tL R C s i false) (tL R C s i true) st.2
 refine ⟨?_, ?_, ?_⟩
 ·unfold oF; omega
 ·unfold oF qB; dsimp only; omega
 ·unfold oF qB; dsimp only; omega
theorem qK {R C : Int} {s : ByteArray} (a d : Int) (i : Nat) (hi : i < 36) (l : List eZ) (n : Int) (hl : l.length ≤ 72) (r : List eZ)
  (hr : Ev (fun k => aQ.l0 k ((l ++ slA n i a) ++ slD n i d) n ((i + 1 : Nat) : Int) R C s) r) : Ev (fun k => aQ.j3 k l n i a d R C s) r := by
 rw [← au]
 simp only [aQ.j3, bJ (i := i) (by omega), Option.bind_some, aG]
 by_cases a2 : a ≥ 2 <;> by_cases d2 : d ≥ 2 <;> simp only [slA, slD, a2, d2, if_true, if_false, List.append_nil] at hr ⊢
 ·rw [if_pos (by omega), if_pos (by rw [List.length_append]; simp; omega)]
  exact hr
 ·rw [if_pos (by omega)]
  exact hr
 ·rw [if_pos (by omega)]
  exact hr
 ·exact hr
theorem zX {R C : Int} {s : ByteArray} (hg : fU R C s = true) : Ev (fun k => aQ.l0 k [] 0 0 R C s) (slW R C s 0 ([], 0)).1 := by
 have hsz := iK hg
 refine iZ (σ := List eZ × Int) (fun k st i => aQ.l0 k st.1 st.2 i R C s) s.size CX (fun i st => (slW R C s i st).1) (fun st hst => ?_) (fun i st hi hst => .inr ⟨oF R C s st i, tN R C s i st hst, ?_, fun r hr => ?_⟩) 0 ([], 0) (Nat.zero_le _) ⟨by simp, by simp, by simp⟩
 ·rw [Cb, ← au]
  simp only [aQ.l0, Int.lt_irrefl, if_false]
  rw [← au]
  simp only [aQ.j1, Bool.false_eq_true, if_false]
  exact aI _
 ·rw [zS R C s i hi]
 ·obtain ⟨h1, h2, h3⟩ := hst
  have ha := uH hg i hi false
  have hd := uH hg i hi true
  unfold oF qB at hr
  generalize tL R C s i false = a at ha hr
  generalize tL R C s i true = d at hd hr
  have hn1 : wrap64 (st.2 + 1) = st.2 + 1 := jQ (by omega) (by omega)
  rw [← au]
  simp only [aQ.l0]
  rw [ep, av (jr R C s), hg, ← au]
  simp only [aQ.j1, if_true]
  rw [av ha, av hd, aG]
  have hj2 : ∀ b : Bool, b = decide (a ≥ 2 ∨ d ≥ 2) → Ev (fun k => aQ.j2 k st.1 st.2 i a d b R C s) r := by
   intro b hb
   rw [← au]
   simp only [aQ.j2, hn1]
   rw [aG]
   by_cases h : a ≥ 2 ∨ d ≥ 2
   ·rw [if_pos (by rw [hb]; simpa using h)]
    simp only [qI, if_pos h] at hr
    exact qK a d i (by omega) st.1 _ (by omega) r hr
   ·rw [if_neg (by rw [hb]; simpa using h)]
    simp only [qI, if_neg h] at hr
    exact qK a d i (by omega) st.1 _ (by omega) r hr
  by_cases a2 : a ≥ 2
  ·rw [if_pos a2]
   exact hj2 _ (by simp [a2])
  ·rw [if_neg a2]
   exact hj2 _ (by simp only [a2, false_or])
theorem jI (R C : Int) (s : ByteArray) : Ev (fun k => aQ.f k R C s) (aW R C s) := by
 unfold aW
 split
 ·rename_i hg
  exact zX hg
 ·rename_i hg
  simp only [aQ.f]
  rw [← au]
  simp only [aQ.l0]
  rw [Bool.not_eq_true] at hg
  have : Ev (fun k => aQ.j1 k [] 0 0 false R C s) [] := by
   rw [← au]
   simp only [aQ.j1, Bool.false_eq_true, if_false]
   exact aI _
  rw [aG]
  split
  ·rw [av (jr R C s), hg]
   exact this
  ·exact this
theorem Ca {n i a : Int} {x : eZ} (h : x ∈ slA n i a) : x = ⟨n, false, i, a⟩ ∧ a ≥ 2 := by
 unfold slA at h
 split at h
 ·exact ⟨List.mem_singleton.1 h, ‹_›⟩
 ·simp at h
theorem Ey {n i a : Int} {x : eZ} (h : x ∈ slD n i a) : x = ⟨n, true, i, a⟩ ∧ a ≥ 2 := by
 unfold slD at h
 split at h
 ·exact ⟨List.mem_singleton.1 h, ‹_›⟩
 ·simp at h
def stepOf (C : Int) (x : eZ) : Int := if x.f1 = true then C else 1
def Ib (C : Int) (s : ByteArray) (x : eZ) : Prop := 0 ≤ x.f2 ∧ x.f2 < s.size ∧ 2 ≤ x.f3 ∧ x.f3 ≤ 6 ∧ ∀ j, 0 ≤ j → j < x.f3 → 0 ≤ x.f2 + j * stepOf C x ∧ x.f2 + j * stepOf C x < s.size ∧ bt s (x.f2 + j * stepOf C x) = 46
theorem DZ {R C : Int} {s : ByteArray} (hg : fU R C s = true) : ∀ (n i : Nat) (st : List eZ × Int), i + n = s.size → CX i st → (∀ x ∈ st.1, Ib C s x ∧ x.f2 < i) → st.1.Nodup →
  (∀ x ∈ (slW R C s i st).1, Ib C s x) ∧ (slW R C s i st).1.Nodup ∧ (slW R C s i st).1.length ≤ 72 := by
 have hsz := iK hg
 intro n
 induction n with
 | zero =>
  intro i st hi hv hx hnd
  have : i = s.size := by omega
  subst this
  rw [Cb]
  exact ⟨fun x h => (hx x h).1, hnd, by have := hv.1; omega⟩
 | succ n ih =>
  intro i st hi hv hx hnd
  rw [zS R C s i (by omega)]
  have ia := Ew hg i (by omega) false
  have id := Ew hg i (by omega) true
  refine ih (i + 1) _ (by omega) (tN R C s i st hv) ?_ ?_
  ·intro x h
   unfold oF qB at h
   simp only [List.mem_append] at h
   rcases h with (h | h) | h
   ·have := hx x h
    exact ⟨this.1, by omega⟩
   ·obtain ⟨rfl, h2⟩ := Ca h
    refine ⟨⟨by show (0 : Int) ≤ (i : Int); omega, by show (i : Int) < (s.size : Int); omega, h2, ia.2.1, fun j h1 h3 => ?_⟩, by show (i : Int) < ((i + 1 : Nat) : Int); omega⟩
    have := ia.2.2 j h1 h3
    simpa [stepOf] using this
   ·obtain ⟨rfl, h2⟩ := Ey h
    refine ⟨⟨by show (0 : Int) ≤ (i : Int); omega, by show (i : Int) < (s.size : Int); omega, h2, id.2.1, fun j h1 h3 => ?_⟩, by show (i : Int) < ((i + 1 : Nat) : Int); omega⟩
    have := id.2.2 j h1 h3
    simpa [stepOf] using this
  ·unfold oF qB
   dsimp only
   rw [List.nodup_append, List.nodup_append]
   refine ⟨⟨hnd, ?_, ?_⟩, ?_, ?_⟩
   ·unfold slA; split <;> simp
   ·intro x h1 y h2 he
    obtain ⟨rfl, _⟩ := Ca h2
    have := (hx x h1).2
    rw [he] at this
    simp at this
   ·unfold slD; split <;> simp
   ·intro x h1 y h2 he
    obtain ⟨rfl, _⟩ := Ey h2
    rcases List.mem_append.1 h1 with h1 | h1
    ·have := (hx x h1).2
     rw [he] at this
     simp at this
    ·obtain ⟨rfl, _⟩ := Ca h1
     simp at he
theorem fT (R C : Int) (s : ByteArray) : (∀ x ∈ aW R C s, Ib C s x) ∧ (aW R C s).Nodup ∧ (aW R C s).length ≤ 72 := by
 unfold aW
 split
 ·rename_i hg
  exact DZ hg s.size 0 ([], 0) (by omega) ⟨by simp, by simp, by simp⟩ (by simp) (by simp)
 ·simp
theorem vM {R C : Int} {s : ByteArray} {x : eZ} (h : x ∈ aW R C s) : fU R C s = true := by
 unfold aW at h
 split at h
 ·assumption
 ·simp at h
theorem qH {R C : Int} {s : ByteArray} (a d : Int) (i : Nat) (hi : i < 36) (l : List eZ) (n : Int) (hl : l.length ≤ 72) (r : List eZ)
  (hr : Ev (fun k => bf.l0 k ((l ++ slA n i a) ++ slD n i d) n (s.size : Int) ((i + 1 : Nat) : Int) R C s) r) : Ev (fun k => bf.j2 k l n i a d (s.size : Int) i R C s) r := by
 rw [← au]
 simp only [bf.j2, bJ (i := i) (by omega), Option.bind_some, aG]
 by_cases a2 : a ≥ 2 <;> by_cases d2 : d ≥ 2 <;> simp only [slA, slD, a2, d2, if_true, if_false, List.append_nil] at hr ⊢
 ·rw [if_pos (by omega), if_pos (by rw [List.length_append]; simp; omega)]
  exact hr
 ·rw [if_pos (by omega)]
  exact hr
 ·rw [if_pos (by omega)]
  exact hr
 ·exact hr
theorem zD {R C : Int} {s : ByteArray} (hg : fU R C s = true) : Ev (fun k => bf.l0 k [] 0 (s.size : Int) 0 R C s) (slW R C s 0 ([], 0)).1 := by
 have hsz := iK hg
 refine iZ (σ := List eZ × Int) (fun k st i => bf.l0 k st.1 st.2 (s.size : Int) i R C s) s.size CX (fun i st => (slW R C s i st).1) (fun st hst => ?_) (fun i st hi hst => .inr ⟨oF R C s st i, tN R C s i st hst, ?_, fun r hr => ?_⟩) 0 ([], 0) (Nat.zero_le _) ⟨by simp, by simp, by simp⟩
 ·rw [Cb, ← au]
  simp only [bf.l0, Int.lt_irrefl, if_false]
  exact aI _
 ·rw [zS R C s i hi]
 ·obtain ⟨h1, h2, h3⟩ := hst
  have ha := uH hg i hi false
  have hd := uH hg i hi true
  unfold oF qB at hr
  generalize tL R C s i false = a at ha hr
  generalize tL R C s i true = d at hd hr
  have hn1 : wrap64 (st.2 + 1) = st.2 + 1 := jQ (by omega) (by omega)
  rw [← au]
  simp only [bf.l0, run_eq]
  rw [ep, av ha, av hd, aG]
  have hj2 : ∀ b : Bool, b = decide (a ≥ 2 ∨ d ≥ 2) → Ev (fun k => bf.j1 k st.1 st.2 i a d (s.size : Int) i b R C s) r := by
   intro b hb
   rw [← au]
   simp only [bf.j1, hn1]
   rw [aG]
   by_cases h : a ≥ 2 ∨ d ≥ 2
   ·rw [if_pos (by rw [hb]; simpa using h)]
    simp only [qI, if_pos h] at hr
    exact qH a d i (by omega) st.1 _ (by omega) r hr
   ·rw [if_neg (by rw [hb]; simpa using h)]
    simp only [qI, if_neg h] at hr
    exact qH a d i (by omega) st.1 _ (by omega) r hr
  by_cases a2 : a ≥ 2
  ·rw [if_pos a2]
   exact hj2 _ (by simp [a2])
  ·rw [if_neg a2]
   exact hj2 _ (by simp only [a2, false_or])
theorem oz (R C : Int) (s : ByteArray) : Ev (fun k => bf.f k R C s) (aW R C s) := by
 unfold aW bf.f
 rw [av (kU R C s), aG]
 split
 ·rename_i hg
  exact zD hg
 ·exact aI _
def eF (C : Int) (x : eZ) : List Int := (List.range x.f3.toNat).map (fun (j : Nat) => x.f2 + (j : Int) * stepOf C x)
theorem jd (C : Int) (x : eZ) : (eF C x).length = x.f3.toNat := by simp [eF]
theorem wN (C : Int) (x : eZ) (j : Nat) (h : j < (eF C x).length) : (eF C x)[j] = x.f2 + (j : Int) * stepOf C x := by simp [eF]
theorem uQ {C : Int} {s : ByteArray} {x : eZ} (h : Ib C s x) : ∀ c ∈ eF C x, 0 ≤ c ∧ c < s.size ∧ bt s c = 46 := by
 intro c hc
 obtain ⟨j, hj, rfl⟩ := List.mem_map.1 hc
 have := List.mem_range.1 hj
 exact h.2.2.2.2 j (by omega) (by omega)
theorem Bn {C : Int} (hC : 2 ≤ C ∧ C ≤ 6) (x : eZ) : 1 ≤ stepOf C x ∧ stepOf C x ≤ 6 := by unfold stepOf; split <;> omega
theorem vX {R C : Int} {s : ByteArray} (hC : 2 ≤ C ∧ C ≤ 6) (x : eZ) (hx : 0 ≤ x.f2 ∧ x.f2 ≤ 36 ∧ 0 ≤ x.f3 ∧ x.f3 ≤ 6) (l : List eZ) (i : Nat) (hi : i < 4611686018427387903) (acc : List Int) (hacc : acc.length ≤ 100000) (r : List Int)
  (hr : Ev (fun k => bV.l0 k (acc ++ eF C x) l ((i + 1 : Nat) : Int) R C s x.f0 x.f1 x.f2 x.f3) r) : Ev (fun k => bV.l1 k acc l i 0 R C s x.f0 x.f1 x.f2 x.f3) r := by
 have hl := jd C x
 have hst := Bn hC x
 refine iZ (σ := List Int) (fun k a j => bV.l1 k a l i j R C s x.f0 x.f1 x.f2 x.f3) (eF C x).length (fun j a => a = acc ++ (eF C x).take j) (fun _ _ => r) (fun a ha => ?_) (fun j a hj ha => .inr ⟨a ++ [(eF C x)[j]], ?_, rfl, fun r' hr' => ?_⟩) 0 acc (Nat.zero_le _) (by simp)
 ·rw [List.take_length] at ha
  subst ha
  rw [← au]
  simp only [bV.l1, bJ (i := i) (by omega)]
  rw [en]
  exact hr
 ·rw [ha, List.take_succ_eq_append_getElem hj, List.append_assoc]
 ·have hal : a.length ≤ 200000 := by rw [ha, List.length_append, List.length_take]; omega
  have hm := uY (j := (j : Int)) (st := stepOf C x) (by omega) hst
  rw [wN] at hr'
  rw [← au]
  simp only [bV.l1, bJ (i := j) (by omega)]
  rw [ep, aG]
  unfold stepOf at hm hr'
  by_cases hd : x.f1 = true
  ·simp only [hd, if_true] at hm hr' ⊢
   have e1 : wrap64 ((j : Int) * C) = j * C := jQ (by omega) (by omega)
   have e2 : wrap64 (x.f2 + (j : Int) * C) = x.f2 + j * C := jQ (by omega) (by omega)
   rw [e1, e2, ep]
   exact hr'
  ·rw [Bool.not_eq_true] at hd
   simp only [hd, Bool.false_eq_true, if_false, Int.mul_one] at hm hr' ⊢
   have e2 : wrap64 (x.f2 + (j : Int)) = x.f2 + j := jQ (by omega) (by omega)
   rw [e2, ep]
   exact hr'
theorem EK {α β : Type} [DecidableEq α] (l : List α) (x : α) (c : List β) (h : x ∉ l) : l.flatMap (fun y => if y = x then c else []) = [] := by
 rw [List.flatMap_eq_nil_iff]
 intro y hy
 rw [if_neg]
 rintro rfl
 exact h hy
theorem Ba {α β : Type} [DecidableEq α] (x : α) (c : List β) : ∀ l : List α, l.Nodup → x ∈ l → l.flatMap (fun y => if y = x then c else []) = c
 | [], _, h => by cases h
 | y :: l, hn, h => by
  rw [List.nodup_cons] at hn
  rw [List.flatMap_cons]
  by_cases he : y = x
  ·subst he
   rw [if_pos rfl, EK l y c hn.1, List.append_nil]
  ·rw [if_neg he, List.nil_append]
   refine Ba x c l hn.2 ?_
   rcases List.mem_cons.1 h with h | h
   ·exact absurd h.symm he
   ·exact h
theorem wR {α β : Type} (f : α → List β) (n : Nat) : ∀ l : List α, (∀ x ∈ l, (f x).length ≤ n) → (l.flatMap f).length ≤ n * l.length
 | [], _ => by simp
 | x :: l, h => by
  have h1 := wR f n l (fun y hy => h y (List.mem_cons_of_mem _ hy))
  have h2 := h x List.mem_cons_self
  rw [List.flatMap_cons, List.length_append, List.length_cons, Nat.mul_succ]
  omega
theorem nX {α β : Type} (f : α → List β) (n i : Nat) (l : List α) (h : ∀ x ∈ l, (f x).length ≤ n) : ((l.take i).flatMap f).length ≤ n * l.length := by
 have h1 := wR f n (l.take i) (fun x hx => h x (List.mem_of_mem_take hx))
 have h2 : (l.take i).length ≤ l.length := by rw [List.length_take]; omega
 exact Nat.le_trans h1 (Nat.mul_le_mul_left n h2)
theorem oG {R C : Int} {s : ByteArray} (x : eZ) (hx : x ∈ aW R C s) : Ev (fun k => bV.f k R C s x.f0 x.f1 x.f2 x.f3) (eF C x) := by
 obtain ⟨good, hnd, hlen⟩ := fT R C s
 have hg := vM hx
 have hC := (jR hg).2.1
 have hsz := iK hg
 have ok := good x hx
 unfold bV.f
 rw [av (jI R C s)]
 generalize aW R C s = l at hx hnd hlen
 letI : DecidableEq eZ := fun _ _ => Classical.propDecidable _
 have hfl : ∀ y ∈ l, (if y = x then eF C x else []).length ≤ 6 := by
  intro y _
  split
  ·rw [jd]; have := ok.2.2.2.1; omega
  ·simp
 refine iw (mG (fun k a i => bV.l0 k a l i R C s x.f0 x.f1 x.f2 x.f3) l (fun y => if y = x then eF C x else []) 0 (fun a => ?_) (fun i hi a ha r hr => ?_)) (Ba x _ l hnd hx)
 ·rw [← au]; simp only [bV.l0, Int.lt_irrefl, if_false]; exact aI _
 ·have hb := nX _ 6 i l hfl
  rw [← au]
  simp only [bV.l0, mM l i hi, bJ (i := i) (by omega)]
  rw [ep, ep, aG]
  by_cases he : l[i] = x
  ·simp only [he, if_true] at hr ⊢
   rw [if_neg (by simp)]
   exact vX hC x ⟨ok.1, by have := ok.2.1; omega, by have := ok.2.2.1; omega, ok.2.2.2.1⟩ l i (by omega) a (by omega) r hr
  ·simp only [he, if_false, List.append_nil] at hr
   rw [if_pos]
   ·exact hr
   ·generalize l[i] = y at he
    obtain ⟨y0, y1, y2, y3⟩ := y
    obtain ⟨x0, x1, x2, x3⟩ := x
    simp only [eZ.mk.injEq, not_and] at he
    simp only [Bool.or_eq_true, Bool.not_eq_true', beq_eq_false_iff_ne, ne_eq]
    by_cases h0 : y0 = x0
    ·by_cases h1 : y1 = x1
     ·by_cases h2 : y2 = x2
      ·exact .inr (.inr (.inr (he h0 h1 h2)))
      ·exact .inr (.inr (.inl h2))
     ·exact .inr (.inl h1)
    ·exact .inl h0
theorem Am {R C : Int} {s : ByteArray} (x : eZ) (hx : x ∈ aW R C s) : Ev (fun k => fV.f k R C s x.f0 x.f1 x.f2 x.f3) (eF C x) := by
 obtain ⟨good, hnd, hlen⟩ := fT R C s
 have hg := vM hx
 have hC := (jR hg).2.1
 have hsz := iK hg
 have ok := good x hx
 have hl := jd C x
 have hst := Bn hC x
 have q1 := ok.1
 have q2 := ok.2.1
 have q3 := ok.2.2.1
 have q4 := ok.2.2.2.1
 have key : Ev (fun k => fV.j0 k (stepOf C x) x.f0 x.f1 x.f2 x.f3) (eF C x) := by
  rw [← au]
  simp only [fV.j0]
  refine iZ (σ := List Int) (fun k a j => fV.l0 k (stepOf C x) a x.f3 j x.f0 x.f1 x.f2 x.f3) (eF C x).length (fun j a => a = (eF C x).take j) (fun _ _ => eF C x) (fun a ha => ?_) (fun j a hj ha => .inr ⟨a ++ [(eF C x)[j]], ?_, rfl, fun r' hr' => ?_⟩) 0 [] (Nat.zero_le _) (by simp)
  ·rw [List.take_length] at ha
   subst ha
   rw [← au]
   simp only [fV.l0]
   rw [en]
   exact aI _
  ·rw [ha, List.take_succ_eq_append_getElem hj]
  ·have hal : a.length ≤ 6 := by rw [ha, List.length_take]; omega
   have hm := uY (j := (j : Int)) (st := stepOf C x) (by omega) hst
   rw [wN] at hr'
   have e1 : wrap64 ((j : Int) * stepOf C x) = j * stepOf C x := jQ (by omega) (by omega)
   have e2 : wrap64 (x.f2 + (j : Int) * stepOf C x) = x.f2 + j * stepOf C x := jQ (by omega) (by omega)
   rw [← au]
   simp only [fV.l0, bJ (i := j) (by omega), e1, e2]
   rw [ep, ep]
   exact hr'
 unfold fV.f
 unfold stepOf at key
 rw [aG]
 by_cases hd : x.f1 = true
 ·rw [if_pos hd] at key ⊢
  exact key
 ·rw [if_neg hd] at key ⊢
  exact key
theorem nL (R C : Int) (s : ByteArray) : Ev (fun k => fM.f k R C s) ((aW R C s).map (eF C)) := by
 obtain ⟨good, hnd, hlen⟩ := fT R C s
 unfold fM.f
 rw [av (oz R C s)]
 refine iw (mG (fun k a i => fM.l0 k a (aW R C s) ((aW R C s).length : Int) i R C s) (aW R C s) (fun x => [eF C x]) 0 (fun a => ?_) (fun i hi a ha r hr => ?_)) List.map_eq_flatMap.symm
 ·rw [← au]; simp only [fM.l0, Int.lt_irrefl, if_false]; exact aI _
 ·have hb := nX (fun x : eZ => [eF C x]) 1 i (aW R C s) (fun _ _ => by simp)
  rw [← au]
  simp only [fM.l0, mM _ i hi, bJ (i := i) (by omega)]
  rw [ep, ep, ep, av (Am _ (List.getElem_mem hi)), ep]
  exact hr
def oV (c f : Int) : Bool := decide ((c = 35 ↔ f = 35) ∧ (f = 35 ∨ f = 63 ∨ (97 ≤ f ∧ f ≤ 122)))
def kR (R C : Int) (s f : ByteArray) : Bool := fU R C s && (decide (f.size = s.size) && (List.range f.size).all (fun i => oV (bt s i) (bt f i)))
theorem sQ {R C : Int} {s f : ByteArray} (h : kR R C s f = true) : fU R C s = true ∧ f.size = s.size ∧ ∀ i : Nat, i < f.size → oV (bt s i) (bt f i) = true := by
 simpa [kR] using h
theorem Et {R C : Int} {s : ByteArray} (hg : fU R C s = true) (i : Nat) (hi : i < s.size) : bt s (i : Int) = 35 ∨ bt s (i : Int) = 46 := by
 rw [nJ s i hi]
 exact (jR hg).2.2.2 _ (List.getElem_mem _)
theorem qp {R C : Int} {s f : ByteArray} (k i : Nat) (hi : i < f.size) (hs : i < s.size) (h36 : i < 1000) (hc : bt s (i : Int) = 35 ∨ bt s (i : Int) = 46) :
  cu.l0 (k + 1) f i R C s = if oV (bt s i) (bt f i) = true then cu.l0 k f ((i + 1 : Nat) : Int) R C s else some false := by
 have h1 : (i : Int) < (f.size : Int) := by omega
 have h2 : (0 : Int) ≤ (i : Int) := by omega
 have h3 : (i : Int) < (s.size : Int) := by omega
 simp only [cu.l0, bJ (i := i) (by omega), h1, h2, h3, if_true]
 generalize cu.l0 k f ((i + 1 : Nat) : Int) R C s = Y
 generalize bt s (i : Int) = c at hc ⊢
 generalize bt f (i : Int) = x
 simp only [oV, decide_eq_true_eq]
 repeat' split
 all_goals first | rfl | (exfalso; omega)
theorem Az {R C : Int} {s f : ByteArray} (hg : fU R C s = true) (hf : f.size = s.size) : Ev (fun k => cu.l0 k f 0 R C s) ((List.range f.size).all (fun i => oV (bt s i) (bt f i))) := by
 have hsz := iK hg
 refine jL (fun k i => cu.l0 k f i R C s) (List.range f.size) (fun i => oV (bt s i) (bt f i)) ?_ (fun i hi hp r hr => ?_) (fun i hi hp => ?_)
 ·rw [← au]; simp [cu.l0, aI]
 ·rw [List.length_range] at hi
  rw [List.getElem_range] at hp
  rw [← au]
  simp only [qp _ i hi (by omega) (by omega) (Et hg i (by omega)), hp, if_true]
  exact hr
 ·rw [List.length_range] at hi
  rw [List.getElem_range] at hp
  rw [← au]
  simp only [qp _ i hi (by omega) (by omega) (Et hg i (by omega)), hp, Bool.false_eq_true, if_false]
  exact aI _
theorem rE (R C : Int) (s f : ByteArray) : Ev (fun k => cu.f k R C s f) (kR R C s f) := by
 unfold cu.f
 rw [av (jr R C s), aG]
 by_cases hg : fU R C s = true
 ·rw [if_pos hg, ← au]
  simp only [cu.j0, aG, bne_iff_ne, ne_eq]
  by_cases hf : f.size = s.size
  ·rw [if_neg (by omega)]
   exact iw (Az hg hf) (by simp [kR, hg, hf])
  ·rw [if_pos (by omega)]
   exact iw (aI _) (by simp [kR, hf])
 ·rw [if_neg hg, ← au]
  simp only [cu.j0, if_true]
  exact iw (aI _) (by simp [kR, hg])
theorem qb {R C : Int} {s f : ByteArray} (k i : Nat) (hi : i < f.size) (hs : i < s.size) (h36 : i < 1000) :
  dS.l0 (k + 1) f (f.size : Int) i R C s = if oV (bt s i) (bt f i) = true then dS.l0 k f (f.size : Int) ((i + 1 : Nat) : Int) R C s else some false := by
 have h1 : (i : Int) < (f.size : Int) := by omega
 have h2 : (0 : Int) ≤ (i : Int) := by omega
 have h3 : (i : Int) < (s.size : Int) := by omega
 simp only [dS.l0, bJ (i := i) (by omega), h1, h2, h3, if_true, nA, Option.bind_some, decide_eq_true_eq]
 generalize dS.l0 k f (f.size : Int) ((i + 1 : Nat) : Int) R C s = Y
 generalize bt s (i : Int) = c
 generalize bt f (i : Int) = x
 by_cases he : (c = 35 ↔ x = 35)
 ·have e : ((c == 35) != (x == 35)) = false := by rw [bne_eq_false_iff_eq, Bool.eq_iff_iff, beq_iff_eq, beq_iff_eq]; exact he
  rw [e]
  simp only [oV, decide_eq_true_eq, Bool.false_eq_true, if_false]
  repeat' split
  all_goals first | rfl | (exfalso; omega)
 ·have e : ((c == 35) != (x == 35)) = true := by
   rw [bne_iff_ne]
   intro q
   rw [Bool.eq_iff_iff, beq_iff_eq, beq_iff_eq] at q
   exact he q
  rw [e, if_pos rfl, if_neg]
  simp only [oV, decide_eq_true_eq]
  exact fun q => he q.1
theorem Ah {R C : Int} {s f : ByteArray} (hg : fU R C s = true) (hf : f.size = s.size) : Ev (fun k => dS.l0 k f (f.size : Int) 0 R C s) ((List.range f.size).all (fun i => oV (bt s i) (bt f i))) := by
 have hsz := iK hg
 refine jL (fun k i => dS.l0 k f (f.size : Int) i R C s) (List.range f.size) (fun i => oV (bt s i) (bt f i)) ?_ (fun i hi hp r hr => ?_) (fun i hi hp => ?_)
 ·rw [← au]; simp [dS.l0, aI]
 ·rw [List.length_range] at hi
  rw [List.getElem_range] at hp
  rw [← au]
  simp only [qb (R := R) (C := C) (s := s) (f := f) _ i hi (by omega) (by omega), hp, if_true]
  exact hr
 ·rw [List.length_range] at hi
  rw [List.getElem_range] at hp
  rw [← au]
  simp only [qb (R := R) (C := C) (s := s) (f := f) _ i hi (by omega) (by omega), hp, Bool.false_eq_true, if_false]
  exact aI _
theorem zA (R C : Int) (s f : ByteArray) : Ev (fun k => dS.f k R C s f) (kR R C s f) := by
 unfold dS.f
 rw [av (kU R C s), aG]
 by_cases hg : fU R C s = true
 ·rw [if_pos hg, ← au]
  simp only [dS.j0, aG, bne_iff_ne, ne_eq]
  by_cases hf : f.size = s.size
  ·rw [if_neg (by omega)]
   exact iw (Ah hg hf) (by simp [kR, hg, hf])
  ·rw [if_pos (by omega)]
   exact iw (aI _) (by simp [kR, hf])
 ·rw [if_neg hg, ← au]
  simp only [dS.j0, if_true]
  exact iw (aI _) (by simp [kR, hg])
def qo (f : ByteArray) (l : List Int) : ByteArray := strOfNums (l.map (bt f))
theorem vF (a b : List Int) : strOfNums (a ++ b) = strOfNums a ++ strOfNums b := by
 refine ByteArray.ext (Array.toList_inj.1 ?_)
 rw [ByteArray.data_append, Array.toList_append, strOfNums_data, strOfNums_data, strOfNums_data, List.map_append]
theorem Cr (f : ByteArray) (hf : f.size ≤ 1000000) (c : Int) (h0 : 0 ≤ c) (h1 : c < f.size) : f.extract c.toNat (wrap64 (c + 1)).toNat = strOfNums [bt f c] := by
 have e : wrap64 (c + 1) = c + 1 := by unfold wrap64; omega
 have hc : c.toNat < f.size := by omega
 have hd : c.toNat < f.data.toList.length := by rw [Array.length_toList]; exact hc
 refine ByteArray.ext (Array.toList_inj.1 ?_)
 rw [e, show (c + 1).toNat = c.toNat + 1 by omega, strOfNums_data, ByteArray.data_extract, Array.toList_extract]
 have hb : bt f c = ((f.data.toList[c.toNat]).toNat : Int) := by
  unfold bt
  rw [dif_pos hc]
  rfl
 rw [List.extract_eq_drop_take', List.drop_take, List.drop_eq_getElem_cons hd]
 simp [hb]
theorem Fa (f : ByteArray) (l : List Int) : (qo f l).size = l.length := by rw [qo, strOfNums_size, List.length_map]
theorem Fb (f : ByteArray) (l : List Int) (c : Int) : qo f (l ++ [c]) = qo f l ++ strOfNums [bt f c] := by
 rw [qo, List.map_append, vF]; rfl
theorem tQ (f : ByteArray) (l : List Int) (hl : l.length ≤ 100000) (hf : f.size ≤ 1000000) (hc : ∀ c ∈ l, 0 ≤ c ∧ c < f.size) : Ev (fun k => bE.l0 k f (⟨#[]⟩ : ByteArray) l 0) (qo f l) := by
 refine iZ (σ := ByteArray) (fun k a i => bE.l0 k f a l i) l.length (fun i a => a = qo f (l.take i)) (fun _ _ => qo f l) (fun a ha => ?_) (fun i a hi ha => .inr ⟨a ++ strOfNums [bt f l[i]], ?_, rfl, fun r hr => ?_⟩) 0 _ (Nat.zero_le _) rfl
 ·rw [List.take_length] at ha
  rw [← au]
  simp only [bE.l0, Int.lt_irrefl, if_false, ha]
  exact aI _
 ·rw [ha, List.take_succ_eq_append_getElem hi, Fb]
 ·have hcc := hc _ (List.getElem_mem hi)
  have hx := Cr f hf l[i] hcc.1 hcc.2
  have ew : wrap64 (l[i] + 1) = l[i] + 1 := by unfold wrap64; omega
  have hz : (strOfNums [bt f l[i]]).size = 1 := by rw [strOfNums_size]; rfl
  have has : a.size ≤ 100000 := by rw [ha, Fa, List.length_take]; omega
  rw [← au]
  simp only [bE.l0, oC l i hi, bJ (i := i) (by omega), hx]
  rw [ep, ep, ep hcc.1, ep, ep, ep]
  exact hr
theorem sJ {R C : Int} {s f : ByteArray} (hf : kR R C s f = true) (i : Nat) (hi : i < (aW R C s).length) : Ev (fun k => bE.f k R C s f i) (qo f (eF C (aW R C s)[i])) := by
 obtain ⟨good, hnd, hlen⟩ := fT R C s
 obtain ⟨hg, hfs, _⟩ := sQ hf
 have hsz := iK hg
 have hm := List.getElem_mem hi
 have ok := good _ hm
 have e : wrap64 (((aW R C s).length : Int) - 1) = (aW R C s).length - 1 := jQ (by omega) (by omega)
 unfold bE.f
 rw [av (jI R C s), av (rE R C s f), ep hf]
 simp only [mE, Option.bind_some, e]
 rw [← au]
 simp only [bE.j0, mM _ i hi]
 rw [en (by simp; omega), ep, ep, av (oG _ hm)]
 exact tQ f _ (by rw [jd]; have := ok.2.2.2.1; omega) (by omega) (fun c hc => by have := uQ ok c hc; omega)
theorem uj (f : ByteArray) (l : List Int) (hl : l.length ≤ 100000) (hc : ∀ c ∈ l, 0 ≤ c ∧ c < f.size) : Ev (fun k => fO.f k f l) (qo f l) := by
 unfold fO.f
 refine iZ (σ := List Int) (fun k a i => fO.l0 k f a l (l.length : Int) i) l.length (fun i a => a = (l.take i).map (bt f)) (fun _ _ => qo f l) (fun a ha => ?_) (fun i a hi ha => .inr ⟨a ++ [bt f l[i]], ?_, rfl, fun r hr => ?_⟩) 0 _ (Nat.zero_le _) rfl
 ·rw [List.take_length] at ha
  rw [← au]
  simp only [fO.l0, Int.lt_irrefl, if_false, ha]
  exact aI _
 ·rw [ha, List.take_succ_eq_append_getElem hi, List.map_append]; rfl
 ·have hcc := hc _ (List.getElem_mem hi)
  have has : a.length ≤ 100000 := by rw [ha, List.length_map, List.length_take]; omega
  rw [← au]
  simp only [fO.l0, oC l i hi, bJ (i := i) (by omega)]
  rw [ep, ep, ep, ep hcc.1, ep hcc.2, ep]
  exact hr
noncomputable def sU (R C : Int) (s f : ByteArray) : List ByteArray := if kR R C s f = true then (aW R C s).map (fun x => qo f (eF C x)) else []
theorem uV (R C : Int) (s f : ByteArray) : Ev (fun k => gD.f k R C s f) (sU R C s f) := by
 unfold gD.f sU
 rw [av (zA R C s f), aG]
 split
 ·rename_i hf
  obtain ⟨good, hnd, hlen⟩ := fT R C s
  obtain ⟨hg, hfs, _⟩ := sQ hf
  rw [av (nL R C s)]
  have hll : ((aW R C s).map (eF C)).length = (aW R C s).length := List.length_map _
  refine iw (mG (fun k a i => gD.l0 k f a ((aW R C s).map (eF C)) (((aW R C s).map (eF C)).length : Int) i) ((aW R C s).map (eF C)) (fun l => [qo f l]) 0 (fun a => ?_) (fun i hi a ha r hr => ?_)) (by rw [← List.map_eq_flatMap, List.map_map]; rfl)
  ·rw [← au]; simp only [gD.l0, Int.lt_irrefl, if_false]; exact aI _
  ·have hb := nX (fun l : List Int => [qo f l]) 1 i ((aW R C s).map (eF C)) (fun _ _ => by simp)
   have hi' : i < (aW R C s).length := by omega
   have ok := good _ (List.getElem_mem hi')
   have hL : ((aW R C s).map (eF C))[i] = eF C (aW R C s)[i] := List.getElem_map _
   have hr1 := uj f ((aW R C s).map (eF C))[i] (by rw [hL, jd]; have := ok.2.2.2.1; omega) (fun c hc => by rw [hL] at hc; have := uQ ok c hc; omega)
   rw [← au]
   simp only [gD.l0, DL _ i hi, bJ (i := i) (by omega)]
   rw [ep, ep, ep, av hr1, ep]
   exact hr
 ·exact aI _
theorem Cu {α : Type} (q : α → Bool) (l : List α) : l.flatMap (fun s => if q s = true then [s] else []) = l.filter q := by
 induction l with
 | nil => rfl
 | cons x l ih => rw [List.flatMap_cons, ih, List.filter_cons]; split <;> simp
theorem EJ {α β : Type} (f : α → List β) (h : ∀ x, (f x).length ≤ 1) (l : List α) : (l.flatMap f).length ≤ l.length := by
 induction l with
 | nil => simp
 | cons x l ih => have := h x; simp only [List.flatMap_cons, List.length_append, List.length_cons]; omega
theorem Ar (l : List ByteArray) (p : Nat → ByteArray → Option Bool) (q : ByteArray → Bool) (hl : l.length ≤ 8796093022208) (hp : ∀ s ∈ l, Ev (fun k => p k s) (q s)) : Ev (fun k => gB.f k l p) (l.filter q) := by
 rw [← Cu]
 refine mG (fun k x i => gB.l0 k p x l (l.length : Int) i) l (fun s => if q s = true then [s] else []) 0 (fun x => ?_) (fun i hi x hx r hr => ?_)
 ·rw [← au]; simp [gB.l0, aI]
 ·have hx' := EJ (fun s => if q s = true then [s] else []) (fun x => by split <;> simp) (l.take i)
  rw [List.length_take] at hx'
  rw [← au]
  simp only [gB.l0, lJ ByteArray.empty l i hi, bJ (i := i) (by omega)]
  rw [ep, ep, ep, av (hp _ (List.getElem_mem hi)), aG]
  split
  ·rename_i hq
   rw [if_pos hq] at hr
   rw [ep]
   exact hr
  ·rename_i hq
   rw [if_neg hq, List.append_nil] at hr
   exact hr
theorem Fj (R C : Int) (s : ByteArray) (a : Int) (hs : s.size ≤ 140737488351232) (h0 : 0 ≤ a) (h1 : a ≤ 1048576) : ∃ r, lW.f R C s a = some r ∧ r ≤ 1048576 := by
 unfold lW.f
 rw [jQ (by omega) (by omega)]
 split
 ·exact ⟨_, rfl, by omega⟩
 ·exact ⟨_, rfl, by omega⟩
def ku (x : S84) : S70 := ⟨x.f0, x.f1.map toStep⟩
theorem Ed (l : List S84) (hl : l.length ≤ 8796093022208) (hs : ∀ x ∈ l, x.f1.length ≤ 3518437208883) : Ev (fun k => gK.f k l) (l.map ku) := by
 unfold gK.f
 rw [ep, ep]
 refine qh (fun k s i => gK.l0 k l s i) l ku z70 (fun s hs => ?_) (fun i hi s hs' r hr => ?_)
 ·rw [← au]
  simp [gK.l0, aI]
 ·rw [← au]
  simp only [gK.l0, DT l i hi, bJ (i := i) (by omega)]
  rw [ep, ep, av (Fp _ _ (hs _ (List.getElem_mem hi))), ep]
  exact hr
theorem Dy (l : List S70) (hl : l.length < 4611686018427387904) (hs : ∀ x ∈ l, x.f1.length < 4611686018427387904) : Ev (fun k => eG.f k l l) true := by
 unfold eG.f
 rw [ep rfl]
 refine iw (jL (fun k i => eG.l0 k l l i) l (fun _ => true) ?_ (fun i hi hp r hr => ?_) (fun i hi hp => by cases hp)) (by simp)
 ·rw [← au]; simp [eG.l0, aI]
 ·rw [← au]
  simp only [eG.l0, qz l i hi, bJ (i := i) (by omega)]
  rw [ep, ep, ep, av (EF _ _ (hs _ (List.getElem_mem hi))), ep rfl]
  exact hr
theorem Df (R C : Int) (s : ByteArray) (l : List S84) (q : List Int) (e : Int) (hl : l.length ≤ 8796093022208) (hs : ∀ x ∈ l, x.f1.length ≤ 3518437208883) (hq : q.length ≤ 17592186044416) : Ev (fun k => gP.f k R C s l q e) (R, C, s, l.map ku, q, e) := by
 unfold gP.f
 simp only [nE.f, Option.bind_some]
 rw [av (Ed l hl hs), av (Fq q hq)]
 exact aI _
theorem Co (R C : Int) (s : ByteArray) (l : List S70) (q : List Int) (e : Int) (hl : l.length < 4611686018427387904) (hs : ∀ x ∈ l, x.f1.length < 4611686018427387904) (hq : q.length < 4611686018427387904) : Ev (fun k => jo.f k R C s l q e R C s l q e) true := by
 unfold jo.f
 simp only [nC.f, if_true, Option.bind_some]
 rw [av (Dy l hl hs), ep rfl, av (EG q hq), ep rfl]
 exact aI _
def Cy (s : ByteArray) : ByteArray := if iU s = true then s.extract 0 1 else (⟨#[]⟩ : ByteArray)
theorem zV (s : ByteArray) : Ev (fun k => lC.f k s) (Cy s) := by
 unfold lC.f Cy
 rw [av (iP s), aG]
 split
 ·rename_i h
  have := iB h
  rw [ep, ep]
  exact aI _
 ·exact aI _
theorem wY (s : ByteArray) : Ev (fun k => lu.f k s) (Cy s) := by
 unfold lu.f Cy
 rw [av (iO s), aG]
 split
 ·rename_i h
  have := iB h
  rw [ep, ep]
  exact aI _
 ·exact aI _
theorem Ea (a b : List Int) : strOfNums (a ++ b) = strOfNums a ++ strOfNums b := by
 refine ByteArray.ext (Array.toList_inj.1 ?_)
 rw [ByteArray.data_append, Array.toList_append, strOfNums_data, strOfNums_data, strOfNums_data, List.map_append]
theorem Cq (s : ByteArray) (i : Nat) (h : i < s.size) : s.extract i (i + 1) = strOfNums [(bytesOf s)[i]'(by rw [bytesOf_length]; exact h)] := by
 have hd : i < s.data.toList.length := by rw [Array.length_toList]; exact h
 refine ByteArray.ext (Array.toList_inj.1 ?_)
 rw [strOfNums_data, ByteArray.data_extract, Array.toList_extract, List.extract_eq_drop_take', List.drop_take, List.drop_eq_getElem_cons hd]
 simp [bytesOf]
def vW (s : ByteArray) : ByteArray := strOfNums (bytesOf s).reverse
theorem rW (s : ByteArray) : (vW s).size = s.size := by rw [vW, strOfNums_size, List.length_reverse, bytesOf_length]
theorem pQ (s : ByteArray) (hs : s.size ≤ 100) : Ev (fun k => fu.f k s) (vW s) := by
 unfold fu.f
 refine iZ (σ := ByteArray) (fun k a i => fu.l0 k s a i) s.size (fun i a => a = strOfNums ((bytesOf s).take i).reverse) (fun _ _ => vW s) (fun a ha => ?_) (fun i a hi ha => ?_) 0 _ (Nat.zero_le _) rfl
 ·rw [List.take_of_length_le (by rw [bytesOf_length]; exact Nat.le_refl _)] at ha
  rw [← au]
  simp only [fu.l0, Int.lt_irrefl, if_false, ha]
  exact aI _
 ·have hb : i < (bytesOf s).length := by rw [bytesOf_length]; exact hi
  refine .inr ⟨strOfNums [(bytesOf s)[i]] ++ a, ?_, rfl, fun r hr => ?_⟩
  ·rw [List.take_succ_eq_append_getElem hb, List.reverse_append, Ea, ha]
   rfl
  ·have h1 : (strOfNums [(bytesOf s)[i]]).size = 1 := by rw [strOfNums_size]; rfl
   have h2 : a.size ≤ 100 := by rw [ha, strOfNums_size, List.length_reverse, List.length_take]; omega
   rw [← au]
   simp only [fu.l0, bJ (i := i) (by omega), Int.toNat_natCast, Cq s i hi]
   rw [ep, ep, ep, ep, ep, ep]
   exact hr
theorem pF (s : ByteArray) (hs : s.size ≤ 100) : iN.f s = some (vW s) := by
 unfold iN.f vW
 rw [if_pos hs]
def Bl (s : ByteArray) : ByteArray := strOfNums ((bytesOf s).mergeSort (fun x y => decide (x ≤ y)))
def bucket (xs : List Int) (c : Nat) : List Int := xs.filter (fun b => decide (b = 97 + (c : Int)))
theorem tY (xs : List Int) (a : Int) : ∀ n : Nat, List.count a ((List.range n).flatMap (bucket xs)) = if 97 ≤ a ∧ a < 97 + (n : Int) then List.count a xs else 0
 | 0 => by rw [if_neg (by omega)]; rfl
 | n + 1 => by
  rw [List.range_succ, List.flatMap_append, List.count_append, tY xs a n]
  have hb : List.count a (([n] : List Nat).flatMap (bucket xs)) = if a = 97 + (n : Int) then List.count a xs else 0 := by
   simp only [List.flatMap_cons, List.flatMap_nil, List.append_nil, bucket]
   split
   ·rename_i h
    exact List.count_filter (by simpa using h)
   ·rename_i h
    refine List.count_eq_zero.2 (fun hm => h ?_)
    have := (List.mem_filter.1 hm).2
    simpa using this
  rw [hb]
  by_cases h1 : a = 97 + (n : Int)
  ·rw [if_pos h1, if_neg (by omega), if_pos (by omega)]
   omega
  ·rw [if_neg h1]
   by_cases h2 : 97 ≤ a ∧ a < 97 + (n : Int)
   ·rw [if_pos h2, if_pos (by omega)]
    omega
   ·rw [if_neg h2, if_neg (by omega)]
theorem Ae (xs : List Int) (h : ∀ x ∈ xs, 97 ≤ x ∧ x ≤ 122) : (List.range 26).flatMap (bucket xs) = xs.mergeSort (fun x y => decide (x ≤ y)) := by
 have hperm : ((List.range 26).flatMap (bucket xs)).Perm xs := by
  rw [List.perm_iff_count]
  intro a
  rw [tY]
  split
  ·rfl
  ·rename_i hn
   refine (List.count_eq_zero.2 (fun hm => hn ?_)).symm
   have := h a hm
   omega
 refine List.Perm.eq_of_pairwise (le := fun x y => decide (x ≤ y) = true) ?_ ?_ ?_ (hperm.trans (List.mergeSort_perm _ _).symm)
 ·intro a b _ _ h1 h2
  have h1 := of_decide_eq_true h1
  have h2 := of_decide_eq_true h2
  omega
 ·rw [List.pairwise_flatMap]
  refine ⟨fun c _ => ?_, ?_⟩
  ·rw [List.pairwise_iff_getElem]
   intro i j hi hj _
   have e1 := (List.mem_filter.1 (List.getElem_mem hi)).2
   have e2 := (List.mem_filter.1 (List.getElem_mem hj)).2
   have e1 := of_decide_eq_true e1
   have e2 := of_decide_eq_true e2
   exact decide_eq_true (by omega)
  ·refine List.Pairwise.imp ?_ (List.pairwise_lt_range (n := 26))
   intro a b hab x hx y hy
   have e1 := of_decide_eq_true (List.mem_filter.1 hx).2
   have e2 := of_decide_eq_true (List.mem_filter.1 hy).2
   exact decide_eq_true (by omega)
 ·refine List.pairwise_mergeSort ?_ ?_ _
  ·intro a b c h1 h2
   have h1 := of_decide_eq_true h1
   have h2 := of_decide_eq_true h2
   exact decide_eq_true (by omega)
  ·intro a b
   by_cases h : a ≤ b
   ·simp [h]
   ·have : b ≤ a := by omega
    simp [this]
theorem oK (s : ByteArray) (hw : iU s = true) : Ev (fun k => bn.f k s) (Bl s) := by
 have hsz := iB hw
 have hlet := zF hw
 have hlen : (bytesOf s).length = s.size := bytesOf_length s
 unfold bn.f Bl
 rw [← Ae (bytesOf s) hlet]
 have hinner : ∀ (c : Nat) (a : ByteArray) (r : ByteArray), c < 26 → a.size ≤ 1000 → Ev (fun k => bn.l0 k s (a ++ strOfNums (bucket (bytesOf s) c)) (97 + ((c + 1 : Nat) : Int))) r → Ev (fun k => bn.l1 k s a (97 + (c : Int)) 0) r := by
  intro c a r hc ha hr
  refine iZ (σ := ByteArray) (fun k b j => bn.l1 k s b (97 + (c : Int)) j) s.size (fun j b => b = a ++ strOfNums (bucket ((bytesOf s).take j) c)) (fun _ _ => r) (fun b hb => ?_) (fun j b hj hb => ?_) 0 _ (Nat.zero_le _) (by simp [bucket, strOfNums]; exact (ByteArray.append_empty (b := a)).symm)
  ·rw [List.take_of_length_le (by omega)] at hb
   have e : wrap32 (97 + (c : Int) + 1) = 97 + ((c + 1 : Nat) : Int) := by unfold wrap32; omega
   rw [← au]
   simp only [bn.l1, e, Int.lt_irrefl, if_false, hb]
   exact hr
  ·have hj' : j < (bytesOf s).length := by omega
   have hx := hlet _ (List.getElem_mem hj')
   have hsb : b.size ≤ 1000 + j := by
    rw [hb, ByteArray.size_append, strOfNums_size, bucket]
    have := List.length_filter_le (fun b => decide (b = 97 + (c : Int))) ((bytesOf s).take j)
    rw [List.length_take] at this
    omega
   have e : wrap32 (bt s (j : Int)) = (bytesOf s)[j] := by rw [nJ s j hj]; unfold wrap32; omega
   have htk : bucket ((bytesOf s).take (j + 1)) c = bucket ((bytesOf s).take j) c ++ (if (bytesOf s)[j] = 97 + (c : Int) then [(bytesOf s)[j]] else []) := by
    rw [List.take_succ_eq_append_getElem hj', bucket, bucket, List.filter_append, List.filter_cons, List.filter_nil]
    simp only [decide_eq_true_eq]
   refine .inr ⟨a ++ strOfNums (bucket ((bytesOf s).take (j + 1)) c), rfl, rfl, fun q hq => ?_⟩
   rw [← au]
   simp only [bn.l1, e, bJ (i := j) (by omega), Int.toNat_natCast, Cq s j hj]
   rw [ep, ep, aG]
   rw [htk, Ea, ← ByteArray.append_assoc, ← hb] at hq
   split
   ·rename_i h1
    rw [if_pos h1] at hq
    rw [ep, ep, ep (by rw [strOfNums_size]; simp; omega)]
    exact hq
   ·rename_i h1
    rw [if_neg h1, show strOfNums ([] : List Int) = ByteArray.empty from rfl, ByteArray.append_empty] at hq
    exact hq
 refine iZ (σ := ByteArray) (fun k a i => bn.l0 k s a (97 + i)) 26 (fun i a => a = strOfNums ((List.range i).flatMap (bucket (bytesOf s))) ∧ a.size ≤ 8 * i) (fun _ _ => strOfNums ((List.range 26).flatMap (bucket (bytesOf s)))) (fun a ha => ?_) (fun i a hi ha => ?_) 0 _ (Nat.zero_le _) ⟨rfl, Nat.le_refl _⟩
 ·rw [← au]
  simp only [bn.l0]
  rw [en, ← au]
  simp only [bn.j1, Bool.false_eq_true, if_false, ha.1]
  exact aI _
 ·have hbl : (bucket (bytesOf s) i).length ≤ 8 := by
   rw [bucket]
   have := List.length_filter_le (fun b => decide (b = 97 + (i : Int))) (bytesOf s)
   omega
  refine .inr ⟨a ++ strOfNums (bucket (bytesOf s) i), ⟨?_, ?_⟩, rfl, fun r hr => ?_⟩
  ·rw [List.range_succ, List.flatMap_append, Ea, ← ha.1]
   simp only [List.flatMap_cons, List.flatMap_nil, List.append_nil]
  ·have := ha.2
   rw [ByteArray.size_append, strOfNums_size]
   omega
  ·rw [← au]
   simp only [bn.l0]
   rw [ep, av (iP s), hw, ← au]
   simp only [bn.j1, if_true]
   exact hinner i a r hi (by have := ha.2; omega) hr
theorem oI (s : ByteArray) (hw : iU s = true) : Ev (fun k => jh.f k s) (Bl s) := by
 have hsz := iB hw
 unfold jh.f Bl
 rw [av (iO s), hw, ep rfl, ep, Go.Proofs.YtikmdgmnhbodjaaGreat.HandSort.Fh]
 exact aI _
def zP (a b : ByteArray) : Bool := if iU a = true then (if iU b = true then (if a = b then false else decide (Bl a = Bl b)) else false) else false
theorem rG (a b : ByteArray) : Ev (fun k => jc.f k a b) (zP a b) := by
 unfold jc.f zP
 rw [av (iP a), aG]
 split
 ·rename_i h1
  rw [av (iP b), aG]
  split
  ·rename_i h2
   simp only [toList_eq, aG]
   split
   ·exact aI _
   ·rw [av (oK a h1), av (oK b h2), kr]
    exact aI _
  ·exact aI _
 ·exact aI _
theorem rz (a b : ByteArray) : Ev (fun k => iY.f k a b) (zP a b) := by
 unfold iY.f zP
 rw [av (iO a), aG]
 split
 ·rename_i h1
  rw [av (iO b), aG]
  split
  ·rename_i h2
   simp only [toList_eq, aG]
   split
   ·exact aI _
   ·rw [av (oI a h1), av (oI b h2), kr]
    exact aI _
  ·exact aI _
 ·exact aI _
def uy (s : ByteArray) : ByteArray := if iU s = true then s.extract 1 s.size else (⟨#[]⟩ : ByteArray)
theorem sK (s : ByteArray) : Ev (fun k => jl.f k s) (uy s) := by
 unfold jl.f uy
 rw [av (iP s), aG]
 split
 ·rename_i h
  have := iB h
  rw [ep]
  exact aI _
 ·exact aI _
theorem sD (s : ByteArray) : Ev (fun k => ji.f k s) (uy s) := by
 unfold ji.f uy
 rw [av (iO s), aG]
 split
 ·rename_i h
  have := iB h
  rw [ep]
  exact aI _
 ·exact aI _
def uz (s : ByteArray) : ByteArray := if iU s = true then s.extract 0 (s.size - 1) else (⟨#[]⟩ : ByteArray)
theorem sM (s : ByteArray) : Ev (fun k => jm.f k s) (uz s) := by
 unfold jm.f uz
 rw [av (iP s), aG]
 split
 ·rename_i h
  have := iB h
  have e : wrap64 ((s.size : Int) - 1) = ((s.size - 1 : Nat) : Int) := by rw [jQ (by omega) (by omega)]; omega
  rw [e, ep, ep]
  exact aI _
 ·exact aI _
theorem sF (s : ByteArray) : Ev (fun k => jk.f k s) (uz s) := by
 unfold jk.f uz
 rw [av (iO s), aG]
 split
 ·rename_i h
  have := iB h
  have e : wrap64 ((s.size : Int) - 1) = ((s.size - 1 : Nat) : Int) := by rw [jQ (by omega) (by omega)]; omega
  rw [e, ep, ep]
  exact aI _
 ·exact aI _
theorem pI (L : Nat → Int → Option Bool) (n b : Nat) (f : Nat → Bool) (R : Bool) (hend : ∀ i : Nat, n ≤ i → i ≤ n + b → Ev (fun k => L k (i : Int)) R)
  (hstep : ∀ i : Nat, b ≤ i → i < n → ∀ r, Ev (fun k => L k ((i + 1 : Nat) : Int)) r → Ev (fun k => L k (i : Int)) (f i || r)) : ∀ a : Nat, b ≤ a → a ≤ n + b → Ev (fun k => L k (a : Int)) ((List.range' a (n - a)).any f || R) := by
 have key : ∀ d a : Nat, n - a = d → b ≤ a → a ≤ n + b → Ev (fun k => L k (a : Int)) ((List.range' a d).any f || R) := by
  intro d
  induction d with
  | zero =>
   intro a h hb ha
   exact iw (hend a (by omega) ha) (by simp)
  | succ d ih =>
   intro a h hb ha
   have := hstep a hb (by omega) _ (ih (a + 1) (by omega) (by omega) (by omega))
   rw [List.range'_succ, List.any_cons, Bool.or_assoc]
   exact this
 intro a hb ha
 exact key _ a rfl hb ha
def um (p w : ByteArray) : Bool := if iU p = true then (if iU w = true then (List.range' 1 (w.size - p.size - 1)).any (fun i => decide (w.extract i (i + p.size) = p)) else false) else false
theorem vo (p w : ByteArray) : Ev (fun k => dQ.f k p w) (um p w) := by
 unfold dQ.f um
 rw [av (iP p), aG]
 split
 ·rename_i h1
  rw [av (iP w), ← au]
  simp only [dQ.j0]
  rw [aG]
  by_cases h2 : iU w = true
  ·have s1 := iB h1
   have s2 := iB h2
   rw [if_neg (by rw [h2]; decide), if_pos h2]
   have e : ∀ i : Nat, i ≤ 20 → wrap64 ((i : Int) + (p.size : Int)) = ((i + p.size : Nat) : Int) := fun i hi => by rw [jQ (by omega) (by omega)]; omega
   refine iw (pI (fun k i => dQ.l0 k p w i) (w.size - p.size) 1 _ false (fun i hi hi' => ?_) (fun i hb hi r hr => ?_) 1 (Nat.le_refl _) (by omega)) (by rw [Bool.or_false])
   ·rw [← au]
    simp only [dQ.l0, e i (by omega)]
    rw [en]
    exact aI _
   ·rw [← au]
    simp only [dQ.l0, e i (by omega), bJ (i := i) (by omega), Int.toNat_natCast, toList_eq]
    rw [ep, ep, ep, ep, aG]
    split
    ·rename_i h3
     rw [decide_eq_true h3, Bool.true_or]
     exact aI _
    ·rename_i h3
     rw [decide_eq_false h3, Bool.false_or]
     exact hr
  ·rw [if_pos (by simpa using h2), if_neg h2]
   exact aI _
 ·rw [← au]
  simp only [dQ.j0, if_true]
  exact aI _
theorem uS (p w : ByteArray) : Ev (fun k => dP.f k p w) (um p w) := by
 unfold dP.f um
 rw [av (iO p), aG]
 split
 ·rename_i h1
  rw [av (iO w), ← au]
  simp only [dP.j0]
  rw [aG]
  by_cases h2 : iU w = true
  ·have s1 := iB h1
   have s2 := iB h2
   rw [if_neg (by rw [h2]; decide), if_pos h2]
   have e : ∀ i : Nat, i ≤ 20 → wrap64 ((i : Int) + (p.size : Int)) = ((i + p.size : Nat) : Int) := fun i hi => by rw [jQ (by omega) (by omega)]; omega
   refine iw (pI (fun k i => dP.l0 k p w i) (w.size - p.size) 1 _ false (fun i hi hi' => ?_) (fun i hb hi r hr => ?_) 1 (Nat.le_refl _) (by omega)) (by rw [Bool.or_false])
   ·rw [← au]
    simp only [dP.l0, e i (by omega)]
    rw [en]
    exact aI _
   ·rw [← au]
    simp only [dP.l0, e i (by omega), bJ (i := i) (by omega), Int.toNat_natCast, toList_eq]
    rw [ep, ep, ep, ep, aG]
    split
    ·rename_i h3
     rw [decide_eq_true h3, Bool.true_or]
     exact aI _
    ·rename_i h3
     rw [decide_eq_false h3, Bool.false_or]
     exact hr
  ·rw [if_pos (by simpa using h2), if_neg h2]
   exact aI _
 ·rw [← au]
  simp only [dP.j0, if_true]
  exact aI _
theorem BG {Q : Nat → Nat → Prop} (n : Nat) (h : ∀ p, p < n → ∃ K, ∀ k, K ≤ k → Q p k) : ∃ K, ∀ p, p < n → ∀ k, K ≤ k → Q p k := by
 induction n with
 | zero => exact ⟨0, fun p hp => absurd hp (Nat.not_lt_zero _)⟩
 | succ n ih =>
  obtain ⟨K, hK⟩ := ih (fun p hp => h p (by omega))
  obtain ⟨K', hK'⟩ := h n (by omega)
  refine ⟨max K K', fun p hp k hk => ?_⟩
  by_cases e : p = n
  ·subst e
   exact hK' k (by omega)
  ·exact hK p (by omega) k (by omega)
theorem ER (M M' : Nat → List bW → Int → ByteArray → Option Bool) (l : List bW) (s : ByteArray) (a0 : Int) (a1 : ByteArray) (a2 a3 : Int) (hs : s.size ≤ 100)
  (h : ∀ j p, 1 ≤ p → p < s.size → M j l a2 (s.extract 0 p) = M' j l a2 (s.extract 0 p) ∧ M j l a3 (s.extract p s.size) = M' j l a3 (s.extract p s.size)) :
  ∀ (k x : Nat), 1 ≤ x → x ≤ 100 → dB.l0 M k l s (x : Int) a0 a1 a2 a3 = dB.l0 M' k l s (x : Int) a0 a1 a2 a3 := by
 intro k
 induction k with
 | zero => intro x _ _; rfl
 | succ k ih =>
  intro x h1 h2
  simp only [dB.l0]
  by_cases hx : (x : Int) < (s.size : Int)
  ·have hp := h k x h1 (by omega)
   simp only [bJ (i := x) (by omega), Int.toNat_natCast, hp.1, hp.2, ih (x + 1) (by omega) (by omega)]
  ·rw [if_neg hx, if_neg hx]
theorem wh (l : List bW) (s : ByteArray) (a0 : Int) (a1 : ByteArray) (a2 a3 : Int) (f g : ByteArray → Bool) (hs : s.size ≤ 8) (h1 : 1 ≤ s.size)
  (hf : ∀ p, 1 ≤ p → p < s.size → Ev (fun k => bY.f k l a2 (s.extract 0 p)) (f (s.extract 0 p)))
  (hg : ∀ p, 1 ≤ p → p < s.size → Ev (fun k => bY.f k l a3 (s.extract p s.size)) (g (s.extract p s.size))) :
  Ev (fun k => dB.f (fun _ => bY.f k) k l a0 a1 a2 a3 s) ((List.range' 1 (s.size - 1)).any (fun p => f (s.extract 0 p) && g (s.extract p s.size))) := by
 obtain ⟨K, hK⟩ := BG (Q := fun p k => 1 ≤ p → bY.f k l a2 (s.extract 0 p) = some (f (s.extract 0 p)) ∧ bY.f k l a3 (s.extract p s.size) = some (g (s.extract p s.size))) s.size (fun p hp => by
  by_cases h : 1 ≤ p
  ·obtain ⟨K1, k1⟩ := hf p h hp
   obtain ⟨K2, k2⟩ := hg p h hp
   exact ⟨max K1 K2, fun k hk _ => ⟨k1 k (by omega), k2 k (by omega)⟩⟩
  ·exact ⟨0, fun _ _ h' => absurd h' h⟩)
 let M' : Nat → List bW → Int → ByteArray → Option Bool := fun _ => bY.f K
 have hM' : ∀ p, 1 ≤ p → p < s.size → M' 0 l a2 (s.extract 0 p) = some (f (s.extract 0 p)) ∧ M' 0 l a3 (s.extract p s.size) = some (g (s.extract p s.size)) := fun p h hp => hK p hp K (Nat.le_refl _) h
 have hev : Ev (fun k => dB.l0 M' k l s 1 a0 a1 a2 a3) ((List.range' 1 (s.size - 1)).any (fun p => f (s.extract 0 p) && g (s.extract p s.size))) := by
  refine iw (pI (fun k i => dB.l0 M' k l s i a0 a1 a2 a3) s.size 1 _ false (fun i hi hi' => ?_) (fun i hb hi r hr => ?_) 1 (Nat.le_refl _) (by omega)) (by rw [Bool.or_false])
  ·rw [← au]
   simp only [dB.l0]
   rw [en]
   exact aI _
  ·have hm := hM' i hb hi
   have hm1 : ∀ k, M' k l a2 (s.extract 0 i) = some (f (s.extract 0 i)) := fun k => hm.1
   have hm2 : ∀ k, M' k l a3 (s.extract i s.size) = some (g (s.extract i s.size)) := fun k => hm.2
   rw [← au]
   simp only [dB.l0, bJ (i := i) (by omega), Int.toNat_natCast, hm1, hm2, Option.bind_some]
   rw [ep, ep, ep, aG]
   split
   ·rename_i h3
    rw [h3, Bool.true_and, aG]
    split
    ·rename_i h4
     rw [h4, Bool.true_or]
     exact aI _
    ·rename_i h4
     rw [Bool.not_eq_true] at h4
     rw [h4, Bool.false_or]
     exact hr
   ·rename_i h3
    rw [Bool.not_eq_true] at h3
    rw [h3, Bool.false_and, Bool.false_or]
    exact hr
 obtain ⟨K2, hK2⟩ := hev
 refine ⟨max K K2, fun k hk => ?_⟩
 show dB.l0 _ k l s 1 a0 a1 a2 a3 = _
 have := ER (fun _ => bY.f k) M' l s a0 a1 a2 a3 (by omega) (fun j p h hp => by
  have e1 := hK p hp k (by omega) h
  have e2 := hM' p h hp
  exact ⟨e1.1.trans e2.1.symm, e1.2.trans e2.2.symm⟩) k 1 (Nat.le_refl _) (by omega)
 rw [show ((1 : Nat) : Int) = 1 from rfl] at this
 rw [this]
 exact hK2 k (by omega)
theorem GZ (M M' : Nat → List bW → Int → ByteArray → Option Bool) (l : List bW) (s : ByteArray) (a0 : Int) (a1 : ByteArray) (a2 a3 : Int) (hs : s.size ≤ 100)
  (h : ∀ j p q, 1 ≤ p → p < q → q < s.size → M j l a3 (s.extract p q) = M' j l a3 (s.extract p q) ∧ M j l a2 (s.extract 0 p ++ s.extract q s.size) = M' j l a2 (s.extract 0 p ++ s.extract q s.size)) :
  ∀ k : Nat, (∀ x : Nat, 1 ≤ x → x ≤ 100 → bQ.l0 M k l s (x : Int) a0 a1 a2 a3 = bQ.l0 M' k l s (x : Int) a0 a1 a2 a3) ∧ (∀ x y : Nat, 1 ≤ x → x < y → x ≤ 100 → y ≤ 102 → bQ.l1 M k l s (x : Int) (y : Int) a0 a1 a2 a3 = bQ.l1 M' k l s (x : Int) (y : Int) a0 a1 a2 a3) := by
 intro k
 induction k with
 | zero => exact ⟨fun x _ _ => by simp only [bQ.l0], fun x y _ _ _ _ => by simp only [bQ.l1]⟩
 | succ k ih =>
  refine ⟨fun x h1 h2 => ?_, fun x y h1 h2 h3 h4 => ?_⟩
  ·simp only [bQ.l0, bJ (i := x) (by omega)]
   by_cases hx : (x : Int) < (s.size : Int)
   ·rw [if_pos hx, if_pos hx, ih.2 x (x + 1) h1 (by omega) h2 (by omega)]
   ·rw [if_neg hx, if_neg hx]
  ·simp only [bQ.l1, bJ (i := x) (by omega), bJ (i := y) (by omega), Int.toNat_natCast]
   by_cases hy : (y : Int) < (s.size : Int)
   ·have hp := h k x y h1 h2 (by omega)
    simp only [hp.1, hp.2, ih.2 x (y + 1) h1 (by omega) h3 (by omega)]
    rw [if_pos hy, if_pos hy]
   ·rw [if_neg hy, if_neg hy]
    by_cases hx : x + 1 ≤ 100
    ·exact ih.1 (x + 1) (by omega) hx
    ·cases k with
     | zero => simp only [bQ.l0]
     | succ k =>
      simp only [bQ.l0]
      rw [if_neg (by omega), if_neg (by omega)]
theorem AL (l : List bW) (s : ByteArray) (a0 : Int) (a1 : ByteArray) (a2 a3 : Int) (f g : ByteArray → Bool) (hs : s.size ≤ 8) (h1 : 1 ≤ s.size)
  (hg : ∀ p q, 1 ≤ p → p < q → q < s.size → Ev (fun k => bY.f k l a3 (s.extract p q)) (g (s.extract p q)))
  (hf : ∀ p q, 1 ≤ p → p < q → q < s.size → Ev (fun k => bY.f k l a2 (s.extract 0 p ++ s.extract q s.size)) (f (s.extract 0 p ++ s.extract q s.size))) :
  Ev (fun k => bQ.f (fun _ => bY.f k) k l a0 a1 a2 a3 s) ((List.range' 1 (s.size - 1)).any (fun p => (List.range' (p + 1) (s.size - (p + 1))).any (fun q => g (s.extract p q) && f (s.extract 0 p ++ s.extract q s.size)))) := by
 obtain ⟨K, hK⟩ := BG (Q := fun p k => ∀ q, q < s.size → 1 ≤ p → p < q → bY.f k l a3 (s.extract p q) = some (g (s.extract p q)) ∧ bY.f k l a2 (s.extract 0 p ++ s.extract q s.size) = some (f (s.extract 0 p ++ s.extract q s.size))) s.size (fun p hp => by
  obtain ⟨K, hK⟩ := BG (Q := fun q k => 1 ≤ p → p < q → bY.f k l a3 (s.extract p q) = some (g (s.extract p q)) ∧ bY.f k l a2 (s.extract 0 p ++ s.extract q s.size) = some (f (s.extract 0 p ++ s.extract q s.size))) s.size (fun q hq => by
   by_cases h : 1 ≤ p ∧ p < q
   ·obtain ⟨K1, k1⟩ := hg p q h.1 h.2 hq
    obtain ⟨K2, k2⟩ := hf p q h.1 h.2 hq
    exact ⟨max K1 K2, fun k hk _ _ => ⟨k1 k (by omega), k2 k (by omega)⟩⟩
   ·exact ⟨0, fun _ _ h' h'' => absurd ⟨h', h''⟩ h⟩)
  exact ⟨K, fun k hk q hq => hK q hq k hk⟩)
 let M' : Nat → List bW → Int → ByteArray → Option Bool := fun _ => bY.f K
 have hM' : ∀ p q, 1 ≤ p → p < q → q < s.size → M' 0 l a3 (s.extract p q) = some (g (s.extract p q)) ∧ M' 0 l a2 (s.extract 0 p ++ s.extract q s.size) = some (f (s.extract 0 p ++ s.extract q s.size)) := fun p q h h' hq => hK p (by omega) K (Nat.le_refl _) q hq h h'
 have hev : Ev (fun k => bQ.l0 M' k l s 1 a0 a1 a2 a3) ((List.range' 1 (s.size - 1)).any (fun p => (List.range' (p + 1) (s.size - (p + 1))).any (fun q => g (s.extract p q) && f (s.extract 0 p ++ s.extract q s.size)))) := by
  refine iw (pI (fun k i => bQ.l0 M' k l s i a0 a1 a2 a3) s.size 1 _ false (fun i hi hi' => ?_) (fun i hb hi r hr => ?_) 1 (Nat.le_refl _) (by omega)) (by rw [Bool.or_false])
  ·rw [← au]
   simp only [bQ.l0]
   rw [en]
   exact aI _
  ·rw [← au]
   simp only [bQ.l0, bJ (i := i) (by omega)]
   rw [ep]
   refine pI (fun k j => bQ.l1 M' k l s (i : Int) j a0 a1 a2 a3) s.size (i + 1) _ r (fun j hj hj' => ?_) (fun j hjb hj q hq => ?_) (i + 1) (Nat.le_refl _) (by omega)
   ·rw [← au]
    simp only [bQ.l1, bJ (i := i) (by omega)]
    rw [en]
    exact hr
   ·have hm := hM' i j hb (by omega) hj
    have hm1 : ∀ k, M' k l a3 (s.extract i j) = some (g (s.extract i j)) := fun k => hm.1
    have hm2 : ∀ k, M' k l a2 (s.extract 0 i ++ s.extract j s.size) = some (f (s.extract 0 i ++ s.extract j s.size)) := fun k => hm.2
    have hz : (s.extract 0 i).size + (s.extract j s.size).size ≤ 9223372036854775807 := by simp only [ByteArray.size_extract]; omega
    rw [← au]
    simp only [bQ.l1, bJ (i := j) (by omega), Int.toNat_natCast, hm1, hm2, Option.bind_some]
    rw [ep, ep, ep, ep, aG]
    split
    ·rename_i h3
     have c1 : (i : Int) ≤ (s.size : Int) := by omega
     have c2 : (0 : Int) ≤ (j : Int) := by omega
     rw [h3, Bool.true_and]
     simp only [ep c1, if_pos c2, if_pos hz]
     split
     ·rename_i h4
      rw [h4, Bool.true_or]
      exact aI _
     ·rename_i h4
      rw [Bool.not_eq_true] at h4
      rw [h4, Bool.false_or]
      exact hq
    ·rename_i h3
     rw [Bool.not_eq_true] at h3
     rw [h3, Bool.false_and, Bool.false_or]
     exact hq
 obtain ⟨K2, hK2⟩ := hev
 refine ⟨max K K2, fun k hk => ?_⟩
 show bQ.l0 _ k l s 1 a0 a1 a2 a3 = _
 have := (GZ (fun _ => bY.f k) M' l s a0 a1 a2 a3 (by omega) (fun j p q h h' hq => by
  have e1 := hK p (by omega) k (by omega) q hq h h'
  have e2 := hM' p q h h' hq
  exact ⟨e1.1.trans e2.1.symm, e1.2.trans e2.2.symm⟩) k).1 1 (Nat.le_refl _) (by omega)
 rw [show ((1 : Nat) : Int) = 1 from rfl] at this
 rw [this]
 exact hK2 k (by omega)
def nN (l : List bW) : Nat → Nat → ByteArray → Bool
 | 0, _, _ => false
 | n + 1, i, s =>
  if (aj l i).f0 = 1 then decide (s = (aj l i).f1)
  else if (aj l i).f0 = 2 then nN l n (aj l i).f2.toNat (vW s)
  else if (aj l i).f0 = 3 then zP (aj l (aj l i).f2).f1 s
  else if (aj l i).f0 = 4 then (List.range' 1 (s.size - 1)).any (fun p => nN l n (aj l i).f2.toNat (s.extract 0 p) && nN l n (aj l i).f3.toNat (s.extract p s.size))
  else if (aj l i).f0 = 5 then (List.range' 1 (s.size - 1)).any (fun p => (List.range' (p + 1) (s.size - (p + 1))).any (fun q => nN l n (aj l i).f3.toNat (s.extract p q) && nN l n (aj l i).f2.toNat (s.extract 0 p ++ s.extract q s.size)))
  else if (aj l i).f0 = 6 then decide (s = Cy (aj l (aj l i).f2).f1)
  else if (aj l i).f0 = 7 then decide (s = uy (aj l (aj l i).f2).f1)
  else if (aj l i).f0 = 8 then decide (s = uz (aj l (aj l i).f2).f1)
  else um s (aj l (aj l i).f2).f1
theorem tX (a b : ByteArray) : (a.toList == b.toList) = decide (b = a) := by
 rw [kr]
 by_cases h : a = b
 ·subst h; rfl
 ·rw [decide_eq_false h, decide_eq_false (fun e => h e.symm)]
theorem vE {l : List bW} (hp : mW l = true) : ∀ (n i : Nat) (s : ByteArray), i < n → i < l.length → 1 ≤ s.size → s.size ≤ 8 → Ev (fun k => bY.f k l (i : Int) s) (nN l n i s) := by
 intro n
 induction n with
 | zero => intro i s h; exact absurd h (Nat.not_lt_zero _)
 | succ n ih =>
  intro i s hn hi h1 h8
  obtain ⟨o1, o2, o3, o4, o5, o6, o7, o8⟩ := uD hi (uo hp i hi)
  rw [← au]
  simp only [bY.f, nN, wF l i hi]
  rw [ep, ep, aG]
  by_cases n1 : l[i].f0 = 1
  ·rw [if_pos n1, if_pos n1, tX]; exact aI _
  rw [if_neg n1, if_neg n1, aG]
  have oA := o3 n1
  have eA : l[i].f2 = ((l[i].f2.toNat : Nat) : Int) := by omega
  by_cases n2 : l[i].f0 = 2
  ·rw [if_pos n2, if_pos n2, av (pQ s (by omega))]
   have := ih l[i].f2.toNat (vW s) (by omega) (by omega) (by rw [rW]; exact h1) (by rw [rW]; exact h8)
   rw [← eA] at this
   rw [av this]
   exact aI _
  rw [if_neg n2, if_neg n2, aG]
  by_cases n3 : l[i].f0 = 3
  ·rw [if_pos n3, if_pos n3, ep, ep, av (rG _ _)]
   exact aI _
  rw [if_neg n3, if_neg n3, aG]
  by_cases k4 : l[i].f0 = 4
  ·have oB := o4 (.inl k4)
   have eB : l[i].f3 = ((l[i].f3.toNat : Nat) : Int) := by omega
   rw [if_pos k4, if_pos k4, av (wh l s l[i].f0 l[i].f1 l[i].f2 l[i].f3 (nN l n l[i].f2.toNat) (nN l n l[i].f3.toNat) h8 h1 (fun p hp1 hp2 => ?_) (fun p hp1 hp2 => ?_))]
   ·exact aI _
   ·have := ih l[i].f2.toNat (s.extract 0 p) (by omega) (by omega) (by rw [ByteArray.size_extract]; omega) (by rw [ByteArray.size_extract]; omega)
    rw [← eA] at this
    exact this
   ·have := ih l[i].f3.toNat (s.extract p s.size) (by omega) (by omega) (by rw [ByteArray.size_extract]; omega) (by rw [ByteArray.size_extract]; omega)
    rw [← eB] at this
    exact this
  rw [if_neg k4, if_neg k4, aG]
  by_cases k5 : l[i].f0 = 5
  ·have oB := o4 (.inr k5)
   have eB : l[i].f3 = ((l[i].f3.toNat : Nat) : Int) := by omega
   rw [if_pos k5, if_pos k5, av (AL l s l[i].f0 l[i].f1 l[i].f2 l[i].f3 (nN l n l[i].f2.toNat) (nN l n l[i].f3.toNat) h8 h1 (fun p q hp1 hp2 hp3 => ?_) (fun p q hp1 hp2 hp3 => ?_))]
   ·exact aI _
   ·have := ih l[i].f3.toNat (s.extract p q) (by omega) (by omega) (by rw [ByteArray.size_extract]; omega) (by rw [ByteArray.size_extract]; omega)
    rw [← eB] at this
    exact this
   ·have := ih l[i].f2.toNat (s.extract 0 p ++ s.extract q s.size) (by omega) (by omega) (by rw [ByteArray.size_append, ByteArray.size_extract, ByteArray.size_extract]; omega) (by rw [ByteArray.size_append, ByteArray.size_extract, ByteArray.size_extract]; omega)
    rw [← eA] at this
    exact this
  rw [if_neg k5, if_neg k5, aG]
  by_cases k6 : l[i].f0 = 6
  ·rw [if_pos k6, if_pos k6, ep, ep, av (zV _), tX]
   exact aI _
  rw [if_neg k6, if_neg k6, aG]
  by_cases k7 : l[i].f0 = 7
  ·rw [if_pos k7, if_pos k7, ep, ep, av (sK _), tX]
   exact aI _
  rw [if_neg k7, if_neg k7, aG]
  by_cases k8 : l[i].f0 = 8
  ·rw [if_pos k8, if_pos k8, ep, ep, av (sM _), tX]
   exact aI _
  rw [if_neg k8, if_neg k8, ep, ep, av (vo _ _)]
  exact aI _
def ng (l : List bW) (s : ByteArray) : Bool := if mW l = true then (if iU s = true then nN l l.length (l.length - 1) s else false) else false
theorem AJ (l : List bW) (s : ByteArray) (hl : l.length < 4611686018427387904) : Ev (fun k => ni.f k l s) (ng l s) := by
 unfold ni.f ng
 rw [av (rF l hl), aG]
 split
 ·rename_i hp
  have hlen := vI hp
  rw [av (iP s), aG]
  split
  ·rename_i hw
   have hsz := iB hw
   have e : wrap64 ((l.length : Int) - 1) = ((l.length - 1 : Nat) : Int) := by rw [jQ (by omega) (by omega)]; omega
   rw [e, av (vE hp l.length (l.length - 1) s (by omega) (by omega) (by omega) (by omega))]
   exact aI _
  ·exact aI _
 ·exact aI _
theorem Aq {l : List bW} (hp : mW l = true) : ∀ (n i : Nat) (s : ByteArray), i < n → i < l.length → 1 ≤ s.size → s.size ≤ 8 → Ev (fun k => bB.f k l (i : Int) s) (nN l n i s) := by
 intro n
 induction n with
 | zero => intro i s h; exact absurd h (Nat.not_lt_zero _)
 | succ n ih =>
  intro i s hn hi h1 h8
  obtain ⟨o1, o2, o3, o4, o5, o6, o7, o8⟩ := uD hi (uo hp i hi)
  have hne : ¬ s.toList = ([] : List UInt8) := fun e => by have := toList_nil.1 e; omega
  have hA : 0 ≤ l[i].f2 ∧ l[i].f2 < (l.length : Int) := by
   by_cases n1 : l[i].f0 = 1
   ·have := (o8 n1).1; omega
   ·have := o3 n1; omega
  rw [← au]
  simp only [bB.f, nN, wF l i hi]
  rw [ep, ep, en hne, ep hA.1, ep hA.2, aG]
  split
  ·rw [kr]; exact aI _
  rename_i n1
  have oA := o3 n1
  have eA : l[i].f2 = ((l[i].f2.toNat : Nat) : Int) := by omega
  rw [aG]
  split
  ·have := ih l[i].f2.toNat (vW s) (by omega) (by omega) (by rw [rW]; exact h1) (by rw [rW]; exact h8)
   rw [← eA] at this
   simp only [pF s (show s.size ≤ 100 by omega), Option.bind_some]
   rw [av this]
   exact aI _
  rw [aG]
  split
  ·rw [av (rz _ _)]
   exact aI _
  rw [aG]
  split
  ·rename_i k4
   have oB := o4 (.inl k4)
   have eB : l[i].f3 = ((l[i].f3.toNat : Nat) : Int) := by omega
   refine iw (pI (fun k j => bB.l0 k l s j l[i].f0 l[i].f1 l[i].f2 l[i].f3) s.size 1 _ false (fun j hj hj' => ?_) (fun j hb hj r hr => ?_) 1 (Nat.le_refl _) (by omega)) (by rw [Bool.or_false])
   ·rw [← au]
    simp only [bB.l0]
    rw [en]
    exact aI _
   ·have m1 := ih l[i].f2.toNat (s.extract 0 j) (by omega) (by omega) (by rw [ByteArray.size_extract]; omega) (by rw [ByteArray.size_extract]; omega)
    have m2 := ih l[i].f3.toNat (s.extract j s.size) (by omega) (by omega) (by rw [ByteArray.size_extract]; omega) (by rw [ByteArray.size_extract]; omega)
    rw [← eA] at m1
    rw [← eB] at m2
    rw [← au]
    simp only [bB.l0, bJ (i := j) (by omega), Int.toNat_natCast]
    rw [ep, ep, ep, av m1, aG]
    split
    ·rename_i h3
     rw [h3, Bool.true_and, av m2, aG]
     split
     ·rename_i h4
      rw [h4, Bool.true_or]
      exact aI _
     ·rename_i h4
      rw [Bool.not_eq_true] at h4
      rw [h4, Bool.false_or]
      exact hr
    ·rename_i h3
     rw [Bool.not_eq_true] at h3
     rw [h3, Bool.false_and, Bool.false_or]
     exact hr
  rw [aG]
  split
  ·rename_i k5
   have oB := o4 (.inr k5)
   have eB : l[i].f3 = ((l[i].f3.toNat : Nat) : Int) := by omega
   refine iw (pI (fun k j => bB.l1 k l s j l[i].f0 l[i].f1 l[i].f2 l[i].f3) s.size 1 _ false (fun j hj hj' => ?_) (fun j hb hj r hr => ?_) 1 (Nat.le_refl _) (by omega)) (by rw [Bool.or_false])
   ·rw [← au]
    simp only [bB.l1]
    rw [en]
    exact aI _
   ·rw [← au]
    simp only [bB.l1, bJ (i := j) (by omega)]
    rw [ep]
    refine pI (fun k q => bB.l2 k l s (j : Int) q l[i].f0 l[i].f1 l[i].f2 l[i].f3) s.size (j + 1) _ r (fun q hq hq' => ?_) (fun q hqb hq t ht => ?_) (j + 1) (Nat.le_refl _) (by omega)
    ·rw [← au]
     simp only [bB.l2, bJ (i := j) (by omega)]
     rw [en]
     exact hr
    ·have m1 := ih l[i].f3.toNat (s.extract j q) (by omega) (by omega) (by rw [ByteArray.size_extract]; omega) (by rw [ByteArray.size_extract]; omega)
     have m2 := ih l[i].f2.toNat (s.extract 0 j ++ s.extract q s.size) (by omega) (by omega) (by rw [ByteArray.size_append, ByteArray.size_extract, ByteArray.size_extract]; omega) (by rw [ByteArray.size_append, ByteArray.size_extract, ByteArray.size_extract]; omega)
     rw [← eB] at m1
     rw [← eA] at m2
     have hz : (s.extract 0 j).size + (s.extract q s.size).size ≤ 9223372036854775807 := by simp only [ByteArray.size_extract]; omega
     rw [← au]
     simp only [bB.l2, bJ (i := q) (by omega), Int.toNat_natCast]
     rw [ep, ep, ep, ep, av m1, aG]
     split
     ·rename_i h3
      have c1 : (j : Int) ≤ (s.size : Int) := by omega
      have c2 : (0 : Int) ≤ (q : Int) := by omega
      rw [h3, Bool.true_and]
      simp only [ep c1, if_pos c2, if_pos hz]
      rw [av m2, aG]
      split
      ·rename_i h4
       rw [h4, Bool.true_or]
       exact aI _
      ·rename_i h4
       rw [Bool.not_eq_true] at h4
       rw [h4, Bool.false_or]
       exact ht
     ·rename_i h3
      rw [Bool.not_eq_true] at h3
      rw [h3, Bool.false_and, Bool.false_or]
      exact ht
  rw [aG]
  split
  ·rw [av (wY _), kr]
   exact aI _
  rw [aG]
  split
  ·rw [av (sD _), kr]
   exact aI _
  rw [aG]
  split
  ·rw [av (sF _), kr]
   exact aI _
  rw [ep, av (uS _ _)]
  exact aI _
theorem Aj (l : List bW) (s : ByteArray) (hl : l.length < 4611686018427387904) : Ev (fun k => jA.f k l s) (ng l s) := by
 unfold jA.f ng
 rw [av (ru l hl), aG]
 split
 ·rename_i hp
  have hlen := vI hp
  rw [av (iO s), aG]
  split
  ·rename_i hw
   have hsz := iB hw
   have e : wrap64 ((l.length : Int) - 1) = ((l.length - 1 : Nat) : Int) := by rw [jQ (by omega) (by omega)]; omega
   rw [e, av (Aq hp l.length (l.length - 1) s (by omega) (by omega) (by omega) (by omega))]
   exact aI _
  ·exact aI _
 ·exact aI _
def Cx (l : List ByteArray) (w : ByteArray) : Bool := l.any (fun x => decide (x = w))
theorem vY (l : List ByteArray) (w : ByteArray) (hl : l.length < 4611686018427387904) : Ev (fun k => ig.f k l w) (Cx l w) := by
 refine qg (fun k i => ig.l0 k l w i) l _ ?_ (fun i hi hp r hr => ?_) (fun i hi hp => ?_)
 ·rw [← au]; simp [ig.l0, aI]
 ·rw [← au]
  simp only [ig.l0, lJ ByteArray.empty l i hi, bJ (i := i) (by omega), toList_eq]
  rw [ep, ep, en (of_decide_eq_false hp)]
  exact hr
 ·rw [← au]
  simp only [ig.l0, lJ ByteArray.empty l i hi, toList_eq]
  rw [ep, ep, ep (of_decide_eq_true hp)]
  exact aI _
def jM (out : List ByteArray) (x : ByteArray) : List ByteArray := if Cx out x = true then out else out ++ [x]
def Bf (l : List ByteArray) : List ByteArray := l.foldl jM []
theorem CQ (out : List ByteArray) (x : ByteArray) : (jM out x).length ≤ out.length + 1 := by
 unfold jM
 split
 ·omega
 ·simp
theorem oO : ∀ (l out : List ByteArray), (l.foldl jM out).length ≤ out.length + l.length
 | [], out => by simp
 | x :: l, out => by
  have h1 := oO l (jM out x)
  have h2 := CQ out x
  simp only [List.foldl_cons, List.length_cons]
  omega
theorem Gh (l : List ByteArray) : (Bf l).length ≤ l.length := by
 have := oO l []
 simpa [Bf] using this
theorem EX (q : ByteArray → Bool) (l : List ByteArray) (i : Nat) (h : i < l.length) : ((l.take (i + 1)).filter q).foldl jM [] = if q l[i] = true then jM (((l.take i).filter q).foldl jM []) l[i] else ((l.take i).filter q).foldl jM [] := by
 rw [List.take_succ_eq_append_getElem h, List.filter_append, List.foldl_append]
 by_cases hq : q l[i] = true
 ·rw [if_pos hq]; simp [hq]
 ·rw [if_neg hq]; simp [hq]
theorem EO (l : List ByteArray) (w : ByteArray) (hl : l.length < 4611686018427387904) : Ev (fun k => bL.f k l w) (match l.findIdx? (fun x => decide (x = w)) with | some i => (i : Int) | none => -1) := by
 refine rT (fun k i => bL.l0 k l w (l.length : Int) i) l _ ?_ (fun i hi hp r hr => ?_) (fun i hi hp => ?_)
 ·rw [← au]; simp [bL.l0, aI]
 ·rw [← au]
  simp only [bL.l0, lJ ByteArray.empty l i hi, bJ (i := i) (by omega), toList_eq]
  rw [ep, ep, ep, en (fun e => of_decide_eq_false hp e.symm)]
  exact hr
 ·rw [← au]
  simp only [bL.l0, lJ ByteArray.empty l i hi, toList_eq]
  rw [ep, ep, ep, aG, if_pos (of_decide_eq_true hp).symm]
  exact aI _
theorem FT {α : Type} (l : List α) (p : α → Bool) : decide ((match l.findIdx? p with | some i => (i : Int) | none => -1) ≥ 0) = l.any p := by
 cases h : l.findIdx? p with
 | none =>
  have := List.findIdx?_eq_none_iff.1 h
  simp
  intro x hx
  simpa using this x hx
 | some i =>
  obtain ⟨h1, h2, _⟩ := List.findIdx?_eq_some_iff_getElem.1 h
  simp
  exact ⟨l[i], List.getElem_mem h1, h2⟩
theorem BF (l : List ByteArray) (w : ByteArray) (hl : l.length < 4611686018427387904) : Ev (fun k => fQ.f k l w) (Cx l w) := by
 unfold fQ.f Cx
 rw [av (EO l w hl), FT]
 exact aI _
theorem BH (l : List ByteArray) (hl : l.length ≤ 8796093022208) : Ev (fun k => iF.f k l) (Bf l) := by
 unfold iF.f
 refine iZ (σ := List ByteArray) (fun k out i => iF.l0 k out l (l.length : Int) i) l.length (fun i out => out = (l.take i).foldl jM []) (fun _ _ => Bf l) (fun out ho => ?_) (fun i out hi ho => ?_) 0 [] (Nat.zero_le _) rfl
 ·rw [List.take_length] at ho
  rw [← au]
  simp only [iF.l0, Int.lt_irrefl, if_false, ho]
  exact aI _
 ·have hlen : out.length ≤ i := by
   have := oO (l.take i) []
   rw [ho]
   simp only [List.length_nil, List.length_take] at this
   omega
  refine .inr ⟨jM out l[i], ?_, rfl, fun r hr => ?_⟩
  ·rw [List.take_succ_eq_append_getElem hi, List.foldl_append, ho]
   rfl
  ·rw [← au]
   simp only [iF.l0, lJ ByteArray.empty l i hi, bJ (i := i) (by omega)]
   rw [ep, ep, ep, av (BF out l[i] (by omega)), aG]
   unfold jM at hr
   split
   ·rename_i h
    rw [if_pos h] at hr
    exact hr
   ·rename_i h
    rw [if_neg h] at hr
    rw [ep]
    exact hr
def tF (p : ByteArray) : Bool := decide (1 ≤ p.size ∧ p.size ≤ 8) && (bytesOf p).all (fun c => decide (c = 63) || mF c)
theorem vH {p : ByteArray} (h : tF p = true) : 1 ≤ p.size ∧ p.size ≤ 8 := by
 unfold tF at h
 rw [Bool.and_eq_true] at h
 exact of_decide_eq_true h.1
theorem uL (p : ByteArray) : Ev (fun k => dA.f k p) (tF p) := by
 simp only [dA.f, mE, Option.bind_some, aG, decide_eq_true_eq, tF]
 by_cases h : (1 : Int) ≤ p.size ∧ (p.size : Int) ≤ 8
 ·rw [if_pos h]
  have h' : 1 ≤ p.size ∧ p.size ≤ 8 := by omega
  simp only [h', decide_true, Bool.true_and, and_self]
  refine jL (fun k i => dA.l0 k p i) (bytesOf p) _ ?_ (fun i hi hp r hr => ?_) (fun i hi hp => ?_)
  ·rw [← au]; simp [dA.l0, bytesOf_length, aI]
  ·have hi' : i < p.size := by rw [bytesOf_length] at hi; exact hi
   rw [← au]
   simp only [dA.l0, nJ p i hi', bJ (i := i) (by omega)]
   rw [ep, ep, aG]
   by_cases h63 : (bytesOf p)[i] = 63
   ·rw [if_pos h63]; exact hr
   ·simp [mF, h63] at hp
    rw [if_neg h63, en, en]
    exact hr
  ·have hi' : i < p.size := by rw [bytesOf_length] at hi; exact hi
   simp only [Bool.or_eq_false_iff, decide_eq_false_iff_not, mF] at hp
   rw [← au]
   simp only [dA.l0, nJ p i hi', bJ (i := i) (by omega)]
   rw [ep, ep, en hp.1, aG]
   by_cases h1 : (bytesOf p)[i] < 97
   ·rw [if_pos h1]; exact aI _
   ·rw [if_neg h1, ep]; exact aI _
 ·rw [if_neg h]
  have h' : ¬ (1 ≤ p.size ∧ p.size ≤ 8) := by omega
  simp [h', aI]
def qX (p w : ByteArray) : Bool := if tF p = true then (if iU w = true then (if p.size = w.size then (List.range p.size).all (fun i => decide (bt p (i : Int) = 63) || decide (bt p (i : Int) = bt w (i : Int))) else false) else false) else false
theorem sH (p w : ByteArray) : Ev (fun k => bM.f k p w) (qX p w) := by
 have hf : Ev (fun k => bM.j0 k p w true) false := by
  rw [← au]
  simp only [bM.j0, if_true]
  exact aI _
 unfold bM.f qX
 rw [av (uL p), aG]
 split
 ·rename_i h1
  have hs := vH h1
  rw [av (iP w), aG]
  split
  ·by_cases h3 : p.size = w.size
   ·rw [if_pos h3, show ((p.size : Int) != (w.size : Int)) = false by rw [h3]; simp, ← au]
    simp only [bM.j0, Bool.false_eq_true, if_false]
    refine jL (fun k i => bM.l0 k p w i) (List.range p.size) _ ?_ (fun i hi hp r hr => ?_) (fun i hi hp => ?_)
    ·rw [← au]; simp [bM.l0, aI]
    ·rw [List.length_range] at hi
     rw [List.getElem_range] at hp
     rw [← au]
     simp only [bM.l0, bJ (i := i) (by omega)]
     rw [ep, ep, aG]
     by_cases h63 : bt p (i : Int) = 63
     ·rw [if_pos h63]; exact hr
     ·have he : bt p (i : Int) = bt w (i : Int) := by simpa [h63] using hp
      rw [if_neg h63, ep, ep he]
      exact hr
    ·rw [List.length_range] at hi
     rw [List.getElem_range] at hp
     simp only [Bool.or_eq_false_iff, decide_eq_false_iff_not] at hp
     rw [← au]
     simp only [bM.l0, bJ (i := i) (by omega)]
     rw [ep, ep, en hp.1, ep, en hp.2]
     exact aI _
   ·rw [if_neg h3, show ((p.size : Int) != (w.size : Int)) = true by simp; omega]
    exact hf
  ·exact hf
 ·exact hf
theorem uh (p : ByteArray) : Ev (fun k => dx.f k p) (tF p) := by
 simp only [dx.f, lS, Option.bind_some, aG, decide_eq_true_eq, tF]
 by_cases h : (1 : Int) ≤ p.size ∧ (p.size : Int) ≤ 8
 ·rw [if_pos h]
  have h' : 1 ≤ p.size ∧ p.size ≤ 8 := by omega
  simp only [h', decide_true, Bool.true_and, and_self]
  refine jL (fun k i => dx.l0 k p (p.size : Int) i) (bytesOf p) _ ?_ (fun i hi hp r hr => ?_) (fun i hi hp => ?_)
  ·rw [← au]; simp [dx.l0, bytesOf_length, aI]
  ·have hi' : i < p.size := by rw [bytesOf_length] at hi; exact hi
   rw [← au]
   simp only [dx.l0, nJ p i hi', bJ (i := i) (by omega), nA, Option.bind_some]
   rw [ep, ep, ep, aG]
   by_cases h63 : (bytesOf p)[i] = 63
   ·rw [if_pos h63]; exact hr
   ·simp [mF, h63] at hp
    rw [if_neg h63, ep (by simpa using hp)]
    exact hr
  ·have hi' : i < p.size := by rw [bytesOf_length] at hi; exact hi
   simp only [Bool.or_eq_false_iff, decide_eq_false_iff_not, mF] at hp
   rw [← au]
   simp only [dx.l0, nJ p i hi', bJ (i := i) (by omega), nA, Option.bind_some]
   rw [ep, ep, ep, en hp.1, en (by simpa using hp.2)]
   exact aI _
 ·rw [if_neg h]
  have h' : ¬ (1 ≤ p.size ∧ p.size ≤ 8) := by omega
  simp [h', aI]
theorem su (p w : ByteArray) : Ev (fun k => aX.f k p w) (qX p w) := by
 have hf : Ev (fun k => aX.j0 k p w true) false := by
  rw [← au]
  simp only [aX.j0, if_true]
  exact aI _
 unfold aX.f qX
 rw [av (uh p), aG]
 split
 ·rename_i h1
  have hs := vH h1
  rw [av (iO w), aG]
  split
  ·by_cases h3 : p.size = w.size
   ·rw [if_pos h3, show ((p.size : Int) != (w.size : Int)) = false by rw [h3]; simp, ← au]
    simp only [aX.j0, Bool.false_eq_true, if_false]
    refine jL (fun k i => aX.l0 k p w (p.size : Int) i) (List.range p.size) _ ?_ (fun i hi hp r hr => ?_) (fun i hi hp => ?_)
    ·rw [← au]; simp [aX.l0, aI]
    ·rw [List.length_range] at hi
     rw [List.getElem_range] at hp
     rw [← au]
     simp only [aX.l0, bJ (i := i) (by omega)]
     rw [ep, ep, ep, aG]
     by_cases h63 : bt p (i : Int) = 63
     ·rw [if_pos h63]; exact hr
     ·have he : bt p (i : Int) = bt w (i : Int) := by simpa [h63] using hp
      rw [if_neg h63, ep, ep he]
      exact hr
    ·rw [List.length_range] at hi
     rw [List.getElem_range] at hp
     simp only [Bool.or_eq_false_iff, decide_eq_false_iff_not] at hp
     rw [← au]
     simp only [aX.l0, bJ (i := i) (by omega)]
     rw [ep, ep, ep, en hp.1, ep, en hp.2]
     exact aI _
   ·rw [if_neg h3, show ((p.size : Int) != (w.size : Int)) = true by simp; omega]
    exact hf
  ·exact hf
 ·exact hf
def qy (how a : Int) (pl : List bW) (d : List S73) (pat w : ByteArray) : Bool := qX pat w && ((decide (Int.tmod how 2 = 0) || hasB d w a) && (decide (how < 2) || ng pl w))
def oo (how a : Int) (pl : List bW) (d : List S73) (l : List ByteArray) (pat : ByteArray) : List ByteArray := if 0 ≤ how ∧ how ≤ 3 then Bf (l.filter (qy how a pl d pat)) else []
theorem Cw (how a : Int) (pl : List bW) (d : List S73) (l : List ByteArray) (pat : ByteArray) : (oo how a pl d l pat).length ≤ l.length := by
 unfold oo
 split
 ·exact Nat.le_trans (Gh _) (List.length_filter_le _ _)
 ·simp
theorem tO (a : Int) (pl : List bW) (d : List S73) (l : List ByteArray) (pat : ByteArray) (how : Int) (hp : pl.length < 4611686018427387904) (hd : d.length < 4611686018427387904) (hl : l.length ≤ 8796093022208) : Ev (fun k => aU.f k a pl d l pat how) (oo how a pl d l pat) := by
 have hend : ∀ (out : List ByteArray) (i : Int), Ev (fun k => aU.j1 k d l pat how out i false a pl) out := by
  intro out i
  rw [← au]
  simp only [aU.j1, Bool.false_eq_true, if_false]
  exact aI _
 have hj3 : ∀ (out : List ByteArray) (i : Nat) (w : ByteArray) (sn py : Bool) (r : List ByteArray), i < 4611686018427387904 → out.length < 8796093022208 → Ev (fun k => aU.l0 k d l pat how (if (qX pat w && (sn && py)) = true then jM out w else out) ((i + 1 : Nat) : Int) a pl) r → Ev (fun k => aU.j3 k d l pat how out (i : Int) w sn py a pl) r := by
  intro out i w sn py r hi ho hr
  rw [← au]
  simp only [aU.j3, bJ (i := i) hi]
  rw [av (sH pat w), aG]
  by_cases h1 : qX pat w = true
  ·rw [if_pos h1, aG]
   by_cases h2 : sn = true
   ·rw [if_pos h2, aG]
    by_cases h3 : py = true
    ·rw [if_pos h3, av (vY out w (by omega)), aG]
     rw [h1, h2, h3] at hr
     simp only [Bool.and_self, if_true] at hr
     unfold jM at hr
     by_cases h4 : Cx out w = true
     ·rw [if_pos h4] at hr ⊢
      exact hr
     ·rw [if_neg h4] at hr ⊢
      rw [ep]
      exact hr
    ·rw [if_neg h3]
     rw [if_neg (by simp [h3])] at hr
     exact hr
   ·rw [if_neg h2]
    rw [if_neg (by simp [h2])] at hr
    exact hr
  ·rw [if_neg h1]
   rw [if_neg (by simp [h1])] at hr
   exact hr
 have hj2 : ∀ (out : List ByteArray) (i : Int) (w : ByteArray) (sn : Bool) (r : List ByteArray), Ev (fun k => aU.j3 k d l pat how out i w sn (decide (how < 2) || ng pl w) a pl) r → Ev (fun k => aU.j2 k d l pat how out i w sn a pl) r := by
  intro out i w sn r hr
  rw [← au]
  simp only [aU.j2]
  rw [aG]
  by_cases h : how < 2
  ·rw [if_pos h]
   rw [decide_eq_true h, Bool.true_or] at hr
   exact hr
  ·rw [if_neg h, av (AJ pl w hp)]
   rw [decide_eq_false h, Bool.false_or] at hr
   exact hr
 unfold aU.f oo
 by_cases hh : 0 ≤ how ∧ how ≤ 3
 ·rw [if_pos hh]
  refine iZ (σ := List ByteArray) (fun k out i => aU.l0 k d l pat how out i a pl) l.length (fun i out => out = ((l.take i).filter (qy how a pl d pat)).foldl jM []) (fun _ _ => Bf (l.filter (qy how a pl d pat))) (fun out ho => ?_) (fun i out hi ho => ?_) 0 [] (Nat.zero_le _) rfl
  ·rw [List.take_length] at ho
   rw [← au]
   simp only [aU.l0, Int.lt_irrefl, if_false]
   rw [ho]
   exact hend _ _
  ·have hlen : out.length ≤ i := by
    have h1 := oO ((l.take i).filter (qy how a pl d pat)) []
    have h2 := List.length_filter_le (qy how a pl d pat) (l.take i)
    rw [ho]
    simp only [List.length_nil, List.length_take] at h1 h2
    omega
   refine .inr ⟨if qy how a pl d pat l[i] = true then jM out l[i] else out, ?_, rfl, fun r hr => ?_⟩
   ·rw [EX _ l i hi, ← ho]
   ·have hr' := hj2 out (i : Int) l[i] (decide (Int.tmod how 2 = 0) || hasB d l[i] a) r (hj3 out i l[i] _ _ r (by omega) (by omega) hr)
    rw [← au]
    simp only [aU.l0, mE, Option.bind_some, decide_eq_true hh]
    rw [ep, ← au]
    simp only [aU.j1, if_true, lJ ByteArray.empty l i hi]
    rw [ep, ep, aG]
    by_cases h : Int.tmod how 2 = 0
    ·rw [if_pos h]
     rw [decide_eq_true h, Bool.true_or] at hr'
     exact hr'
    ·rw [if_neg h, av (vk d l[i] a hd)]
     rw [decide_eq_false h, Bool.false_or] at hr'
     exact hr'
 ·rw [if_neg hh, ← au]
  simp only [aU.l0, mE, Option.bind_some, decide_eq_false hh]
  rw [aG]
  split
  ·exact hend _ _
  ·exact hend _ _
theorem Ap (how a : Int) (pl : List bW) (d : List S73) (pat w : ByteArray) (hh : 0 ≤ how ∧ how ≤ 3) (hp : pl.length < 4611686018427387904) (hd : d.length < 4611686018427387904) : Ev (fun k => aT.g how k a pl d pat w) (qy how a pl d pat w) := by
 have hc : how = 0 ∨ how = 1 ∨ how = 2 ∨ how = 3 := by omega
 have f := su pat w
 have h := uR d w a hd
 have m := Aj pl w hp
 unfold qy
 generalize qX pat w = fb at *
 generalize hasB d w a = hb at *
 generalize ng pl w = mb at *
 rcases hc with rfl | rfl | rfl | rfl
 ·rw [show Int.tmod 0 2 = 0 by decide]
  simp only [aT.g, aT.g0, if_true]
  rw [av f, aG]
  cases fb <;> simp [eY]
 ·rw [show Int.tmod 1 2 = 1 by decide]
  simp only [aT.g, aT.g1, if_true, show ¬ (1 : Int) = 0 by decide, if_false]
  rw [av f, aG, av h, aG]
  cases fb <;> cases hb <;> simp [eY]
 ·rw [show Int.tmod 2 2 = 0 by decide]
  simp only [aT.g, aT.g2, if_true, show ¬ (2 : Int) = 0 by decide, show ¬ (2 : Int) = 1 by decide, if_false]
  rw [av f, aG, av m]
  cases fb <;> simp [eY]
 ·rw [show Int.tmod 3 2 = 1 by decide]
  simp only [aT.g, aT.g3, show ¬ (3 : Int) = 0 by decide, show ¬ (3 : Int) = 1 by decide, show ¬ (3 : Int) = 2 by decide, if_false]
  rw [av f, aG, av h, aG, av m]
  cases fb <;> cases hb <;> simp [eY]
theorem tC (a : Int) (pl : List bW) (d : List S73) (l : List ByteArray) (pat : ByteArray) (how : Int) (hp : pl.length < 4611686018427387904) (hd : d.length < 4611686018427387904) (hl : l.length ≤ 8796093022208) : Ev (fun k => aT.f k a pl d l pat how) (oo how a pl d l pat) := by
 unfold aT.f oo
 simp only [lS, Option.bind_some, decide_eq_true_eq, aG]
 by_cases hh : 0 ≤ how ∧ how ≤ 3
 ·rw [if_pos hh, if_pos hh, av (Ar l _ (qy how a pl d pat) hl (fun s _ => Ap how a pl d pat s hh hp hd))]
  exact BH _ (Nat.le_trans (List.length_filter_le _ _) hl)
 ·rw [if_neg hh, if_neg hh]
  exact aI _
def Nb (R C : Int) (i j : Nat) : Prop := ∃ r c r' c' : Int, (0 ≤ r ∧ r < R) ∧ (0 ≤ c ∧ c < C) ∧ (0 ≤ r' ∧ r' < R) ∧ (0 ≤ c' ∧ c' < C) ∧ (i : Int) = r * C + c ∧ (j : Int) = r' * C + c' ∧ ((r' = r - 1 ∧ c' = c) ∨ (r' = r + 1 ∧ c' = c) ∨ (r' = r ∧ c' = c - 1) ∨ (r' = r ∧ c' = c + 1))
def Wh (s : ByteArray) (i : Nat) : Prop := bt s (i : Int) = 46
inductive pX (R C : Int) (s : ByteArray) (a : Nat) : Nat → Prop
 | refl : pX R C s a a
 | step {x y : Nat} : pX R C s a x → Nb R C x y → Wh s y → pX R C s a y
theorem pX.trans {R C : Int} {s : ByteArray} {a x y : Nat} (h1 : pX R C s a x) (h2 : pX R C s x y) : pX R C s a y := by
 induction h2 with
 | refl => exact h1
 | step _ hn hw ih => exact .step ih hn hw
theorem Eo {C r c r' c' : Int} (hc : 0 ≤ c ∧ c < C) (hc' : 0 ≤ c' ∧ c' < C) (h : r * C + c = r' * C + c') : r = r' ∧ c = c' := by
 have h1 : (r * C + c) / C = r := by rw [Int.add_comm, Int.add_mul_ediv_right _ _ (by omega), Int.ediv_eq_zero_of_lt hc.1 hc.2]; omega
 have h2 : (r' * C + c') / C = r' := by rw [Int.add_comm, Int.add_mul_ediv_right _ _ (by omega), Int.ediv_eq_zero_of_lt hc'.1 hc'.2]; omega
 have h3 : r = r' := by rw [← h1, h, h2]
 subst h3
 exact ⟨rfl, by omega⟩
theorem cell_of (C : Int) (i : Nat) : (i : Int) = ((i : Int) / C) * C + (i : Int) % C := by
 have := Int.mul_ediv_add_emod (i : Int) C
 rw [Int.mul_comm]
 omega
theorem Ep {R C : Int} {i : Nat} (hC : 0 < C) (hi : (i : Int) < R * C) : (0 ≤ (i : Int) / C ∧ (i : Int) / C < R) ∧ (0 ≤ (i : Int) % C ∧ (i : Int) % C < C) :=
 ⟨⟨Int.ediv_nonneg (by omega) (by omega), Int.ediv_lt_of_lt_mul hC hi⟩, Int.emod_nonneg _ (by omega), Int.emod_lt_of_pos _ hC⟩
theorem wB {R C r c : Int} (hr : 0 ≤ r ∧ r < R) (hc : 0 ≤ c ∧ c < C) : 0 ≤ r * C + c ∧ r * C + c < R * C := by
 have h1 : 0 ≤ r * C := Int.mul_nonneg hr.1 (by omega)
 have h2 : (r + 1) * C ≤ R * C := Int.mul_le_mul_of_nonneg_right (by omega) (by omega)
 rw [Int.add_mul] at h2
 omega
theorem Nb.lt {R C : Int} {i j : Nat} (h : Nb R C i j) : (j : Int) < R * C := by
 obtain ⟨r, c, r', c', _, _, h3, h4, _, e, _⟩ := h
 have := wB h3 h4
 omega
theorem Nb.symm {R C : Int} {i j : Nat} (h : Nb R C i j) : Nb R C j i := by
 obtain ⟨r, c, r', c', h1, h2, h3, h4, e1, e2, h5⟩ := h
 exact ⟨r', c', r, c, h3, h4, h1, h2, e2, e1, by omega⟩
def cnt (n : Nat) (d : Nat → Bool) : Nat := (List.range n).countP (fun j => !d j)
theorem cnt_mono {n : Nat} {d d' : Nat → Bool} (h : ∀ j, d j = true → d' j = true) : cnt n d' ≤ cnt n d := by
 refine List.countP_mono_left (fun j _ hj => ?_)
 have := h j
 revert hj this
 cases d j <;> cases d' j <;> simp
theorem cnt_lt {d d' : Nat → Bool} (h : ∀ j, d j = true → d' j = true) (i : Nat) (h0 : d i = false) (h1 : d' i = true) : ∀ n, i < n → cnt n d' < cnt n d := by
 intro n
 induction n with
 | zero => intro hi; omega
 | succ n ih =>
  intro hi
  unfold cnt at *
  rw [List.range_succ, List.countP_append, List.countP_append]
  by_cases e : i = n
  ·subst e
   have := cnt_mono (n := i) h
   unfold cnt at this
   simp [h0, h1]
   omega
  ·have h2 := ih (by omega)
   have h3 : List.countP (fun j => !d' j) [n] ≤ List.countP (fun j => !d j) [n] := by
    refine List.countP_mono_left (fun j _ hj => ?_)
    have := h j
    revert hj this
    cases d j <;> cases d' j <;> simp
   omega
theorem Je (d : Array Bool) (i j : Nat) (hi : i < d.size) : (d.setIfInBounds i true)[j]! = (decide (j = i) || d[j]!) := by
 simp only [getElem!_def, Array.getElem?_setIfInBounds]
 by_cases h : j = i
 ·subst h; simp [hi]
 ·rw [if_neg (by omega)]; simp [h]
def Iz (R C : Int) (s : ByteArray) (d : Array Bool) (r c : Int) (d' : Array Bool) : Prop :=
 d'.size = d.size ∧ (∀ j : Nat, d[j]! = true → d'[j]! = true) ∧ (∀ i : Nat, (0 ≤ r ∧ r < R) → (0 ≤ c ∧ c < C) → (i : Int) = r * C + c → Wh s i → d'[i]! = true) ∧
 ∀ j : Nat, d'[j]! = true → d[j]! = false → (∃ i : Nat, (0 ≤ r ∧ r < R) ∧ (0 ≤ c ∧ c < C) ∧ (i : Int) = r * C + c ∧ Wh s i ∧ pX R C s i j) ∧ ∀ y, Nb R C j y → Wh s y → d'[y]! = true
theorem Iz.from {R C : Int} {s : ByteArray} {d d' : Array Bool} {r c r1 c1 : Int} {i : Nat} (hr : 0 ≤ r ∧ r < R) (hc : 0 ≤ c ∧ c < C) (hi : (i : Int) = r * C + c) (hn : (r1 = r - 1 ∧ c1 = c) ∨ (r1 = r + 1 ∧ c1 = c) ∨ (r1 = r ∧ c1 = c - 1) ∨ (r1 = r ∧ c1 = c + 1)) (h : Iz R C s d r1 c1 d') :
  ∀ j : Nat, d'[j]! = true → d[j]! = false → pX R C s i j ∧ ∀ y, Nb R C j y → Wh s y → d'[y]! = true := by
 intro j h1 h2
 obtain ⟨⟨i1, a1, a2, a3, a4, a5⟩, h3⟩ := h.2.2.2 j h1 h2
 exact ⟨(pX.step .refl ⟨r, c, r1, c1, hr, hc, a1, a2, hi, a3, hn⟩ a4).trans a5, h3⟩
theorem IY {R C : Int} {s : ByteArray} (hs : (s.size : Int) = R * C) : ∀ (m : Nat) (d : Array Bool) (r c : Int), d.size = s.size → cnt s.size (fun j => d[j]!) < m → ∃ d', Ev (fun k => HandForm.dfs R C s k d r c) d' ∧ Iz R C s d r c d' := by
 intro m
 induction m with
 | zero => intro d r c _ h; omega
 | succ m ih =>
  intro d r c hd hm
  by_cases hstop : HandForm.qL R C s d r c = true
  ·refine ⟨d, ?_, rfl, fun _ h => h, fun i hr hc hi hw => ?_, fun j h1 h2 => by rw [h1] at h2; cases h2⟩
   ·rw [← au]
    simp only [HandForm.dfs, hstop, if_true]
    exact aI _
   ·unfold HandForm.qL at hstop
    unfold Wh at hw
    rw [if_pos hr, if_pos hc, ← hi, hw] at hstop
    simpa using hstop
  ·have hgo := hstop
   unfold HandForm.qL at hgo
   have hr : 0 ≤ r ∧ r < R := Decidable.byContradiction fun h => hgo (by rw [if_neg h])
   rw [if_pos hr] at hgo
   have hc : 0 ≤ c ∧ c < C := Decidable.byContradiction fun h => hgo (by rw [if_neg h])
   rw [if_pos hc] at hgo
   have hlt := wB hr hc
   obtain ⟨i, hi⟩ : ∃ i : Nat, (i : Int) = r * C + c := ⟨(r * C + c).toNat, by omega⟩
   rw [← hi] at hgo
   simp only [Int.toNat_natCast, Bool.or_eq_true, Bool.not_eq_true', beq_eq_false_iff_ne, not_or, Bool.not_eq_true, ne_eq, Decidable.not_not] at hgo
   obtain ⟨hdi, hwi⟩ := hgo
   have hid : i < d.size := by omega
   have hget := fun j => Je d i j hid
   have hd0 : (d.setIfInBounds i true).size = s.size := by rw [Array.size_setIfInBounds]; exact hd
   have hsub : ∀ j : Nat, d[j]! = true → (d.setIfInBounds i true)[j]! = true := fun j h => by rw [hget, h, Bool.or_true]
   have hc0 : cnt s.size (fun j => (d.setIfInBounds i true)[j]!) < m := by
    have := cnt_lt (d := fun j => d[j]!) (d' := fun j => (d.setIfInBounds i true)[j]!) hsub i hdi (by show (d.setIfInBounds i true)[i]! = true; rw [hget]; simp) s.size (by omega)
    omega
   obtain ⟨d1, e1, p1⟩ := ih (d.setIfInBounds i true) (r - 1) c hd0 hc0
   have c1 := Nat.lt_of_le_of_lt (cnt_mono (n := s.size) (d := fun j => (d.setIfInBounds i true)[j]!) (d' := fun j => d1[j]!) p1.2.1) hc0
   have z1 : d1.size = s.size := p1.1.trans hd0
   obtain ⟨d2, e2, p2⟩ := ih d1 (r + 1) c z1 c1
   have c2 := Nat.lt_of_le_of_lt (cnt_mono (n := s.size) (d := fun j => d1[j]!) (d' := fun j => d2[j]!) p2.2.1) c1
   have z2 : d2.size = s.size := p2.1.trans z1
   obtain ⟨d3, e3, p3⟩ := ih d2 r (c - 1) z2 c2
   have c3 := Nat.lt_of_le_of_lt (cnt_mono (n := s.size) (d := fun j => d2[j]!) (d' := fun j => d3[j]!) p3.2.1) c2
   have z3 : d3.size = s.size := p3.1.trans z2
   obtain ⟨d4, e4, p4⟩ := ih d3 r (c + 1) z3 c3
   have i4 : d4[i]! = true := p4.2.1 i (p3.2.1 i (p2.2.1 i (p1.2.1 i (by rw [hget]; simp))))
   have clI : ∀ y, Nb R C i y → Wh s y → d4[y]! = true := by
    rintro y ⟨r1, c1, r', c', b1, b2, b3, b4, q1, q2, q3⟩ hw
    obtain ⟨rfl, rfl⟩ := Eo b2 hc (q1.symm.trans hi)
    rcases q3 with ⟨rfl, rfl⟩ | ⟨rfl, rfl⟩ | ⟨rfl, rfl⟩ | ⟨rfl, rfl⟩
    ·exact p4.2.1 y (p3.2.1 y (p2.2.1 y (p1.2.2.1 y b3 b4 q2 hw)))
    ·exact p4.2.1 y (p3.2.1 y (p2.2.2.1 y b3 b4 q2 hw))
    ·exact p4.2.1 y (p3.2.2.1 y b3 b4 q2 hw)
    ·exact p4.2.2.1 y b3 b4 q2 hw
   refine ⟨d4, ?_, by rw [p4.1, z3, hd], fun j h => p4.2.1 j (p3.2.1 j (p2.2.1 j (p1.2.1 j (hsub j h)))), fun i' _ _ hi' _ => ?_, fun j h1 h2 => ?_⟩
   ·rw [← au]
    simp only [HandForm.dfs, hstop, Bool.false_eq_true, if_false, ← hi, Int.toNat_natCast]
    rw [av e1, av e2, av e3]
    exact e4
   ·rw [show i' = i by omega]; exact i4
   ·have : pX R C s i j ∧ ∀ y, Nb R C j y → Wh s y → d4[y]! = true := by
     cases h3 : d3[j]! with
     | false => exact p4.from hr hc hi (by omega) j h1 h3
     | true =>
      have up : (pX R C s i j ∧ ∀ y, Nb R C j y → Wh s y → d3[y]! = true) → pX R C s i j ∧ ∀ y, Nb R C j y → Wh s y → d4[y]! = true := fun q => ⟨q.1, fun y a b => p4.2.1 y (q.2 y a b)⟩
      cases h4 : d2[j]! with
      | false => exact up (p3.from hr hc hi (by omega) j h3 h4)
      | true =>
       have up2 : (pX R C s i j ∧ ∀ y, Nb R C j y → Wh s y → d2[y]! = true) → pX R C s i j ∧ ∀ y, Nb R C j y → Wh s y → d4[y]! = true := fun q => up ⟨q.1, fun y a b => p3.2.1 y (q.2 y a b)⟩
       cases h5 : d1[j]! with
       | false => exact up2 (p2.from hr hc hi (by omega) j h4 h5)
       | true =>
        cases h6 : (d.setIfInBounds i true)[j]! with
        | false =>
         have q := p1.from hr hc hi (by omega) j h5 h6
         exact up2 ⟨q.1, fun y a b => p2.2.1 y (q.2 y a b)⟩
        | true =>
         rw [hget, h2, Bool.or_false] at h6
         have := of_decide_eq_true h6
         subst this
         exact ⟨.refl, clI⟩
    exact ⟨⟨i, hr, hc, hi, hwi, this.1⟩, this.2⟩
def Met (R C : Int) (s : ByteArray) (i j : Nat) : Prop := ∃ a, a < i ∧ Wh s a ∧ pX R C s a j
theorem Met.closed {R C : Int} {s : ByteArray} {i x y : Nat} (h : Met R C s i x) (hn : Nb R C x y) (hw : Wh s y) : Met R C s i y := by
 obtain ⟨a, h1, h2, h3⟩ := h
 exact ⟨a, h1, h2, .step h3 hn hw⟩
theorem Met.succ {R C : Int} {s : ByteArray} {i j : Nat} : Met R C s (i + 1) j ↔ Met R C s i j ∨ (Wh s i ∧ pX R C s i j) := by
 constructor
 ·rintro ⟨a, h1, h2, h3⟩
  by_cases e : a = i
  ·subst e; exact .inr ⟨h2, h3⟩
  ·exact .inl ⟨a, by omega, h2, h3⟩
 ·rintro (⟨a, h1, h2, h3⟩ | ⟨h1, h2⟩)
  ·exact ⟨a, by omega, h2, h3⟩
  ·exact ⟨i, by omega, h1, h2⟩
theorem Met.same {R C : Int} {s : ByteArray} {i j : Nat} (h : Wh s i → Met R C s i i) : Met R C s (i + 1) j ↔ Met R C s i j := by
 rw [Met.succ]
 refine ⟨fun q => q.elim id (fun ⟨h1, h2⟩ => ?_), .inl⟩
 obtain ⟨a, a1, a2, a3⟩ := h h1
 exact ⟨a, a1, a2, a3.trans h2⟩
open Classical in
noncomputable def root (R C : Int) (s : ByteArray) (i : Nat) : Nat := if Wh s i ∧ ¬ Met R C s i i then 1 else 0
noncomputable def roots (R C : Int) (s : ByteArray) (i : Nat) : Nat := ((List.range' i (s.size - i)).map (root R C s)).sum
theorem Bj (R C : Int) (s : ByteArray) : roots R C s s.size = 0 := by simp [roots]
theorem zQ (R C : Int) (s : ByteArray) (i : Nat) (hi : i < s.size) : roots R C s i = root R C s i + roots R C s (i + 1) := by
 unfold roots
 rw [show s.size - i = (s.size - (i + 1)) + 1 by omega, List.range'_succ]
 simp
theorem CW {R C : Int} {s : ByteArray} {i : Nat} (h : Wh s i) (h' : ¬ Met R C s i i) : root R C s i = 1 := by unfold root; rw [if_pos ⟨h, h'⟩]
theorem BZ {R C : Int} {s : ByteArray} {i : Nat} (h : Wh s i → Met R C s i i) : root R C s i = 0 := by unfold root; rw [if_neg (fun q => q.2 (h q.1))]
theorem GR {R C : Int} {s : ByteArray} (hs : (s.size : Int) = R * C) (hC : 0 < C) (d : Array Bool) (hd : d.size = s.size) (i : Nat) (hi : i < s.size) (hw : Wh s i) (hm : ∀ j : Nat, d[j]! = true ↔ Met R C s i j) :
  ∃ d', Ev (fun k => HandForm.dfs R C s k d ((i : Int) / C) ((i : Int) % C)) d' ∧ d'.size = s.size ∧ ∀ j : Nat, d'[j]! = true ↔ Met R C s (i + 1) j := by
 have hin := Ep hC (show (i : Int) < R * C by omega)
 have hof := cell_of C i
 obtain ⟨d', e, p1, p2, p3, p4⟩ := IY hs _ d ((i : Int) / C) ((i : Int) % C) hd (Nat.lt_succ_self _)
 refine ⟨d', e, p1.trans hd, fun j => ?_⟩
 rw [Met.succ, ← hm]
 constructor
 ·intro h
  cases h0 : d[j]! with
  | true => exact .inl rfl
  | false =>
   obtain ⟨⟨i', _, _, a3, _, a5⟩, _⟩ := p4 j h h0
   rw [show i' = i by omega] at a5
   exact .inr ⟨hw, a5⟩
 ·rintro (h | ⟨_, h⟩)
  ·exact p2 j h
  ·induction h with
   | refl => exact p3 i hin.1 hin.2 hof hw
   | step hx hn hwy ih =>
    rename_i x y
    cases h0 : d[x]! with
    | true => exact p2 y ((hm y).2 (((hm x).1 h0).closed hn hwy))
    | false => exact (p4 x ih h0).2 y hn hwy
theorem Gj {R C : Int} {s : ByteArray} (hs : (s.size : Int) = R * C) (hC : 0 < C) : Ev (fun k => HandForm.parts R C s k (Array.replicate s.size false) 0 0) (roots R C s 0 : Int) := by
 have := iZ (σ := Array Bool × Int) (fun k st i => HandForm.parts R C s k st.1 i st.2) s.size (fun i st => st.1.size = s.size ∧ ∀ j : Nat, st.1[j]! = true ↔ Met R C s i j) (fun i st => st.2 + (roots R C s i : Int)) (fun st hst => ?_) (fun i st hi hst => ?_) 0 (Array.replicate s.size false, 0) (Nat.zero_le _) ⟨by simp, fun j => ?_⟩
 ·simpa using this
 ·rw [Bj, ← au]
  simp only [HandForm.parts, Int.lt_irrefl, if_false]
  exact iw (aI _) (by simp)
 ·obtain ⟨hd, hm⟩ := hst
  have hrs := zQ R C s i hi
  by_cases hw : Wh s i
  ·cases h0 : st.1[i]! with
   | true =>
    refine .inr ⟨st, ⟨hd, fun j => ?_⟩, ?_, fun r hr => ?_⟩
    ·rw [hm, Met.same (fun _ => (hm i).1 h0)]
    ·rw [hrs, BZ (fun _ => (hm i).1 h0)]; simp
    ·rw [← au]
     unfold Wh at hw
     simp only [HandForm.parts, Int.toNat_natCast, h0, if_true, hw]
     rw [ep]
     exact hr
   | false =>
    have hnm : ¬ Met R C s i i := fun q => by have := (hm i).2 q; rw [h0] at this; cases this
    obtain ⟨d', e, z, hm'⟩ := GR hs hC st.1 hd i hi hw hm
    refine .inr ⟨(d', st.2 + 1), ⟨z, hm'⟩, ?_, fun r hr => ?_⟩
    ·rw [hrs, CW hw hnm]; simp; omega
    ·rw [← au]
     unfold Wh at hw
     simp only [HandForm.parts, Int.toNat_natCast, h0, Bool.false_eq_true, if_false, if_true, hw]
     rw [ep, av e]
     exact hr
  ·refine .inr ⟨st, ⟨hd, fun j => ?_⟩, ?_, fun r hr => ?_⟩
   ·rw [hm, Met.same (fun h => absurd h hw)]
   ·rw [hrs, BZ (fun h => absurd h hw)]; simp
   ·rw [← au]
    unfold Wh at hw
    simp only [HandForm.parts, hw, if_false]
    rw [ep]
    exact hr
 ·constructor
  ·intro h
   exfalso
   rw [getElem!_def, Array.getElem?_replicate] at h
   split at h <;> simp_all
  ·rintro ⟨a, h, _⟩
   omega
noncomputable def tJ (R C : Int) (s : ByteArray) : Int := if fU R C s = true then (roots R C s 0 : Int) else 0
theorem vR (R C : Int) (s : ByteArray) : Ev (fun k => kF.f k R C s) (tJ R C s) := by
 unfold kF.f tJ
 rw [av (kU R C s), aG]
 split
 ·rename_i hg
  obtain ⟨_, h2, h3, _⟩ := jR hg
  exact Gj h3 (by omega)
 ·exact aI _
theorem CO {R C : Int} {x : List Bool} (hC : 0 < C) (hx : (x.length : Int) = R * C) (y : Nat) (hy : y < x.length) : HandReach.uw C x (y : Int) = true ↔ ∃ a : Nat, Nb R C a y ∧ x.getD a false = true := by
 have hin := Ep hC (show (y : Int) < R * C by omega)
 have hof := cell_of C y
 unfold HandReach.uw
 constructor
 ·intro h
  simp only [Bool.or_eq_true, Bool.and_eq_true, decide_eq_true_eq] at h
  rcases h with ((⟨h1, h2⟩ | ⟨h1, h2⟩) | ⟨h1, h2⟩) | ⟨h1, h2⟩
  ·have h0 : 0 ≤ ((y : Int) / C) * C := Int.mul_nonneg hin.1.1 (by omega)
   exact ⟨((y : Int) - 1).toNat, ⟨(y : Int) / C, (y : Int) % C - 1, (y : Int) / C, (y : Int) % C, hin.1, by omega, hin.1, hin.2, by omega, hof, by omega⟩, h2⟩
  ·exact ⟨((y : Int) + 1).toNat, ⟨(y : Int) / C, (y : Int) % C + 1, (y : Int) / C, (y : Int) % C, hin.1, by omega, hin.1, hin.2, by omega, hof, by omega⟩, h2⟩
  ·have h3 : 1 ≤ (y : Int) / C := by
    refine Decidable.byContradiction fun q => ?_
    rw [show (y : Int) / C = 0 by omega] at hof
    omega
   have h4 : ((y : Int) / C - 1) * C = (y : Int) / C * C - C := by rw [Int.sub_mul, Int.one_mul]
   exact ⟨((y : Int) - C).toNat, ⟨(y : Int) / C - 1, (y : Int) % C, (y : Int) / C, (y : Int) % C, by omega, hin.2, hin.1, hin.2, by omega, hof, by omega⟩, h2⟩
  ·have h4 : ((y : Int) / C + 1) * C = (y : Int) / C * C + C := by rw [Int.add_mul, Int.one_mul]
   have h3 : (y : Int) / C + 1 < R := by
    refine Decidable.byContradiction fun q => ?_
    have : R * C ≤ ((y : Int) / C + 1) * C := Int.mul_le_mul_of_nonneg_right (by omega) (by omega)
    omega
   exact ⟨((y : Int) + C).toNat, ⟨(y : Int) / C + 1, (y : Int) % C, (y : Int) / C, (y : Int) % C, by omega, hin.2, hin.1, hin.2, by omega, hof, by omega⟩, h2⟩
 ·rintro ⟨a, ⟨r, c, r', c', b1, b2, b3, b4, q1, q2, q3⟩, h2⟩
  obtain ⟨e1, e2⟩ := Eo b4 hin.2 (q2.symm.trans hof)
  subst e1 e2
  have hat : ∀ z : Int, z = a → gW false x z = true := fun z hz => by subst hz; exact h2
  simp only [Bool.or_eq_true, Bool.and_eq_true, decide_eq_true_eq]
  rcases q3 with ⟨e1, e2⟩ | ⟨e1, e2⟩ | ⟨e1, e2⟩ | ⟨e1, e2⟩
  ·have h4 : r * C = (y : Int) / C * C + C := by rw [show r = (y : Int) / C + 1 by omega, Int.add_mul, Int.one_mul]
   have h5 := wB b1 b2
   exact .inr ⟨by omega, hat _ (by omega)⟩
  ·have h4 : r * C = (y : Int) / C * C - C := by rw [show r = (y : Int) / C - 1 by omega, Int.sub_mul, Int.one_mul]
   have h5 := wB b1 b2
   exact .inl (.inr ⟨by omega, hat _ (by omega)⟩)
  ·subst e1
   exact .inl (.inl (.inr ⟨by omega, hat _ (by omega)⟩))
  ·subst e1
   exact .inl (.inl (.inl ⟨by omega, hat _ (by omega)⟩))
def Fx (R C : Int) (s : ByteArray) (x x' : List Bool) : Prop :=
 x'.length = x.length ∧ (∀ j : Nat, x.getD j false = true → x'.getD j false = true) ∧ (∀ a y : Nat, x'.getD a false = true → Nb R C a y → Wh s y → x'.getD y false = true) ∧ ∀ j : Nat, x'.getD j false = true → ∃ a, x.getD a false = true ∧ pX R C s a j
theorem wS (x : List Bool) (i j : Nat) (b : Bool) (hi : i < x.length) : (x.set i b).getD j false = if j = i then b else x.getD j false := by
 simp only [List.getD_eq_getElem?_getD, List.getElem?_set]
 by_cases h : j = i
 ·subst h; simp [hi]
 ·rw [if_neg (by omega), if_neg h]
theorem getD_lt {x : List Bool} {j : Nat} (h : x.getD j false = true) : j < x.length := by
 refine Decidable.byContradiction fun q => ?_
 rw [List.getD_eq_getElem?_getD, List.getElem?_eq_none (by omega)] at h
 cases h
theorem Gp {R C : Int} {s : ByteArray} (hs : (s.size : Int) = R * C) (hC : 0 < C) : ∀ (m : Nat) (x : List Bool), x.length = s.size → cnt s.size (fun j => x.getD j false) < m → ∃ x', Ev (fun k => HandReach.qA C s k x true) x' ∧ Fx R C s x x' := by
 intro m
 induction m with
 | zero => intro x _ h; omega
 | succ m ih =>
  have inner : ∀ (d i : Nat) (x : List Bool) (g : Bool), i + d = s.size → x.length = s.size → (g = true → cnt s.size (fun j => x.getD j false) < m) → (g = false → cnt s.size (fun j => x.getD j false) < m + 1 ∧ ∀ j, j < i → x.getD j false = true ∨ ¬ Wh s j ∨ HandReach.uw C x (j : Int) = false) →
    ∃ x', Ev (fun k => HandReach.nV C s k x g (i : Int)) x' ∧ Fx R C s x x' := by
   intro d
   induction d with
   | zero =>
    intro i x g hi hx h1 h2
    have hi' : i = s.size := by omega
    subst hi'
    have hlast : ∀ x', Ev (fun k => HandReach.qA C s k x g) x' → Ev (fun k => HandReach.nV C s k x g (s.size : Int)) x' := by
     intro x' hx'
     rw [← au]
     simp only [HandReach.nV]
     rw [en]
     exact hx'
    cases g with
    | true =>
     obtain ⟨x', e, p⟩ := ih x hx (h1 rfl)
     exact ⟨x', hlast x' e, p⟩
    | false =>
     refine ⟨x, hlast x ?_, rfl, fun _ h => h, fun a y ha hn hw => ?_, fun j h => ⟨j, h, .refl⟩⟩
     ·rw [← au]
      simp only [HandReach.qA, Bool.false_eq_true, if_false]
      exact aI _
     ·have hy : y < x.length := by have := hn.lt; omega
      rcases (h2 rfl).2 y (by omega) with h | h | h
      ·exact h
      ·exact absurd hw h
      ·rw [(CO hC (by omega) y hy).2 ⟨a, hn, ha⟩] at h
       cases h
   | succ d ihd =>
    intro i x g hi hx h1 h2
    have hil : i < x.length := by omega
    have hri : gW false x (i : Int) = x.getD i false := rfl
    by_cases hb : x.getD i false = true ∨ ¬ Wh s i
    ·obtain ⟨x', e, p⟩ := ihd (i + 1) x g (by omega) hx h1 (fun hg => ⟨(h2 hg).1, fun j hj => by
      by_cases hji : j = i
      ·subst hji; exact hb.elim .inl (fun q => .inr (.inl q))
      ·exact (h2 hg).2 j (by omega)⟩)
     refine ⟨x', ?_, p⟩
     rw [← au]
     simp only [HandReach.nV, hri]
     rw [ep, aG, if_pos]
     ·exact e
     ·rcases hb with h | h
      ·rw [h, Bool.true_or]
      ·have : (bt s (i : Int) != 46) = true := bne_iff_ne.2 h
       rw [this, Bool.or_true]
    ·have hb1 : x.getD i false = false := by simpa using fun q => hb (.inl q)
     have hb2 : Wh s i := Classical.byContradiction fun q => hb (.inr q)
     have hcond : (x.getD i false || (bt s (i : Int) != 46)) = false := by rw [hb1, show bt s (i : Int) = 46 from hb2]; rfl
     by_cases hn : HandReach.uw C x (i : Int) = true
     ·have hset := fun j => wS x i j true hil
      have hsub : ∀ j : Nat, x.getD j false = true → (x.set i true).getD j false = true := fun j h => by
       rw [hset]; split
       ·rfl
       ·exact h
      have hcl : cnt s.size (fun j => (x.set i true).getD j false) < m := by
       have h3 := cnt_lt (d := fun j => x.getD j false) (d' := fun j => (x.set i true).getD j false) hsub i hb1 (by show (x.set i true).getD i false = true; rw [hset, if_pos rfl]) s.size (by omega)
       cases g with
       | true => have := h1 rfl; omega
       | false => have := (h2 rfl).1; omega
      obtain ⟨x', e, p1, p2, p3, p4⟩ := ihd (i + 1) (x.set i true) true (by omega) (by rw [List.length_set]; exact hx) (fun _ => hcl) (fun h => by cases h)
      refine ⟨x', ?_, by rw [p1, List.length_set], fun j h => p2 j (hsub j h), p3, fun j h => ?_⟩
      ·rw [← au]
       simp only [HandReach.nV, hri, hcond, Bool.false_eq_true, if_false, hn, if_true, Int.toNat_natCast]
       rw [ep]
       exact e
      ·obtain ⟨a, ha, hc⟩ := p4 j h
       rw [hset] at ha
       by_cases hai : a = i
       ·subst hai
        obtain ⟨b, hb1, hb3⟩ := (CO (R := R) hC (by omega) a hil).1 hn
        exact ⟨b, hb3, (pX.step .refl hb1 hb2).trans hc⟩
       ·rw [if_neg hai] at ha
        exact ⟨a, ha, hc⟩
     ·rw [Bool.not_eq_true] at hn
      obtain ⟨x', e, p⟩ := ihd (i + 1) x g (by omega) hx h1 (fun hg => ⟨(h2 hg).1, fun j hj => by
       by_cases hji : j = i
       ·subst hji; exact .inr (.inr hn)
       ·exact (h2 hg).2 j (by omega)⟩)
      refine ⟨x', ?_, p⟩
      rw [← au]
      simp only [HandReach.nV, hri, hcond, Bool.false_eq_true, if_false, hn]
      rw [ep]
      exact e
  intro x hx hm
  obtain ⟨x', e, p⟩ := inner s.size 0 x false (by omega) hx (fun h => by cases h) (fun _ => ⟨hm, fun j hj => by omega⟩)
  refine ⟨x', ?_, p⟩
  rw [← au]
  simp only [HandReach.qA, if_true]
  exact e
theorem DU {R C : Int} {s : ByteArray} (hg : fU R C s = true) (i : Nat) (hi : i < s.size) : ∃ x', Ev (fun k => kP.f k R C s (List.replicate s.size false) (i : Int)) x' ∧ x'.length = s.size ∧ ∀ j : Nat, x'.getD j false = true ↔ pX R C s i j := by
 obtain ⟨hR, hC, hs, _⟩ := jR hg
 have hl : (List.replicate s.size false).length = s.size := List.length_replicate
 have hset := fun j => wS (List.replicate s.size false) i j true (by omega)
 have hrep : ∀ j : Nat, (List.replicate s.size false).getD j false = false := fun j => by
  rw [List.getD_eq_getElem?_getD, List.getElem?_replicate]
  split <;> rfl
 obtain ⟨x', e, p1, p2, p3, p4⟩ := Gp hs (by omega) _ ((List.replicate s.size false).set i true) (by rw [List.length_set, hl]) (Nat.lt_succ_self _)
 refine ⟨x', ?_, by rw [p1, List.length_set, hl], fun j => ⟨fun h => ?_, fun h => ?_⟩⟩
 ·unfold kP.f HandReach.BU
  rw [aG, if_pos ⟨hR, hC, hs, by omega, by omega, by omega⟩, Int.toNat_natCast]
  exact e
 ·obtain ⟨a, h1, h2⟩ := p4 j h
  rw [hset, hrep] at h1
  by_cases ha : a = i
  ·subst ha; exact h2
  ·rw [if_neg ha] at h1; cases h1
 ·induction h with
  | refl => exact p2 i (by rw [hset, if_pos rfl])
  | step hx hn hw ih => exact p3 _ _ ih hn hw
theorem Dn {R C : Int} {s : ByteArray} (n : Int) (x one : List Bool) (hx : x.length = s.size) (ho : one.length = s.size) (hsz : s.size ≤ 36) (i : Nat) (r : Int)
  (hr : ∀ x' : List Bool, x'.length = s.size → (∀ j : Nat, x'.getD j false = true ↔ x.getD j false = true ∨ one.getD j false = true) → Ev (fun k => aM.l1 k n x' (wrap64 ((i : Int) + 1)) R C s) r) : Ev (fun k => aM.l3 k n x (i : Int) one 0 R C s) r := by
 refine iZ (σ := List Bool) (fun k a j => aM.l3 k n a (i : Int) one j R C s) s.size (fun t a => a.length = s.size ∧ ∀ j : Nat, a.getD j false = true ↔ x.getD j false = true ∨ (j < t ∧ one.getD j false = true)) (fun _ _ => r) (fun a ha => ?_) (fun t a ht ha => ?_) 0 x (Nat.zero_le _) ⟨hx, fun j => by simp⟩
 ·rw [← au]
  simp only [aM.l3]
  rw [en]
  refine hr a ha.1 (fun j => ?_)
  rw [ha.2]
  exact ⟨fun q => q.imp id (·.2), fun q => q.imp id (fun h => ⟨by have := getD_lt h; omega, h⟩)⟩
 ·have htl : t < a.length := by omega
  have hra : gW false a (t : Int) = a.getD t false := rfl
  have hro : gW false one (t : Int) = one.getD t false := rfl
  refine .inr ⟨a.set t (a.getD t false || one.getD t false), ⟨by rw [List.length_set]; exact ha.1, fun j => ?_⟩, rfl, fun r' hr' => ?_⟩
  ·rw [wS _ _ _ _ htl]
   by_cases hj : j = t
   ·subst hj
    rw [if_pos rfl, Bool.or_eq_true, ha.2]
    constructor
    ·rintro ((h | ⟨h, _⟩) | h)
     ·exact .inl h
     ·omega
     ·exact .inr ⟨by omega, h⟩
    ·rintro (h | ⟨_, h⟩)
     ·exact .inl (.inl h)
     ·exact .inr h
   ·rw [if_neg hj, ha.2]
    exact ⟨fun q => q.imp id (fun h => ⟨by omega, h.2⟩), fun q => q.imp id (fun h => ⟨by omega, h.2⟩)⟩
  ·rw [← au]
   simp only [aM.l3, hra, hro, bJ (i := t) (by omega), Int.toNat_natCast]
   rw [ep, ep, aG]
   by_cases h : a.getD t false = true
   ·rw [if_pos h]
    rw [h, Bool.true_or] at hr'
    exact hr'
   ·rw [Bool.not_eq_true] at h
    rw [h, Bool.false_or] at hr'
    rw [if_neg (by rw [h]; exact Bool.false_ne_true), ep]
    exact hr'
theorem Dm {R C : Int} {s : ByteArray} (n : Int) (x : List Bool) (hx : x.length = s.size) (hsz : s.size ≤ 36) (i : Nat) (one : List Bool) (r : Int) (ho : Ev (fun k => kP.f k R C s (List.replicate s.size false) (i : Int)) one)
  (hr : Ev (fun k => aM.l3 k n x (i : Int) one 0 R C s) r) : Ev (fun k => aM.l2 k n x (i : Int) [] 0 R C s) r := by
 refine iZ (σ := List Bool) (fun k a j => aM.l2 k n x (i : Int) a j R C s) s.size (fun t a => a = List.replicate t false) (fun _ _ => r) (fun a ha => ?_) (fun t a ht ha => .inr ⟨a ++ [false], ?_, rfl, fun r' hr' => ?_⟩) 0 [] (Nat.zero_le _) rfl
 ·subst ha
  rw [← au]
  simp only [aM.l2]
  rw [en, av ho]
  exact hr
 ·rw [ha, List.replicate_succ']
 ·have hal : a.length = t := by rw [ha, List.length_replicate]
  rw [← au]
  simp only [aM.l2, bJ (i := t) (by omega)]
  rw [ep, ep]
  exact hr'
theorem Dl {R C : Int} {s : ByteArray} (hg : fU R C s = true) : Ev (fun k => aM.l1 k 0 (List.replicate s.size false) 0 R C s) (roots R C s 0 : Int) := by
 obtain ⟨hR, hC, hs, _⟩ := jR hg
 have hsz := iK hg
 have := iZ (σ := List Bool × Int) (fun k st i => aM.l1 k st.2 st.1 i R C s) s.size (fun i st => (st.1.length = s.size ∧ 0 ≤ st.2 ∧ st.2 ≤ i) ∧ ∀ j : Nat, st.1.getD j false = true ↔ Met R C s i j) (fun i st => st.2 + (roots R C s i : Int)) (fun st hst => ?_) (fun i st hi hst => ?_) 0 (List.replicate s.size false, 0) (Nat.zero_le _) ⟨⟨by simp, by simp, by simp⟩, fun j => ?_⟩
 ·simpa using this
 ·rw [Bj, ← au]
  simp only [aM.l1, Int.lt_irrefl, if_false]
  rw [← au]
  simp only [aM.j2, Bool.false_eq_true, if_false]
  exact iw (aI _) (by simp)
 ·obtain ⟨⟨hx, hn0, hni⟩, hm⟩ := hst
  have hrs := zQ R C s i hi
  have hri : gW false st.1 (i : Int) = st.1.getD i false := rfl
  have start : ∀ b : Bool, (if bt s (i : Int) = 46 then (!(st.1.getD i false)) else false) = b → ∀ r, Ev (fun k => aM.j3 k st.2 st.1 (i : Int) b R C s) r → Ev (fun k => aM.l1 k st.2 st.1 (i : Int) R C s) r := by
   intro b hb r hr
   rw [← au]
   simp only [aM.l1]
   rw [ep, av (jr R C s), hg, ← au]
   simp only [aM.j2, if_true, hri]
   rw [ep, ep, aG]
   by_cases hw : bt s (i : Int) = 46
   ·rw [if_pos hw] at hb ⊢
    rw [ep, hb]
    exact hr
   ·rw [if_neg hw] at hb ⊢
    rw [hb]
    exact hr
  have skip : (Wh s i → Met R C s i i) → (if bt s (i : Int) = 46 then (!(st.1.getD i false)) else false) = false → ∃ s' : List Bool × Int, ((s'.1.length = s.size ∧ 0 ≤ s'.2 ∧ s'.2 ≤ ((i + 1 : Nat) : Int)) ∧ ∀ j : Nat, s'.1.getD j false = true ↔ Met R C s (i + 1) j) ∧ st.2 + (roots R C s i : Int) = s'.2 + (roots R C s (i + 1) : Int) ∧ ∀ r, Ev (fun k => aM.l1 k s'.2 s'.1 ((i + 1 : Nat) : Int) R C s) r → Ev (fun k => aM.l1 k st.2 st.1 (i : Int) R C s) r := by
   intro h hb
   refine ⟨st, ⟨⟨hx, hn0, by omega⟩, fun j => ?_⟩, ?_, fun r hr => start false hb r ?_⟩
   ·rw [hm, Met.same h]
   ·rw [hrs, BZ h]; simp
   ·rw [← au]
    simp only [aM.j3, Bool.false_eq_true, if_false, bJ (i := i) (by omega)]
    exact hr
  by_cases hw : Wh s i
  ·cases h0 : st.1.getD i false with
   | true => exact .inr (skip (fun _ => (hm i).1 h0) (by unfold Wh at hw; rw [if_pos hw, h0]; rfl))
   | false =>
    have hnm : ¬ Met R C s i i := fun q => by have := (hm i).2 q; rw [h0] at this; cases this
    obtain ⟨one, e, z, hone⟩ := DU hg i hi
    obtain ⟨x', hx'⟩ : ∃ x' : List Bool, x'.length = s.size ∧ ∀ j : Nat, x'.getD j false = true ↔ st.1.getD j false = true ∨ one.getD j false = true := by
     refine ⟨(List.range s.size).map (fun j => st.1.getD j false || one.getD j false), by simp, fun j => ?_⟩
     by_cases hj : j < s.size
     ·rw [List.getD_eq_getElem?_getD, List.getElem?_map, List.getElem?_range hj]
      simp
     ·rw [List.getD_eq_getElem?_getD, List.getElem?_eq_none (by simp; omega)]
      constructor
      ·intro q
       cases q
      ·intro q
       rcases q with q | q
       ·have := getD_lt q; omega
       ·have := getD_lt q; omega
    have hsame : ∀ y : List Bool, y.length = s.size → (∀ j : Nat, y.getD j false = true ↔ st.1.getD j false = true ∨ one.getD j false = true) → y = x' := by
     intro y hy1 hy2
     refine List.ext_getElem (by omega) (fun j h1 h2 => ?_)
     have e1 : y.getD j false = y[j] := by simp [List.getD_eq_getElem?_getD, List.getElem?_eq_getElem h1]
     have e2 : x'.getD j false = x'[j] := by simp [List.getD_eq_getElem?_getD, List.getElem?_eq_getElem h2]
     rw [← e1, ← e2, Bool.eq_iff_iff, hy2, hx'.2]
    refine .inr ⟨(x', st.2 + 1), ⟨⟨hx'.1, by show 0 ≤ st.2 + 1; omega, by show st.2 + 1 ≤ _; omega⟩, fun j => ?_⟩, ?_, fun r hr => start true (by unfold Wh at hw; rw [if_pos hw, h0]; rfl) r ?_⟩
    ·rw [hx'.2, hm, hone, Met.succ]
     exact ⟨fun q => q.imp id (fun h => ⟨hw, h⟩), fun q => q.imp id (·.2)⟩
    ·rw [hrs, CW hw hnm]; simp; omega
    ·have e1 : wrap64 (st.2 + 1) = st.2 + 1 := jQ (by omega) (by omega)
     rw [← au]
     simp only [aM.j3, if_true, e1]
     refine Dm _ _ hx hsz.2 i one r e (Dn _ _ one hx z hsz.2 i r (fun y hy1 hy2 => ?_))
     rw [hsame y hy1 hy2, bJ (i := i) (by omega)]
     exact hr
  ·exact .inr (skip (fun h => absurd h hw) (by unfold Wh at hw; rw [if_neg hw]))
 ·constructor
  ·intro h
   exfalso
   rw [List.getD_eq_getElem?_getD, List.getElem?_replicate] at h
   split at h <;> simp at h
  ·rintro ⟨a, h, _⟩
   omega
theorem wG {R C : Int} {s : ByteArray} (hsz : s.size < 140737488355328) (r : Int) (hr : Ev (fun k => aM.l1 k 0 (List.replicate s.size false) 0 R C s) r) : Ev (fun k => aM.f k R C s) r := by
 unfold aM.f
 refine iZ (σ := List Bool) (fun k a j => aM.l0 k 0 a j R C s) s.size (fun t a => a = List.replicate t false) (fun _ _ => r) (fun a ha => ?_) (fun t a ht ha => .inr ⟨a ++ [false], ?_, rfl, fun r' hr' => ?_⟩) 0 [] (Nat.zero_le _) rfl
 ·subst ha
  rw [← au]
  simp only [aM.l0, Int.lt_irrefl, if_false]
  exact hr
 ·rw [ha, List.replicate_succ']
 ·have hal : a.length = t := by rw [ha, List.length_replicate]
  rw [← au]
  simp only [aM.l0, bJ (i := t) (by omega)]
  rw [ep, ep]
  exact hr'
theorem vZ (R C : Int) (s : ByteArray) (hsz : s.size < 140737488355328) : Ev (fun k => aM.f k R C s) (tJ R C s) := by
 unfold tJ
 split
 ·rename_i hg
  exact wG hsz _ (Dl hg)
 ·rename_i hg
  rw [Bool.not_eq_true] at hg
  refine wG hsz _ ?_
  have : Ev (fun k => aM.j2 k 0 (List.replicate s.size false) 0 false R C s) 0 := by
   rw [← au]
   simp only [aM.j2, Bool.false_eq_true, if_false]
   exact aI _
  rw [← au]
  simp only [aM.l1]
  rw [aG]
  split
  ·rw [av (jr R C s), hg]
   exact this
  ·exact this
def Gu (R C : Int) (s : ByteArray) : Bool := fU R C s && decide (vW s = s)
theorem vw {R C : Int} {s : ByteArray} (hg : fU R C s = true) : Ev (fun k => kN.f k R C s) (R, C, vW s) := by
 have := iK hg
 unfold kN.f
 rw [av (jr R C s), ep hg, av (pQ s (by omega))]
 exact aI _
theorem uU {R C : Int} {s : ByteArray} (hg : fU R C s = true) : Ev (fun k => kK.f k R C s) (R, C, vW s) := by
 have := iK hg
 unfold kK.f
 rw [av (kU R C s), ep hg]
 simp only [pF s (by omega), Option.bind_some]
 exact aI _
theorem sI (R C : Int) (s : ByteArray) : Ev (fun k => fC.f k R C s) (Gu R C s) := by
 unfold fC.f Gu
 rw [av (jr R C s), aG]
 split
 ·rename_i hg
  rw [av (vw hg)]
  exact iw (aI _) (by simp [hg, kr])
 ·rename_i hg
  exact iw (aI _) (by simp [hg])
theorem sw (R C : Int) (s : ByteArray) : Ev (fun k => fA.f k R C s) (Gu R C s) := by
 unfold fA.f Gu
 rw [av (kU R C s), aG]
 split
 ·rename_i hg
  rw [av (uU hg)]
  exact iw (aI _) (by simp [hg, kr, eq_comm])
 ·rename_i hg
  exact iw (aI _) (by simp [hg])
theorem EM (l : List Int) (x : Int) (hl : l.length < 4611686018427387904) : Ev (fun k => dI.f k l x) (match l.findIdx? (fun y => decide (y = x)) with | some i => (i : Int) | none => -1) := by
 refine rT (fun k i => dI.l0 k l x (l.length : Int) i) l _ ?_ (fun i hi hp r hr => ?_) (fun i hi hp => ?_)
 ·rw [← au]; simp [dI.l0, aI]
 ·rw [← au]
  simp only [dI.l0, oC l i hi, bJ (i := i) (by omega)]
  rw [ep, ep, ep, en (fun e => of_decide_eq_false hp e.symm)]
  exact hr
 ·rw [← au]
  simp only [dI.l0, oC l i hi]
  rw [ep, ep, ep, aG, if_pos (of_decide_eq_true hp).symm]
  exact aI _
theorem Ct {α : Type} (l : List α) (p : α → Bool) : decide ((match l.findIdx? p with | some i => (i : Int) | none => -1) ≥ 0) = l.any p := by
 cases h : l.findIdx? p with
 | none =>
  have := List.findIdx?_eq_none_iff.1 h
  simp
  intro x hx
  simpa using this x hx
 | some i =>
  obtain ⟨h1, h2, _⟩ := List.findIdx?_eq_some_iff_getElem.1 h
  simp
  exact ⟨l[i], List.getElem_mem h1, h2⟩
theorem BA (l : List Int) (x : Int) (hl : l.length < 4611686018427387904) : Ev (fun k => iA.f k l x) (l.any (fun y => decide (y = x))) := by
 unfold iA.f
 rw [av (EM l x hl), Ct]
 exact aI _
def wT (C : Int) (c : Int) (x : eZ) : Bool := (eF C x).any (fun y => decide (y = c))
noncomputable def ou (R C : Int) (s : ByteArray) (c : Int) : List Int := (List.range (aW R C s).length).flatMap (fun (i : Nat) => if ((aW R C s)[i]?).any (wT C c) = true then [(i : Int)] else [])
theorem sZ (R C : Int) (s : ByteArray) (c : Int) (i : Nat) : (((List.range (aW R C s).length).take i).flatMap (fun (i : Nat) => if ((aW R C s)[i]?).any (wT C c) = true then [(i : Int)] else [])).length ≤ 72 := by
 have h1 := nX (fun i : Nat => if ((aW R C s)[i]?).any (wT C c) = true then [(i : Int)] else []) 1 i (List.range (aW R C s).length) (fun x _ => by split <;> simp)
 have h2 := (fT R C s).2.2
 rw [List.length_range] at h1
 omega
theorem Cc (R C : Int) (s : ByteArray) (c : Int) : (((ou R C s c).length : Int) = 0) ↔ c ∉ ((aW R C s).map (eF C)).flatten := by
 have : ((ou R C s c).length : Int) = 0 ↔ ou R C s c = [] := by rw [← List.length_eq_zero_iff]; omega
 rw [this]
 unfold ou
 rw [List.flatMap_eq_nil_iff]
 simp only [List.mem_range, List.mem_flatten, List.mem_map]
 constructor
 ·rintro h ⟨l, ⟨x, hx, rfl⟩, hc⟩
  obtain ⟨i, hi, rfl⟩ := List.getElem_of_mem hx
  have := h i hi
  rw [if_pos] at this
  ·cases this
  ·rw [List.getElem?_eq_getElem hi]
   show wT C c (aW R C s)[i] = true
   exact List.any_eq_true.2 ⟨c, hc, decide_eq_true rfl⟩
 ·intro h i hi
  rw [if_neg]
  rw [List.getElem?_eq_getElem hi]
  intro q
  obtain ⟨y, hy, e⟩ := List.any_eq_true.1 (show wT C c (aW R C s)[i] = true from q)
  have := of_decide_eq_true e
  subst this
  exact h ⟨_, ⟨_, List.getElem_mem hi, rfl⟩, hy⟩
theorem oH (R C : Int) (s : ByteArray) (c : Int) : Ev (fun k => dG.f k R C s c) (ou R C s c) := by
 have hlen := (fT R C s).2.2
 have hlr : (List.range (aW R C s).length).length = (aW R C s).length := List.length_range
 unfold dG.f
 rw [av (jI R C s)]
 refine mG (fun k a i => dG.l0 k c a (aW R C s) i R C s) (List.range (aW R C s).length) (fun (i : Nat) => if ((aW R C s)[i]?).any (wT C c) = true then [(i : Int)] else []) 0 (fun a => ?_) (fun i hi a ha r hr => ?_)
 ·rw [← au]; simp only [dG.l0, hlr, Int.lt_irrefl, if_false]; exact aI _
 ·have hb := sZ R C s c i
  have hi' : i < (aW R C s).length := by omega
  have hm := List.getElem_mem hi'
  have hcl : (eF C (aW R C s)[i]).length < 4611686018427387904 := by rw [jd]; have := ((fT R C s).1 _ hm).2.2.2.1; omega
  rw [List.getElem_range, List.getElem?_eq_getElem hi'] at hr
  rw [← au]
  simp only [dG.l0, mM _ i hi', bJ (i := i) (by omega)]
  rw [ep, ep, av (oG _ hm), av (AP _ c hcl), aG]
  by_cases h : (eF C (aW R C s)[i]).any (fun y => decide (y = c)) = true
  ·rw [if_pos (show Option.any (wT C c) (some (aW R C s)[i]) = true from h)] at hr
   rw [if_pos h, ep]
   exact hr
  ·rw [if_neg (show ¬ Option.any (wT C c) (some (aW R C s)[i]) = true from h), List.append_nil] at hr
   rw [if_neg h]
   exact hr
noncomputable def Cj (R C : Int) (s : ByteArray) (c : Int) : Bool := ((ou R C s c).length : Int) == 2
noncomputable def oM (R C : Int) (s : ByteArray) (x : eZ) : Int := (((eF C x).countP (fun c => !Cj R C s c) : Nat) : Int)
theorem pR (R C : Int) (s : ByteArray) (c : Int) : Ev (fun k => ko.f k R C s c) (Cj R C s c) := by
 unfold ko.f
 rw [av (oH R C s c)]
 exact aI _
theorem oL (R C : Int) (s : ByteArray) (i : Nat) (hi : i < (aW R C s).length) : Ev (fun k => eD.f k R C s (i : Int)) (oM R C s (aW R C s)[i]) := by
 have hlen := (fT R C s).2.2
 have hm := List.getElem_mem hi
 have ok := (fT R C s).1 _ hm
 have hcl := jd C (aW R C s)[i]
 have hok := ok.2.2.2.1
 have e : wrap64 (((aW R C s).length : Int) - 1) = (aW R C s).length - 1 := jQ (by omega) (by omega)
 unfold eD.f
 rw [av (jI R C s)]
 simp only [mE, Option.bind_some, e, mM _ i hi]
 rw [ep (by simp; omega), ep, ep, av (oG _ hm)]
 unfold oM
 generalize eF C (aW R C s)[i] = l at hcl
 have := iZ (σ := Nat) (fun k a j => eD.l0 k l (a : Int) j R C s) l.length (fun j a => a ≤ j) (fun j a => ((a + (l.drop j).countP (fun c => !Cj R C s c) : Nat) : Int)) (fun a ha => ?_) (fun j a hj ha => ?_) 0 0 (Nat.zero_le _) (Nat.le_refl _)
 ·simpa using this
 ·rw [← au]
  simp only [eD.l0, List.drop_length, List.countP_nil, Nat.add_zero, Int.lt_irrefl, if_false]
  exact aI _
 ·rw [List.drop_eq_getElem_cons hj, List.countP_cons]
  have ew : wrap64 ((a : Int) + 1) = ((a + 1 : Nat) : Int) := bJ (by omega)
  by_cases h : Cj R C s l[j] = true
  ·refine .inr ⟨a, by omega, by simp [h], fun r hr => ?_⟩
   rw [← au]
   simp only [eD.l0, oC l j hj, bJ (i := j) (by omega), ew]
   rw [ep, ep, av (pR R C s l[j]), ep h]
   exact hr
  ·refine .inr ⟨a + 1, by omega, by simp [h]; omega, fun r hr => ?_⟩
   rw [← au]
   simp only [eD.l0, oC l j hj, bJ (i := j) (by omega), ew]
   rw [ep, ep, av (pR R C s l[j]), en h]
   exact hr
theorem Dg (R C : Int) (s : ByteArray) (x : eZ) (hx : x ∈ aW R C s) : 0 ≤ oM R C s x ∧ oM R C s x ≤ 6 := by
 have ok := (fT R C s).1 _ hx
 have h1 := jd C x
 have h2 := ok.2.2.2.1
 have h3 : (eF C x).countP (fun c => !Cj R C s c) ≤ (eF C x).length := List.countP_le_length
 unfold oM
 omega
theorem vS (R C : Int) (s : ByteArray) (c : Int) : Ev (fun k => gJ.f k R C s c) (ou R C s c) := by
 have hlen := (fT R C s).2.2
 have hlr : (List.range (aW R C s).length).length = (aW R C s).length := List.length_range
 have hll : ((aW R C s).map (eF C)).length = (aW R C s).length := List.length_map _
 unfold gJ.f
 rw [av (nL R C s)]
 refine mG (fun k a i => gJ.l0 k c a ((aW R C s).map (eF C)) (((aW R C s).map (eF C)).length : Int) i) (List.range (aW R C s).length) (fun (i : Nat) => if ((aW R C s)[i]?).any (wT C c) = true then [(i : Int)] else []) 0 (fun a => ?_) (fun i hi a ha r hr => ?_)
 ·rw [← au]; simp only [gJ.l0, hlr, hll, Int.lt_irrefl, if_false]; exact aI _
 ·have hb := sZ R C s c i
  have hi' : i < (aW R C s).length := by omega
  have hm := List.getElem_mem hi'
  have hcl : (eF C (aW R C s)[i]).length < 4611686018427387904 := by rw [jd]; have := ((fT R C s).1 _ hm).2.2.2.1; omega
  have hL : ((aW R C s).map (eF C))[i]'(by omega) = eF C (aW R C s)[i] := List.getElem_map _
  rw [List.getElem_range, List.getElem?_eq_getElem hi'] at hr
  rw [← au]
  simp only [gJ.l0, DL ((aW R C s).map (eF C)) i (by omega), hL, bJ (i := i) (by omega)]
  rw [ep, ep, ep, av (BA _ c hcl), aG]
  by_cases h : (eF C (aW R C s)[i]).any (fun y => decide (y = c)) = true
  ·rw [if_pos (show Option.any (wT C c) (some (aW R C s)[i]) = true from h)] at hr
   rw [if_pos h, ep]
   exact hr
  ·rw [if_neg (show ¬ Option.any (wT C c) (some (aW R C s)[i]) = true from h), List.append_nil] at hr
   rw [if_neg h]
   exact hr
theorem pG (R C : Int) (s : ByteArray) (c : Int) : Ev (fun k => jX.f k R C s c) (Cj R C s c) := by
 unfold jX.f
 rw [av (vS R C s c)]
 exact aI _
theorem oJ (R C : Int) (s : ByteArray) (i : Nat) (hi : i < (aW R C s).length) : Ev (fun k => dZ.f k R C s (i : Int)) (oM R C s (aW R C s)[i]) := by
 have hlen := (fT R C s).2.2
 have hm := List.getElem_mem hi
 have ok := (fT R C s).1 _ hm
 have hcl := jd C (aW R C s)[i]
 have hok := ok.2.2.2.1
 have hll : ((aW R C s).map (eF C)).length = (aW R C s).length := List.length_map _
 have hL : ((aW R C s).map (eF C))[i]'(by omega) = eF C (aW R C s)[i] := List.getElem_map _
 unfold dZ.f
 rw [av (nL R C s)]
 simp only [at_eq, Option.bind_some, DL ((aW R C s).map (eF C)) i (by omega), hL]
 rw [ep (by simp; omega), ep, ep]
 unfold oM
 generalize eF C (aW R C s)[i] = l at hcl
 have := iZ (σ := Nat) (fun k a j => dZ.l0 k (a : Int) l (l.length : Int) j R C s) l.length (fun j a => a ≤ j) (fun j a => ((a + (l.drop j).countP (fun c => !Cj R C s c) : Nat) : Int)) (fun a ha => ?_) (fun j a hj ha => ?_) 0 0 (Nat.zero_le _) (Nat.le_refl _)
 ·simpa using this
 ·rw [← au]
  simp only [dZ.l0, List.drop_length, List.countP_nil, Nat.add_zero, Int.lt_irrefl, if_false]
  exact aI _
 ·rw [List.drop_eq_getElem_cons hj, List.countP_cons]
  have ew : wrap64 ((a : Int) + 1) = ((a + 1 : Nat) : Int) := bJ (by omega)
  by_cases h : Cj R C s l[j] = true
  ·refine .inr ⟨a, by omega, by simp [h], fun r hr => ?_⟩
   rw [← au]
   simp only [dZ.l0, oC l j hj, bJ (i := j) (by omega), ew]
   rw [ep, ep, ep, av (pG R C s l[j]), ep h]
   exact hr
  ·refine .inr ⟨a + 1, by omega, by simp [h]; omega, fun r hr => ?_⟩
   rw [← au]
   simp only [dZ.l0, oC l j hj, bJ (i := j) (by omega), ew]
   rw [ep, ep, ep, av (pG R C s l[j]), en h]
   exact hr
noncomputable def DX (R C : Int) (s : ByteArray) : Bool := (aW R C s).any (fun x => decide (x.f3 < 3))
noncomputable def uX (R C : Int) (s : ByteArray) : Bool := (aW R C s).any (fun x => decide (2 * oM R C s x > x.f3))
noncomputable def oW (R C : Int) (s : ByteArray) (c : Nat) : Bool := decide (bt s (c : Int) = 46) && decide (((ou R C s c).length : Int) = 0)
noncomputable def sP (R C : Int) (s : ByteArray) : Int :=
 if fU R C s = true then (if Gu R C s = true then (if (tJ R C s == 1) = true then (if DX R C s = true then 4 else if (uX R C s || (List.range s.size).any (oW R C s)) = true then 5 else 0) else 3) else 2) else 1
theorem qJ {R C : Int} {s : ByteArray} (hg : fU R C s = true) (c : Nat) (hc : c < s.size) : Ev (fun k => lI.f k R C s (c : Int)) (bt s (c : Int) == 46) := by
 have := iK hg
 have e : wrap64 ((s.size : Int) - 1) = s.size - 1 := jQ (by omega) (by omega)
 unfold lI.f
 rw [av (jr R C s), ep hg]
 simp only [mE, Option.bind_some, e]
 rw [ep (by simp; omega), ep, ep]
 exact aI _
theorem vD (R C : Int) (s : ByteArray) : Ev (fun k => gG.f k R C s) (DX R C s) := by
 have hlen := (fT R C s).2.2
 unfold gG.f
 rw [av (jI R C s)]
 refine qg (fun k i => gG.l0 k (aW R C s) i) (aW R C s) (fun x => decide (x.f3 < 3)) ?_ (fun i hi hp r hr => ?_) (fun i hi hp => ?_)
 ·rw [← au]; simp [gG.l0, aI]
 ·rw [← au]
  simp only [gG.l0, mM _ i hi, bJ (i := i) (by omega)]
  rw [ep, ep, en (of_decide_eq_false hp)]
  exact hr
 ·rw [← au]
  simp only [gG.l0, mM _ i hi]
  rw [ep, ep, ep (of_decide_eq_true hp)]
  exact aI _
theorem vC {R C : Int} {s : ByteArray} (hg : fU R C s = true) : Ev (fun k => bK.l1 k 0 R C s) ((List.range s.size).any (oW R C s)) := by
 have hsz := iK hg
 have hlr : (List.range s.size).length = s.size := List.length_range
 refine qg (fun k i => bK.l1 k i R C s) (List.range s.size) (oW R C s) ?_ (fun i hi hp r hr => ?_) (fun i hi hp => ?_)
 ·rw [← au]; simp [bK.l1, aI]
 ·have hi' : i < s.size := by omega
  rw [List.getElem_range] at hp
  rw [← au]
  simp only [bK.l1, bJ (i := i) (by omega)]
  rw [ep, av (qJ hg i hi'), aG]
  unfold oW at hp
  by_cases h : bt s (i : Int) = 46
  ·rw [if_pos (by rw [h]; rfl), av (oH R C s i), aG, if_neg]
   ·exact hr
   ·simpa [h] using hp
  ·rw [if_neg (by simpa using h)]
   exact hr
 ·have hi' : i < s.size := by omega
  rw [List.getElem_range] at hp
  rw [← au]
  simp only [bK.l1, bJ (i := i) (by omega)]
  unfold oW at hp
  rw [Bool.and_eq_true, decide_eq_true_eq, decide_eq_true_eq] at hp
  rw [ep, av (qJ hg i hi'), ep (by rw [hp.1]; rfl), av (oH R C s i), ep hp.2]
  exact aI _
theorem wP {α : Type} (l : List α) (p : α → Bool) (i : Nat) (h : i < l.length) : (l.drop i).any p = (p l[i] || (l.drop (i + 1)).any p) := by rw [List.drop_eq_getElem_cons h, List.any_cons]
theorem FQ {α : Type} (l : List α) (p : α → Bool) (i : Nat) (h : i < l.length) : (l.drop i).all p = (p l[i] && (l.drop (i + 1)).all p) := by rw [List.drop_eq_getElem_cons h, List.all_cons]
theorem vB {R C : Int} {s : ByteArray} (hg : fU R C s = true) : Ev (fun k => bK.f k R C s) (uX R C s || (List.range s.size).any (oW R C s)) := by
 have hlen := (fT R C s).2.2
 unfold bK.f
 rw [av (jI R C s)]
 have := nM (fun k i => bK.l0 k (aW R C s) i R C s) (aW R C s).length (fun i => ((aW R C s).drop i).any (fun x => decide (2 * oM R C s x > x.f3)) || (List.range s.size).any (oW R C s)) ?_ (fun i hi => ?_) 0 (Nat.zero_le _)
 ·simpa [uX] using this
 ·rw [← au]
  simp only [bK.l0, Int.lt_irrefl, if_false, List.drop_length, List.any_nil, Bool.false_or]
  exact vC hg
 ·have hu := Dg R C s _ (List.getElem_mem hi)
  have e2 : wrap64 (2 * oM R C s (aW R C s)[i]) = 2 * oM R C s (aW R C s)[i] := jQ (by omega) (by omega)
  rw [wP _ _ _ hi]
  by_cases h : 2 * oM R C s (aW R C s)[i] > (aW R C s)[i].f3
  ·refine .inl ?_
   rw [← au]
   simp only [bK.l0, mM _ i hi]
   rw [ep, av (oL R C s i hi), ep, ep (by rw [e2]; exact h)]
   exact iw (aI _) (by simp [h])
  ·refine .inr ⟨by simp [h], fun r hr => ?_⟩
   rw [← au]
   simp only [bK.l0, mM _ i hi, bJ (i := i) (by omega)]
   rw [ep, av (oL R C s i hi), ep, en (by rw [e2]; exact h)]
   exact hr
theorem zU (R C : Int) (s : ByteArray) (hs : s.size < 140737488355328) : Ev (fun k => mh.f k R C s) (sP R C s) := by
 unfold mh.f sP
 rw [av (jr R C s), aG]
 split
 ·rename_i hg
  rw [av (sI R C s), aG]
  split
  ·have hcon : Ev (fun k => jC.f k R C s) (tJ R C s == 1) := by
    unfold jC.f
    rw [av (vZ R C s hs)]
    exact aI _
   rw [av hcon, aG]
   split
   ·rw [av (vD R C s), aG]
    split
    ·exact aI _
    ·rw [av (vB hg), aG]
     split <;> exact aI _
   ·exact aI _
  ·exact aI _
 ·exact aI _
theorem Ak {R C : Int} {s : ByteArray} (hg : fU R C s = true) : Ev (fun k => nT.f k R C s s) ((List.range s.size).any (oW R C s)) := by
 have hsz := iK hg
 obtain ⟨good, _, hlen⟩ := fT R C s
 have hlr : (List.range s.size).length = s.size := List.length_range
 have hcl : ∀ l ∈ (aW R C s).map (eF C), l.length ≤ 6 := by
  intro l hl
  obtain ⟨x, hx, rfl⟩ := List.mem_map.1 hl
  rw [jd]
  have := (good x hx).2.2.2.1
  omega
 have hfl : ((aW R C s).map (eF C)).flatten.length ≤ 6 * 72 := by
  have h1 := wR (fun l : List Int => l) 6 ((aW R C s).map (eF C)) hcl
  rw [List.length_map] at h1
  rw [List.flatMap_id'] at h1
  have : 6 * (aW R C s).length ≤ 6 * 72 := Nat.mul_le_mul_left 6 hlen
  omega
 have hcells : ∀ c ∈ ((aW R C s).map (eF C)).flatten, 0 ≤ c ∧ c < 1000000 := by
  intro c hc
  obtain ⟨l, hl, hcl⟩ := List.mem_flatten.1 hc
  obtain ⟨x, hx, rfl⟩ := List.mem_map.1 hl
  have := uQ (good x hx) c hcl
  omega
 unfold nT.f
 rw [av (nL R C s)]
 unfold HandAlone.Bu
 rw [aG, if_pos ⟨by omega, by omega, by rw [List.length_map]; omega, hcells⟩]
 have hnil := fun c : Nat => Cc R C s (c : Int)
 generalize ((aW R C s).map (eF C)).flatten = S at hnil
 refine qg (fun k i => HandAlone.oQ fE.f S s s k i) (List.range s.size) (oW R C s) ?_ (fun i hi hp r hr => ?_) (fun i hi hp => ?_)
 ·rw [← au]; simp [HandAlone.oQ, aI]
 ·rw [List.getElem_range] at hp
  rw [← au]
  simp only [HandAlone.oQ]
  unfold oW at hp
  rw [ep, aG]
  by_cases h : bt s (i : Int) = 46
  ·rw [if_pos h, aG, if_pos]
   ·exact hr
   ·rw [h, decide_eq_true rfl, Bool.true_and, decide_eq_false_iff_not, hnil] at hp
    exact Classical.byContradiction hp
  ·rw [if_neg h]
   exact hr
 ·rw [List.getElem_range] at hp
  unfold oW at hp
  rw [Bool.and_eq_true, decide_eq_true_eq, decide_eq_true_eq, hnil] at hp
  rw [← au]
  simp only [HandAlone.oQ]
  rw [ep, ep hp.1, en hp.2, ep]
  simp only [nA, hp.1, Option.bind_some]
  exact iw (aI _) rfl
theorem wX {R C : Int} {s : ByteArray} (hg : fU R C s = true) : Ev (fun k => dV.l1 k (aW R C s) ((aW R C s).length : Int) 0 R C s) (if (uX R C s || (List.range s.size).any (oW R C s)) = true then 5 else 0) := by
 have hlen := (fT R C s).2.2
 have := nM (fun k i => dV.l1 k (aW R C s) ((aW R C s).length : Int) i R C s) (aW R C s).length (fun i => if (((aW R C s).drop i).any (fun x => decide (2 * oM R C s x > x.f3)) || (List.range s.size).any (oW R C s)) = true then (5 : Int) else 0) ?_ (fun i hi => ?_) 0 (Nat.zero_le _)
 ·exact this
 ·rw [← au]
  simp only [dV.l1, Int.lt_irrefl, if_false, List.drop_length, List.any_nil, Bool.false_or]
  rw [av (Ak hg), aG]
  split <;> exact aI _
 ·have hu := Dg R C s _ (List.getElem_mem hi)
  have e2 : wrap64 (2 * oM R C s (aW R C s)[i]) = 2 * oM R C s (aW R C s)[i] := jQ (by omega) (by omega)
  rw [wP _ _ _ hi]
  by_cases h : 2 * oM R C s (aW R C s)[i] > (aW R C s)[i].f3
  ·refine .inl ?_
   rw [← au]
   simp only [dV.l1, mM _ i hi]
   rw [ep, ep, ep, av (oJ R C s i hi), ep (by rw [e2]; exact h)]
   exact iw (aI _) (by simp [h])
  ·refine .inr ⟨by simp [h], fun r hr => ?_⟩
   rw [← au]
   simp only [dV.l1, mM _ i hi, bJ (i := i) (by omega)]
   rw [ep, ep, ep, av (oJ R C s i hi), en (by rw [e2]; exact h)]
   exact hr
theorem wW {R C : Int} {s : ByteArray} (hg : fU R C s = true) : Ev (fun k => dV.l0 k (aW R C s) (aW R C s) ((aW R C s).length : Int) 0 R C s) (if DX R C s = true then 4 else if (uX R C s || (List.range s.size).any (oW R C s)) = true then 5 else 0) := by
 have hlen := (fT R C s).2.2
 have := nM (fun k i => dV.l0 k (aW R C s) (aW R C s) ((aW R C s).length : Int) i R C s) (aW R C s).length (fun i => if ((aW R C s).drop i).any (fun x => decide (x.f3 < 3)) = true then (4 : Int) else if (uX R C s || (List.range s.size).any (oW R C s)) = true then 5 else 0) ?_ (fun i hi => ?_) 0 (Nat.zero_le _)
 ·exact this
 ·rw [← au]
  simp only [dV.l0, Int.lt_irrefl, if_false, List.drop_length, List.any_nil, Bool.false_eq_true]
  exact wX hg
 ·rw [wP _ _ _ hi]
  by_cases h : (aW R C s)[i].f3 < 3
  ·refine .inl ?_
   rw [← au]
   simp only [dV.l0, mM _ i hi]
   rw [ep, ep, ep, ep h]
   exact iw (aI _) (by simp [h])
  ·refine .inr ⟨by simp [h], fun r hr => ?_⟩
   rw [← au]
   simp only [dV.l0, mM _ i hi, bJ (i := i) (by omega)]
   rw [ep, ep, ep, en h]
   exact hr
theorem wV (R C : Int) (s : ByteArray) : Ev (fun k => dV.f k R C s) (sP R C s) := by
 unfold dV.f sP
 rw [av (kU R C s), aG]
 split
 ·rename_i hg
  rw [av (sw R C s), aG]
  split
  ·have hcon : Ev (fun k => jy.f k R C s) (tJ R C s == 1) := by
    unfold jy.f
    rw [av (vR R C s)]
    exact aI _
   rw [av hcon, aG]
   split
   ·rw [av (oz R C s)]
    exact wW hg
   ·exact aI _
  ·exact aI _
 ·exact aI _
noncomputable def pJ (R C : Int) (s : ByteArray) (l : List S70) (q : List Int) (e : Int) : Bool :=
 decide (sP R C s = 0) && (decide ((l.length : Int) = ((aW R C s).length : Int)) && (decide ((q.length : Int) = ((aW R C s).length : Int)) && (decide (1 ≤ e ∧ e ≤ 9999) && l.all (fun x => mD x.f0 x.f1))))
theorem sV {R C : Int} {s : ByteArray} {l : List S70} {q : List Int} {e : Int} (h : pJ R C s l q e = true) : sP R C s = 0 ∧ l.length = (aW R C s).length ∧ q.length = (aW R C s).length ∧ (1 ≤ e ∧ e ≤ 9999) ∧ ∀ x ∈ l, mD x.f0 x.f1 = true := by
 unfold pJ at h
 simp only [Bool.and_eq_true, decide_eq_true_eq, List.all_eq_true] at h
 exact ⟨h.1, by have := h.2.1; omega, by have := h.2.2.1; omega, h.2.2.2.1, h.2.2.2.2⟩
theorem vv (R C : Int) (s : ByteArray) (l : List S70) (q : List Int) (e : Int) (hs : s.size < 140737488355328) (hl : l.length < 4611686018427387904) (hx : ∀ x ∈ l, x.f1.length < 4611686018427387904) : Ev (fun k => fK.f k R C s l q e) (pJ R C s l q e) := by
 unfold fK.f
 have key : ∀ b : Bool, b = l.all (fun x => mD x.f0 x.f1) → Ev (fun k => fK.f k R C s l q e) (if b = true then (decide (sP R C s = 0) && (decide ((l.length : Int) = ((aW R C s).length : Int)) && (decide ((q.length : Int) = ((aW R C s).length : Int)) && decide (1 ≤ e ∧ e ≤ 9999)))) else false) := by
  intro b hb
  subst hb
  unfold fK.f
  have := nM (fun k i => fK.l0 k i R C s l q e) l.length (fun i => if (l.drop i).all (fun x => mD x.f0 x.f1) = true then (decide (sP R C s = 0) && (decide ((l.length : Int) = ((aW R C s).length : Int)) && (decide ((q.length : Int) = ((aW R C s).length : Int)) && decide (1 ≤ e ∧ e ≤ 9999)))) else false) ?_ (fun i hi => ?_) 0 (Nat.zero_le _)
  ·exact this
  ·rw [← au]
   simp only [fK.l0, Int.lt_irrefl, if_false, List.drop_length, List.all_nil, if_true, mE, Option.bind_some]
   rw [av (jI R C s), av (zU R C s hs), aG]
   by_cases h1 : sP R C s = 0
   ·rw [if_pos h1, aG]
    by_cases h2 : (l.length : Int) = ((aW R C s).length : Int)
    ·rw [if_pos h2, aG]
     by_cases h3 : (q.length : Int) = ((aW R C s).length : Int)
     ·rw [if_pos h3]
      exact iw (aI _) (by rw [decide_eq_true h1, decide_eq_true h2, decide_eq_true h3]; rfl)
     ·rw [if_neg h3]
      exact iw (aI _) (by rw [decide_eq_false h3, Bool.false_and, Bool.and_false, Bool.and_false])
    ·rw [if_neg h2]
     exact iw (aI _) (by rw [decide_eq_false h2, Bool.false_and, Bool.and_false])
   ·rw [if_neg h1]
    exact iw (aI _) (by rw [decide_eq_false h1, Bool.false_and])
  ·have hc := zW l[i].f0 l[i].f1 (hx _ (List.getElem_mem hi))
   rw [FQ _ _ _ hi]
   by_cases h : mD l[i].f0 l[i].f1 = true
   ·refine .inr ⟨by simp only [h, Bool.true_and], fun r hr => ?_⟩
    rw [← au]
    simp only [fK.l0, qz _ i hi, bJ (i := i) (by omega)]
    rw [ep, ep, av hc, ep h]
    exact hr
   ·refine .inl ?_
    rw [← au]
    simp only [fK.l0, qz _ i hi]
    rw [ep, ep, av hc, en h]
    exact iw (aI _) (by simp only [h, Bool.false_and, Bool.false_eq_true, if_false])
 refine iw (key _ rfl) ?_
 unfold pJ
 cases l.all (fun x => mD x.f0 x.f1) <;> simp
theorem CP (l : List S70) (x : ByteArray) (hl : l.length < 4611686018427387904) (hx : ∀ x ∈ l, x.f1.length < 4611686018427387904) : Ev (fun k => lG.f k l x) (l.any (fun x => !mD x.f0 x.f1)) := by
 have hi : Ev (fun k => gM.f k l x) (match l.findIdx? (fun x => !mD x.f0 x.f1) with | some i => (i : Int) | none => -1) := by
  have h1 : ∀ i (hi : i < l.length), Ev (fun k => jG.f k l[i].f0 l[i].f1) (!mD l[i].f0 l[i].f1) := by
   intro i hi
   unfold jG.f
   rw [av (wZ _ _ (hx _ (List.getElem_mem hi)))]
   exact aI _
  refine rT (fun k i => gM.l0 k l (l.length : Int) i) l _ ?_ (fun i hi hp r hr => ?_) (fun i hi hp => ?_)
  ·rw [← au]; simp [gM.l0, aI]
  ·rw [← au]
   simp only [gM.l0, qz _ i hi, bJ (i := i) (by omega)]
   rw [ep, ep, ep, av (h1 i hi), en (by rw [hp]; exact Bool.false_ne_true)]
   exact hr
  ·rw [← au]
   simp only [gM.l0, qz _ i hi]
   rw [ep, ep, ep, av (h1 i hi), ep hp]
   exact aI _
 unfold lG.f
 rw [av hi, Ct]
 exact aI _
theorem uT (R C : Int) (s : ByteArray) (l : List S70) (q : List Int) (e : Int) (hl : l.length < 4611686018427387904) (hx : ∀ x ∈ l, x.f1.length < 4611686018427387904) : Ev (fun k => kJ.f k R C s l q e) (pJ R C s l q e) := by
 unfold kJ.f pJ
 rw [av (wV R C s), aG]
 by_cases h1 : sP R C s = 0
 ·rw [if_pos h1, av (oz R C s), aG, decide_eq_true h1, Bool.true_and]
  by_cases h2 : (l.length : Int) = ((aW R C s).length : Int)
  ·rw [if_pos h2, aG, decide_eq_true h2, Bool.true_and]
   by_cases h3 : (q.length : Int) = ((aW R C s).length : Int)
   ·rw [if_pos h3, decide_eq_true h3, Bool.true_and]
    simp only [lS, Option.bind_some]
    rw [aG]
    by_cases h4 : 1 ≤ e ∧ e ≤ 9999
    ·rw [if_pos (by simpa using h4), av (CP l _ hl hx), decide_eq_true h4, Bool.true_and]
     exact iw (aI _) (by rw [List.not_any_eq_all_not]; simp)
    ·rw [if_neg (by simpa using h4), decide_eq_false h4, Bool.false_and]
     exact aI _
   ·rw [if_neg h3, decide_eq_false h3, Bool.false_and]
    exact aI _
  ·rw [if_neg h2, decide_eq_false h2, Bool.false_and]
   exact aI _
 ·rw [if_neg h1, decide_eq_false h1, Bool.false_and]
  exact aI _
theorem zI {β : Type} (L : Nat → Int → Int → Option Int) (xs : List β) (wd : β → Nat) (B : Int)
  (hend : ∀ b, Ev (fun k => L k b (xs.length : Int)) b)
  (hstep : ∀ i (h : i < xs.length) (b : Int), 0 ≤ b → b ≤ B → Ev (fun k => L k b (i : Int)) (-1) ∨ ∃ b', 0 ≤ b' ∧ b' + wd xs[i] ≤ b ∧ ∀ r, Ev (fun k => L k b' ((i + 1 : Nat) : Int)) r → Ev (fun k => L k b (i : Int)) r) :
  ∀ a, 0 ≤ a → a ≤ B → ∃ r, Ev (fun k => L k a 0) r ∧ r ≤ B ∧ (0 ≤ r → r + jf wd xs ≤ a) := by
 have key : ∀ (d i : Nat) (b : Int), i + d = xs.length → 0 ≤ b → b ≤ B → ∃ r, Ev (fun k => L k b (i : Int)) r ∧ r ≤ B ∧ (0 ≤ r → r + jf wd (xs.drop i) ≤ b) := by
  intro d
  induction d with
  | zero =>
   intro i b hi _ hb
   have : i = xs.length := by omega
   subst this
   exact ⟨b, hend b, hb, fun _ => by rw [List.drop_length]; simp [jf]⟩
  | succ d ih =>
   intro i b hi hb hb'
   rcases hstep i (by omega) b hb hb' with h | ⟨b', h1, h2, h3⟩
   ·exact ⟨-1, h, by omega, fun h => by omega⟩
   ·obtain ⟨r, hr, hrb, hrs⟩ := ih (i + 1) b' (by omega) h1 (by omega)
    refine ⟨r, h3 r hr, hrb, fun h0 => ?_⟩
    rw [List.drop_eq_getElem_cons (show i < xs.length by omega)]
    have := hrs h0
    simp only [jf]
    omega
 intro a h0 h1
 simpa using key xs.length 0 a (by omega) h0 h1
theorem Da (l : List nQ) (hl : l.length < 4611686018427387904) (hs : ∀ x ∈ l, x.f1.size ≤ 140737488351232) (a : Int) (ha : 0 ≤ a) (ha' : a ≤ 1048576) : ∃ r, Ev (fun k => gT.f k l a) r ∧ r ≤ 1048576 ∧ (0 ≤ r → r + l.length ≤ a) := by
 unfold gT.f
 have w1 : wrap64 (a - (l.length : Int)) = a - l.length := jQ (by omega) (by omega)
 simp only [aG, eY, w1]
 by_cases h : a - (l.length : Int) < 0
 ·exact ⟨-1, by simp [h]⟩
 ·simp only [h, if_false]
  obtain ⟨r, hr, hrb, hrs⟩ := zI (fun k b i => gT.l0 k l b i) l (fun _ => 0) 1048576 (fun b => by
    rw [← au]
    simp only [gT.l0]
    rw [en]
    exact aI _) (fun i hi b hb hb' => by
    have hsz := hs _ (List.getElem_mem hi)
    have w3 : wrap64 (b - (l[i].f1.size : Int)) = b - l[i].f1.size := jQ (by omega) (by omega)
    by_cases h2 : b - (l[i].f1.size : Int) < 0
    ·refine .inl ?_
     rw [← au]
     simp only [gT.l0, lY.f, BR l i hi, bJ (i := i) (by omega), w3, if_pos h2, Option.bind_some]
     simp [aG, eY, hi]
    ·refine .inr ⟨b - l[i].f1.size, by omega, by show _ + ((0 : Nat) : Int) ≤ _; omega, fun r hr => ?_⟩
     rw [← au]
     simp only [gT.l0, lY.f, BR l i hi, bJ (i := i) (by omega), w3, if_neg h2, Option.bind_some]
     rw [ep, ep]
     exact hr) (a - l.length) (by omega) (by omega)
  exact ⟨r, hr, hrb, fun h0 => by have := hrs h0; omega⟩
theorem Eb (a0 : Int) (l : List nQ) (hl : l.length < 4611686018427387904) (hs : ∀ x ∈ l, x.f1.size ≤ 140737488351232) (a : Int) (ha : 0 ≤ a) (ha' : a ≤ 1048576) : ∃ r, Ev (fun k => lV.f k a0 l a) r ∧ r ≤ 1048576 ∧ (0 ≤ r → r + l.length ≤ a) := by
 obtain ⟨r, hr, hb, hc⟩ := Da l hl hs a ha ha'
 unfold lV.f
 by_cases h : r < 0
 ·exact ⟨-1, by rw [av hr, ep h]; exact aI _, by omega, fun h => by omega⟩
 ·exact ⟨r, by rw [av hr, en h]; exact aI _, hb, hc⟩
theorem CZ (l : List S84) (hl : l.length < 4611686018427387904) (hs : ∀ x ∈ l, x.f1.length < 4611686018427387904 ∧ ∀ y ∈ x.f1, y.f1.size ≤ 140737488351232) (a : Int) (ha : 0 ≤ a) (ha' : a ≤ 1048576) : ∃ r, Ev (fun k => gQ.f k l a) r ∧ r ≤ 1048576 ∧ (0 ≤ r → r + l.length + jf (fun x => x.f1.length) l ≤ a) := by
 unfold gQ.f
 have w1 : wrap64 (a - (l.length : Int)) = a - l.length := jQ (by omega) (by omega)
 simp only [aG, eY, w1]
 by_cases h : a - (l.length : Int) < 0
 ·exact ⟨-1, by simp [h]⟩
 ·simp only [h, if_false]
  obtain ⟨r, hr, hrb, hrs⟩ := zI (fun k b i => gQ.l0 k l b i) l (fun x => x.f1.length) 1048576 (fun b => by
    rw [← au]
    simp only [gQ.l0]
    rw [en]
    exact aI _) (fun i hi b hb hb' => by
    have hsz := hs _ (List.getElem_mem hi)
    obtain ⟨r, hr, hrb, hrs⟩ := Eb l[i].f0 l[i].f1 hsz.1 hsz.2 b hb hb'
    by_cases h2 : r < 0
    ·refine .inl ?_
     rw [← au]
     simp only [gQ.l0, DT l i hi]
     rw [ep, ep, av hr, ep h2]
     exact aI _
    ·refine .inr ⟨r, by omega, hrs (by omega), fun q hq => ?_⟩
     rw [← au]
     simp only [gQ.l0, DT l i hi, bJ (i := i) (by omega)]
     rw [ep, ep, av hr, en h2]
     exact hq) (a - l.length) (by omega) (by omega)
  exact ⟨r, hr, hrb, fun h0 => by have := hrs h0; omega⟩
theorem Ce (R C : Int) (s : ByteArray) (l : List S84) (q : List Int) (e : Int) (hs : s.size ≤ 140737488351232) (hl : l.length < 4611686018427387904) (hx : ∀ x ∈ l, x.f1.length < 4611686018427387904 ∧ ∀ y ∈ x.f1, y.f1.size ≤ 140737488351232) (hq : q.length < 4611686018427387904) (a : Int) (h0 : 0 ≤ a) (h1 : a ≤ 1048576) : ∃ r, Ev (fun k => kM.f k R C s l q e a) r ∧ r ≤ 1048576 ∧ (0 ≤ r → r + l.length + jf (fun x => x.f1.length) l ≤ 1048576) := by
 unfold kM.f
 obtain ⟨g, hg, hgb⟩ := Fj R C s a hs h0 h1
 simp only [hg, Option.bind_some]
 by_cases n1 : g < 0
 ·exact ⟨-1, by rw [ep n1]; exact aI _, by omega, fun h => by omega⟩
 obtain ⟨c, hc, hcb, hcs⟩ := CZ l hl hx g (by omega) hgb
 by_cases n2 : c < 0
 ·exact ⟨-1, by rw [en n1, av hc, ep n2]; exact aI _, by omega, fun h => by omega⟩
 have hi0 : ∃ i, lX.f q c = some i ∧ i ≤ c := by
  unfold lX.f
  rw [jQ (by omega) (by omega)]
  split
  ·exact ⟨_, rfl, by omega⟩
  ·exact ⟨_, rfl, by omega⟩
 obtain ⟨i, hi, hib⟩ := hi0
 by_cases n3 : i < 0
 ·exact ⟨-1, by rw [en n1, av hc, en n2]; simp only [hi, Option.bind_some, if_pos n3]; exact aI _, by omega, fun h => by omega⟩
 ·exact ⟨i, by rw [en n1, av hc, en n2]; simp only [hi, Option.bind_some, if_neg n3]; exact aI _, by omega, fun h => by have := hcs (by omega); omega⟩
abbrev cwd (x : S70) : Nat := 1 + 4 * x.f1.length
theorem FN : ∀ l : List S84, jf cwd (l.map ku) = l.length + 4 * jf (fun x => x.f1.length) l
 | [] => rfl
 | x :: l => by
  have : cwd (ku x) = 1 + 4 * x.f1.length := by simp [cwd, ku]
  simp only [List.map_cons, jf, FN l, List.length_cons]
  omega
theorem Er : ∀ l : List S70, l.length ≤ jf cwd l
 | [] => Nat.le_refl _
 | x :: l => by
  have := Er l
  have : 1 ≤ cwd x := by simp only [cwd]; omega
  simp only [jf, List.length_cons]
  omega
theorem BI (l : List S70) (c : Int) (h0 : 0 ≤ c) (hc : c + jf cwd l < 4611686018427387904) : Ev (fun k => gu.f k l c) (c + jf cwd l) := by
 have hll := Er l
 have := iZ (σ := List S70 × Int) (fun k s i => gu.l0 k s.1 s.2 i) l.length (fun i s => s.1.length = l.length ∧ s.1.drop i = l.drop i ∧ s.2 = c + jf cwd (l.take i))
  (fun _ _ => c + (jf cwd l : Int)) (fun s ⟨h1, h2, h4⟩ => ?_) (fun i s hi ⟨h1, h2, h4⟩ => ?_) 0 (l, c) (Nat.zero_le _) (by simp [jf])
 ·exact this
 ·rw [← au]
  simp only [gu.l0]
  rw [en, h4, List.take_of_length_le (Nat.le_refl _)]
  exact aI _
 ·have hil : i < s.1.length := by omega
  have hsi : s.1[i] = l[i] := by
   rw [List.drop_eq_getElem_cons hil, List.drop_eq_getElem_cons hi] at h2
   exact (List.cons.inj h2).1
  have hw := pz cwd l i hi
  have hle := qC cwd l (i + 1)
  have hwd : cwd l[i] = 1 + 4 * l[i].f1.length := rfl
  have e1 : wrap64 (s.2 + 1) = s.2 + 1 := jQ (by omega) (by omega)
  have hm := BJ l[i].f1 (s.2 + 1) (by omega) (by omega)
  obtain ⟨m, hmm⟩ : ∃ m, m = kG (fun (_ : bW) b => (⟨b, MT (b + 1), b + 2, b + 3⟩ : bW)) (fun _ => 4) l[i].f1 (s.2 + 1) := ⟨_, rfl⟩
  rw [← hmm] at hm
  refine .inr ⟨((s.1.set i ⟨s.2, l[i].f1⟩).set i ⟨s.2, m⟩, s.2 + 1 + 4 * l[i].f1.length), ⟨by rw [List.length_set, List.length_set]; exact h1, ?_, by show s.2 + 1 + 4 * (l[i].f1.length : Int) = _; rw [hw, h4]; omega⟩, rfl, fun r hr => ?_⟩
  ·show (((s.1.set i _).set i _).drop (i + 1)) = l.drop (i + 1)
   rw [List.drop_set_of_lt (by omega), List.drop_set_of_lt (by omega)]
   rw [List.drop_eq_getElem_cons hil, List.drop_eq_getElem_cons hi] at h2
   exact (List.cons.inj h2).2
  ·rw [← au]
   simp only [gu.l0, qz s.1 i hil, hsi, e1, bJ (i := i) (by omega), Option.bind_some, Int.toNat_natCast]
   rw [ep, ep]
   simp only [HV s.1 i _ hil]
   rw [av hm]
   exact hr
theorem Av (R C : Int) (s : ByteArray) (l : List S70) (q : List Int) (e : Int) (c : Int) (h0 : 0 ≤ c) (hc : c + jf cwd l + q.length < 4611686018427387904) : Ev (fun k => jH.f k R C s l q e c) (c + jf cwd l + q.length, kG (fun _ b => b) (fun _ => 1) q (c + jf cwd l)) := by
 unfold jH.f
 rw [av (BI l c h0 (by omega)), av (CJ q (c + jf cwd l) (by omega) (by omega))]
 exact aI _
abbrev rwd (x : List ByteArray) : Nat := x.length
noncomputable abbrev rmk (x : List ByteArray) (b : Int) : List ByteArray := kG (fun _ b => MT b) (fun _ => 1) x b
theorem vU (l : List (List ByteArray)) (c : Int) (h0 : 0 ≤ c) (hl : l.length < 4611686018427387904) (hc : c + jf rwd l < 4611686018427387904) : Ev (fun k => fq.f k l c) (c + jf rwd l, kG rmk rwd l c) := by
 refine qj (fun k s b i => fq.l0 k s b i) l rwd rmk c (fun s b hs => ?_) (fun i hi s b hs hsi hb hb' r hr => ?_)
 ·rw [← au]
  simp only [fq.l0]
  rw [en]
  exact aI _
 ·have hw : rwd l[i] = l[i].length := rfl
  have hg : s.getD i [] = l[i] := by rw [List.getD_eq_getElem?_getD, List.getElem?_eq_getElem (by omega), Option.getD_some, hsi]
  have hm := rC l[i] b (by omega) (by omega)
  rw [← au]
  simp only [fq.l0, bJ (i := i) (by omega), Int.toNat_natCast, hg]
  rw [ep, ep, av hm]
  exact hr
theorem vP (l : List (List ByteArray)) (c : Int) (h0 : 0 ≤ c) (hl : l.length < 4611686018427387904) (hc : c + jf rwd l < 4611686018427387904) : Ev (fun k => dW.f k (kG rmk rwd l c) c) (c + jf rwd l) := by
 have hml : (kG rmk rwd l c).length = l.length := kH _ _ _ _
 refine Bb (fun k b i => dW.l0 k (kG rmk rwd l c) b i) l rwd c (fun b => ?_) (fun i hi b hb hb' r hr => ?_)
 ·rw [← au]
  simp only [dW.l0]
  rw [en]
  exact aI _
 ·have hw : rwd l[i] = l[i].length := rfl
  have hg : BQ (kG rmk rwd l c) i (by omega) = BQ (kG rmk rwd l c) i (by omega) := rfl
  have hg2 := BQ (kG rmk rwd l c) i (by omega)
  rw [rU rmk rwd l c i hi, ← hb] at hg2
  have hm := wU l[i] b (by omega) (by omega)
  rw [← au]
  simp only [dW.l0, bJ (i := i) (by omega), hg2]
  rw [ep, ep, av hm, en]
  exact hr
theorem Ag (l : List (List ByteArray)) (hl : l.length < 4611686018427387904) (hs : ∀ x ∈ l, x.length < 4611686018427387904) : Ev (fun k => dw.f k l l) true := by
 unfold dw.f
 rw [ep rfl]
 refine iw (jL (fun k i => dw.l0 k l l i) l (fun _ => true) ?_ (fun i hi hp r hr => ?_) (fun i hi hp => by cases hp)) (by simp)
 ·rw [← au]; simp [dw.l0, aI]
 ·rw [← au]
  simp only [dw.l0, BQ l i hi, bJ (i := i) (by omega)]
  rw [ep, ep, ep, av (uf _ (hs _ (List.getElem_mem hi))), ep rfl]
  exact hr
noncomputable def Cm (R C : Int) (s f : ByteArray) (l : List S70) (d : List S73) (w : List ByteArray) (i : Nat) : List ByteArray :=
 match (aW R C s)[i]?, l[i]? with
 | some x, some c => oo 3 c.f0 c.f1 d w (qo f (eF C x))
 | _, _ => []
noncomputable def vO (R C : Int) (s f : ByteArray) (l : List S70) (d : List S73) (w : List ByteArray) (i : Nat) : List (List ByteArray) := (List.range' i ((aW R C s).length - i)).map (Cm R C s f l d w)
noncomputable def qW (R C : Int) (s : ByteArray) (l : List S70) (q : List Int) (e : Int) (f : ByteArray) (d : List S73) (w : List ByteArray) : List (List ByteArray) :=
 if pJ R C s l q e = true ∧ kR R C s f = true then vO R C s f l d w 0 else []
theorem Cn (R C : Int) (s f : ByteArray) (l : List S70) (d : List S73) (w : List ByteArray) : vO R C s f l d w (aW R C s).length = [] := by simp [vO]
theorem AY (R C : Int) (s f : ByteArray) (l : List S70) (d : List S73) (w : List ByteArray) (i : Nat) (hi : i < (aW R C s).length) : vO R C s f l d w i = [Cm R C s f l d w i] ++ vO R C s f l d w (i + 1) := by
 unfold vO
 rw [show (aW R C s).length - i = ((aW R C s).length - (i + 1)) + 1 by omega, List.range'_succ, List.map_cons, List.cons_append, List.nil_append]
theorem GU (R C : Int) (s f : ByteArray) (l : List S70) (d : List S73) (w : List ByteArray) (i : Nat) : (Cm R C s f l d w i).length ≤ w.length := by
 unfold Cm
 split
 ·exact Cw _ _ _ _ _ _
 ·exact Nat.zero_le _
theorem Ck (R C : Int) (s : ByteArray) (l : List S70) (q : List Int) (e : Int) (f : ByteArray) (d : List S73) (w : List ByteArray) : (qW R C s l q e f d w).length ≤ (aW R C s).length := by
 unfold qW vO
 split
 ·rw [List.length_map, List.length_range']; omega
 ·exact Nat.zero_le _
theorem FP (R C : Int) (s : ByteArray) (l : List S70) (q : List Int) (e : Int) (f : ByteArray) (d : List S73) (w : List ByteArray) : ∀ x ∈ qW R C s l q e f d w, x.length ≤ w.length := by
 intro x hx
 unfold qW vO at hx
 split at hx
 ·obtain ⟨i, _, rfl⟩ := List.mem_map.1 hx
  exact GU R C s f l d w i
 ·cases hx
theorem vN (m : Nat) : ∀ (l : List (List ByteArray)), (∀ x ∈ l, x.length ≤ m) → jf rwd l ≤ l.length * m
 | [], _ => by simp [jf]
 | x :: l, h => by
  have h1 := vN m l (fun y hy => h y (List.mem_cons_of_mem _ hy))
  have h2 : rwd x ≤ m := h x List.mem_cons_self
  simp only [jf, List.length_cons, Nat.add_mul, Nat.one_mul]
  omega
theorem Es {R C : Int} {s : ByteArray} (f : ByteArray) {l : List S70} (d : List S73) (w : List ByteArray) (i : Nat) (hi : i < (aW R C s).length) (hl : i < l.length) : Cm R C s f l d w i = oo 3 l[i].f0 l[i].f1 d w (qo f (eF C (aW R C s)[i])) := by
 unfold Cm
 rw [List.getElem?_eq_getElem hi, List.getElem?_eq_getElem hl]
theorem sG (R C : Int) (s : ByteArray) (l : List S70) (q : List Int) (e : Int) (f : ByteArray) (d : List S73) (w : List ByteArray) (hs : s.size < 140737488355328) (hl : l.length < 4611686018427387904) (hx : ∀ x ∈ l, x.f1.length < 4611686018427387904) (hd : d.length < 4611686018427387904) (hw : w.length ≤ 8796093022208) :
  Ev (fun k => bg.f k R C s l q e f d w) (qW R C s l q e f d w) := by
 have hend : ∀ (out : List (List ByteArray)) (i : Int), Ev (fun k => bg.j1 k f d w out i false R C s l q e) out := by
  intro out i
  rw [← au]
  simp only [bg.j1, Bool.false_eq_true, if_false]
  exact aI _
 have hp := vv R C s l q e hs hl hx
 have hfl := rE R C s f
 unfold bg.f
 by_cases hok : pJ R C s l q e = true ∧ kR R C s f = true
 ·have hlen : l.length = (aW R C s).length := (sV hok.1).2.1
  have hn := (fT R C s).2.2
  have hrb : qW R C s l q e f d w = [] ++ vO R C s f l d w 0 := by unfold qW; rw [if_pos hok]; rfl
  rw [hrb]
  refine iZ (σ := List (List ByteArray)) (fun k out i => bg.l0 k f d w out i R C s l q e) (aW R C s).length (fun i out => out.length = i) (fun i out => out ++ vO R C s f l d w i) (fun out _ => ?_) (fun i out hi hout => .inr ⟨out ++ [Cm R C s f l d w i], by rw [List.length_append, hout]; rfl, by rw [AY R C s f l d w i hi, List.append_assoc], fun r hr => ?_⟩) 0 [] (Nat.zero_le _) rfl
  ·rw [Cn, List.append_nil, ← au]
   simp only [bg.l0]
   rw [en]
   exact hend out _
  ·have hil : i < l.length := by omega
   have hgs := tO l[i].f0 l[i].f1 d w (qo f (eF C (aW R C s)[i])) 3 (hx _ (List.getElem_mem hil)) hd hw
   rw [Es f d w i hi hil] at hr
   rw [← au]
   simp only [bg.l0]
   rw [ep, av hp, ep hok.1, av hfl, hok.2, ← au]
   simp only [bg.j1, if_true, qz _ i hil, bJ (i := i) (by omega)]
   rw [ep, ep, av (sJ hok.2 i hi), av hgs, ep]
   exact hr
 ·have hrb : qW R C s l q e f d w = [] := by unfold qW; rw [if_neg hok]
  rw [hrb, ← au]
  simp only [bg.l0]
  rw [aG]
  split
  ·rw [av hp, aG]
   split
   ·rename_i h1
    have : kR R C s f = false := by simpa using fun h2 => hok ⟨h1, h2⟩
    rw [av hfl, this]
    exact hend _ _
   ·exact hend _ _
  ·exact hend _ _
theorem sj (R C : Int) (s : ByteArray) (l : List S70) (q : List Int) (e : Int) (f : ByteArray) (d : List S73) (w : List ByteArray) (hl : l.length < 4611686018427387904) (hx : ∀ x ∈ l, x.f1.length < 4611686018427387904) (hd : d.length < 4611686018427387904) (hw : w.length ≤ 8796093022208) :
  Ev (fun k => cB.f k R C s l q e f d w) (qW R C s l q e f d w) := by
 unfold cB.f
 rw [av (uT R C s l q e hl hx), aG]
 split
 ·rename_i hpz
  have hlen : l.length = (aW R C s).length := (sV hpz).2.1
  have hn := (fT R C s).2.2
  rw [av (uV R C s f)]
  by_cases hf : kR R C s f = true
  ·have hrb : qW R C s l q e f d w = [] ++ vO R C s f l d w 0 := by unfold qW; rw [if_pos ⟨hpz, hf⟩]; rfl
   have hpe : sU R C s f = (aW R C s).map (fun x => qo f (eF C x)) := by unfold sU; rw [if_pos hf]
   have hpl : (sU R C s f).length = (aW R C s).length := by rw [hpe, List.length_map]
   rw [hrb]
   refine iZ (σ := List (List ByteArray)) (fun k out i => cB.l0 k d w out (sU R C s f) ((sU R C s f).length : Int) i R C s l q e) (aW R C s).length (fun i out => out.length = i) (fun i out => out ++ vO R C s f l d w i) (fun out _ => ?_) (fun i out hi hout => .inr ⟨out ++ [Cm R C s f l d w i], by rw [List.length_append, hout]; rfl, by rw [AY R C s f l d w i hi, List.append_assoc], fun r hr => ?_⟩) 0 [] (Nat.zero_le _) rfl
   ·rw [Cn, List.append_nil, ← au]
    simp only [cB.l0]
    rw [en]
    exact aI _
   ·have hil : i < l.length := by omega
    have hgs := tC l[i].f0 l[i].f1 d w (qo f (eF C (aW R C s)[i])) 3 (hx _ (List.getElem_mem hil)) hd hw
    have hpi : gW ByteArray.empty (sU R C s f) (i : Int) = qo f (eF C (aW R C s)[i]) := by
     rw [lJ ByteArray.empty _ i (by omega)]
     simp only [hpe, List.getElem_map]
    rw [Es f d w i hi hil] at hr
    rw [← au]
    simp only [cB.l0, qz _ i hil, hpi, bJ (i := i) (by omega)]
    rw [ep, ep, ep, ep, av hgs, ep]
    exact hr
  ·have hpe : sU R C s f = [] := by unfold sU; rw [if_neg hf]
   have hrb : qW R C s l q e f d w = [] := by unfold qW; rw [if_neg (fun h => hf h.2)]
   rw [hpe, hrb, ← au]
   simp only [cB.l0, List.length_nil]
   rw [en (by simp)]
   exact aI _
 ·rename_i hok
  have hrb : qW R C s l q e f d w = [] := by unfold qW; rw [if_neg (fun h => hok h.1)]
  rw [hrb]
  exact aI _
theorem FnExactClueDomains : cZ.Pure := by
 intro y f d w ⟨⟨_, _, h0⟩, ⟨h1, h2, h3⟩, ⟨h4, h5, _⟩, _⟩ _ ⟨i1, i2, i3⟩ ⟨j1, j2, j3⟩
 refine Ev.rounds ?_
 unfold cZ.f
 rw [aG]
 split
 ·exact aI _
 have hx : ∀ x ∈ y.f1, x.f1.length ≤ 3518437208883 := fun x hx => by have := (h3 x hx).2.1; omega
 obtain ⟨a, ha, hab, hsum⟩ := Ce y.f0.f0 y.f0.f1 y.f0.f2 y.f1 y.f2 y.f3 h0 (by omega) (fun x hx => ⟨by have := (h3 x hx).2.1; omega, fun t ht => ((h3 x hx).2.2.2 t ht).2.1⟩) (by omega) 1048576 (by omega) (by omega)
 rw [av ha, aG]
 split
 ·exact aI _
 rename_i ha0
 replace hsum := hsum (by omega)
 obtain ⟨c, hc, hcb⟩ := AQ d (by omega) (fun x hx => (i3 x hx).1) a (by omega) hab
 rw [av hc, aG]
 split
 ·exact aI _
 obtain ⟨e, he, _⟩ := Cg w (by omega) (fun x hx => j3 x hx) c (by omega) hcb
 rw [av he, aG]
 split
 ·exact aI _
 have t1 := Df y.f0.f0 y.f0.f1 y.f0.f2 y.f1 y.f2 y.f3 (by omega) hx (by omega)
 have t2 := AU d (by omega)
 have t3 := Ch w (by omega)
 have l1 : (y.f1.map ku).length = y.f1.length := List.length_map _
 have l2 : (d.map lq).length = d.length := List.length_map _
 have hx' : ∀ x ∈ y.f1.map ku, x.f1.length < 4611686018427387904 := by
  intro x hm
  obtain ⟨u, hu, rfl⟩ := List.mem_map.1 hm
  have := hx u hu
  simp only [ku, List.length_map]
  omega
 have hcw := FN y.f1
 have s := sG y.f0.f0 y.f0.f1 y.f0.f2 (y.f1.map ku) y.f2 y.f3 f (d.map lq) w (by omega) (by omega) hx' (by omega) (by omega)
 have i := sj y.f0.f0 y.f0.f1 y.f0.f2 (y.f1.map ku) y.f2 y.f3 f (d.map lq) w (by omega) hx' (by omega) (by omega)
 have e1 := Co y.f0.f0 y.f0.f1 y.f0.f2 (y.f1.map ku) y.f2 y.f3 (by omega) hx' (by omega)
 have e2 := Af (d.map lq) (by omega)
 have e3 := uf w (by omega)
 have hg := Ck y.f0.f0 y.f0.f1 y.f0.f2 (y.f1.map ku) y.f2 y.f3 f (d.map lq) w
 have hr := FP y.f0.f0 y.f0.f1 y.f0.f2 (y.f1.map ku) y.f2 y.f3 f (d.map lq) w
 have hn := (fT y.f0.f0 y.f0.f1 y.f0.f2).2.2
 have m1 := Av y.f0.f0 y.f0.f1 y.f0.f2 (y.f1.map ku) y.f2 y.f3 1 (by omega) (by omega)
 have m2 := vT (d.map lq) (1 + jf cwd (y.f1.map ku) + y.f2.length) (by omega) (by omega)
 have m3 := rC w (1 + jf cwd (y.f1.map ku) + y.f2.length + 2 * (d.map lq).length) (by omega) (by omega)
 generalize qW y.f0.f0 y.f0.f1 y.f0.f2 (y.f1.map ku) y.f2 y.f3 f (d.map lq) w = g at s i hg hr
 have hws := vN w.length g hr
 have hws2 : g.length * w.length ≤ 100000 * w.length := Nat.mul_le_mul_right _ (by omega)
 have e4 := Ag g (by omega) (fun x hx => by have := hr x hx; omega)
 have m4 := vU g 1 (by omega) (by omega) (by omega)
 have d4 := vP g 1 (by omega) (by omega) (by omega)
 simp only [av t1, av t2, av t3, av s, av i, av e1, av e2, av e3, av e4, av m1, av m2, av m3, aG, if_true]
 rw [if_neg (by omega), ← au]
 simp only [cZ.j0, Bool.not_true, Bool.false_eq_true, if_false, av t1, av t2, av t3, av i, av e4, av m4, av d4, aG, if_true]
 rw [if_neg (by omega)]
 exact aI _
end Go.Proofs.YtikmdgmnhbodjaaGreat.Pure
