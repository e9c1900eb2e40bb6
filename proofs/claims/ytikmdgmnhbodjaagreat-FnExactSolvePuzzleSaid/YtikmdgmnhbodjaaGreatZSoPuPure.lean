/- The program's SolvePuzzle returns what the reference's returns, for every argument; no further condition. -/
import Derived.Test.YtikmdgmnhbodjaaGreatZSoPuQ
import Derived.Test.YtikmdgmnhbodjaaGreatZSoPuEv
namespace Go.Proofs.YtikmdgmnhbodjaaGreat.Pure
open Go.RowKit Go.Proofs.YtikmdgmnhbodjaaGreat.PFnExactSolvePuzzle Go.Proofs.Yw.PrintWords Go.Proofs.Yw.PrintLast Go.Proofs.Yw.PrintMore Go.Proofs.YtikmdgmnhbodjaaGreat.Sem Go.Proofs.YtikmdgmnhbodjaaGreat.Sq
set_option linter.unusedVariables false
set_option linter.unusedSimpArgs false
theorem KO (xs : List mX) (i : Nat) (h : i < xs.length) : gI xs (i : Int) = xs[i] := by
 simp [gI, List.getD_eq_getElem?_getD, List.getElem?_eq_getElem h]
theorem Mc (xs : List S84) (i : Nat) (h : i < xs.length) : kE xs (i : Int) = xs[i] := by
 simp [kE, List.getD_eq_getElem?_getD, List.getElem?_eq_getElem h]
theorem Ma (xs : List S64) (i : Nat) (h : i < xs.length) : lF xs (i : Int) = xs[i] := by
 simp [lF, List.getD_eq_getElem?_getD, List.getElem?_eq_getElem h]
theorem Jf (xs : List bY) (i : Nat) (h : i < xs.length) : aj xs (i : Int) = xs[i] := by
 simp [aj, List.getD_eq_getElem?_getD, List.getElem?_eq_getElem h]
theorem Nv (xs : List bY) (i : Nat) (x : bY) (h : i < xs.length) : aj (xs.set i x) (i : Int) = x := by
 rw [Jf _ i (by rw [List.length_set]; exact h), List.getElem_set_self]
theorem Gb (xs : List S70) (i : Nat) (h : i < xs.length) : Oh xs (i : Int) = xs[i] := by
 simp [Oh, List.getD_eq_getElem?_getD, List.getElem?_eq_getElem h]
theorem NT (xs : List S70) (i : Nat) (x : S70) (h : i < xs.length) : Oh (xs.set i x) (i : Int) = x := by
 rw [Gb _ i (by rw [List.length_set]; exact h), List.getElem_set_self]
theorem JF (xs : List S73) (i : Nat) (h : i < xs.length) : dN xs (i : Int) = xs[i] := by
 simp [dN, List.getD_eq_getElem?_getD, List.getElem?_eq_getElem h]
theorem NV (xs : List S73) (i : Nat) (x : S73) (h : i < xs.length) : dN (xs.set i x) (i : Int) = x := by
 rw [JF _ i (by rw [List.length_set]; exact h), List.getElem_set_self]
theorem EA (xs : List gu) (i : Nat) (h : i < xs.length) : aH xs (i : Int) = xs[i] := by
 simp [aH, List.getD_eq_getElem?_getD, List.getElem?_eq_getElem h]
theorem KN (xs : List (List Oo)) (i : Nat) (h : i < xs.length) : mF xs (i : Int) = xs[i] := by
 simp [mF, List.getD_eq_getElem?_getD, List.getElem?_eq_getElem h]
theorem LZ (xs : List (List Int)) (i : Nat) (h : i < xs.length) : jr xs (i : Int) = xs[i] := by
 simp [jr, List.getD_eq_getElem?_getD, List.getElem?_eq_getElem h]
theorem EF (a b c : Int) : aW.f a b c = some (decide (b ≤ a ∧ a ≤ c)) := by
 unfold aW.f
 by_cases h : b ≤ a <;> simp [h]
theorem EB (a b c : Int) : cK.f a b c = some (decide (b ≤ a ∧ a ≤ c)) := by
 unfold cK.f
 by_cases h : b ≤ a <;> simp [h]
theorem at_eq (a b : Int) : mI.f a b = some (decide (0 ≤ a ∧ a < b)) := by
 unfold mI.f
 by_cases h : 0 ≤ a <;> simp [h]
theorem EO (a : Int) : DL.f a = some (decide (97 ≤ a ∧ a ≤ 122)) := by
 unfold DL.f
 by_cases h : 97 ≤ a <;> simp [h]
theorem MI (l : List Int) (hl : l.length < 4611686018427387904) : Ev (fun k => iR.f k l l) true := by
 unfold iR.f
 rw [ep rfl]
 refine DT (Em (fun k i => iR.l0 k l l i) l (fun _ => true) ?_ (fun i hi hp r hr => ?_) (fun i hi hp => by cases hp)) (by simp)
 ·rw [← Dw]; simp [iR.l0, Dz]
 ·rw [← Dw]
  simp only [iR.l0, DI (i := i) (by omega)]
  simp [Dy, hi]
  exact hr
theorem Lm (l : List Int) (c : Int) (h0 : 0 ≤ c) (hc : c + l.length < 4611686018427387904) : Ev (fun k => gL.f k l c) (c + l.length, EI (fun _ b => b) (fun _ => 1) l c) := by
 have hw : Ef (fun _ => 1) l = l.length := by rw [FY]; omega
 have := Gw (fun k s b i => gL.l0 k s b i) l (fun _ => 1) (fun _ b => b) c (fun s b hs => ?_) (fun i hi s b hs hsi hb hb' r hr => ?_)
 ·rw [hw] at this
  exact this
 ·rw [← Dw]
  simp only [gL.l0]
  simp [hs, Dz]
 ·rw [← Dw]
  rw [hw] at hb'
  have e : wrap64 (b + 1) = b + 1 := El (by omega) (by omega)
  simp only [gL.l0, DI (i := i) (by omega), e]
  simp [Dy, hi, hs]
  exact hr
theorem Nh (l : List Int) (hl : l.length ≤ 17592186044416) : Ev (fun k => iB.f k l) l := by
 unfold iB.f
 rw [ep, ep]
 refine DT (FU (fun k s i => iB.l0 k l s i) l id 0 (fun s hs => ?_) (fun i hi s hs r hr => ?_)) (by simp)
 ·rw [← Dw]
  simp [iB.l0, Dz]
 ·rw [← Dw]
  simp only [iB.l0, ET l i hi, DI (i := i) (by omega)]
  simp [Dy, hi, hs]
  exact hr
theorem GZ (c : Int) : (strOfNums [c]).size = 1 := rfl
theorem Kg : ∀ (n : Nat) (x : Int) (s : Oo), x.toNat ≤ n → s.size + n < 9223372036854775807 → n < 4611686018427387904 → ∃ r, Ev (fun k => dK.l0 k x s) r := by
 intro n
 induction n with
 | zero =>
  intro x s hx hs hn
  refine ⟨(⟨#[109]⟩ : Oo) ++ s, ?_⟩
  rw [← Dw]
  simp only [dK.l0]
  rw [en, ep]
  exact Dz _
 | succ n ih =>
  intro x s hx hs hn
  by_cases h : x > 0
  ·have h1 : Int.tdiv x 10 = x / 10 := Int.tdiv_eq_ediv_of_nonneg (by omega)
   have h2 : wrap64 (Int.tdiv x 10) = x / 10 := by rw [h1]; exact El (by omega) (by omega)
   obtain ⟨r, hr⟩ := ih (x / 10) ((strOfNums [(wrap64 (48 + (Int.tmod x 10))) % 256]) ++ s) (by omega) (by rw [ByteArray.size_append, GZ]; omega) (by omega)
   refine ⟨r, ?_⟩
   rw [← Dw]
   simp only [dK.l0, Option.bind_some, h2]
   rw [ep h, ep (by rw [GZ]; omega)]
   exact hr
  ·refine ⟨(⟨#[109]⟩ : Oo) ++ s, ?_⟩
   rw [← Dw]
   simp only [dK.l0]
   rw [en h, ep]
   exact Dz _
theorem Lp (c : Int) (h : c < 4611686018427387904) : ∃ r, Ev (fun k => dK.f k c) r := by
 unfold dK.f
 by_cases h0 : c ≤ 0
 ·exact ⟨_, by rw [ep h0]; exact Dz _⟩
 ·obtain ⟨r, hr⟩ := Kg c.toNat c ⟨#[]⟩ (nR _) (by show 0 + _ < _; omega) (by omega)
  exact ⟨r, by rw [en h0]; exact hr⟩
noncomputable def MT (c : Int) : Oo := open Classical in if h : ∃ r, Ev (fun k => dK.f k c) r then h.choose else ByteArray.empty
theorem Mq (c : Int) (h : c < 4611686018427387904) : Ev (fun k => dK.f k c) (MT c) := by
 have hx := Lp c h
 unfold MT
 rw [dif_pos hx]
 exact hx.choose_spec
theorem Gr (l : List Oo) (c : Int) (h0 : 0 ≤ c) (hc : c + l.length < 4611686018427387904) : Ev (fun k => dU.f k l c) (c + l.length, EI (fun _ b => MT b) (fun _ => 1) l c) := by
 have hw : Ef (fun _ => 1) l = l.length := by rw [FY]; omega
 have := Gw (fun k s b i => dU.l0 k s b i) l (fun _ => 1) (fun _ b => MT b) c (fun s b hs => ?_) (fun i hi s b hs hsi hb hb' r hr => ?_)
 ·rw [hw] at this
  exact this
 ·rw [← Dw]
  simp only [dU.l0]
  simp [hs, Dz]
 ·rw [← Dw]
  rw [hw] at hb'
  have e : wrap64 (b + 1) = b + 1 := El (by omega) (by omega)
  simp only [dU.l0, DI (i := i) (by omega), e]
  rw [ep, Dx (Mq b (by omega)), ep]
  exact hr
theorem Jq (l : List Oo) (c : Int) (h0 : 0 ≤ c) (hc : c + l.length < 4611686018427387904) : Ev (fun k => eD.f k (EI (fun _ b => MT b) (fun _ => 1) l c) c) (c + l.length) := by
 have hw : Ef (fun _ => 1) l = l.length := by rw [FY]; omega
 have := MW (fun k b i => eD.l0 k (EI (fun _ b => MT b) (fun _ => 1) l c) b i) l (fun _ => 1) c (fun b => ?_) (fun i hi b hb hb' r hr => ?_)
 ·rw [hw] at this
  exact this
 ·rw [← Dw]
  simp only [eD.l0]
  simp [Ew, Dz]
 ·rw [← Dw]
  rw [hw] at hb'
  have e : wrap64 (b + 1) = b + 1 := El (by omega) (by omega)
  have hr' := Ej ByteArray.empty (EI (fun _ b => MT b) (fun _ => 1) l c) i (by rw [Ew]; exact hi)
  rw [Ip _ _ _ _ _ hi] at hr'
  simp only [eD.l0, DI (i := i) (by omega), e, hr', ← hb]
  rw [ep (by rw [Ew]; omega), ep, Dx (Mq b (by omega)), ep rfl]
  exact hr
theorem KU (l : List Oo) (hl : l.length < 4611686018427387904) (hs : ∀ x ∈ l, x.size ≤ 140737488351232) (a : Int) (ha : 0 ≤ a) (ha' : a ≤ 1048576) : ∃ r, Ev (fun k => gJ.f k l a) r ∧ r ≤ 1048576 := by
 unfold gJ.f
 have w1 : wrap64 (a - (l.length : Int)) = a - l.length := El (by omega) (by omega)
 simp only [Dy, DK, w1]
 by_cases h : a - (l.length : Int) < 0
 ·exact ⟨-1, by simp [h]⟩
 ·simp only [h, if_false]
  refine Ku (fun k b i => gJ.l0 k l b i) l 1048576 (fun b => ?_) (fun i hi b hb hb' => ?_) _ (by omega) (by omega)
  ·rw [← Dw]
   simp only [gJ.l0]
   rw [en]
   exact Dz _
  ·have hsz := hs _ (gM hi)
   have w3 : wrap64 (b - (l[i].size : Int)) = b - l[i].size := El (by omega) (by omega)
   by_cases h2 : b - (l[i].size : Int) < 0
   ·refine .inl ?_
    rw [← Dw]
    simp only [gJ.l0, Ej ByteArray.empty l i hi, DI (i := i) (by omega), w3]
    simp [Dy, DK, hi, h2]
   ·refine .inr ⟨b - l[i].size, by omega, by omega, fun r hr => ?_⟩
    rw [← Dw]
    simp only [gJ.l0, Ej ByteArray.empty l i hi, DI (i := i) (by omega), w3]
    rw [ep, ep, en h2]
    exact hr
theorem KV (l : List Oo) (hl : l.length ≤ 8796093022208) : Ev (fun k => dD.f k l) l := by
 unfold dD.f
 rw [ep, ep]
 refine DT (FU (fun k s i => dD.l0 k l s i) l id (⟨#[]⟩ : Oo) (fun s hs => ?_) (fun i hi s hs r hr => ?_)) (by simp)
 ·rw [← Dw]
  simp [dD.l0, Dz]
 ·rw [← Dw]
  simp only [dD.l0, Ej ByteArray.empty l i hi, DI (i := i) (by omega)]
  simp [Dy, hi, hs]
  exact hr
theorem Hy (l : List Oo) (hl : l.length < 4611686018427387904) : Ev (fun k => dL.f k l l) true := by
 unfold dL.f
 rw [ep rfl]
 refine DT (Em (fun k i => dL.l0 k l l i) l (fun _ => true) ?_ (fun i hi hp r hr => ?_) (fun i hi hp => by cases hp)) (by simp)
 ·rw [← Dw]; simp [dL.l0, Dz]
 ·rw [← Dw]
  simp only [dL.l0, DI (i := i) (by omega)]
  simp [Dy, hi]
  exact hr
theorem Kn (l : List S64) (hl : l.length < 4611686018427387904) (hs : ∀ x ∈ l, x.f0.size ≤ 140737488351232) (a : Int) (ha : 0 ≤ a) (ha' : a ≤ 1048576) : ∃ r, Ev (fun k => gD.f k l a) r ∧ r ≤ 1048576 := by
 unfold gD.f
 have w1 : wrap64 (a - (l.length : Int)) = a - l.length := El (by omega) (by omega)
 simp only [Dy, DK, w1]
 by_cases h : a - (l.length : Int) < 0
 ·exact ⟨-1, by simp [h]⟩
 ·simp only [h, if_false]
  refine Ku (fun k b i => gD.l0 k l b i) l 1048576 (fun b => ?_) (fun i hi b hb hb' => ?_) _ (by omega) (by omega)
  ·rw [← Dw]
   simp only [gD.l0]
   rw [en]
   exact Dz _
  ·have hsz := hs _ (gM hi)
   have w3 : wrap64 (b - (l[i].f0.size : Int)) = b - l[i].f0.size := El (by omega) (by omega)
   by_cases h2 : b - (l[i].f0.size : Int) < 0
   ·refine .inl ?_
    rw [← Dw]
    simp only [gD.l0, kD.f, Ma l i hi, DI (i := i) (by omega), w3, if_pos h2, Option.bind_some]
    simp [Dy, DK, hi]
   ·refine .inr ⟨b - l[i].f0.size, by omega, by omega, fun r hr => ?_⟩
    rw [← Dw]
    simp only [gD.l0, kD.f, Ma l i hi, DI (i := i) (by omega), w3, if_neg h2, Option.bind_some]
    rw [ep, ep]
    exact hr
def Ey (x : S64) : S73 := ⟨x.f0, x.f1⟩
theorem Ko (l : List S64) (hl : l.length ≤ 5864062014805) : Ev (fun k => dn.f k l) (l.map Ey) := by
 unfold dn.f
 rw [ep, ep]
 refine FU (fun k s i => dn.l0 k l s i) l Ey z73 (fun s hs => ?_) (fun i hi s hs r hr => ?_)
 ·rw [← Dw]
  simp [dn.l0, Dz]
 ·rw [← Dw]
  simp only [dn.l0, lu.f, Ma l i hi, DI (i := i) (by omega), Option.bind_some]
  simp [Dy, hi, hs]
  exact hr
theorem JQ (l : List S73) (hl : l.length < 4611686018427387904) : Ev (fun k => cB.f k l l) true := by
 unfold cB.f
 rw [ep rfl]
 refine DT (Em (fun k i => cB.l0 k l l i) l (fun _ => true) ?_ (fun i hi hp r hr => ?_) (fun i hi hp => by cases hp)) (by simp)
 ·rw [← Dw]; simp [cB.l0, Dz]
 ·rw [← Dw]
  simp only [cB.l0, kC.f, DI (i := i) (by omega)]
  simp [Dy, hi]
  exact hr
theorem IX (l : List S73) (c : Int) (h0 : 0 ≤ c) (hc : c + 2 * l.length < 4611686018427387904) : Ev (fun k => dS.f k l c) (c + 2 * l.length, EI (fun _ b => ⟨MT b, b + 1⟩) (fun _ => 2) l c) := by
 have hw : Ef (fun _ => 2) l = 2 * l.length := FY _ _
 have := Gw (fun k s b i => dS.l0 k s b i) l (fun _ => 2) (fun _ b => ⟨MT b, b + 1⟩) c (fun s b hs => ?_) (fun i hi s b hs hsi hb hb' r hr => ?_)
 ·rw [hw] at this
  exact this
 ·rw [← Dw]
  simp only [dS.l0]
  simp [hs, Dz]
 ·rw [← Dw]
  rw [hw] at hb'
  have e : wrap64 (b + 1) = b + 1 := El (by omega) (by omega)
  have e' : wrap64 (b + 1 + 1) = b + ((2 : Nat) : Int) := by rw [El (by omega) (by omega)]; omega
  simp only [dS.l0, DI (i := i) (by omega), e, e', Option.bind_some]
  rw [ep, Dx (Mq b (by omega)), ep]
  simp only [Int.toNat_natCast, NV, List.length_set, hs, hi, List.set_set]
  exact hr
def Ez (c : Int) : Bool := decide (97 ≤ c ∧ c ≤ 122)
def DW (s : Oo) : Bool := decide (1 ≤ s.size ∧ s.size ≤ 8) && (bytesOf s).all Ez
theorem DV {s : Oo} (h : DW s = true) : 1 ≤ s.size ∧ s.size ≤ 8 := by
 simp [DW] at h
 exact h.1
theorem Jz {s : Oo} (h : DW s = true) : ∀ c ∈ bytesOf s, 97 ≤ c ∧ c ≤ 122 := by
 simp [DW, Ez] at h
 exact h.2
theorem Eb (s : Oo) : Ev (fun k => bg.f k s) (DW s) := by
 simp only [bg.f, EF, Option.bind_some, Dy, decide_eq_true_eq, DW]
 by_cases h : (1 : Int) ≤ s.size ∧ (s.size : Int) ≤ 8
 ·rw [if_pos h]
  have h' : 1 ≤ s.size ∧ s.size ≤ 8 := by omega
  simp only [h', decide_true, Bool.true_and, and_self]
  refine Em (fun k i => bg.l0 k s i) (bytesOf s) Ez ?_ (fun i hi hp r hr => ?_) (fun i hi hp => ?_)
  ·rw [← Dw]; simp [bg.l0, bytesOf_length, Dz]
  ·have hi' : i < s.size := by rw [bytesOf_length] at hi; exact hi
   rw [← Dw]
   simp [Ez] at hp
   simp only [bg.l0, EL s i hi', DI (i := i) (by omega)]
   rw [ep, ep, en, en]
   exact hr
  ·have hi' : i < s.size := by rw [bytesOf_length] at hi; exact hi
   rw [← Dw]
   simp [Ez] at hp
   simp only [bg.l0, EL s i hi', DI (i := i) (by omega)]
   rw [ep, ep, Dy]
   by_cases h1 : (bytesOf s)[i] < 97
   ·rw [if_pos h1]; exact Dz _
   ·rw [if_neg h1, ep]; exact Dz _
 ·rw [if_neg h]
  have h' : ¬ (1 ≤ s.size ∧ s.size ≤ 8) := by omega
  simp [h', Dz]
theorem Ea (s : Oo) : Ev (fun k => bH.f k s) (DW s) := by
 simp only [bH.f, EB, Option.bind_some, Dy, decide_eq_true_eq, DW]
 by_cases h : (1 : Int) ≤ s.size ∧ (s.size : Int) ≤ 8
 ·rw [if_pos h]
  have h' : 1 ≤ s.size ∧ s.size ≤ 8 := by omega
  simp only [h', decide_true, Bool.true_and, and_self]
  refine Em (fun k i => bH.l0 k s (s.size : Int) i) (bytesOf s) Ez ?_ (fun i hi hp r hr => ?_) (fun i hi hp => ?_)
  ·rw [← Dw]; simp [bH.l0, bytesOf_length, Dz]
  ·have hi' : i < s.size := by rw [bytesOf_length] at hi; exact hi
   rw [← Dw]
   simp [Ez] at hp
   simp only [bH.l0, EL s i hi', DI (i := i) (by omega), EO, Option.bind_some]
   rw [ep, ep, ep, ep (by simpa using hp)]
   exact hr
  ·have hi' : i < s.size := by rw [bytesOf_length] at hi; exact hi
   rw [← Dw]
   simp only [Ez] at hp
   simp only [bH.l0, EL s i hi', DI (i := i) (by omega), EO, Option.bind_some]
   rw [ep, ep, ep, en (by rw [hp]; decide)]
   exact Dz _
 ·rw [if_neg h]
  have h' : ¬ (1 ≤ s.size ∧ s.size ≤ 8) := by omega
  simp [h', Dz]
def MJ (w : Oo) (s : Int) (x : S73) : Bool := decide (x.f0 = w ∧ x.f1 = s)
def hasB (l : List S73) (w : Oo) (s : Int) : Bool := l.any (MJ w s)
theorem Iu (l : List S73) (w : Oo) (s : Int) (hl : l.length < 4611686018427387904) : Ev (fun k => Oi.f k l w s) (hasB l w s) := by
 refine FT (fun k i => Oi.l0 k l w s i) l _ ?_ (fun i hi hp r hr => ?_) (fun i hi hp => ?_)
 ·rw [← Dw]; simp [Oi.l0, Dz]
 ·rw [← Dw]
  simp only [Oi.l0, JF l i hi, DI (i := i) (by omega), toList_eq]
  simp [MJ] at hp
  simp [Dy, hi]
  split
  ·rw [if_neg (hp ‹_›)]; exact hr
  ·exact hr
 ·rw [← Dw]
  simp only [Oi.l0, JF l i hi, DI (i := i) (by omega), toList_eq]
  simp [MJ] at hp
  simp [Dy, hi, hp, Dz]
theorem MR (l : List S73) (w : Oo) (s : Int) (hl : l.length < 4611686018427387904) : Ev (fun k => fJ.f k l w s) (match l.findIdx? (MJ w s) with | some i => (i : Int) | none => -1) := by
 refine FV (fun k i => fJ.l0 k l (l.length : Int) i w s) l _ ?_ (fun i hi hp r hr => ?_) (fun i hi hp => ?_)
 ·rw [← Dw]; simp [fJ.l0, Dz]
 ·rw [← Dw]
  simp only [fJ.l0, JF l i hi, DI (i := i) (by omega), En]
  simp [MJ] at hp
  simp [Dy, hi]
  rw [if_neg (by intro h; exact hp h.1.symm h.2.symm)]
  exact hr
 ·rw [← Dw]
  simp only [fJ.l0, JF l i hi, DI (i := i) (by omega), En]
  simp [MJ] at hp
  simp [Dy, hi, hp, Dz]
theorem NP {α : Type} (l : List α) (p : α → Bool) : decide ((match l.findIdx? p with | some i => (i : Int) | none => -1) ≥ 0) = l.any p := by
 cases h : l.findIdx? p with
 | none =>
  have := List.findIdx?_eq_none_iff.1 h
  simp
  intro x hx
  simpa using this x hx
 | some i =>
  obtain ⟨h1, h2, _⟩ := List.findIdx?_eq_some_iff_getElem.1 h
  simp
  exact ⟨l[i], gM h1, h2⟩
theorem KD (l : List S73) (w : Oo) (s : Int) (hl : l.length < 4611686018427387904) : Ev (fun k => jJ.f k l w s) (hasB l w s) := by
 unfold jJ.f
 rw [Dx (MR l w s hl), NP]
 exact Dz _
theorem Ij (l : List S73) (w : Oo) (s : Int) (hl : l.length < 4611686018427387904) : Ev (fun k => ig.f k l w s) (hasB l w s) := by
 unfold ig.f
 rw [Dx (KD l w s hl)]
 exact Dz _
def toStep (x : mX) : bY := ⟨x.f0, x.f1, x.f2, x.f3⟩
theorem Ml (l : List mX) (hl : l.length ≤ 3518437208883) : Ev (fun k => gT.f k l) (l.map toStep) := by
 unfold gT.f
 rw [ep, ep]
 refine FU (fun k s i => gT.l0 k l s i) l toStep z127 (fun s hs => ?_) (fun i hi s hs r hr => ?_)
 ·rw [← Dw]
  simp [gT.l0, Dz]
 ·rw [← Dw]
  simp only [gT.l0, mg.f, KO l i hi, DI (i := i) (by omega), Option.bind_some]
  simp [Dy, hi, hs]
  exact hr
theorem LU (l : List bY) (hl : l.length < 4611686018427387904) : Ev (fun k => dR.f k l l) true := by
 unfold dR.f
 rw [ep rfl]
 refine DT (Em (fun k i => dR.l0 k l l i) l (fun _ => true) ?_ (fun i hi hp r hr => ?_) (fun i hi hp => by cases hp)) (by simp)
 ·rw [← Dw]; simp [dR.l0, Dz]
 ·rw [← Dw]
  simp only [dR.l0, lT.f, DI (i := i) (by omega)]
  simp [Dy, hi]
  exact hr
theorem KJ (l : List bY) (c : Int) (h0 : 0 ≤ c) (hc : c + 4 * l.length < 4611686018427387904) : Ev (fun k => dZ.f k l c) (c + 4 * l.length, EI (fun _ b => ⟨b, MT (b + 1), b + 2, b + 3⟩) (fun _ => 4) l c) := by
 have hw : Ef (fun _ => 4) l = 4 * l.length := FY _ _
 have := Gw (fun k s b i => dZ.l0 k s b i) l (fun _ => 4) (fun _ b => ⟨b, MT (b + 1), b + 2, b + 3⟩) c (fun s b hs => ?_) (fun i hi s b hs hsi hb hb' r hr => ?_)
 ·rw [hw] at this
  exact this
 ·rw [← Dw]
  simp only [dZ.l0]
  simp [hs, Dz]
 ·rw [← Dw]
  rw [hw] at hb'
  have e1 : wrap64 (b + 1) = b + 1 := El (by omega) (by omega)
  have e2 : wrap64 (b + 1 + 1) = b + 2 := by rw [El (by omega) (by omega)]; omega
  have e3 : wrap64 (b + 2 + 1) = b + 3 := by rw [El (by omega) (by omega)]; omega
  have e4 : wrap64 (b + 3 + 1) = b + ((4 : Nat) : Int) := by rw [El (by omega) (by omega)]; omega
  simp only [dZ.l0, DI (i := i) (by omega), e1, e2, e3, e4, Option.bind_some]
  rw [ep, ep, Dx (Mq (b + 1) (by omega))]
  simp only [Int.toNat_natCast, Nv, List.length_set, hs, hi, List.set_set]
  exact hr
theorem Ng (a0 : Int) (l : List mX) (hl : l.length ≤ 3518437208883) : Ev (fun k => lY.f k a0 l) (a0, l.map toStep) := by
 unfold lY.f
 rw [Dx (Ml l hl)]
 exact Dz _
theorem MH (a0 : Int) (l : List bY) (hl : l.length < 4611686018427387904) : Ev (fun k => lQ.f k a0 l a0 l) true := by
 unfold lQ.f
 rw [ep rfl, Dx (LU l hl), ep rfl]
 exact Dz _
def JC (l : List bY) (i : Nat) (two : Bool) (kind A B : Int) : Bool :=
 if kind = 1 then decide (A = 0 ∧ B = 0) else decide (0 ≤ A ∧ A < i) && (if two = true then decide (0 ≤ B ∧ B < i) else decide (B = 0) && (decide (kind = 2) || decide ((aj l A).f0 = 1)))
def EU (l : List bY) (i : Nat) : Bool :=
 decide (1 ≤ (aj l i).f0 ∧ (aj l i).f0 ≤ 9) && ((if (aj l i).f0 = 1 then DW (aj l i).f1 else decide ((aj l i).f1.size = 0)) && JC l i (decide ((aj l i).f0 = 4 ∨ (aj l i).f0 = 5)) (aj l i).f0 (aj l i).f2 (aj l i).f3)
theorem Ll (l : List bY) (i : Nat) (hi : i < l.length) (hl : l.length < 4611686018427387904) (two : Bool) (kind : Int) (word : Oo) (A B : Int) : Ev (fun k => gq.j1 k l (i : Int) two kind word A B) (JC l i two kind A B) := by
 have e : wrap64 ((i : Int) - 1) = i - 1 := El (by omega) (by omega)
 rw [← Dw]
 simp only [gq.j1, EF, Option.bind_some, e, JC, Dy]
 by_cases h1 : kind = 1
 ·by_cases h2 : A = 0 <;> simp [h1, h2, DK] <;> rfl
 ·rw [if_neg h1, if_neg h1]
  by_cases h2 : 0 ≤ A ∧ A < (i : Int)
  ·have h2' : 0 ≤ A ∧ A ≤ (i : Int) - 1 := by omega
   simp only [h2, h2', and_self, decide_true, if_true, Bool.true_and]
   cases two
   ·simp only [Bool.false_eq_true, if_false]
    by_cases h3 : B = 0
    ·by_cases h4 : kind = 2
     ·simp [h3, h4, DK]
     ·simp only [h3, h4, if_true, if_false, decide_true, decide_false, Bool.true_and, Bool.false_or]
      rw [if_pos (by omega), DK]
      rfl
    ·simp [h3, DK]
   ·simp only [if_true]
    by_cases h3 : 0 ≤ B ∧ B < (i : Int)
    ·have h3' : 0 ≤ B ∧ B ≤ (i : Int) - 1 := by omega
     simp [h3, h3', DK]
    ·have h3' : ¬ (0 ≤ B ∧ B ≤ (i : Int) - 1) := by omega
     simp [h3, h3', DK]
  ·have h2' : ¬ (0 ≤ A ∧ A ≤ (i : Int) - 1) := by omega
   simp [h2, h2', DK]
theorem Gq (l : List bY) (i : Nat) (hi : i < l.length) (hl : l.length < 4611686018427387904) (b : Bool) (kind : Int) (word : Oo) (A B : Int) : Ev (fun k => gq.j0 k l (i : Int) b kind word A B) (!b && JC l i (decide (kind = 4 ∨ kind = 5)) kind A B) := by
 rw [← Dw]
 simp only [gq.j0, Dy]
 cases b
 ·simp only [Bool.false_eq_true, if_false, Bool.not_false, Bool.true_and]
  by_cases h : kind = 4
  ·simp only [h, if_true, true_or, decide_true]
   exact Ll l i hi hl _ _ _ _ _
  ·simp only [h, if_false, false_or]
   have := Ll l i hi hl (kind == 5) kind word A B
   exact this
 ·simp [DK]
theorem Kl (l : List bY) (i : Nat) (hi : i < l.length) (hl : l.length < 4611686018427387904) : Ev (fun k => gq.f k l (i : Int)) (EU l i) := by
 unfold gq.f
 rw [ep, ep]
 simp only [EF, Option.bind_some, decide_eq_true_eq]
 unfold EU
 generalize aj l (i : Int) = s
 rw [Dy]
 by_cases h1 : 1 ≤ s.f0 ∧ s.f0 ≤ 9
 ·rw [if_pos h1, Dx (Eb s.f1), Dy]
  simp only [h1, and_self, decide_true, Bool.true_and]
  by_cases h2 : s.f0 = 1
  ·simp only [h2, beq_self_eq_true, if_true, Dy]
   cases hw : DW s.f1
   ·simp only [Bool.true_bne, Bool.not_false, if_true]
    exact DT (Gq l i hi hl _ _ _ _ _) (by simp)
   ·simp only [Bool.true_bne, Bool.not_true, Bool.false_eq_true, if_false]
    exact DT (Gq l i hi hl _ _ _ _ _) (by simp)
  ·have h2' : (s.f0 == 1) = false := by simpa using h2
   simp only [h2, h2', if_false, Dy, Bool.false_bne]
   cases hw : DW s.f1
   ·simp only [Bool.false_eq_true, if_false]
    refine DT (Gq l i hi hl _ _ _ _ _) ?_
    congr 1
    rw [Bool.eq_iff_iff]
    simp [bne, toList_nil]
   ·have hz : ¬ s.f1.size = 0 := by have := DV hw; omega
    simp only [if_true]
    exact DT (Gq l i hi hl _ _ _ _ _) (by simp [hz])
 ·rw [if_neg h1]
  simp only [h1, decide_false, Bool.false_and]
  exact DT (Gq l i hi hl _ _ _ _ _) (by simp)
def EJ (l : List bY) : Bool := decide (1 ≤ l.length ∧ l.length ≤ 9) && (List.range l.length).all (EU l)
theorem IK {l : List bY} (h : EJ l = true) : 1 ≤ l.length ∧ l.length ≤ 9 := by
 simp [EJ] at h
 exact h.1
theorem HZ {l : List bY} (h : EJ l = true) (i : Nat) (hi : i < l.length) : EU l i = true := by
 simp [EJ] at h
 exact h.2 i hi
theorem Gs (l : List bY) (hl : l.length < 4611686018427387904) : Ev (fun k => fD.f k l) (EJ l) := by
 unfold fD.f
 have hend : ∀ i : Nat, Ev (fun k => fD.j1 k l (i : Int) false) (decide (1 ≤ l.length ∧ l.length ≤ 9)) := by
  intro i
  rw [← Dw]
  simp only [fD.j1, EF, Option.bind_some, Bool.false_eq_true, if_false, DK]
  rw [Bool.eq_iff_iff]
  simp
  omega
 have := EH (fun k i => fD.l0 k l i) l.length (fun i => decide (1 ≤ l.length ∧ l.length ≤ 9) && ((List.range l.length).drop i).all (EU l)) ?_ (fun i hi => ?_) 0 (Nat.zero_le _)
 ·simpa [EJ] using this
 ·rw [← Dw]
  simp only [fD.l0]
  rw [en, List.drop_eq_nil_of_le (by simp)]
  simpa using hend l.length
 ·have hd : (List.range l.length).drop i = i :: (List.range l.length).drop (i + 1) := by rw [List.drop_eq_getElem_cons (by simpa using hi)]; simp
  by_cases h9 : l.length ≤ 9
  ·have hu : ∀ r, Ev (fun k => fD.l0 k l (i : Int)) r ↔ if EU l i = true then Ev (fun k => fD.l0 k l ((i + 1 : Nat) : Int)) r else Ev (fun _ => some false) r := by
    intro r
    have h9' : decide ((l.length : Int) ≤ 9) = true := by simp; omega
    rw [← Dw]
    simp only [fD.l0, h9']
    rw [ep, ← Dw]
    simp only [fD.j1, if_true, DI (i := i) (by omega)]
    rw [Dx (Kl l i hi hl), Dy]
   rw [hd, List.all_cons]
   by_cases ho : EU l i = true
   ·refine .inr ⟨by simp [ho], fun r hr => ?_⟩
    rw [hu, if_pos ho]
    exact hr
   ·refine .inl ?_
    rw [hu, if_neg ho, DK]
    simp [ho]
  ·refine .inl ?_
   have h9' : decide ((l.length : Int) ≤ 9) = false := by simp; omega
   rw [← Dw]
   simp only [fD.l0, h9']
   rw [ep]
   exact DT (hend i) (by simp [h9])
theorem MU (a : Int) : jy.f a = some (decide (a = 4 ∨ a = 5)) := by
 unfold jy.f
 by_cases h : a = 4
 ·simp [h]
 ·simp [h]; rfl
theorem KL (a : Int) : ku.f a = some (decide (a = 3 ∨ a ≥ 6)) := by
 unfold ku.f
 by_cases h : a = 3 <;> simp [h]
theorem Jw (l : List bY) (i : Nat) (hi : i < l.length) (hl : l.length < 4611686018427387904) (b : Bool) (kind : Int) (word : Oo) (A B : Int) (r : Bool) :
  Ev (fun k => dG.j1 k l (i : Int) l (l.length : Int) (i : Int) b kind word A B) r ↔ if (!b && (if kind = 4 ∨ kind = 5 then decide (0 ≤ B ∧ B < i) else decide (B = 0))) = true then Ev (fun k => dG.l0 k l l (l.length : Int) ((i + 1 : Nat) : Int)) r else Ev (fun _ => some false) r := by
 rw [← Dw]
 simp only [dG.j1, MU, at_eq, Option.bind_some, DI (i := i) (by omega), Dy, decide_eq_true_eq]
 cases b
 ·by_cases h : kind = 4 ∨ kind = 5
  ·by_cases h2 : 0 ≤ B ∧ B < (i : Int) <;> simp [h, h2]
  ·by_cases h2 : B = 0 <;> simp [h, h2]
 ·simp
theorem IL (l : List bY) (i : Nat) : EU l i = (decide (1 ≤ (aj l i).f0 ∧ (aj l i).f0 ≤ 9) && (if (aj l i).f0 = 1 then DW (aj l i).f1 && decide ((aj l i).f2 = 0 ∧ (aj l i).f3 = 0)
  else decide ((aj l i).f1.size = 0) && (decide (0 ≤ (aj l i).f2 ∧ (aj l i).f2 < i) && (!(decide ((aj l i).f0 = 3 ∨ (aj l i).f0 ≥ 6) && decide (¬ (aj l (aj l i).f2).f0 = 1)) && (if (aj l i).f0 = 4 ∨ (aj l i).f0 = 5 then decide (0 ≤ (aj l i).f3 ∧ (aj l i).f3 < i) else decide ((aj l i).f3 = 0)))))) := by
 unfold EU JC
 generalize aj l (i : Int) = s
 generalize (aj l s.f2).f0 = a
 by_cases h1 : 1 ≤ s.f0 ∧ s.f0 ≤ 9
 ·by_cases h2 : s.f0 = 1
  ·simp [h2]
  ·simp only [h1, h2, and_self, decide_true, Bool.true_and, if_false]
   by_cases h3 : s.f0 = 4 ∨ s.f0 = 5
   ·have h4 : ¬ (s.f0 = 3 ∨ s.f0 ≥ 6) := by omega
    simp [h3, h4]
   ·simp only [h3, decide_false, Bool.false_eq_true, if_false]
    by_cases h4 : s.f0 = 2
    ·have h5 : ¬ (s.f0 = 3 ∨ s.f0 ≥ 6) := by omega
     simp [h4]
    ·have h5 : s.f0 = 3 ∨ s.f0 ≥ 6 := by omega
     by_cases h6 : a = 1 <;> simp [h4, h5, h6]
 ·simp [h1]
theorem Gn (l : List bY) (hl : l.length < 4611686018427387904) : Ev (fun k => dG.f k l) (EJ l) := by
 unfold dG.f
 simp only [EB, Option.bind_some, decide_eq_true_eq]
 unfold EJ
 rw [Dy]
 by_cases hlen : 1 ≤ l.length ∧ l.length ≤ 9
 ·rw [if_pos (by omega)]
  simp only [hlen, and_self, decide_true, Bool.true_and]
  have := EH (fun k i => dG.l0 k l l (l.length : Int) i) l.length (fun i => ((List.range l.length).drop i).all (EU l)) ?_ (fun i hi => ?_) 0 (Nat.zero_le _)
  ·simpa using this
  ·rw [← Dw]
   simp only [dG.l0]
   rw [en, DK, List.drop_eq_nil_of_le (by simp)]
   simp
  ·have hd : (List.range l.length).drop i = i :: (List.range l.length).drop (i + 1) := by rw [List.drop_eq_getElem_cons (by simpa using hi)]; simp
   have hu : ∀ r, Ev (fun k => dG.l0 k l l (l.length : Int) (i : Int)) r ↔ if EU l i = true then Ev (fun k => dG.l0 k l l (l.length : Int) ((i + 1 : Nat) : Int)) r else Ev (fun _ => some false) r := by
    intro r
    rw [← Dw]
    simp only [dG.l0, DI (i := i) (by omega), EB, KL, at_eq, Option.bind_some, IL]
    generalize aj l (i : Int) = s
    simp only [Dy, decide_eq_true_eq, Dx (Ea s.f1), Jw l i hi hl, toList_nil]
    rw [if_pos (by omega), if_pos (by omega), if_pos (by omega)]
    by_cases h1 : 1 ≤ s.f0 ∧ s.f0 ≤ 9
    ·by_cases h2 : s.f0 = 1
     ·simp only [h2]
      cases hw : DW s.f1
      ·simp
      ·by_cases h3 : s.f2 = 0
       ·by_cases h4 : s.f3 = 0 <;> simp [h3, h4]
       ·simp [h3]
     ·simp only [h1, h2, and_self, decide_true, Bool.true_and, if_true, if_false]
      by_cases h3 : s.f1.size = 0
      ·by_cases h4 : 0 ≤ s.f2 ∧ s.f2 < (i : Int)
       ·have h4' : s.f2 < (l.length : Int) := by omega
        by_cases h5 : s.f0 = 3 ∨ s.f0 ≥ 6
        ·simp only [h3, h4, h4', h5, and_self, decide_true, if_true, Bool.true_and]
         cases hb : ((aj l s.f2).f0 != 1)
         ·have hb' : (aj l s.f2).f0 = 1 := by simpa using hb
          simp [hb']
         ·have hb' : ¬ (aj l s.f2).f0 = 1 := by simpa using hb
          simp [hb']
        ·simp [h3, h4, h5]
       ·simp [h3, h4]
      ·simp [h3]
    ·simp [h1]
   rw [hd, List.all_cons]
   by_cases ho : EU l i = true
   ·refine .inr ⟨by simp [ho], fun r hr => ?_⟩
    rw [hu, if_pos ho]
    exact hr
   ·refine .inl ?_
    rw [hu, if_neg ho, DK]
    simp [ho]
 ·rw [if_neg (by omega)]
  simp [hlen, DK]
def ED (a : Int) (l : List bY) : Bool := decide (1 ≤ a ∧ a ≤ 99) && EJ l
theorem JM (a : Int) (l : List bY) (hl : l.length < 4611686018427387904) : Ev (fun k => mD.f k a l) (ED a l) := by
 unfold mD.f ED
 simp only [EF, Option.bind_some, Dy, Dx (Gs l hl), decide_eq_true_eq]
 by_cases h : 1 ≤ a ∧ a ≤ 99 <;> simp [h, DK]
theorem Jv (a : Int) (l : List bY) (hl : l.length < 4611686018427387904) : Ev (fun k => lN.f k a l) (ED a l) := by
 unfold lN.f ED
 simp only [EB, Option.bind_some, Dy, Dx (Gn l hl), decide_eq_true_eq]
 by_cases h : 1 ≤ a ∧ a ≤ 99 <;> simp [h, DK]
theorem Ic {l : List bY} {i : Nat} (hi : i < l.length) (h : EU l i = true) : (1 ≤ l[i].f0 ∧ l[i].f0 ≤ 9) ∧ (l[i].f0 = 1 → DW l[i].f1 = true) ∧ (¬ l[i].f0 = 1 → 0 ≤ l[i].f2 ∧ l[i].f2 < i) ∧ (l[i].f0 = 4 ∨ l[i].f0 = 5 → 0 ≤ l[i].f3 ∧ l[i].f3 < i) ∧ (¬ l[i].f0 = 1 → ¬ (l[i].f0 = 4 ∨ l[i].f0 = 5) → l[i].f3 = 0) ∧
  (l[i].f0 = 3 ∨ l[i].f0 ≥ 6 → (aj l l[i].f2).f0 = 1) ∧ (¬ l[i].f0 = 1 → l[i].f1.size = 0) ∧ (l[i].f0 = 1 → l[i].f2 = 0 ∧ l[i].f3 = 0) := by
 rw [IL, Jf l i hi] at h
 simp only [Bool.and_eq_true, decide_eq_true_eq] at h
 obtain ⟨h1, h2⟩ := h
 refine ⟨h1, fun e => ?_, fun e => ?_, fun e => ?_, fun e e' => ?_, fun e => ?_, fun e => ?_, fun e => ?_⟩
 ·rw [if_pos e] at h2; simp at h2; exact h2.1
 ·rw [if_neg e] at h2; simp at h2; exact h2.2.1
 ·have e' : ¬ l[i].f0 = 1 := by omega
  rw [if_neg e', if_pos e] at h2; simp at h2; exact h2.2.2.2
 ·rw [if_neg e, if_neg e'] at h2; simp at h2; exact h2.2.2.2
 ·have e' : ¬ l[i].f0 = 1 := by omega
  rw [if_neg e'] at h2; simp at h2
  have h3 := h2.2.2.1
  rcases h3 with h3 | h3
  ·omega
  ·exact h3
 ·rw [if_neg e] at h2; simp at h2; rw [h2.1]; rfl
 ·rw [if_pos e] at h2; simp at h2; exact h2.2
theorem Km (l : List Int) (x : Int) (hl : l.length < 4611686018427387904) : Ev (fun k => jq.f k l x) (l.any (fun y => decide (y = x))) := by
 refine FT (fun k i => jq.l0 k l x i) l _ ?_ (fun i hi hp r hr => ?_) (fun i hi hp => ?_)
 ·rw [← Dw]; simp [jq.l0, Dz]
 ·rw [← Dw]
  simp only [jq.l0, ET l i hi, DI (i := i) (by omega)]
  simp at hp
  simp [Dy, hi, hp]
  exact hr
 ·rw [← Dw]
  simp only [jq.l0, ET l i hi, DI (i := i) (by omega)]
  simp at hp
  simp [Dy, hi, hp, Dz]
def GR (c : Int) : Bool := decide (c = 35 ∨ c = 46)
def DN (R C : Int) (s : Oo) : Bool := decide ((2 ≤ R ∧ R ≤ 6) ∧ (2 ≤ C ∧ C ≤ 6) ∧ (s.size : Int) = R * C) && (bytesOf s).all GR
theorem Eh {R C : Int} {s : Oo} (h : DN R C s = true) : (2 ≤ R ∧ R ≤ 6) ∧ (2 ≤ C ∧ C ≤ 6) ∧ (s.size : Int) = R * C ∧ ∀ c ∈ bytesOf s, c = 35 ∨ c = 46 := by
 simp [DN, GR] at h
 exact ⟨h.1.1, h.1.2.1, h.1.2.2, h.2⟩
theorem JI {C : Int} (hC : 2 ≤ C ∧ C ≤ 6) : C = 2 ∨ C = 3 ∨ C = 4 ∨ C = 5 ∨ C = 6 := by omega
theorem Hz {R C : Int} (hR : 2 ≤ R ∧ R ≤ 6) (hC : 2 ≤ C ∧ C ≤ 6) : 4 ≤ R * C ∧ R * C ≤ 36 := by
 rcases JI hC with rfl | rfl | rfl | rfl | rfl <;> omega
theorem DU {R C : Int} {s : Oo} (h : DN R C s = true) : 4 ≤ s.size ∧ s.size ≤ 36 := by
 obtain ⟨h1, h2, h3, _⟩ := Eh h
 have := Hz h1 h2
 omega
theorem Ki (R C : Int) (s : Oo) (hs : s.size < 4611686018427387904) : Ev (fun k => bQ.l0 k 0 R C s) ((bytesOf s).all GR) := by
 refine Em (fun k i => bQ.l0 k i R C s) (bytesOf s) GR ?_ (fun i hi hp r hr => ?_) (fun i hi hp => ?_)
 ·rw [← Dw]; simp [bQ.l0, bytesOf_length, Dz]
 ·have hi' : i < s.size := by rw [bytesOf_length] at hi; exact hi
  rw [← Dw]
  simp only [GR, decide_eq_true_eq] at hp
  simp only [bQ.l0, EL s i hi', DI (i := i) (by omega)]
  rw [ep, ep, Dy]
  by_cases h : (bytesOf s)[i] = 35
  ·rw [if_pos h]; exact hr
  ·rw [if_neg h, ep]; exact hr
 ·have hi' : i < s.size := by rw [bytesOf_length] at hi; exact hi
  rw [← Dw]
  simp only [GR, decide_eq_false_iff_not] at hp
  simp only [bQ.l0, EL s i hi', DI (i := i) (by omega)]
  rw [ep, ep, en, en]
  exact Dz _
theorem Ed (R C : Int) (s : Oo) : Ev (fun k => bQ.f k R C s) (DN R C s) := by
 simp only [bQ.f, EF, Option.bind_some, Dy, decide_eq_true_eq]
 by_cases hR : 2 ≤ R ∧ R ≤ 6
 ·rw [if_pos hR]
  by_cases hC : 2 ≤ C ∧ C ≤ 6
  ·rw [if_pos hC]
   have hm := Hz hR hC
   have e : wrap64 (R * C) = R * C := El (by omega) (by omega)
   rw [e, ← Dw]
   simp only [bQ.j0, Dy, bne_iff_ne, ne_eq]
   by_cases hs : (s.size : Int) = R * C
   ·rw [if_neg (not_not_intro hs)]
    exact DT (Ki R C s (by omega)) (by simp [DN, hR, hC, hs])
   ·rw [if_pos hs]
    exact DT (Dz _) (by simp [DN, hs])
  ·rw [if_neg hC, ← Dw]
   simp only [bQ.j0, if_true]
   exact DT (Dz _) (by simp [DN, hC])
 ·rw [if_neg hR, ← Dw]
  simp only [bQ.j0, if_true]
  exact DT (Dz _) (by simp [DN, hR])
theorem JU (R C : Int) (s : Oo) (hs : s.size < 4611686018427387904) : Ev (fun k => bC.l0 k (s.size : Int) 0 R C s) ((bytesOf s).all GR) := by
 refine Em (fun k i => bC.l0 k (s.size : Int) i R C s) (bytesOf s) GR ?_ (fun i hi hp r hr => ?_) (fun i hi hp => ?_)
 ·rw [← Dw]; simp [bC.l0, bytesOf_length, Dz]
 ·have hi' : i < s.size := by rw [bytesOf_length] at hi; exact hi
  rw [← Dw]
  simp only [GR, decide_eq_true_eq] at hp
  simp only [bC.l0, EL s i hi', DI (i := i) (by omega)]
  rw [ep, ep, ep, Dy]
  by_cases h : (bytesOf s)[i] = 35
  ·rw [if_pos h]; exact hr
  ·rw [if_neg h, ep]; exact hr
 ·have hi' : i < s.size := by rw [bytesOf_length] at hi; exact hi
  rw [← Dw]
  simp only [GR, decide_eq_false_iff_not] at hp
  simp only [bC.l0, EL s i hi', DI (i := i) (by omega)]
  rw [ep, ep, ep, en, en]
  exact Dz _
theorem Eu (R C : Int) (s : Oo) : Ev (fun k => bC.f k R C s) (DN R C s) := by
 simp only [bC.f, EB, Option.bind_some, Dy, decide_eq_true_eq]
 by_cases hR : 2 ≤ R ∧ R ≤ 6
 ·rw [if_pos hR]
  by_cases hC : 2 ≤ C ∧ C ≤ 6
  ·rw [if_pos hC]
   have hm := Hz hR hC
   have e : wrap64 (R * C) = R * C := El (by omega) (by omega)
   rw [e, ← Dw]
   simp only [bC.j0, Dy, bne_iff_ne, ne_eq]
   by_cases hs : (s.size : Int) = R * C
   ·rw [if_neg (not_not_intro hs)]
    exact DT (JU R C s (by omega)) (by simp [DN, hR, hC, hs])
   ·rw [if_pos hs]
    exact DT (Dz _) (by simp [DN, hs])
  ·rw [if_neg hC, ← Dw]
   simp only [bC.j0, if_true]
   exact DT (Dz _) (by simp [DN, hC])
 ·rw [if_neg hR, ← Dw]
  simp only [bC.j0, if_true]
  exact DT (Dz _) (by simp [DN, hR])
theorem Iq {j st : Int} (hj : 0 ≤ j ∧ j ≤ 6) (hs : 1 ≤ st ∧ st ≤ 6) : 0 ≤ j * st ∧ j * st ≤ 36 := by
 have : st = 1 ∨ st = 2 ∨ st = 3 ∨ st = 4 ∨ st = 5 ∨ st = 6 := by omega
 rcases this with rfl | rfl | rfl | rfl | rfl | rfl <;> omega
theorem NR (R C : Int) (s : Oo) (i st p n : Int) (hp : 0 ≤ p ∧ p ≤ 36) (hn : n ≤ 6) (hi : 0 ≤ i ∧ i ≤ 36) (hst : 1 ≤ st ∧ st ≤ 6) (hin : ∀ j, 0 ≤ j → p + j < n → 0 ≤ i + j * st ∧ i + j * st < (s.size : Int)) :
  ∀ (d : Nat) (j : Int), (n - p - j).toNat ≤ d → 0 ≤ j → j ≤ 6 → (∀ j', 0 ≤ j' → j' < j → p + j' < n ∧ bt s (i + j' * st) = 46) →
  ∃ r, Ev (fun k => dh.l0 k i st p n j R C s) r ∧ 0 ≤ r ∧ r ≤ 6 ∧ ∀ j', 0 ≤ j' → j' < r → p + j' < n ∧ bt s (i + j' * st) = 46 := by
 intro d
 induction d with
 | zero =>
  intro j hd h0 h6 hb
  have e1 : wrap64 (p + j) = p + j := El (by omega) (by omega)
  refine ⟨j, ?_, h0, h6, hb⟩
  rw [← Dw]
  simp only [dh.l0, e1]
  rw [en]
  exact Dz _
 | succ d ih =>
  intro j hd h0 h6 hb
  have e1 : wrap64 (p + j) = p + j := El (by omega) (by omega)
  by_cases hc : p + j < n
  ·have hm := Iq (j := j) (st := st) ⟨h0, h6⟩ hst
   have hj := hin j h0 hc
   have e2 : wrap64 (j * st) = j * st := El (by omega) (by omega)
   have e3 : wrap64 (i + j * st) = i + j * st := El (by omega) (by omega)
   have e4 : wrap64 (j + 1) = j + 1 := El (by omega) (by omega)
   by_cases h46 : bt s (i + j * st) = 46
   ·obtain ⟨r, hr, h⟩ := ih (j + 1) (by omega) (by omega) (by omega) (fun j' h1 h2 => by
     by_cases hh : j' = j
     ·rw [hh]; exact ⟨hc, h46⟩
     ·exact hb j' h1 (by omega))
    refine ⟨r, ?_, h⟩
    rw [← Dw]
    simp only [dh.l0, e1, e2, e3, e4]
    rw [ep hc, ep hj.1, ep hj.2, ep h46]
    exact hr
   ·refine ⟨j, ?_, h0, h6, hb⟩
    rw [← Dw]
    simp only [dh.l0, e1, e2, e3, e4]
    rw [ep hc, ep hj.1, ep hj.2, en h46]
    exact Dz _
  ·refine ⟨j, ?_, h0, h6, hb⟩
   rw [← Dw]
   simp only [dh.l0, e1]
   rw [en hc]
   exact Dz _
theorem Oa (R C : Int) (s : Oo) (i st p n : Int) (hp : 0 ≤ p ∧ p ≤ 36) (hn : n ≤ 6) (hi : 0 ≤ i ∧ i ≤ 36) (his : i < (s.size : Int)) (hst : 1 ≤ st ∧ st ≤ 6) (hb : 0 < p → 0 ≤ i - st) (hin : ∀ j, 0 ≤ j → p + j < n → 0 ≤ i + j * st ∧ i + j * st < (s.size : Int)) :
  ∃ r, Ev (fun k => dh.j0 k i st p n R C s) r ∧ 0 ≤ r ∧ r ≤ 6 ∧ ∀ j', 0 ≤ j' → j' < r → p + j' < n ∧ bt s (i + j' * st) = 46 := by
 have hj1 : ∀ b : Bool, ∃ r, Ev (fun k => dh.j1 k i st p n b R C s) r ∧ 0 ≤ r ∧ r ≤ 6 ∧ ∀ j', 0 ≤ j' → j' < r → p + j' < n ∧ bt s (i + j' * st) = 46 := by
  intro b
  cases b with
  | true =>
   refine ⟨0, ?_, by omega, by omega, fun _ _ _ => by omega⟩
   rw [← Dw]
   simp only [dh.j1, if_true]
   exact Dz _
  | false =>
   obtain ⟨r, hr, h⟩ := NR R C s i st p n hp hn hi hst hin _ 0 (nR _) (by omega) (by omega) (fun _ _ _ => by omega)
   refine ⟨r, ?_, h⟩
   rw [← Dw]
   simp only [dh.j1, Bool.false_eq_true, if_false]
   exact hr
 have e1 : wrap64 (i - st) = i - st := El (by omega) (by omega)
 by_cases h46 : bt s i = 46
 ·by_cases hp0 : p > 0
  ·obtain ⟨r, hr, h⟩ := hj1 (bt s (i - st) == 46)
   have := hb hp0
   refine ⟨r, ?_, h⟩
   rw [← Dw]
   simp only [dh.j0, e1]
   rw [ep hi.1, ep his, ep h46, ep hp0, ep this, ep]
   exact hr
  ·obtain ⟨r, hr, h⟩ := hj1 false
   refine ⟨r, ?_, h⟩
   rw [← Dw]
   simp only [dh.j0, e1]
   rw [ep hi.1, ep his, ep h46, en hp0]
   exact hr
 ·obtain ⟨r, hr, h⟩ := hj1 true
  refine ⟨r, ?_, h⟩
  rw [← Dw]
  simp only [dh.j0, e1]
  rw [ep hi.1, ep his, en h46]
  exact hr
theorem NZ {R C : Int} {s : Oo} (hg : DN R C s = true) (i : Nat) (hi : i < s.size) (b : Bool) :
  ∃ r, Ev (fun k => dh.f k R C s i b) r ∧ 0 ≤ r ∧ r ≤ 6 ∧ ∀ j, 0 ≤ j → j < r → 0 ≤ (i : Int) + j * (if b = true then C else 1) ∧ (i : Int) + j * (if b = true then C else 1) < s.size ∧ bt s ((i : Int) + j * (if b = true then C else 1)) = 46 := by
 obtain ⟨hR, hC, hs, _⟩ := Eh hg
 have hm := Hz hR hC
 have e1 : Int.tdiv (i : Int) C = (i : Int) / C := Int.tdiv_eq_ediv_of_nonneg (by omega)
 have e2 : Int.tmod (i : Int) C = (i : Int) % C := Int.tmod_eq_emod_of_nonneg (by omega)
 have hi2 : (i : Int) < R * C := by omega
 have hdiv : 0 ≤ (i : Int) / C ∧ (i : Int) / C ≤ 36 ∧ 0 ≤ (i : Int) % C ∧ (i : Int) % C ≤ 36 ∧ (0 < (i : Int) / C → 0 ≤ (i : Int) - C) ∧ (0 < (i : Int) % C → 0 ≤ (i : Int) - 1)
   ∧ (∀ j, 0 ≤ j → (i : Int) / C + j < R → 0 ≤ (i : Int) + j * C ∧ (i : Int) + j * C < R * C) ∧ (∀ j, 0 ≤ j → (i : Int) % C + j < C → 0 ≤ (i : Int) + j * 1 ∧ (i : Int) + j * 1 < R * C) := by
  rcases JI hC with rfl | rfl | rfl | rfl | rfl <;> exact ⟨by omega, by omega, by omega, by omega, by omega, by omega, fun j h1 h2 => by omega, fun j h1 h2 => by omega⟩
 obtain ⟨d1, d2, d3, d4, d5, d6, d7, d8⟩ := hdiv
 have e3 : wrap64 ((i : Int) / C) = (i : Int) / C := El (by omega) (by omega)
 have hc0 : ¬ C = 0 := by omega
 cases b with
 | true =>
  obtain ⟨r, hr, h0, h6, h⟩ := Oa R C s i C ((i : Int) / C) R ⟨d1, d2⟩ hR.2 (by omega) (by omega) (by omega) d5 (fun j h1 h2 => by rw [hs]; exact d7 j h1 h2)
  refine ⟨r, ?_, h0, h6, fun j h1 h2 => ?_⟩
  ·simp only [dh.f, e1, e3]
   rw [en hc0, ep trivial]
   exact hr
  ·have := h j h1 h2
   have := d7 j h1 this.1
   simp only [if_true]
   omega
 | false =>
  obtain ⟨r, hr, h0, h6, h⟩ := Oa R C s i 1 ((i : Int) % C) C ⟨d3, d4⟩ hC.2 (by omega) (by omega) (by omega) d6 (fun j h1 h2 => by rw [hs]; exact d8 j h1 h2)
  refine ⟨r, ?_, h0, h6, fun j h1 h2 => ?_⟩
  ·simp only [dh.f, e2]
   rw [en hc0, en (by simp)]
   exact hr
  ·have := h j h1 h2
   have := d8 j h1 this.1
   simp only [Bool.false_eq_true, if_false]
   omega
noncomputable def Hl (R C : Int) (s : Oo) (i : Int) (b : Bool) : Int := open Classical in if h : ∃ r, Ev (fun k => dh.f k R C s i b) r then h.choose else 0
theorem Ie {R C : Int} {s : Oo} (hg : DN R C s = true) (i : Nat) (hi : i < s.size) (b : Bool) : Ev (fun k => dh.f k R C s i b) (Hl R C s i b) := by
 obtain ⟨r, hr, _⟩ := NZ hg i hi b
 have hx : ∃ r, Ev (fun k => dh.f k R C s i b) r := ⟨r, hr⟩
 unfold Hl
 rw [dif_pos hx]
 exact hx.choose_spec
theorem ME {R C : Int} {s : Oo} (hg : DN R C s = true) (i : Nat) (hi : i < s.size) (b : Bool) : 0 ≤ Hl R C s i b ∧ Hl R C s i b ≤ 6 ∧ ∀ j, 0 ≤ j → j < Hl R C s i b → 0 ≤ (i : Int) + j * (if b = true then C else 1) ∧ (i : Int) + j * (if b = true then C else 1) < s.size ∧ bt s ((i : Int) + j * (if b = true then C else 1)) = 46 := by
 obtain ⟨r, hr, h⟩ := NZ hg i hi b
 rw [MK (Ie hg i hi b) hr]
 exact h
theorem Ny : ∀ k, (∀ a b c d e f g, fG.j0 k a b c d e f g = dh.j0 k a b c d e f g) ∧ (∀ a b c d x e f g, fG.j1 k a b c d x e f g = dh.j1 k a b c d x e f g) ∧ ∀ a b c d x e f g, fG.l0 k a b c d x e f g = dh.l0 k a b c d x e f g := by
 intro k
 induction k with
 | zero => exact ⟨fun _ _ _ _ _ _ _ => rfl, fun _ _ _ _ _ _ _ _ => rfl, fun _ _ _ _ _ _ _ _ => rfl⟩
 | succ k ih =>
  obtain ⟨h1, h2, h3⟩ := ih
  refine ⟨fun a b c d e f g => ?_, fun a b c d x e f g => ?_, fun a b c d x e f g => ?_⟩
  ·simp only [fG.j0, dh.j0, h2]
  ·simp only [fG.j1, dh.j1, h3]
  ·simp only [fG.l0, dh.l0, h3]
theorem run_eq (k : Nat) (R C : Int) (s : Oo) (i : Int) (b : Bool) : fG.f k R C s i b = dh.f k R C s i b := by
 simp only [fG.f, dh.f, (Ny k).1]
def slA (n i a : Int) : List gu := if a ≥ 2 then [⟨n, false, i, a⟩] else []
def slD (n i d : Int) : List gu := if d ≥ 2 then [⟨n, true, i, d⟩] else []
def Gg (a d n : Int) : Int := if a ≥ 2 ∨ d ≥ 2 then n + 1 else n
def Gc (a d : Int) (i : Nat) (st : List gu × Int) : List gu × Int := ((st.1 ++ slA (Gg a d st.2) i a) ++ slD (Gg a d st.2) i d, Gg a d st.2)
noncomputable def Fg (R C : Int) (s : Oo) (st : List gu × Int) (i : Nat) : List gu × Int := Gc (Hl R C s i false) (Hl R C s i true) i st
noncomputable def slW (R C : Int) (s : Oo) (i : Nat) (st : List gu × Int) : List gu × Int := (List.range' i (s.size - i)).foldl (Fg R C s) st
noncomputable def DC (R C : Int) (s : Oo) : List gu := if DN R C s = true then (slW R C s 0 ([], 0)).1 else []
theorem KR (R C : Int) (s : Oo) (st : List gu × Int) : slW R C s s.size st = st := by simp [slW]
theorem JJ (R C : Int) (s : Oo) (i : Nat) (hi : i < s.size) (st : List gu × Int) : slW R C s i st = slW R C s (i + 1) (Fg R C s st i) := by
 unfold slW
 rw [show s.size - i = (s.size - (i + 1)) + 1 by omega, List.range'_succ]
 rfl
theorem Nz (a d n : Int) : n ≤ Gg a d n ∧ Gg a d n ≤ n + 1 := by unfold Gg; split <;> omega
theorem Mf (a d : Int) (i : Nat) (st : List gu × Int) : (Gc a d i st).1.length ≤ st.1.length + 2 := by
 have h1 : (slA (Gg a d st.2) i a).length ≤ 1 := by unfold slA; split <;> simp
 have h2 : (slD (Gg a d st.2) i d).length ≤ 1 := by unfold slD; split <;> simp
 simp only [Gc, List.length_append]
 omega
def LA (i : Nat) (st : List gu × Int) : Prop := st.1.length ≤ 2 * i ∧ 0 ≤ st.2 ∧ st.2 ≤ i
theorem Ho (R C : Int) (s : Oo) (i : Nat) (st : List gu × Int) (h : LA i st) : LA (i + 1) (Fg R C s st i) := by
 obtain ⟨h1, h2, h3⟩ := h
 have := Mf (Hl R C s i false) (Hl R C s i true) i st
 have := Nz (Hl R C s i false) (Hl R C s i true) st.2
 refine ⟨?_, ?_, ?_⟩
 ·unfold Fg; omega
 ·unfold Fg Gc; dsimp only; omega
 ·unfold Fg Gc; dsimp only; omega
theorem Gi {R C : Int} {s : Oo} (a d : Int) (i : Nat) (hi : i < 36) (l : List gu) (n : Int) (hl : l.length ≤ 72) (r : List gu)
  (hr : Ev (fun k => aM.l0 k ((l ++ slA n i a) ++ slD n i d) n ((i + 1 : Nat) : Int) R C s) r) : Ev (fun k => aM.j3 k l n i a d R C s) r := by
 rw [← Dw]
 simp only [aM.j3, DI (i := i) (by omega), Option.bind_some, Dy]
 by_cases a2 : a ≥ 2 <;> by_cases d2 : d ≥ 2 <;> simp only [slA, slD, a2, d2, if_true, if_false, List.append_nil] at hr ⊢
 ·rw [if_pos (by omega), if_pos (by rw [List.length_append]; simp; omega)]
  exact hr
 ·rw [if_pos (by omega)]
  exact hr
 ·rw [if_pos (by omega)]
  exact hr
 ·exact hr
theorem JN {R C : Int} {s : Oo} (hg : DN R C s = true) : Ev (fun k => aM.l0 k [] 0 0 R C s) (slW R C s 0 ([], 0)).1 := by
 have hsz := DU hg
 refine DY (σ := List gu × Int) (fun k st i => aM.l0 k st.1 st.2 i R C s) s.size LA (fun i st => (slW R C s i st).1) (fun st hst => ?_) (fun i st hi hst => .inr ⟨Fg R C s st i, Ho R C s i st hst, ?_, fun r hr => ?_⟩) 0 ([], 0) (Nat.zero_le _) ⟨by simp, by simp, by simp⟩
 ·rw [KR, ← Dw]
  simp only [aM.l0, Int.lt_irrefl, if_false]
  rw [← Dw]
  simp only [aM.j1, Bool.false_eq_true, if_false]
  exact Dz _
 ·rw [JJ R C s i hi]
 ·obtain ⟨h1, h2, h3⟩ := hst
  have ha := Ie hg i hi false
  have hd := Ie hg i hi true
  unfold Fg Gc at hr
  generalize Hl R C s i false = a at ha hr
  generalize Hl R C s i true = d at hd hr
  have hn1 : wrap64 (st.2 + 1) = st.2 + 1 := El (by omega) (by omega)
  rw [← Dw]
  simp only [aM.l0]
  rw [ep, Dx (Ed R C s), hg, ← Dw]
  simp only [aM.j1, if_true]
  rw [Dx ha, Dx hd, Dy]
  have hj2 : ∀ b : Bool, b = decide (a ≥ 2 ∨ d ≥ 2) → Ev (fun k => aM.j2 k st.1 st.2 i a d b R C s) r := by
   intro b hb
   rw [← Dw]
   simp only [aM.j2, hn1]
   rw [Dy]
   by_cases h : a ≥ 2 ∨ d ≥ 2
   ·rw [if_pos (by rw [hb]; simpa using h)]
    simp only [Gg, if_pos h] at hr
    exact Gi a d i (by omega) st.1 _ (by omega) r hr
   ·rw [if_neg (by rw [hb]; simpa using h)]
    simp only [Gg, if_neg h] at hr
    exact Gi a d i (by omega) st.1 _ (by omega) r hr
  by_cases a2 : a ≥ 2
  ·rw [if_pos a2]
   exact hj2 _ (by simp [a2])
  ·rw [if_neg a2]
   exact hj2 _ (by simp only [a2, false_or])
theorem Ee (R C : Int) (s : Oo) : Ev (fun k => aM.f k R C s) (DC R C s) := by
 unfold DC
 split
 ·rename_i hg
  exact JN hg
 ·rename_i hg
  simp only [aM.f]
  rw [← Dw]
  simp only [aM.l0]
  rw [Bool.not_eq_true] at hg
  have : Ev (fun k => aM.j1 k [] 0 0 false R C s) [] := by
   rw [← Dw]
   simp only [aM.j1, Bool.false_eq_true, if_false]
   exact Dz _
  rw [Dy]
  split
  ·rw [Dx (Ed R C s), hg]
   exact this
  ·exact this
theorem KQ {n i a : Int} {x : gu} (h : x ∈ slA n i a) : x = ⟨n, false, i, a⟩ ∧ a ≥ 2 := by
 unfold slA at h
 split at h
 ·exact ⟨List.mem_singleton.1 h, ‹_›⟩
 ·simp at h
theorem MF {n i a : Int} {x : gu} (h : x ∈ slD n i a) : x = ⟨n, true, i, a⟩ ∧ a ≥ 2 := by
 unfold slD at h
 split at h
 ·exact ⟨List.mem_singleton.1 h, ‹_›⟩
 ·simp at h
def stepOf (C : Int) (x : gu) : Int := if x.f1 = true then C else 1
def NA (C : Int) (s : Oo) (x : gu) : Prop := 0 ≤ x.f2 ∧ x.f2 < s.size ∧ 2 ≤ x.f3 ∧ x.f3 ≤ 6 ∧ ∀ j, 0 ≤ j → j < x.f3 → 0 ≤ x.f2 + j * stepOf C x ∧ x.f2 + j * stepOf C x < s.size ∧ bt s (x.f2 + j * stepOf C x) = 46
theorem Mg {R C : Int} {s : Oo} (hg : DN R C s = true) : ∀ (n i : Nat) (st : List gu × Int), i + n = s.size → LA i st → (∀ x ∈ st.1, NA C s x ∧ x.f2 < i) → st.1.Nodup →
  (∀ x ∈ (slW R C s i st).1, NA C s x) ∧ (slW R C s i st).1.Nodup ∧ (slW R C s i st).1.length ≤ 72 := by
 have hsz := DU hg
 intro n
 induction n with
 | zero =>
  intro i st hi hv hx hnd
  have : i = s.size := by omega
  subst this
  rw [KR]
  exact ⟨fun x h => (hx x h).1, hnd, by have := hv.1; omega⟩
 | succ n ih =>
  intro i st hi hv hx hnd
  rw [JJ R C s i (by omega)]
  have ia := ME hg i (by omega) false
  have id := ME hg i (by omega) true
  refine ih (i + 1) _ (by omega) (Ho R C s i st hv) ?_ ?_
  ·intro x h
   unfold Fg Gc at h
   simp only [List.mem_append] at h
   rcases h with (h | h) | h
   ·have := hx x h
    exact ⟨this.1, by omega⟩
   ·obtain ⟨rfl, h2⟩ := KQ h
    refine ⟨⟨by show (0 : Int) ≤ (i : Int); omega, by show (i : Int) < (s.size : Int); omega, h2, ia.2.1, fun j h1 h3 => ?_⟩, by show (i : Int) < ((i + 1 : Nat) : Int); omega⟩
    have := ia.2.2 j h1 h3
    simpa [stepOf] using this
   ·obtain ⟨rfl, h2⟩ := MF h
    refine ⟨⟨by show (0 : Int) ≤ (i : Int); omega, by show (i : Int) < (s.size : Int); omega, h2, id.2.1, fun j h1 h3 => ?_⟩, by show (i : Int) < ((i + 1 : Nat) : Int); omega⟩
    have := id.2.2 j h1 h3
    simpa [stepOf] using this
  ·unfold Fg Gc
   dsimp only
   rw [List.nodup_append, List.nodup_append]
   refine ⟨⟨hnd, ?_, ?_⟩, ?_, ?_⟩
   ·unfold slA; split <;> simp
   ·intro x h1 y h2 he
    obtain ⟨rfl, _⟩ := KQ h2
    have := (hx x h1).2
    rw [he] at this
    simp at this
   ·unfold slD; split <;> simp
   ·intro x h1 y h2 he
    obtain ⟨rfl, _⟩ := MF h2
    rcases List.mem_append.1 h1 with h1 | h1
    ·have := (hx x h1).2
     rw [he] at this
     simp at this
    ·obtain ⟨rfl, _⟩ := KQ h1
     simp at he
theorem DJ (R C : Int) (s : Oo) : (∀ x ∈ DC R C s, NA C s x) ∧ (DC R C s).Nodup ∧ (DC R C s).length ≤ 72 := by
 unfold DC
 split
 ·rename_i hg
  exact Mg hg s.size 0 ([], 0) (by omega) ⟨by simp, by simp, by simp⟩ (by simp) (by simp)
 ·simp
theorem IQ {R C : Int} {s : Oo} {x : gu} (h : x ∈ DC R C s) : DN R C s = true := by
 unfold DC at h
 split at h
 ·assumption
 ·simp at h
theorem Gf {R C : Int} {s : Oo} (a d : Int) (i : Nat) (hi : i < 36) (l : List gu) (n : Int) (hl : l.length ≤ 72) (r : List gu)
  (hr : Ev (fun k => aX.l0 k ((l ++ slA n i a) ++ slD n i d) n (s.size : Int) ((i + 1 : Nat) : Int) R C s) r) : Ev (fun k => aX.j2 k l n i a d (s.size : Int) i R C s) r := by
 rw [← Dw]
 simp only [aX.j2, DI (i := i) (by omega), Option.bind_some, Dy]
 by_cases a2 : a ≥ 2 <;> by_cases d2 : d ≥ 2 <;> simp only [slA, slD, a2, d2, if_true, if_false, List.append_nil] at hr ⊢
 ·rw [if_pos (by omega), if_pos (by rw [List.length_append]; simp; omega)]
  exact hr
 ·rw [if_pos (by omega)]
  exact hr
 ·rw [if_pos (by omega)]
  exact hr
 ·exact hr
theorem Jy {R C : Int} {s : Oo} (hg : DN R C s = true) : Ev (fun k => aX.l0 k [] 0 (s.size : Int) 0 R C s) (slW R C s 0 ([], 0)).1 := by
 have hsz := DU hg
 refine DY (σ := List gu × Int) (fun k st i => aX.l0 k st.1 st.2 (s.size : Int) i R C s) s.size LA (fun i st => (slW R C s i st).1) (fun st hst => ?_) (fun i st hi hst => .inr ⟨Fg R C s st i, Ho R C s i st hst, ?_, fun r hr => ?_⟩) 0 ([], 0) (Nat.zero_le _) ⟨by simp, by simp, by simp⟩
 ·rw [KR, ← Dw]
  simp only [aX.l0, Int.lt_irrefl, if_false]
  exact Dz _
 ·rw [JJ R C s i hi]
 ·obtain ⟨h1, h2, h3⟩ := hst
  have ha := Ie hg i hi false
  have hd := Ie hg i hi true
  unfold Fg Gc at hr
  generalize Hl R C s i false = a at ha hr
  generalize Hl R C s i true = d at hd hr
  have hn1 : wrap64 (st.2 + 1) = st.2 + 1 := El (by omega) (by omega)
  rw [← Dw]
  simp only [aX.l0, run_eq]
  rw [ep, Dx ha, Dx hd, Dy]
  have hj2 : ∀ b : Bool, b = decide (a ≥ 2 ∨ d ≥ 2) → Ev (fun k => aX.j1 k st.1 st.2 i a d (s.size : Int) i b R C s) r := by
   intro b hb
   rw [← Dw]
   simp only [aX.j1, hn1]
   rw [Dy]
   by_cases h : a ≥ 2 ∨ d ≥ 2
   ·rw [if_pos (by rw [hb]; simpa using h)]
    simp only [Gg, if_pos h] at hr
    exact Gf a d i (by omega) st.1 _ (by omega) r hr
   ·rw [if_neg (by rw [hb]; simpa using h)]
    simp only [Gg, if_neg h] at hr
    exact Gf a d i (by omega) st.1 _ (by omega) r hr
  by_cases a2 : a ≥ 2
  ·rw [if_pos a2]
   exact hj2 _ (by simp [a2])
  ·rw [if_neg a2]
   exact hj2 _ (by simp only [a2, false_or])
theorem Fe (R C : Int) (s : Oo) : Ev (fun k => aX.f k R C s) (DC R C s) := by
 unfold DC aX.f
 rw [Dx (Eu R C s), Dy]
 split
 ·rename_i hg
  exact Jy hg
 ·exact Dz _
def DF (C : Int) (x : gu) : List Int := (List.range x.f3.toNat).map (fun (j : Nat) => x.f2 + (j : Int) * stepOf C x)
theorem DX (C : Int) (x : gu) : (DF C x).length = x.f3.toNat := by simp [DF]
theorem Jh (C : Int) (x : gu) (j : Nat) (h : j < (DF C x).length) : (DF C x)[j] = x.f2 + (j : Int) * stepOf C x := by simp [DF]
theorem EN {C : Int} {s : Oo} {x : gu} (h : NA C s x) : ∀ c ∈ DF C x, 0 ≤ c ∧ c < s.size ∧ bt s c = 46 := by
 intro c hc
 obtain ⟨j, hj, rfl⟩ := List.mem_map.1 hc
 have := List.mem_range.1 hj
 exact h.2.2.2.2 j (by omega) (by omega)
theorem IG {C : Int} (hC : 2 ≤ C ∧ C ≤ 6) (x : gu) : 1 ≤ stepOf C x ∧ stepOf C x ≤ 6 := by unfold stepOf; split <;> omega
theorem Ja {R C : Int} {s : Oo} (hC : 2 ≤ C ∧ C ≤ 6) (x : gu) (hx : 0 ≤ x.f2 ∧ x.f2 ≤ 36 ∧ 0 ≤ x.f3 ∧ x.f3 ≤ 6) (l : List gu) (i : Nat) (hi : i < 4611686018427387903) (acc : List Int) (hacc : acc.length ≤ 100000) (r : List Int)
  (hr : Ev (fun k => bS.l0 k (acc ++ DF C x) l ((i + 1 : Nat) : Int) R C s x.f0 x.f1 x.f2 x.f3) r) : Ev (fun k => bS.l1 k acc l i 0 R C s x.f0 x.f1 x.f2 x.f3) r := by
 have hl := DX C x
 have hst := IG hC x
 refine DY (σ := List Int) (fun k a j => bS.l1 k a l i j R C s x.f0 x.f1 x.f2 x.f3) (DF C x).length (fun j a => a = acc ++ (DF C x).take j) (fun _ _ => r) (fun a ha => ?_) (fun j a hj ha => .inr ⟨a ++ [(DF C x)[j]], ?_, rfl, fun r' hr' => ?_⟩) 0 acc (Nat.zero_le _) (by simp)
 ·rw [List.take_length] at ha
  subst ha
  rw [← Dw]
  simp only [bS.l1, DI (i := i) (by omega)]
  rw [en]
  exact hr
 ·rw [ha, List.take_succ_eq_append_getElem hj, List.append_assoc]
 ·have hal : a.length ≤ 200000 := by rw [ha, List.length_append, List.length_take]; omega
  have hm := Iq (j := (j : Int)) (st := stepOf C x) (by omega) hst
  rw [Jh] at hr'
  rw [← Dw]
  simp only [bS.l1, DI (i := j) (by omega)]
  rw [ep, Dy]
  unfold stepOf at hm hr'
  by_cases hd : x.f1 = true
  ·simp only [hd, if_true] at hm hr' ⊢
   have e1 : wrap64 ((j : Int) * C) = j * C := El (by omega) (by omega)
   have e2 : wrap64 (x.f2 + (j : Int) * C) = x.f2 + j * C := El (by omega) (by omega)
   rw [e1, e2, ep]
   exact hr'
  ·rw [Bool.not_eq_true] at hd
   simp only [hd, Bool.false_eq_true, if_false, Int.mul_one] at hm hr' ⊢
   have e2 : wrap64 (x.f2 + (j : Int)) = x.f2 + j := El (by omega) (by omega)
   rw [e2, ep]
   exact hr'
theorem MO {α β : Type} [DecidableEq α] (l : List α) (x : α) (c : List β) (h : x ∉ l) : l.flatMap (fun y => if y = x then c else []) = [] := by
 rw [List.flatMap_eq_nil_iff]
 intro y hy
 rw [if_neg]
 rintro rfl
 exact h hy
theorem Kr {α β : Type} [DecidableEq α] (x : α) (c : List β) : ∀ l : List α, l.Nodup → x ∈ l → l.flatMap (fun y => if y = x then c else []) = c
 | [], _, h => by cases h
 | y :: l, hn, h => by
  rw [List.nodup_cons] at hn
  rw [List.flatMap_cons]
  by_cases he : y = x
  ·subst he
   rw [if_pos rfl, MO l y c hn.1, List.append_nil]
  ·rw [if_neg he, List.nil_append]
   refine Kr x c l hn.2 ?_
   rcases List.mem_cons.1 h with h | h
   ·exact absurd h.symm he
   ·exact h
theorem Jm {α β : Type} (f : α → List β) (n : Nat) : ∀ l : List α, (∀ x ∈ l, (f x).length ≤ n) → (l.flatMap f).length ≤ n * l.length
 | [], _ => by simp
 | x :: l, h => by
  have h1 := Jm f n l (fun y hy => h y (List.mem_cons_of_mem _ hy))
  have h2 := h x List.mem_cons_self
  rw [List.flatMap_cons, List.length_append, List.length_cons, Nat.mul_succ]
  omega
theorem EW {α β : Type} (f : α → List β) (n i : Nat) (l : List α) (h : ∀ x ∈ l, (f x).length ≤ n) : ((l.take i).flatMap f).length ≤ n * l.length := by
 have h1 := Jm f n (l.take i) (fun x hx => h x (List.mem_of_mem_take hx))
 have h2 : (l.take i).length ≤ l.length := by rw [List.length_take]; omega
 exact Nat.le_trans h1 (Nat.mul_le_mul_left n h2)
theorem EK {R C : Int} {s : Oo} (x : gu) (hx : x ∈ DC R C s) : Ev (fun k => bS.f k R C s x.f0 x.f1 x.f2 x.f3) (DF C x) := by
 obtain ⟨good, hnd, hlen⟩ := DJ R C s
 have hg := IQ hx
 have hC := (Eh hg).2.1
 have hsz := DU hg
 have ok := good x hx
 unfold bS.f
 rw [Dx (Ee R C s)]
 generalize DC R C s = l at hx hnd hlen
 letI : DecidableEq gu := fun _ _ => Classical.propDecidable _
 have hfl : ∀ y ∈ l, (if y = x then DF C x else []).length ≤ 6 := by
  intro y _
  split
  ·rw [DX]; have := ok.2.2.2.1; omega
  ·simp
 refine DT (EG (fun k a i => bS.l0 k a l i R C s x.f0 x.f1 x.f2 x.f3) l (fun y => if y = x then DF C x else []) 0 (fun a => ?_) (fun i hi a ha r hr => ?_)) (Kr x _ l hnd hx)
 ·rw [← Dw]; simp only [bS.l0, Int.lt_irrefl, if_false]; exact Dz _
 ·have hb := EW _ 6 i l hfl
  rw [← Dw]
  simp only [bS.l0, EA l i hi, DI (i := i) (by omega)]
  rw [ep, ep, Dy]
  by_cases he : l[i] = x
  ·simp only [he, if_true] at hr ⊢
   rw [if_neg (by simp)]
   exact Ja hC x ⟨ok.1, by have := ok.2.1; omega, by have := ok.2.2.1; omega, ok.2.2.2.1⟩ l i (by omega) a (by omega) r hr
  ·simp only [he, if_false, List.append_nil] at hr
   rw [if_pos]
   ·exact hr
   ·generalize l[i] = y at he
    obtain ⟨y0, y1, y2, y3⟩ := y
    obtain ⟨x0, x1, x2, x3⟩ := x
    simp only [gu.mk.injEq, not_and] at he
    simp only [Bool.or_eq_true, Bool.not_eq_true', beq_eq_false_iff_ne, ne_eq]
    by_cases h0 : y0 = x0
    ·by_cases h1 : y1 = x1
     ·by_cases h2 : y2 = x2
      ·exact .inr (.inr (.inr (he h0 h1 h2)))
      ·exact .inr (.inr (.inl h2))
     ·exact .inr (.inl h1)
    ·exact .inl h0
theorem JX {R C : Int} {s : Oo} (x : gu) (hx : x ∈ DC R C s) : Ev (fun k => gG.f k R C s x.f0 x.f1 x.f2 x.f3) (DF C x) := by
 obtain ⟨good, hnd, hlen⟩ := DJ R C s
 have hg := IQ hx
 have hC := (Eh hg).2.1
 have hsz := DU hg
 have ok := good x hx
 have hl := DX C x
 have hst := IG hC x
 have q1 := ok.1
 have q2 := ok.2.1
 have q3 := ok.2.2.1
 have q4 := ok.2.2.2.1
 have key : Ev (fun k => gG.j0 k (stepOf C x) x.f0 x.f1 x.f2 x.f3) (DF C x) := by
  rw [← Dw]
  simp only [gG.j0]
  refine DY (σ := List Int) (fun k a j => gG.l0 k (stepOf C x) a x.f3 j x.f0 x.f1 x.f2 x.f3) (DF C x).length (fun j a => a = (DF C x).take j) (fun _ _ => DF C x) (fun a ha => ?_) (fun j a hj ha => .inr ⟨a ++ [(DF C x)[j]], ?_, rfl, fun r' hr' => ?_⟩) 0 [] (Nat.zero_le _) (by simp)
  ·rw [List.take_length] at ha
   subst ha
   rw [← Dw]
   simp only [gG.l0]
   rw [en]
   exact Dz _
  ·rw [ha, List.take_succ_eq_append_getElem hj]
  ·have hal : a.length ≤ 6 := by rw [ha, List.length_take]; omega
   have hm := Iq (j := (j : Int)) (st := stepOf C x) (by omega) hst
   rw [Jh] at hr'
   have e1 : wrap64 ((j : Int) * stepOf C x) = j * stepOf C x := El (by omega) (by omega)
   have e2 : wrap64 (x.f2 + (j : Int) * stepOf C x) = x.f2 + j * stepOf C x := El (by omega) (by omega)
   rw [← Dw]
   simp only [gG.l0, DI (i := j) (by omega), e1, e2]
   rw [ep, ep]
   exact hr'
 unfold gG.f
 unfold stepOf at key
 rw [Dy]
 by_cases hd : x.f1 = true
 ·rw [if_pos hd] at key ⊢
  exact key
 ·rw [if_neg hd] at key ⊢
  exact key
theorem EC (R C : Int) (s : Oo) : Ev (fun k => eT.f k R C s) ((DC R C s).map (DF C)) := by
 obtain ⟨good, hnd, hlen⟩ := DJ R C s
 unfold eT.f
 rw [Dx (Fe R C s)]
 refine DT (EG (fun k a i => eT.l0 k a (DC R C s) ((DC R C s).length : Int) i R C s) (DC R C s) (fun x => [DF C x]) 0 (fun a => ?_) (fun i hi a ha r hr => ?_)) List.map_eq_flatMap.symm
 ·rw [← Dw]; simp only [eT.l0, Int.lt_irrefl, if_false]; exact Dz _
 ·have hb := EW (fun x : gu => [DF C x]) 1 i (DC R C s) (fun _ _ => by simp)
  rw [← Dw]
  simp only [eT.l0, EA _ i hi, DI (i := i) (by omega)]
  rw [ep, ep, ep, Dx (JX _ (gM hi)), ep]
  exact hr
def Fb (c f : Int) : Bool := decide ((c = 35 ↔ f = 35) ∧ (f = 35 ∨ f = 63 ∨ (97 ≤ f ∧ f ≤ 122)))
def DZ (R C : Int) (s f : Oo) : Bool := DN R C s && (decide (f.size = s.size) && (List.range f.size).all (fun i => Fb (bt s i) (bt f i)))
theorem Er {R C : Int} {s f : Oo} (h : DZ R C s f = true) : DN R C s = true ∧ f.size = s.size ∧ ∀ i : Nat, i < f.size → Fb (bt s i) (bt f i) = true := by
 simpa [DZ] using h
theorem Mx {R C : Int} {s : Oo} (hg : DN R C s = true) (i : Nat) (hi : i < s.size) : bt s (i : Int) = 35 ∨ bt s (i : Int) = 46 := by
 rw [EL s i hi]
 exact (Eh hg).2.2.2 _ (gM _)
theorem FW {R C : Int} {s f : Oo} (k i : Nat) (hi : i < f.size) (hs : i < s.size) (h36 : i < 1000) (hc : bt s (i : Int) = 35 ∨ bt s (i : Int) = 46) :
  bW.l0 (k + 1) f i R C s = if Fb (bt s i) (bt f i) = true then bW.l0 k f ((i + 1 : Nat) : Int) R C s else some false := by
 have h1 : (i : Int) < (f.size : Int) := by omega
 have h2 : (0 : Int) ≤ (i : Int) := by omega
 have h3 : (i : Int) < (s.size : Int) := by omega
 simp only [bW.l0, DI (i := i) (by omega), h1, h2, h3, if_true]
 generalize bW.l0 k f ((i + 1 : Nat) : Int) R C s = Y
 generalize bt s (i : Int) = c at hc ⊢
 generalize bt f (i : Int) = x
 simp only [Fb, decide_eq_true_eq]
 repeat' split
 all_goals first | rfl | (exfalso; omega)
theorem Kh {R C : Int} {s f : Oo} (hg : DN R C s = true) (hf : f.size = s.size) : Ev (fun k => bW.l0 k f 0 R C s) ((List.range f.size).all (fun i => Fb (bt s i) (bt f i))) := by
 have hsz := DU hg
 refine Em (fun k i => bW.l0 k f i R C s) (List.range f.size) (fun i => Fb (bt s i) (bt f i)) ?_ (fun i hi hp r hr => ?_) (fun i hi hp => ?_)
 ·rw [← Dw]; simp [bW.l0, Dz]
 ·rw [List.length_range] at hi
  rw [List.getElem_range] at hp
  rw [← Dw]
  simp only [FW _ i hi (by omega) (by omega) (Mx hg i (by omega)), hp, if_true]
  exact hr
 ·rw [List.length_range] at hi
  rw [List.getElem_range] at hp
  rw [← Dw]
  simp only [FW _ i hi (by omega) (by omega) (Mx hg i (by omega)), hp, Bool.false_eq_true, if_false]
  exact Dz _
theorem FD (R C : Int) (s f : Oo) : Ev (fun k => bW.f k R C s f) (DZ R C s f) := by
 unfold bW.f
 rw [Dx (Ed R C s), Dy]
 by_cases hg : DN R C s = true
 ·rw [if_pos hg, ← Dw]
  simp only [bW.j0, Dy, bne_iff_ne, ne_eq]
  by_cases hf : f.size = s.size
  ·rw [if_neg (by omega)]
   exact DT (Kh hg hf) (by simp [DZ, hg, hf])
  ·rw [if_pos (by omega)]
   exact DT (Dz _) (by simp [DZ, hf])
 ·rw [if_neg hg, ← Dw]
  simp only [bW.j0, if_true]
  exact DT (Dz _) (by simp [DZ, hg])
theorem FQ {R C : Int} {s f : Oo} (k i : Nat) (hi : i < f.size) (hs : i < s.size) (h36 : i < 1000) :
  eu.l0 (k + 1) f (f.size : Int) i R C s = if Fb (bt s i) (bt f i) = true then eu.l0 k f (f.size : Int) ((i + 1 : Nat) : Int) R C s else some false := by
 have h1 : (i : Int) < (f.size : Int) := by omega
 have h2 : (0 : Int) ≤ (i : Int) := by omega
 have h3 : (i : Int) < (s.size : Int) := by omega
 simp only [eu.l0, DI (i := i) (by omega), h1, h2, h3, if_true, EO, Option.bind_some, decide_eq_true_eq]
 generalize eu.l0 k f (f.size : Int) ((i + 1 : Nat) : Int) R C s = Y
 generalize bt s (i : Int) = c
 generalize bt f (i : Int) = x
 by_cases he : (c = 35 ↔ x = 35)
 ·have e : ((c == 35) != (x == 35)) = false := by rw [bne_eq_false_iff_eq, Bool.eq_iff_iff, beq_iff_eq, beq_iff_eq]; exact he
  rw [e]
  simp only [Fb, decide_eq_true_eq, Bool.false_eq_true, if_false]
  repeat' split
  all_goals first | rfl | (exfalso; omega)
 ·have e : ((c == 35) != (x == 35)) = true := by
   rw [bne_iff_ne]
   intro q
   rw [Bool.eq_iff_iff, beq_iff_eq, beq_iff_eq] at q
   exact he q
  rw [e, if_pos rfl, if_neg]
  simp only [Fb, decide_eq_true_eq]
  exact fun q => he q.1
theorem JR {R C : Int} {s f : Oo} (hg : DN R C s = true) (hf : f.size = s.size) : Ev (fun k => eu.l0 k f (f.size : Int) 0 R C s) ((List.range f.size).all (fun i => Fb (bt s i) (bt f i))) := by
 have hsz := DU hg
 refine Em (fun k i => eu.l0 k f (f.size : Int) i R C s) (List.range f.size) (fun i => Fb (bt s i) (bt f i)) ?_ (fun i hi hp r hr => ?_) (fun i hi hp => ?_)
 ·rw [← Dw]; simp [eu.l0, Dz]
 ·rw [List.length_range] at hi
  rw [List.getElem_range] at hp
  rw [← Dw]
  simp only [FQ (R := R) (C := C) (s := s) (f := f) _ i hi (by omega) (by omega), hp, if_true]
  exact hr
 ·rw [List.length_range] at hi
  rw [List.getElem_range] at hp
  rw [← Dw]
  simp only [FQ (R := R) (C := C) (s := s) (f := f) _ i hi (by omega) (by omega), hp, Bool.false_eq_true, if_false]
  exact Dz _
theorem Gm (R C : Int) (s f : Oo) : Ev (fun k => eu.f k R C s f) (DZ R C s f) := by
 unfold eu.f
 rw [Dx (Eu R C s), Dy]
 by_cases hg : DN R C s = true
 ·rw [if_pos hg, ← Dw]
  simp only [eu.j0, Dy, bne_iff_ne, ne_eq]
  by_cases hf : f.size = s.size
  ·rw [if_neg (by omega)]
   exact DT (JR hg hf) (by simp [DZ, hg, hf])
  ·rw [if_pos (by omega)]
   exact DT (Dz _) (by simp [DZ, hf])
 ·rw [if_neg hg, ← Dw]
  simp only [eu.j0, if_true]
  exact DT (Dz _) (by simp [DZ, hg])
def Es (f : Oo) (l : List Int) : Oo := strOfNums (l.map (bt f))
theorem II (a b : List Int) : strOfNums (a ++ b) = strOfNums a ++ strOfNums b := by
 refine ByteArray.ext (Array.toList_inj.1 ?_)
 rw [ByteArray.data_append, Array.toList_append, strOfNums_data, strOfNums_data, strOfNums_data, List.map_append]
theorem Ld (f : Oo) (hf : f.size ≤ 1000000) (c : Int) (h0 : 0 ≤ c) (h1 : c < f.size) : f.extract c.toNat (wrap64 (c + 1)).toNat = strOfNums [bt f c] := by
 have e : wrap64 (c + 1) = c + 1 := by unfold wrap64; omega
 have hc : c.toNat < f.size := by omega
 have hd : c.toNat < f.data.toList.length := by rw [Array.length_toList]; exact hc
 refine ByteArray.ext (Array.toList_inj.1 ?_)
 rw [e, show (c + 1).toNat = c.toNat + 1 by omega, strOfNums_data, ByteArray.data_extract, Array.toList_extract]
 have hb : bt f c = ((f.data.toList[c.toNat]).toNat : Int) := by
  unfold bt
  rw [dif_pos hc]
  rfl
 rw [List.extract_eq_drop_take', List.drop_take, List.drop_eq_getElem_cons hd]
 simp [hb]
theorem EP (f : Oo) (l : List Int) : (Es f l).size = l.length := by rw [Es, strOfNums_size, List.length_map]
theorem MZ (f : Oo) (l : List Int) (c : Int) : Es f (l ++ [c]) = Es f l ++ strOfNums [bt f c] := by
 rw [Es, List.map_append, II]; rfl
theorem Hr (f : Oo) (l : List Int) (hl : l.length ≤ 100000) (hf : f.size ≤ 1000000) (hc : ∀ c ∈ l, 0 ≤ c ∧ c < f.size) : Ev (fun k => bf.l0 k f (⟨#[]⟩ : Oo) l 0) (Es f l) := by
 refine DY (σ := Oo) (fun k a i => bf.l0 k f a l i) l.length (fun i a => a = Es f (l.take i)) (fun _ _ => Es f l) (fun a ha => ?_) (fun i a hi ha => .inr ⟨a ++ strOfNums [bt f l[i]], ?_, rfl, fun r hr => ?_⟩) 0 _ (Nat.zero_le _) rfl
 ·rw [List.take_length] at ha
  rw [← Dw]
  simp only [bf.l0, Int.lt_irrefl, if_false, ha]
  exact Dz _
 ·rw [ha, List.take_succ_eq_append_getElem hi, MZ]
 ·have hcc := hc _ (gM hi)
  have hx := Ld f hf l[i] hcc.1 hcc.2
  have ew : wrap64 (l[i] + 1) = l[i] + 1 := by unfold wrap64; omega
  have hz : (strOfNums [bt f l[i]]).size = 1 := by rw [strOfNums_size]; rfl
  have has : a.size ≤ 100000 := by rw [ha, EP, List.length_take]; omega
  rw [← Dw]
  simp only [bf.l0, ET l i hi, DI (i := i) (by omega), hx]
  rw [ep, ep, ep hcc.1, ep, ep, ep]
  exact hr
theorem Fu {R C : Int} {s f : Oo} (hf : DZ R C s f = true) (i : Nat) (hi : i < (DC R C s).length) : Ev (fun k => bf.f k R C s f i) (Es f (DF C (DC R C s)[i])) := by
 obtain ⟨good, hnd, hlen⟩ := DJ R C s
 obtain ⟨hg, hfs, _⟩ := Er hf
 have hsz := DU hg
 have hm := gM hi
 have ok := good _ hm
 have e : wrap64 (((DC R C s).length : Int) - 1) = (DC R C s).length - 1 := El (by omega) (by omega)
 unfold bf.f
 rw [Dx (Ee R C s), Dx (FD R C s f), ep hf]
 simp only [EF, Option.bind_some, e]
 rw [← Dw]
 simp only [bf.j0, EA _ i hi]
 rw [en (by simp; omega), ep, ep, Dx (EK _ hm)]
 exact Hr f _ (by rw [DX]; have := ok.2.2.2.1; omega) (by omega) (fun c hc => by have := EN ok c hc; omega)
theorem ER (f : Oo) (l : List Int) (hl : l.length ≤ 100000) (hc : ∀ c ∈ l, 0 ≤ c ∧ c < f.size) : Ev (fun k => dY.f k f l) (Es f l) := by
 unfold dY.f
 refine DY (σ := List Int) (fun k a i => dY.l0 k f a l (l.length : Int) i) l.length (fun i a => a = (l.take i).map (bt f)) (fun _ _ => Es f l) (fun a ha => ?_) (fun i a hi ha => .inr ⟨a ++ [bt f l[i]], ?_, rfl, fun r hr => ?_⟩) 0 _ (Nat.zero_le _) rfl
 ·rw [List.take_length] at ha
  rw [← Dw]
  simp only [dY.l0, Int.lt_irrefl, if_false, ha]
  exact Dz _
 ·rw [ha, List.take_succ_eq_append_getElem hi, List.map_append]; rfl
 ·have hcc := hc _ (gM hi)
  have has : a.length ≤ 100000 := by rw [ha, List.length_map, List.length_take]; omega
  rw [← Dw]
  simp only [dY.l0, ET l i hi, DI (i := i) (by omega)]
  rw [ep, ep, ep, ep hcc.1, ep hcc.2, ep]
  exact hr
noncomputable def GV (R C : Int) (s f : Oo) : List Oo := if DZ R C s f = true then (DC R C s).map (fun x => Es f (DF C x)) else []
theorem Im (R C : Int) (s f : Oo) : Ev (fun k => gK.f k R C s f) (GV R C s f) := by
 unfold gK.f GV
 rw [Dx (Gm R C s f), Dy]
 split
 ·rename_i hf
  obtain ⟨good, hnd, hlen⟩ := DJ R C s
  obtain ⟨hg, hfs, _⟩ := Er hf
  rw [Dx (EC R C s)]
  have hll : ((DC R C s).map (DF C)).length = (DC R C s).length := List.length_map _
  refine DT (EG (fun k a i => gK.l0 k f a ((DC R C s).map (DF C)) (((DC R C s).map (DF C)).length : Int) i) ((DC R C s).map (DF C)) (fun l => [Es f l]) 0 (fun a => ?_) (fun i hi a ha r hr => ?_)) (by rw [← List.map_eq_flatMap, List.map_map]; rfl)
  ·rw [← Dw]; simp only [gK.l0, Int.lt_irrefl, if_false]; exact Dz _
  ·have hb := EW (fun l : List Int => [Es f l]) 1 i ((DC R C s).map (DF C)) (fun _ _ => by simp)
   have hi' : i < (DC R C s).length := by omega
   have ok := good _ (gM hi')
   have hL : ((DC R C s).map (DF C))[i] = DF C (DC R C s)[i] := List.getElem_map _
   have hr1 := ER f ((DC R C s).map (DF C))[i] (by rw [hL, DX]; have := ok.2.2.2.1; omega) (fun c hc => by rw [hL] at hc; have := EN ok c hc; omega)
   rw [← Dw]
   simp only [gK.l0, LZ _ i hi, DI (i := i) (by omega)]
   rw [ep, ep, ep, Dx hr1, ep]
   exact hr
 ·exact Dz _
theorem Lf {α : Type} (q : α → Bool) (l : List α) : l.flatMap (fun s => if q s = true then [s] else []) = l.filter q := by
 induction l with
 | nil => rfl
 | cons x l ih => rw [List.flatMap_cons, ih, List.filter_cons]; split <;> simp
theorem MN {α β : Type} (f : α → List β) (h : ∀ x, (f x).length ≤ 1) (l : List α) : (l.flatMap f).length ≤ l.length := by
 induction l with
 | nil => simp
 | cons x l ih => have := h x; simp only [List.flatMap_cons, List.length_append, List.length_cons]; omega
theorem Ka (l : List Oo) (p : Nat → Oo → Option Bool) (q : Oo → Bool) (hl : l.length ≤ 8796093022208) (hp : ∀ s ∈ l, Ev (fun k => p k s) (q s)) : Ev (fun k => fK.f k l p) (l.filter q) := by
 rw [← Lf]
 refine EG (fun k x i => fK.l0 k p x l (l.length : Int) i) l (fun s => if q s = true then [s] else []) 0 (fun x => ?_) (fun i hi x hx r hr => ?_)
 ·rw [← Dw]; simp [fK.l0, Dz]
 ·have hx' := MN (fun s => if q s = true then [s] else []) (fun x => by split <;> simp) (l.take i)
  rw [List.length_take] at hx'
  rw [← Dw]
  simp only [fK.l0, Ej ByteArray.empty l i hi, DI (i := i) (by omega)]
  rw [ep, ep, ep, Dx (hp _ (gM hi)), Dy]
  split
  ·rename_i hq
   rw [if_pos hq] at hr
   rw [ep]
   exact hr
  ·rename_i hq
   rw [if_neg hq, List.append_nil] at hr
   exact hr
theorem Nf (R C : Int) (s : Oo) (a : Int) (hs : s.size ≤ 140737488351232) (h0 : 0 ≤ a) (h1 : a ≤ 1048576) : ∃ r, lV.f R C s a = some r ∧ r ≤ 1048576 := by
 unfold lV.f
 rw [El (by omega) (by omega)]
 split
 ·exact ⟨_, rfl, by omega⟩
 ·exact ⟨_, rfl, by omega⟩
def Ep (x : S84) : S70 := ⟨x.f0, x.f1.map toStep⟩
theorem Mk (l : List S84) (hl : l.length ≤ 8796093022208) (hs : ∀ x ∈ l, x.f1.length ≤ 3518437208883) : Ev (fun k => gQ.f k l) (l.map Ep) := by
 unfold gQ.f
 rw [ep, ep]
 refine FU (fun k s i => gQ.l0 k l s i) l Ep z70 (fun s hs => ?_) (fun i hi s hs' r hr => ?_)
 ·rw [← Dw]
  simp [gQ.l0, Dz]
 ·rw [← Dw]
  simp only [gQ.l0, Mc l i hi, DI (i := i) (by omega)]
  rw [ep, ep, Dx (Ng _ _ (hs _ (gM hi))), ep]
  exact hr
theorem LQ (l : List S70) (hl : l.length < 4611686018427387904) (hs : ∀ x ∈ l, x.f1.length < 4611686018427387904) : Ev (fun k => dQ.f k l l) true := by
 unfold dQ.f
 rw [ep rfl]
 refine DT (Em (fun k i => dQ.l0 k l l i) l (fun _ => true) ?_ (fun i hi hp r hr => ?_) (fun i hi hp => by cases hp)) (by simp)
 ·rw [← Dw]; simp [dQ.l0, Dz]
 ·rw [← Dw]
  simp only [dQ.l0, Gb l i hi, DI (i := i) (by omega)]
  rw [ep, ep, ep, Dx (MH _ _ (hs _ (gM hi))), ep rfl]
  exact hr
theorem LG (R C : Int) (s : Oo) (l : List S84) (q : List Int) (e : Int) (hl : l.length ≤ 8796093022208) (hs : ∀ x ∈ l, x.f1.length ≤ 3518437208883) (hq : q.length ≤ 17592186044416) : Ev (fun k => iq.f k R C s l q e) (R, C, s, l.map Ep, q, e) := by
 unfold iq.f
 simp only [lZ.f, Option.bind_some]
 rw [Dx (Mk l hl hs), Dx (Nh q hq)]
 exact Dz _
theorem Lc (R C : Int) (s : Oo) (l : List S70) (q : List Int) (e : Int) (hl : l.length < 4611686018427387904) (hs : ∀ x ∈ l, x.f1.length < 4611686018427387904) (hq : q.length < 4611686018427387904) : Ev (fun k => kN.f k R C s l q e R C s l q e) true := by
 unfold kN.f
 simp only [lS.f, if_true, Option.bind_some]
 rw [Dx (LQ l hl hs), ep rfl, Dx (MI q hq), ep rfl]
 exact Dz _
def Li (s : Oo) : Oo := if DW s = true then s.extract 0 1 else (⟨#[]⟩ : Oo)
theorem JL (s : Oo) : Ev (fun k => kX.f k s) (Li s) := by
 unfold kX.f Li
 rw [Dx (Eb s), Dy]
 split
 ·rename_i h
  have := DV h
  rw [ep, ep]
  exact Dz _
 ·exact Dz _
theorem Ju (s : Oo) : Ev (fun k => kW.f k s) (Li s) := by
 unfold kW.f Li
 rw [Dx (Ea s), Dy]
 split
 ·rename_i h
  have := DV h
  rw [ep, ep]
  exact Dz _
 ·exact Dz _
theorem Mh (a b : List Int) : strOfNums (a ++ b) = strOfNums a ++ strOfNums b := by
 refine ByteArray.ext (Array.toList_inj.1 ?_)
 rw [ByteArray.data_append, Array.toList_append, strOfNums_data, strOfNums_data, strOfNums_data, List.map_append]
theorem Jk (s : Oo) (i : Nat) (h : i < s.size) : s.extract i (i + 1) = strOfNums [(bytesOf s)[i]'(by rw [bytesOf_length]; exact h)] := by
 have hd : i < s.data.toList.length := by rw [Array.length_toList]; exact h
 refine ByteArray.ext (Array.toList_inj.1 ?_)
 rw [strOfNums_data, ByteArray.data_extract, Array.toList_extract, List.extract_eq_drop_take', List.drop_take, List.drop_eq_getElem_cons hd]
 simp [bytesOf]
def IZ (s : Oo) : Oo := strOfNums (bytesOf s).reverse
theorem Gx (s : Oo) : (IZ s).size = s.size := by rw [IZ, strOfNums_size, List.length_reverse, bytesOf_length]
theorem FL (s : Oo) (hs : s.size ≤ 100) : Ev (fun k => fC.f k s) (IZ s) := by
 unfold fC.f
 refine DY (σ := Oo) (fun k a i => fC.l0 k s a i) s.size (fun i a => a = strOfNums ((bytesOf s).take i).reverse) (fun _ _ => IZ s) (fun a ha => ?_) (fun i a hi ha => ?_) 0 _ (Nat.zero_le _) rfl
 ·rw [List.take_of_length_le (by rw [bytesOf_length]; exact nR _)] at ha
  rw [← Dw]
  simp only [fC.l0, Int.lt_irrefl, if_false, ha]
  exact Dz _
 ·have hb : i < (bytesOf s).length := by rw [bytesOf_length]; exact hi
  refine .inr ⟨strOfNums [(bytesOf s)[i]] ++ a, ?_, rfl, fun r hr => ?_⟩
  ·rw [List.take_succ_eq_append_getElem hb, List.reverse_append, Mh, ha]
   rfl
  ·have h1 : (strOfNums [(bytesOf s)[i]]).size = 1 := by rw [strOfNums_size]; rfl
   have h2 : a.size ≤ 100 := by rw [ha, strOfNums_size, List.length_reverse, List.length_take]; omega
   rw [← Dw]
   simp only [fC.l0, DI (i := i) (by omega), Int.toNat_natCast, Jk s i hi]
   rw [ep, ep, ep, ep, ep, ep]
   exact hr
theorem FH (s : Oo) (hs : s.size ≤ 100) : iF.f s = some (IZ s) := by
 unfold iF.f IZ
 rw [if_pos hs]
def Kz (s : Oo) : Oo := strOfNums ((bytesOf s).mergeSort (fun x y => decide (x ≤ y)))
def bucket (xs : List Int) (c : Nat) : List Int := xs.filter (fun b => decide (b = 97 + (c : Int)))
theorem Hw (xs : List Int) (a : Int) : ∀ n : Nat, List.count a ((List.range n).flatMap (bucket xs)) = if 97 ≤ a ∧ a < 97 + (n : Int) then List.count a xs else 0
 | 0 => by rw [if_neg (by omega)]; rfl
 | n + 1 => by
  rw [List.range_succ, List.flatMap_append, List.count_append, Hw xs a n]
  have hb : List.count a (([n] : List Nat).flatMap (bucket xs)) = if a = 97 + (n : Int) then List.count a xs else 0 := by
   simp only [List.flatMap_cons, List.flatMap_nil, List.append_nil, bucket]
   split
   ·rename_i h
    exact List.count_filter (by simpa using h)
   ·rename_i h
    refine List.count_eq_zero.2 (fun hm => h ?_)
    have := (List.mem_filter.1 hm).2
    simpa using this
  rw [hb]
  by_cases h1 : a = 97 + (n : Int)
  ·rw [if_pos h1, if_neg (by omega), if_pos (by omega)]
   omega
  ·rw [if_neg h1]
   by_cases h2 : 97 ≤ a ∧ a < 97 + (n : Int)
   ·rw [if_pos h2, if_pos (by omega)]
    omega
   ·rw [if_neg h2, if_neg (by omega)]
theorem JO (xs : List Int) (h : ∀ x ∈ xs, 97 ≤ x ∧ x ≤ 122) : (List.range 26).flatMap (bucket xs) = xs.mergeSort (fun x y => decide (x ≤ y)) := by
 have hperm : ((List.range 26).flatMap (bucket xs)).Perm xs := by
  rw [List.perm_iff_count]
  intro a
  rw [Hw]
  split
  ·rfl
  ·rename_i hn
   refine (List.count_eq_zero.2 (fun hm => hn ?_)).symm
   have := h a hm
   omega
 refine List.Perm.eq_of_pairwise (le := fun x y => decide (x ≤ y) = true) ?_ ?_ ?_ (hperm.trans (List.mergeSort_perm _ _).symm)
 ·intro a b _ _ h1 h2
  have h1 := of_decide_eq_true h1
  have h2 := of_decide_eq_true h2
  omega
 ·rw [List.pairwise_flatMap]
  refine ⟨fun c _ => ?_, ?_⟩
  ·rw [List.pairwise_iff_getElem]
   intro i j hi hj _
   have e1 := (List.mem_filter.1 (gM hi)).2
   have e2 := (List.mem_filter.1 (gM hj)).2
   have e1 := of_decide_eq_true e1
   have e2 := of_decide_eq_true e2
   exact dT (by omega)
  ·refine List.Pairwise.imp ?_ (List.pairwise_lt_range (n := 26))
   intro a b hab x hx y hy
   have e1 := of_decide_eq_true (List.mem_filter.1 hx).2
   have e2 := of_decide_eq_true (List.mem_filter.1 hy).2
   exact dT (by omega)
 ·refine List.pairwise_mergeSort ?_ ?_ _
  ·intro a b c h1 h2
   have h1 := of_decide_eq_true h1
   have h2 := of_decide_eq_true h2
   exact dT (by omega)
  ·intro a b
   by_cases h : a ≤ b
   ·simp [h]
   ·have : b ≤ a := by omega
    simp [this]
theorem Fv (s : Oo) (hw : DW s = true) : Ev (fun k => bB.f k s) (Kz s) := by
 have hsz := DV hw
 have hlet := Jz hw
 have hlen : (bytesOf s).length = s.size := bytesOf_length s
 unfold bB.f Kz
 rw [← JO (bytesOf s) hlet]
 have hinner : ∀ (c : Nat) (a : Oo) (r : Oo), c < 26 → a.size ≤ 1000 → Ev (fun k => bB.l0 k s (a ++ strOfNums (bucket (bytesOf s) c)) (97 + ((c + 1 : Nat) : Int))) r → Ev (fun k => bB.l1 k s a (97 + (c : Int)) 0) r := by
  intro c a r hc ha hr
  refine DY (σ := Oo) (fun k b j => bB.l1 k s b (97 + (c : Int)) j) s.size (fun j b => b = a ++ strOfNums (bucket ((bytesOf s).take j) c)) (fun _ _ => r) (fun b hb => ?_) (fun j b hj hb => ?_) 0 _ (Nat.zero_le _) (by simp [bucket, strOfNums]; exact (ByteArray.append_empty (b := a)).symm)
  ·rw [List.take_of_length_le (by omega)] at hb
   have e : wrap32 (97 + (c : Int) + 1) = 97 + ((c + 1 : Nat) : Int) := by unfold wrap32; omega
   rw [← Dw]
   simp only [bB.l1, e, Int.lt_irrefl, if_false, hb]
   exact hr
  ·have hj' : j < (bytesOf s).length := by omega
   have hx := hlet _ (gM hj')
   have hsb : b.size ≤ 1000 + j := by
    rw [hb, ByteArray.size_append, strOfNums_size, bucket]
    have := List.length_filter_le (fun b => decide (b = 97 + (c : Int))) ((bytesOf s).take j)
    rw [List.length_take] at this
    omega
   have e : wrap32 (bt s (j : Int)) = (bytesOf s)[j] := by rw [EL s j hj]; unfold wrap32; omega
   have htk : bucket ((bytesOf s).take (j + 1)) c = bucket ((bytesOf s).take j) c ++ (if (bytesOf s)[j] = 97 + (c : Int) then [(bytesOf s)[j]] else []) := by
    rw [List.take_succ_eq_append_getElem hj', bucket, bucket, List.filter_append, List.filter_cons, List.filter_nil]
    simp only [decide_eq_true_eq]
   refine .inr ⟨a ++ strOfNums (bucket ((bytesOf s).take (j + 1)) c), rfl, rfl, fun q hq => ?_⟩
   rw [← Dw]
   simp only [bB.l1, e, DI (i := j) (by omega), Int.toNat_natCast, Jk s j hj]
   rw [ep, ep, Dy]
   rw [htk, Mh, ← ByteArray.append_assoc, ← hb] at hq
   split
   ·rename_i h1
    rw [if_pos h1] at hq
    rw [ep, ep, ep (by rw [strOfNums_size]; simp; omega)]
    exact hq
   ·rename_i h1
    rw [if_neg h1, show strOfNums ([] : List Int) = ByteArray.empty from rfl, ByteArray.append_empty] at hq
    exact hq
 refine DY (σ := Oo) (fun k a i => bB.l0 k s a (97 + i)) 26 (fun i a => a = strOfNums ((List.range i).flatMap (bucket (bytesOf s))) ∧ a.size ≤ 8 * i) (fun _ _ => strOfNums ((List.range 26).flatMap (bucket (bytesOf s)))) (fun a ha => ?_) (fun i a hi ha => ?_) 0 _ (Nat.zero_le _) ⟨rfl, nR _⟩
 ·rw [← Dw]
  simp only [bB.l0]
  rw [en, ← Dw]
  simp only [bB.j1, Bool.false_eq_true, if_false, ha.1]
  exact Dz _
 ·have hbl : (bucket (bytesOf s) i).length ≤ 8 := by
   rw [bucket]
   have := List.length_filter_le (fun b => decide (b = 97 + (i : Int))) (bytesOf s)
   omega
  refine .inr ⟨a ++ strOfNums (bucket (bytesOf s) i), ⟨?_, ?_⟩, rfl, fun r hr => ?_⟩
  ·rw [List.range_succ, List.flatMap_append, Mh, ← ha.1]
   simp only [List.flatMap_cons, List.flatMap_nil, List.append_nil]
  ·have := ha.2
   rw [ByteArray.size_append, strOfNums_size]
   omega
  ·rw [← Dw]
   simp only [bB.l0]
   rw [ep, Dx (Eb s), hw, ← Dw]
   simp only [bB.j1, if_true]
   exact hinner i a r hi (by have := ha.2; omega) hr
theorem Fj (s : Oo) (hw : DW s = true) : Ev (fun k => jc.f k s) (Kz s) := by
 have hsz := DV hw
 unfold jc.f Kz
 rw [Dx (Ea s), hw, ep rfl, ep, Go.Proofs.YtikmdgmnhbodjaaGreat.HandSort.Nc]
 exact Dz _
def JG (a b : Oo) : Bool := if DW a = true then (if DW b = true then (if a = b then false else decide (Kz a = Kz b)) else false) else false
theorem Gt (a b : Oo) : Ev (fun k => iV.f k a b) (JG a b) := by
 unfold iV.f JG
 rw [Dx (Eb a), Dy]
 split
 ·rename_i h1
  rw [Dx (Eb b), Dy]
  split
  ·rename_i h2
   simp only [toList_eq, Dy]
   split
   ·exact Dz _
   ·rw [Dx (Fv a h1), Dx (Fv b h2), En]
    exact Dz _
  ·exact Dz _
 ·exact Dz _
theorem Gp (a b : Oo) : Ev (fun k => iU.f k a b) (JG a b) := by
 unfold iU.f JG
 rw [Dx (Ea a), Dy]
 split
 ·rename_i h1
  rw [Dx (Ea b), Dy]
  split
  ·rename_i h2
   simp only [toList_eq, Dy]
   split
   ·exact Dz _
   ·rw [Dx (Fj a h1), Dx (Fj b h2), En]
    exact Dz _
  ·exact Dz _
 ·exact Dz _
def Ia (s : Oo) : Oo := if DW s = true then s.extract 1 s.size else (⟨#[]⟩ : Oo)
theorem GN (s : Oo) : Ev (fun k => jf.f k s) (Ia s) := by
 unfold jf.f Ia
 rw [Dx (Eb s), Dy]
 split
 ·rename_i h
  have := DV h
  rw [ep]
  exact Dz _
 ·exact Dz _
theorem GH (s : Oo) : Ev (fun k => jd.f k s) (Ia s) := by
 unfold jd.f Ia
 rw [Dx (Ea s), Dy]
 split
 ·rename_i h
  have := DV h
  rw [ep]
  exact Dz _
 ·exact Dz _
def Ib (s : Oo) : Oo := if DW s = true then s.extract 0 (s.size - 1) else (⟨#[]⟩ : Oo)
theorem GQ (s : Oo) : Ev (fun k => jg.f k s) (Ib s) := by
 unfold jg.f Ib
 rw [Dx (Eb s), Dy]
 split
 ·rename_i h
  have := DV h
  have e : wrap64 ((s.size : Int) - 1) = ((s.size - 1 : Nat) : Int) := by rw [El (by omega) (by omega)]; omega
  rw [e, ep, ep]
  exact Dz _
 ·exact Dz _
theorem GI (s : Oo) : Ev (fun k => je.f k s) (Ib s) := by
 unfold je.f Ib
 rw [Dx (Ea s), Dy]
 split
 ·rename_i h
  have := DV h
  have e : wrap64 ((s.size : Int) - 1) = ((s.size - 1 : Nat) : Int) := by rw [El (by omega) (by omega)]; omega
  rw [e, ep, ep]
  exact Dz _
 ·exact Dz _
theorem FJ (L : Nat → Int → Option Bool) (n b : Nat) (f : Nat → Bool) (R : Bool) (hend : ∀ i : Nat, n ≤ i → i ≤ n + b → Ev (fun k => L k (i : Int)) R)
  (hstep : ∀ i : Nat, b ≤ i → i < n → ∀ r, Ev (fun k => L k ((i + 1 : Nat) : Int)) r → Ev (fun k => L k (i : Int)) (f i || r)) : ∀ a : Nat, b ≤ a → a ≤ n + b → Ev (fun k => L k (a : Int)) ((List.range' a (n - a)).any f || R) := by
 have key : ∀ d a : Nat, n - a = d → b ≤ a → a ≤ n + b → Ev (fun k => L k (a : Int)) ((List.range' a d).any f || R) := by
  intro d
  induction d with
  | zero =>
   intro a h hb ha
   exact DT (hend a (by omega) ha) (by simp)
  | succ d ih =>
   intro a h hb ha
   have := hstep a hb (by omega) _ (ih (a + 1) (by omega) (by omega) (by omega))
   rw [List.range'_succ, List.any_cons, Bool.or_assoc]
   exact this
 intro a hb ha
 exact key _ a rfl hb ha
def HY (p w : Oo) : Bool := if DW p = true then (if DW w = true then (List.range' 1 (w.size - p.size - 1)).any (fun i => decide (w.extract i (i + p.size) = p)) else false) else false
theorem Iw (p w : Oo) : Ev (fun k => dX.f k p w) (HY p w) := by
 unfold dX.f HY
 rw [Dx (Eb p), Dy]
 split
 ·rename_i h1
  rw [Dx (Eb w), ← Dw]
  simp only [dX.j0]
  rw [Dy]
  by_cases h2 : DW w = true
  ·have s1 := DV h1
   have s2 := DV h2
   rw [if_neg (by rw [h2]; decide), if_pos h2]
   have e : ∀ i : Nat, i ≤ 20 → wrap64 ((i : Int) + (p.size : Int)) = ((i + p.size : Nat) : Int) := fun i hi => by rw [El (by omega) (by omega)]; omega
   refine DT (FJ (fun k i => dX.l0 k p w i) (w.size - p.size) 1 _ false (fun i hi hi' => ?_) (fun i hb hi r hr => ?_) 1 (nR _) (by omega)) (by rw [Bool.or_false])
   ·rw [← Dw]
    simp only [dX.l0, e i (by omega)]
    rw [en]
    exact Dz _
   ·rw [← Dw]
    simp only [dX.l0, e i (by omega), DI (i := i) (by omega), Int.toNat_natCast, toList_eq]
    rw [ep, ep, ep, ep, Dy]
    split
    ·rename_i h3
     rw [decide_eq_true h3, Bool.true_or]
     exact Dz _
    ·rename_i h3
     rw [decide_eq_false h3, Bool.false_or]
     exact hr
  ·rw [if_pos (by simpa using h2), if_neg h2]
   exact Dz _
 ·rw [← Dw]
  simp only [dX.j0, if_true]
  exact Dz _
theorem Ik (p w : Oo) : Ev (fun k => dW.f k p w) (HY p w) := by
 unfold dW.f HY
 rw [Dx (Ea p), Dy]
 split
 ·rename_i h1
  rw [Dx (Ea w), ← Dw]
  simp only [dW.j0]
  rw [Dy]
  by_cases h2 : DW w = true
  ·have s1 := DV h1
   have s2 := DV h2
   rw [if_neg (by rw [h2]; decide), if_pos h2]
   have e : ∀ i : Nat, i ≤ 20 → wrap64 ((i : Int) + (p.size : Int)) = ((i + p.size : Nat) : Int) := fun i hi => by rw [El (by omega) (by omega)]; omega
   refine DT (FJ (fun k i => dW.l0 k p w i) (w.size - p.size) 1 _ false (fun i hi hi' => ?_) (fun i hb hi r hr => ?_) 1 (nR _) (by omega)) (by rw [Bool.or_false])
   ·rw [← Dw]
    simp only [dW.l0, e i (by omega)]
    rw [en]
    exact Dz _
   ·rw [← Dw]
    simp only [dW.l0, e i (by omega), DI (i := i) (by omega), Int.toNat_natCast, toList_eq]
    rw [ep, ep, ep, ep, Dy]
    split
    ·rename_i h3
     rw [decide_eq_true h3, Bool.true_or]
     exact Dz _
    ·rename_i h3
     rw [decide_eq_false h3, Bool.false_or]
     exact hr
  ·rw [if_pos (by simpa using h2), if_neg h2]
   exact Dz _
 ·rw [← Dw]
  simp only [dW.j0, if_true]
  exact Dz _
theorem KF {Q : Nat → Nat → Prop} (n : Nat) (h : ∀ p, p < n → ∃ K, ∀ k, K ≤ k → Q p k) : ∃ K, ∀ p, p < n → ∀ k, K ≤ k → Q p k := by
 induction n with
 | zero => exact ⟨0, fun p hp => absurd hp (Nat.not_lt_zero _)⟩
 | succ n ih =>
  obtain ⟨K, hK⟩ := ih (fun p hp => h p (by omega))
  obtain ⟨K', hK'⟩ := h n (by omega)
  refine ⟨max K K', fun p hp k hk => ?_⟩
  by_cases e : p = n
  ·subst e
   exact hK' k (by omega)
  ·exact hK p (by omega) k (by omega)
theorem MV (M M' : Nat → List bY → Int → Oo → Option Bool) (l : List bY) (s : Oo) (a0 : Int) (a1 : Oo) (a2 a3 : Int) (hs : s.size ≤ 100)
  (h : ∀ j p, 1 ≤ p → p < s.size → M j l a2 (s.extract 0 p) = M' j l a2 (s.extract 0 p) ∧ M j l a3 (s.extract p s.size) = M' j l a3 (s.extract p s.size)) :
  ∀ (k x : Nat), 1 ≤ x → x ≤ 100 → dI.l0 M k l s (x : Int) a0 a1 a2 a3 = dI.l0 M' k l s (x : Int) a0 a1 a2 a3 := by
 intro k
 induction k with
 | zero => intro x _ _; rfl
 | succ k ih =>
  intro x h1 h2
  simp only [dI.l0]
  by_cases hx : (x : Int) < (s.size : Int)
  ·have hp := h k x h1 (by omega)
   simp only [DI (i := x) (by omega), Int.toNat_natCast, hp.1, hp.2, ih (x + 1) (by omega) (by omega)]
  ·rw [if_neg hx, if_neg hx]
theorem Je (l : List bY) (s : Oo) (a0 : Int) (a1 : Oo) (a2 a3 : Int) (f g : Oo → Bool) (hs : s.size ≤ 8) (h1 : 1 ≤ s.size)
  (hf : ∀ p, 1 ≤ p → p < s.size → Ev (fun k => fM.f k l a2 (s.extract 0 p)) (f (s.extract 0 p)))
  (hg : ∀ p, 1 ≤ p → p < s.size → Ev (fun k => fM.f k l a3 (s.extract p s.size)) (g (s.extract p s.size))) :
  Ev (fun k => dI.f (fun _ => fM.f k) k l a0 a1 a2 a3 s) ((List.range' 1 (s.size - 1)).any (fun p => f (s.extract 0 p) && g (s.extract p s.size))) := by
 obtain ⟨K, hK⟩ := KF (Q := fun p k => 1 ≤ p → fM.f k l a2 (s.extract 0 p) = some (f (s.extract 0 p)) ∧ fM.f k l a3 (s.extract p s.size) = some (g (s.extract p s.size))) s.size (fun p hp => by
  by_cases h : 1 ≤ p
  ·obtain ⟨K1, k1⟩ := hf p h hp
   obtain ⟨K2, k2⟩ := hg p h hp
   exact ⟨max K1 K2, fun k hk _ => ⟨k1 k (by omega), k2 k (by omega)⟩⟩
  ·exact ⟨0, fun _ _ h' => absurd h' h⟩)
 let M' : Nat → List bY → Int → Oo → Option Bool := fun _ => fM.f K
 have hM' : ∀ p, 1 ≤ p → p < s.size → M' 0 l a2 (s.extract 0 p) = some (f (s.extract 0 p)) ∧ M' 0 l a3 (s.extract p s.size) = some (g (s.extract p s.size)) := fun p h hp => hK p hp K (nR _) h
 have hev : Ev (fun k => dI.l0 M' k l s 1 a0 a1 a2 a3) ((List.range' 1 (s.size - 1)).any (fun p => f (s.extract 0 p) && g (s.extract p s.size))) := by
  refine DT (FJ (fun k i => dI.l0 M' k l s i a0 a1 a2 a3) s.size 1 _ false (fun i hi hi' => ?_) (fun i hb hi r hr => ?_) 1 (nR _) (by omega)) (by rw [Bool.or_false])
  ·rw [← Dw]
   simp only [dI.l0]
   rw [en]
   exact Dz _
  ·have hm := hM' i hb hi
   have hm1 : ∀ k, M' k l a2 (s.extract 0 i) = some (f (s.extract 0 i)) := fun k => hm.1
   have hm2 : ∀ k, M' k l a3 (s.extract i s.size) = some (g (s.extract i s.size)) := fun k => hm.2
   rw [← Dw]
   simp only [dI.l0, DI (i := i) (by omega), Int.toNat_natCast, hm1, hm2, Option.bind_some]
   rw [ep, ep, ep, Dy]
   split
   ·rename_i h3
    rw [h3, Bool.true_and, Dy]
    split
    ·rename_i h4
     rw [h4, Bool.true_or]
     exact Dz _
    ·rename_i h4
     rw [Bool.not_eq_true] at h4
     rw [h4, Bool.false_or]
     exact hr
   ·rename_i h3
    rw [Bool.not_eq_true] at h3
    rw [h3, Bool.false_and, Bool.false_or]
    exact hr
 obtain ⟨K2, hK2⟩ := hev
 refine ⟨max K K2, fun k hk => ?_⟩
 show dI.l0 _ k l s 1 a0 a1 a2 a3 = _
 have := MV (fun _ => fM.f k) M' l s a0 a1 a2 a3 (by omega) (fun j p h hp => by
  have e1 := hK p hp k (by omega) h
  have e2 := hM' p h hp
  exact ⟨e1.1.trans e2.1.symm, e1.2.trans e2.2.symm⟩) k 1 (nR _) (by omega)
 rw [show ((1 : Nat) : Int) = 1 from rfl] at this
 rw [this]
 exact hK2 k (by omega)
theorem NQ (M M' : Nat → List bY → Int → Oo → Option Bool) (l : List bY) (s : Oo) (a0 : Int) (a1 : Oo) (a2 a3 : Int) (hs : s.size ≤ 100)
  (h : ∀ j p q, 1 ≤ p → p < q → q < s.size → M j l a3 (s.extract p q) = M' j l a3 (s.extract p q) ∧ M j l a2 (s.extract 0 p ++ s.extract q s.size) = M' j l a2 (s.extract 0 p ++ s.extract q s.size)) :
  ∀ k : Nat, (∀ x : Nat, 1 ≤ x → x ≤ 100 → dH.l0 M k l s (x : Int) a0 a1 a2 a3 = dH.l0 M' k l s (x : Int) a0 a1 a2 a3) ∧ (∀ x y : Nat, 1 ≤ x → x < y → x ≤ 100 → y ≤ 102 → dH.l1 M k l s (x : Int) (y : Int) a0 a1 a2 a3 = dH.l1 M' k l s (x : Int) (y : Int) a0 a1 a2 a3) := by
 intro k
 induction k with
 | zero => exact ⟨fun x _ _ => by simp only [dH.l0], fun x y _ _ _ _ => by simp only [dH.l1]⟩
 | succ k ih =>
  refine ⟨fun x h1 h2 => ?_, fun x y h1 h2 h3 h4 => ?_⟩
  ·simp only [dH.l0, DI (i := x) (by omega)]
   by_cases hx : (x : Int) < (s.size : Int)
   ·rw [if_pos hx, if_pos hx, ih.2 x (x + 1) h1 (by omega) h2 (by omega)]
   ·rw [if_neg hx, if_neg hx]
  ·simp only [dH.l1, DI (i := x) (by omega), DI (i := y) (by omega), Int.toNat_natCast]
   by_cases hy : (y : Int) < (s.size : Int)
   ·have hp := h k x y h1 h2 (by omega)
    simp only [hp.1, hp.2, ih.2 x (y + 1) h1 (by omega) h3 (by omega)]
    rw [if_pos hy, if_pos hy]
   ·rw [if_neg hy, if_neg hy]
    by_cases hx : x + 1 ≤ 100
    ·exact ih.1 (x + 1) (by omega) hx
    ·cases k with
     | zero => simp only [dH.l0]
     | succ k =>
      simp only [dH.l0]
      rw [if_neg (by omega), if_neg (by omega)]
theorem Kk (l : List bY) (s : Oo) (a0 : Int) (a1 : Oo) (a2 a3 : Int) (f g : Oo → Bool) (hs : s.size ≤ 8) (h1 : 1 ≤ s.size)
  (hg : ∀ p q, 1 ≤ p → p < q → q < s.size → Ev (fun k => fM.f k l a3 (s.extract p q)) (g (s.extract p q)))
  (hf : ∀ p q, 1 ≤ p → p < q → q < s.size → Ev (fun k => fM.f k l a2 (s.extract 0 p ++ s.extract q s.size)) (f (s.extract 0 p ++ s.extract q s.size))) :
  Ev (fun k => dH.f (fun _ => fM.f k) k l a0 a1 a2 a3 s) ((List.range' 1 (s.size - 1)).any (fun p => (List.range' (p + 1) (s.size - (p + 1))).any (fun q => g (s.extract p q) && f (s.extract 0 p ++ s.extract q s.size)))) := by
 obtain ⟨K, hK⟩ := KF (Q := fun p k => ∀ q, q < s.size → 1 ≤ p → p < q → fM.f k l a3 (s.extract p q) = some (g (s.extract p q)) ∧ fM.f k l a2 (s.extract 0 p ++ s.extract q s.size) = some (f (s.extract 0 p ++ s.extract q s.size))) s.size (fun p hp => by
  obtain ⟨K, hK⟩ := KF (Q := fun q k => 1 ≤ p → p < q → fM.f k l a3 (s.extract p q) = some (g (s.extract p q)) ∧ fM.f k l a2 (s.extract 0 p ++ s.extract q s.size) = some (f (s.extract 0 p ++ s.extract q s.size))) s.size (fun q hq => by
   by_cases h : 1 ≤ p ∧ p < q
   ·obtain ⟨K1, k1⟩ := hg p q h.1 h.2 hq
    obtain ⟨K2, k2⟩ := hf p q h.1 h.2 hq
    exact ⟨max K1 K2, fun k hk _ _ => ⟨k1 k (by omega), k2 k (by omega)⟩⟩
   ·exact ⟨0, fun _ _ h' h'' => absurd ⟨h', h''⟩ h⟩)
  exact ⟨K, fun k hk q hq => hK q hq k hk⟩)
 let M' : Nat → List bY → Int → Oo → Option Bool := fun _ => fM.f K
 have hM' : ∀ p q, 1 ≤ p → p < q → q < s.size → M' 0 l a3 (s.extract p q) = some (g (s.extract p q)) ∧ M' 0 l a2 (s.extract 0 p ++ s.extract q s.size) = some (f (s.extract 0 p ++ s.extract q s.size)) := fun p q h h' hq => hK p (by omega) K (nR _) q hq h h'
 have hev : Ev (fun k => dH.l0 M' k l s 1 a0 a1 a2 a3) ((List.range' 1 (s.size - 1)).any (fun p => (List.range' (p + 1) (s.size - (p + 1))).any (fun q => g (s.extract p q) && f (s.extract 0 p ++ s.extract q s.size)))) := by
  refine DT (FJ (fun k i => dH.l0 M' k l s i a0 a1 a2 a3) s.size 1 _ false (fun i hi hi' => ?_) (fun i hb hi r hr => ?_) 1 (nR _) (by omega)) (by rw [Bool.or_false])
  ·rw [← Dw]
   simp only [dH.l0]
   rw [en]
   exact Dz _
  ·rw [← Dw]
   simp only [dH.l0, DI (i := i) (by omega)]
   rw [ep]
   refine FJ (fun k j => dH.l1 M' k l s (i : Int) j a0 a1 a2 a3) s.size (i + 1) _ r (fun j hj hj' => ?_) (fun j hjb hj q hq => ?_) (i + 1) (nR _) (by omega)
   ·rw [← Dw]
    simp only [dH.l1, DI (i := i) (by omega)]
    rw [en]
    exact hr
   ·have hm := hM' i j hb (by omega) hj
    have hm1 : ∀ k, M' k l a3 (s.extract i j) = some (g (s.extract i j)) := fun k => hm.1
    have hm2 : ∀ k, M' k l a2 (s.extract 0 i ++ s.extract j s.size) = some (f (s.extract 0 i ++ s.extract j s.size)) := fun k => hm.2
    have hz : (s.extract 0 i).size + (s.extract j s.size).size ≤ 9223372036854775807 := by simp only [ByteArray.size_extract]; omega
    rw [← Dw]
    simp only [dH.l1, DI (i := j) (by omega), Int.toNat_natCast, hm1, hm2, Option.bind_some]
    rw [ep, ep, ep, ep, Dy]
    split
    ·rename_i h3
     have c1 : (i : Int) ≤ (s.size : Int) := by omega
     have c2 : (0 : Int) ≤ (j : Int) := by omega
     rw [h3, Bool.true_and]
     simp only [ep c1, if_pos c2, if_pos hz]
     split
     ·rename_i h4
      rw [h4, Bool.true_or]
      exact Dz _
     ·rename_i h4
      rw [Bool.not_eq_true] at h4
      rw [h4, Bool.false_or]
      exact hq
    ·rename_i h3
     rw [Bool.not_eq_true] at h3
     rw [h3, Bool.false_and, Bool.false_or]
     exact hq
 obtain ⟨K2, hK2⟩ := hev
 refine ⟨max K K2, fun k hk => ?_⟩
 show dH.l0 _ k l s 1 a0 a1 a2 a3 = _
 have := (NQ (fun _ => fM.f k) M' l s a0 a1 a2 a3 (by omega) (fun j p q h h' hq => by
  have e1 := hK p (by omega) k (by omega) q hq h h'
  have e2 := hM' p q h h' hq
  exact ⟨e1.1.trans e2.1.symm, e1.2.trans e2.2.symm⟩) k).1 1 (nR _) (by omega)
 rw [show ((1 : Nat) : Int) = 1 from rfl] at this
 rw [this]
 exact hK2 k (by omega)
def ES (l : List bY) : Nat → Nat → Oo → Bool
 | 0, _, _ => false
 | n + 1, i, s =>
  if (aj l i).f0 = 1 then decide (s = (aj l i).f1)
  else if (aj l i).f0 = 2 then ES l n (aj l i).f2.toNat (IZ s)
  else if (aj l i).f0 = 3 then JG (aj l (aj l i).f2).f1 s
  else if (aj l i).f0 = 4 then (List.range' 1 (s.size - 1)).any (fun p => ES l n (aj l i).f2.toNat (s.extract 0 p) && ES l n (aj l i).f3.toNat (s.extract p s.size))
  else if (aj l i).f0 = 5 then (List.range' 1 (s.size - 1)).any (fun p => (List.range' (p + 1) (s.size - (p + 1))).any (fun q => ES l n (aj l i).f3.toNat (s.extract p q) && ES l n (aj l i).f2.toNat (s.extract 0 p ++ s.extract q s.size)))
  else if (aj l i).f0 = 6 then decide (s = Li (aj l (aj l i).f2).f1)
  else if (aj l i).f0 = 7 then decide (s = Ia (aj l (aj l i).f2).f1)
  else if (aj l i).f0 = 8 then decide (s = Ib (aj l (aj l i).f2).f1)
  else HY s (aj l (aj l i).f2).f1
theorem Ht (a b : Oo) : (a.toList == b.toList) = decide (b = a) := by
 rw [En]
 by_cases h : a = b
 ·subst h; rfl
 ·rw [decide_eq_false h, dF (fun e => h e.symm)]
theorem IE {l : List bY} (hp : EJ l = true) : ∀ (n i : Nat) (s : Oo), i < n → i < l.length → 1 ≤ s.size → s.size ≤ 8 → Ev (fun k => fM.f k l (i : Int) s) (ES l n i s) := by
 intro n
 induction n with
 | zero => intro i s h; exact absurd h (Nat.not_lt_zero _)
 | succ n ih =>
  intro i s hn hi h1 h8
  obtain ⟨o1, o2, o3, o4, o5, o6, o7, o8⟩ := Ic hi (HZ hp i hi)
  rw [← Dw]
  simp only [fM.f, ES, Jf l i hi]
  rw [ep, ep, Dy]
  by_cases n1 : l[i].f0 = 1
  ·rw [if_pos n1, if_pos n1, Ht]; exact Dz _
  rw [if_neg n1, if_neg n1, Dy]
  have oA := o3 n1
  have eA : l[i].f2 = ((l[i].f2.toNat : Nat) : Int) := by omega
  by_cases n2 : l[i].f0 = 2
  ·rw [if_pos n2, if_pos n2, Dx (FL s (by omega))]
   have := ih l[i].f2.toNat (IZ s) (by omega) (by omega) (by rw [Gx]; exact h1) (by rw [Gx]; exact h8)
   rw [← eA] at this
   rw [Dx this]
   exact Dz _
  rw [if_neg n2, if_neg n2, Dy]
  by_cases n3 : l[i].f0 = 3
  ·rw [if_pos n3, if_pos n3, ep, ep, Dx (Gt _ _)]
   exact Dz _
  rw [if_neg n3, if_neg n3, Dy]
  by_cases k4 : l[i].f0 = 4
  ·have oB := o4 (.inl k4)
   have eB : l[i].f3 = ((l[i].f3.toNat : Nat) : Int) := by omega
   rw [if_pos k4, if_pos k4, Dx (Je l s l[i].f0 l[i].f1 l[i].f2 l[i].f3 (ES l n l[i].f2.toNat) (ES l n l[i].f3.toNat) h8 h1 (fun p hp1 hp2 => ?_) (fun p hp1 hp2 => ?_))]
   ·exact Dz _
   ·have := ih l[i].f2.toNat (s.extract 0 p) (by omega) (by omega) (by rw [ByteArray.size_extract]; omega) (by rw [ByteArray.size_extract]; omega)
    rw [← eA] at this
    exact this
   ·have := ih l[i].f3.toNat (s.extract p s.size) (by omega) (by omega) (by rw [ByteArray.size_extract]; omega) (by rw [ByteArray.size_extract]; omega)
    rw [← eB] at this
    exact this
  rw [if_neg k4, if_neg k4, Dy]
  by_cases k5 : l[i].f0 = 5
  ·have oB := o4 (.inr k5)
   have eB : l[i].f3 = ((l[i].f3.toNat : Nat) : Int) := by omega
   rw [if_pos k5, if_pos k5, Dx (Kk l s l[i].f0 l[i].f1 l[i].f2 l[i].f3 (ES l n l[i].f2.toNat) (ES l n l[i].f3.toNat) h8 h1 (fun p q hp1 hp2 hp3 => ?_) (fun p q hp1 hp2 hp3 => ?_))]
   ·exact Dz _
   ·have := ih l[i].f3.toNat (s.extract p q) (by omega) (by omega) (by rw [ByteArray.size_extract]; omega) (by rw [ByteArray.size_extract]; omega)
    rw [← eB] at this
    exact this
   ·have := ih l[i].f2.toNat (s.extract 0 p ++ s.extract q s.size) (by omega) (by omega) (by rw [ByteArray.size_append, ByteArray.size_extract, ByteArray.size_extract]; omega) (by rw [ByteArray.size_append, ByteArray.size_extract, ByteArray.size_extract]; omega)
    rw [← eA] at this
    exact this
  rw [if_neg k5, if_neg k5, Dy]
  by_cases k6 : l[i].f0 = 6
  ·rw [if_pos k6, if_pos k6, ep, ep, Dx (JL _), Ht]
   exact Dz _
  rw [if_neg k6, if_neg k6, Dy]
  by_cases k7 : l[i].f0 = 7
  ·rw [if_pos k7, if_pos k7, ep, ep, Dx (GN _), Ht]
   exact Dz _
  rw [if_neg k7, if_neg k7, Dy]
  by_cases k8 : l[i].f0 = 8
  ·rw [if_pos k8, if_pos k8, ep, ep, Dx (GQ _), Ht]
   exact Dz _
  rw [if_neg k8, if_neg k8, ep, ep, Dx (Iw _ _)]
  exact Dz _
def EM (l : List bY) (s : Oo) : Bool := if EJ l = true then (if DW s = true then ES l l.length (l.length - 1) s else false) else false
theorem Kj (l : List bY) (s : Oo) (hl : l.length < 4611686018427387904) : Ev (fun k => mP.f k l s) (EM l s) := by
 unfold mP.f EM
 rw [Dx (Gs l hl), Dy]
 split
 ·rename_i hp
  have hlen := IK hp
  rw [Dx (Eb s), Dy]
  split
  ·rename_i hw
   have hsz := DV hw
   have e : wrap64 ((l.length : Int) - 1) = ((l.length - 1 : Nat) : Int) := by rw [El (by omega) (by omega)]; omega
   rw [e, Dx (IE hp l.length (l.length - 1) s (by omega) (by omega) (by omega) (by omega))]
   exact Dz _
  ·exact Dz _
 ·exact Dz _
theorem JZ {l : List bY} (hp : EJ l = true) : ∀ (n i : Nat) (s : Oo), i < n → i < l.length → 1 ≤ s.size → s.size ≤ 8 → Ev (fun k => aZ.f k l (i : Int) s) (ES l n i s) := by
 intro n
 induction n with
 | zero => intro i s h; exact absurd h (Nat.not_lt_zero _)
 | succ n ih =>
  intro i s hn hi h1 h8
  obtain ⟨o1, o2, o3, o4, o5, o6, o7, o8⟩ := Ic hi (HZ hp i hi)
  have hne : ¬ s.toList = ([] : List UInt8) := fun e => by have := toList_nil.1 e; omega
  have hA : 0 ≤ l[i].f2 ∧ l[i].f2 < (l.length : Int) := by
   by_cases n1 : l[i].f0 = 1
   ·have := (o8 n1).1; omega
   ·have := o3 n1; omega
  rw [← Dw]
  simp only [aZ.f, ES, Jf l i hi]
  rw [ep, ep, en hne, ep hA.1, ep hA.2, Dy]
  split
  ·rw [En]; exact Dz _
  rename_i n1
  have oA := o3 n1
  have eA : l[i].f2 = ((l[i].f2.toNat : Nat) : Int) := by omega
  rw [Dy]
  split
  ·have := ih l[i].f2.toNat (IZ s) (by omega) (by omega) (by rw [Gx]; exact h1) (by rw [Gx]; exact h8)
   rw [← eA] at this
   simp only [FH s (show s.size ≤ 100 by omega), Option.bind_some]
   rw [Dx this]
   exact Dz _
  rw [Dy]
  split
  ·rw [Dx (Gp _ _)]
   exact Dz _
  rw [Dy]
  split
  ·rename_i k4
   have oB := o4 (.inl k4)
   have eB : l[i].f3 = ((l[i].f3.toNat : Nat) : Int) := by omega
   refine DT (FJ (fun k j => aZ.l0 k l s j l[i].f0 l[i].f1 l[i].f2 l[i].f3) s.size 1 _ false (fun j hj hj' => ?_) (fun j hb hj r hr => ?_) 1 (nR _) (by omega)) (by rw [Bool.or_false])
   ·rw [← Dw]
    simp only [aZ.l0]
    rw [en]
    exact Dz _
   ·have m1 := ih l[i].f2.toNat (s.extract 0 j) (by omega) (by omega) (by rw [ByteArray.size_extract]; omega) (by rw [ByteArray.size_extract]; omega)
    have m2 := ih l[i].f3.toNat (s.extract j s.size) (by omega) (by omega) (by rw [ByteArray.size_extract]; omega) (by rw [ByteArray.size_extract]; omega)
    rw [← eA] at m1
    rw [← eB] at m2
    rw [← Dw]
    simp only [aZ.l0, DI (i := j) (by omega), Int.toNat_natCast]
    rw [ep, ep, ep, Dx m1, Dy]
    split
    ·rename_i h3
     rw [h3, Bool.true_and, Dx m2, Dy]
     split
     ·rename_i h4
      rw [h4, Bool.true_or]
      exact Dz _
     ·rename_i h4
      rw [Bool.not_eq_true] at h4
      rw [h4, Bool.false_or]
      exact hr
    ·rename_i h3
     rw [Bool.not_eq_true] at h3
     rw [h3, Bool.false_and, Bool.false_or]
     exact hr
  rw [Dy]
  split
  ·rename_i k5
   have oB := o4 (.inr k5)
   have eB : l[i].f3 = ((l[i].f3.toNat : Nat) : Int) := by omega
   refine DT (FJ (fun k j => aZ.l1 k l s j l[i].f0 l[i].f1 l[i].f2 l[i].f3) s.size 1 _ false (fun j hj hj' => ?_) (fun j hb hj r hr => ?_) 1 (nR _) (by omega)) (by rw [Bool.or_false])
   ·rw [← Dw]
    simp only [aZ.l1]
    rw [en]
    exact Dz _
   ·rw [← Dw]
    simp only [aZ.l1, DI (i := j) (by omega)]
    rw [ep]
    refine FJ (fun k q => aZ.l2 k l s (j : Int) q l[i].f0 l[i].f1 l[i].f2 l[i].f3) s.size (j + 1) _ r (fun q hq hq' => ?_) (fun q hqb hq t ht => ?_) (j + 1) (nR _) (by omega)
    ·rw [← Dw]
     simp only [aZ.l2, DI (i := j) (by omega)]
     rw [en]
     exact hr
    ·have m1 := ih l[i].f3.toNat (s.extract j q) (by omega) (by omega) (by rw [ByteArray.size_extract]; omega) (by rw [ByteArray.size_extract]; omega)
     have m2 := ih l[i].f2.toNat (s.extract 0 j ++ s.extract q s.size) (by omega) (by omega) (by rw [ByteArray.size_append, ByteArray.size_extract, ByteArray.size_extract]; omega) (by rw [ByteArray.size_append, ByteArray.size_extract, ByteArray.size_extract]; omega)
     rw [← eB] at m1
     rw [← eA] at m2
     have hz : (s.extract 0 j).size + (s.extract q s.size).size ≤ 9223372036854775807 := by simp only [ByteArray.size_extract]; omega
     rw [← Dw]
     simp only [aZ.l2, DI (i := q) (by omega), Int.toNat_natCast]
     rw [ep, ep, ep, ep, Dx m1, Dy]
     split
     ·rename_i h3
      have c1 : (j : Int) ≤ (s.size : Int) := by omega
      have c2 : (0 : Int) ≤ (q : Int) := by omega
      rw [h3, Bool.true_and]
      simp only [ep c1, if_pos c2, if_pos hz]
      rw [Dx m2, Dy]
      split
      ·rename_i h4
       rw [h4, Bool.true_or]
       exact Dz _
      ·rename_i h4
       rw [Bool.not_eq_true] at h4
       rw [h4, Bool.false_or]
       exact ht
     ·rename_i h3
      rw [Bool.not_eq_true] at h3
      rw [h3, Bool.false_and, Bool.false_or]
      exact ht
  rw [Dy]
  split
  ·rw [Dx (Ju _), En]
   exact Dz _
  rw [Dy]
  split
  ·rw [Dx (GH _), En]
   exact Dz _
  rw [Dy]
  split
  ·rw [Dx (GI _), En]
   exact Dz _
  rw [ep, Dx (Ik _ _)]
  exact Dz _
theorem JV (l : List bY) (s : Oo) (hl : l.length < 4611686018427387904) : Ev (fun k => ji.f k l s) (EM l s) := by
 unfold ji.f EM
 rw [Dx (Gn l hl), Dy]
 split
 ·rename_i hp
  have hlen := IK hp
  rw [Dx (Ea s), Dy]
  split
  ·rename_i hw
   have hsz := DV hw
   have e : wrap64 ((l.length : Int) - 1) = ((l.length - 1 : Nat) : Int) := by rw [El (by omega) (by omega)]; omega
   rw [e, Dx (JZ hp l.length (l.length - 1) s (by omega) (by omega) (by omega) (by omega))]
   exact Dz _
  ·exact Dz _
 ·exact Dz _
def Lh (l : List Oo) (w : Oo) : Bool := l.any (fun x => decide (x = w))
theorem Jb (l : List Oo) (w : Oo) (hl : l.length < 4611686018427387904) : Ev (fun k => iI.f k l w) (Lh l w) := by
 refine FT (fun k i => iI.l0 k l w i) l _ ?_ (fun i hi hp r hr => ?_) (fun i hi hp => ?_)
 ·rw [← Dw]; simp [iI.l0, Dz]
 ·rw [← Dw]
  simp only [iI.l0, Ej ByteArray.empty l i hi, DI (i := i) (by omega), toList_eq]
  rw [ep, ep, en (of_decide_eq_false hp)]
  exact hr
 ·rw [← Dw]
  simp only [iI.l0, Ej ByteArray.empty l i hi, toList_eq]
  rw [ep, ep, ep (of_decide_eq_true hp)]
  exact Dz _
def Ei (out : List Oo) (x : Oo) : List Oo := if Lh out x = true then out else out ++ [x]
def Kv (l : List Oo) : List Oo := l.foldl Ei []
theorem Lu (out : List Oo) (x : Oo) : (Ei out x).length ≤ out.length + 1 := by
 unfold Ei
 split
 ·omega
 ·simp
theorem Fy : ∀ (l out : List Oo), (l.foldl Ei out).length ≤ out.length + l.length
 | [], out => by simp
 | x :: l, out => by
  have h1 := Fy l (Ei out x)
  have h2 := Lu out x
  simp only [List.foldl_cons, List.length_cons]
  omega
theorem Nt (l : List Oo) : (Kv l).length ≤ l.length := by
 have := Fy l []
 simpa [Kv] using this
theorem MX (q : Oo → Bool) (l : List Oo) (i : Nat) (h : i < l.length) : ((l.take (i + 1)).filter q).foldl Ei [] = if q l[i] = true then Ei (((l.take i).filter q).foldl Ei []) l[i] else ((l.take i).filter q).foldl Ei [] := by
 rw [List.take_succ_eq_append_getElem h, List.filter_append, List.foldl_append]
 by_cases hq : q l[i] = true
 ·rw [if_pos hq]; simp [hq]
 ·rw [if_neg hq]; simp [hq]
theorem MS (l : List Oo) (w : Oo) (hl : l.length < 4611686018427387904) : Ev (fun k => bT.f k l w) (match l.findIdx? (fun x => decide (x = w)) with | some i => (i : Int) | none => -1) := by
 refine FV (fun k i => bT.l0 k l w (l.length : Int) i) l _ ?_ (fun i hi hp r hr => ?_) (fun i hi hp => ?_)
 ·rw [← Dw]; simp [bT.l0, Dz]
 ·rw [← Dw]
  simp only [bT.l0, Ej ByteArray.empty l i hi, DI (i := i) (by omega), toList_eq]
  rw [ep, ep, ep, en (fun e => of_decide_eq_false hp e.symm)]
  exact hr
 ·rw [← Dw]
  simp only [bT.l0, Ej ByteArray.empty l i hi, toList_eq]
  rw [ep, ep, ep, Dy, if_pos (of_decide_eq_true hp).symm]
  exact Dz _
theorem Nr {α : Type} (l : List α) (p : α → Bool) : decide ((match l.findIdx? p with | some i => (i : Int) | none => -1) ≥ 0) = l.any p := by
 cases h : l.findIdx? p with
 | none =>
  have := List.findIdx?_eq_none_iff.1 h
  simp
  intro x hx
  simpa using this x hx
 | some i =>
  obtain ⟨h1, h2, _⟩ := List.findIdx?_eq_some_iff_getElem.1 h
  simp
  exact ⟨l[i], gM h1, h2⟩
theorem KE (l : List Oo) (w : Oo) (hl : l.length < 4611686018427387904) : Ev (fun k => fT.f k l w) (Lh l w) := by
 unfold fT.f Lh
 rw [Dx (MS l w hl), Nr]
 exact Dz _
theorem KG (l : List Oo) (hl : l.length ≤ 8796093022208) : Ev (fun k => iJ.f k l) (Kv l) := by
 unfold iJ.f
 refine DY (σ := List Oo) (fun k out i => iJ.l0 k out l (l.length : Int) i) l.length (fun i out => out = (l.take i).foldl Ei []) (fun _ _ => Kv l) (fun out ho => ?_) (fun i out hi ho => ?_) 0 [] (Nat.zero_le _) rfl
 ·rw [List.take_length] at ho
  rw [← Dw]
  simp only [iJ.l0, Int.lt_irrefl, if_false, ho]
  exact Dz _
 ·have hlen : out.length ≤ i := by
   have := Fy (l.take i) []
   rw [ho]
   simp only [List.length_nil, List.length_take] at this
   omega
  refine .inr ⟨Ei out l[i], ?_, rfl, fun r hr => ?_⟩
  ·rw [List.take_succ_eq_append_getElem hi, List.foldl_append, ho]
   rfl
  ·rw [← Dw]
   simp only [iJ.l0, Ej ByteArray.empty l i hi, DI (i := i) (by omega)]
   rw [ep, ep, ep, Dx (KE out l[i] (by omega)), Dy]
   unfold Ei at hr
   split
   ·rename_i h
    rw [if_pos h] at hr
    exact hr
   ·rename_i h
    rw [if_neg h] at hr
    rw [ep]
    exact hr
def FB (p : Oo) : Bool := decide (1 ≤ p.size ∧ p.size ≤ 8) && (bytesOf p).all (fun c => decide (c = 63) || Ez c)
theorem IJ {p : Oo} (h : FB p = true) : 1 ≤ p.size ∧ p.size ≤ 8 := by
 unfold FB at h
 rw [Bool.and_eq_true] at h
 exact of_decide_eq_true h.1
theorem Ig (p : Oo) : Ev (fun k => dB.f k p) (FB p) := by
 simp only [dB.f, EF, Option.bind_some, Dy, decide_eq_true_eq, FB]
 by_cases h : (1 : Int) ≤ p.size ∧ (p.size : Int) ≤ 8
 ·rw [if_pos h]
  have h' : 1 ≤ p.size ∧ p.size ≤ 8 := by omega
  simp only [h', decide_true, Bool.true_and, and_self]
  refine Em (fun k i => dB.l0 k p i) (bytesOf p) _ ?_ (fun i hi hp r hr => ?_) (fun i hi hp => ?_)
  ·rw [← Dw]; simp [dB.l0, bytesOf_length, Dz]
  ·have hi' : i < p.size := by rw [bytesOf_length] at hi; exact hi
   rw [← Dw]
   simp only [dB.l0, EL p i hi', DI (i := i) (by omega)]
   rw [ep, ep, Dy]
   by_cases h63 : (bytesOf p)[i] = 63
   ·rw [if_pos h63]; exact hr
   ·simp [Ez, h63] at hp
    rw [if_neg h63, en, en]
    exact hr
  ·have hi' : i < p.size := by rw [bytesOf_length] at hi; exact hi
   simp only [Bool.or_eq_false_iff, decide_eq_false_iff_not, Ez] at hp
   rw [← Dw]
   simp only [dB.l0, EL p i hi', DI (i := i) (by omega)]
   rw [ep, ep, en hp.1, Dy]
   by_cases h1 : (bytesOf p)[i] < 97
   ·rw [if_pos h1]; exact Dz _
   ·rw [if_neg h1, ep]; exact Dz _
 ·rw [if_neg h]
  have h' : ¬ (1 ≤ p.size ∧ p.size ≤ 8) := by omega
  simp [h', Dz]
def Ec (p w : Oo) : Bool := if FB p = true then (if DW w = true then (if p.size = w.size then (List.range p.size).all (fun i => decide (bt p (i : Int) = 63) || decide (bt p (i : Int) = bt w (i : Int))) else false) else false) else false
theorem Fq (p w : Oo) : Ev (fun k => bO.f k p w) (Ec p w) := by
 have hf : Ev (fun k => bO.j0 k p w true) false := by
  rw [← Dw]
  simp only [bO.j0, if_true]
  exact Dz _
 unfold bO.f Ec
 rw [Dx (Ig p), Dy]
 split
 ·rename_i h1
  have hs := IJ h1
  rw [Dx (Eb w), Dy]
  split
  ·by_cases h3 : p.size = w.size
   ·rw [if_pos h3, show ((p.size : Int) != (w.size : Int)) = false by rw [h3]; simp, ← Dw]
    simp only [bO.j0, Bool.false_eq_true, if_false]
    refine Em (fun k i => bO.l0 k p w i) (List.range p.size) _ ?_ (fun i hi hp r hr => ?_) (fun i hi hp => ?_)
    ·rw [← Dw]; simp [bO.l0, Dz]
    ·rw [List.length_range] at hi
     rw [List.getElem_range] at hp
     rw [← Dw]
     simp only [bO.l0, DI (i := i) (by omega)]
     rw [ep, ep, Dy]
     by_cases h63 : bt p (i : Int) = 63
     ·rw [if_pos h63]; exact hr
     ·have he : bt p (i : Int) = bt w (i : Int) := by simpa [h63] using hp
      rw [if_neg h63, ep, ep he]
      exact hr
    ·rw [List.length_range] at hi
     rw [List.getElem_range] at hp
     simp only [Bool.or_eq_false_iff, decide_eq_false_iff_not] at hp
     rw [← Dw]
     simp only [bO.l0, DI (i := i) (by omega)]
     rw [ep, ep, en hp.1, ep, en hp.2]
     exact Dz _
   ·rw [if_neg h3, show ((p.size : Int) != (w.size : Int)) = true by simp; omega]
    exact hf
  ·exact hf
 ·exact hf
theorem HV (p : Oo) : Ev (fun k => dA.f k p) (FB p) := by
 simp only [dA.f, EB, Option.bind_some, Dy, decide_eq_true_eq, FB]
 by_cases h : (1 : Int) ≤ p.size ∧ (p.size : Int) ≤ 8
 ·rw [if_pos h]
  have h' : 1 ≤ p.size ∧ p.size ≤ 8 := by omega
  simp only [h', decide_true, Bool.true_and, and_self]
  refine Em (fun k i => dA.l0 k p (p.size : Int) i) (bytesOf p) _ ?_ (fun i hi hp r hr => ?_) (fun i hi hp => ?_)
  ·rw [← Dw]; simp [dA.l0, bytesOf_length, Dz]
  ·have hi' : i < p.size := by rw [bytesOf_length] at hi; exact hi
   rw [← Dw]
   simp only [dA.l0, EL p i hi', DI (i := i) (by omega), EO, Option.bind_some]
   rw [ep, ep, ep, Dy]
   by_cases h63 : (bytesOf p)[i] = 63
   ·rw [if_pos h63]; exact hr
   ·simp [Ez, h63] at hp
    rw [if_neg h63, ep (by simpa using hp)]
    exact hr
  ·have hi' : i < p.size := by rw [bytesOf_length] at hi; exact hi
   simp only [Bool.or_eq_false_iff, decide_eq_false_iff_not, Ez] at hp
   rw [← Dw]
   simp only [dA.l0, EL p i hi', DI (i := i) (by omega), EO, Option.bind_some]
   rw [ep, ep, ep, en hp.1, en (by simpa using hp.2)]
   exact Dz _
 ·rw [if_neg h]
  have h' : ¬ (1 ≤ p.size ∧ p.size ≤ 8) := by omega
  simp [h', Dz]
theorem Et (p w : Oo) : Ev (fun k => aJ.f k p w) (Ec p w) := by
 have hf : Ev (fun k => aJ.j0 k p w true) false := by
  rw [← Dw]
  simp only [aJ.j0, if_true]
  exact Dz _
 unfold aJ.f Ec
 rw [Dx (HV p), Dy]
 split
 ·rename_i h1
  have hs := IJ h1
  rw [Dx (Ea w), Dy]
  split
  ·by_cases h3 : p.size = w.size
   ·rw [if_pos h3, show ((p.size : Int) != (w.size : Int)) = false by rw [h3]; simp, ← Dw]
    simp only [aJ.j0, Bool.false_eq_true, if_false]
    refine Em (fun k i => aJ.l0 k p w (p.size : Int) i) (List.range p.size) _ ?_ (fun i hi hp r hr => ?_) (fun i hi hp => ?_)
    ·rw [← Dw]; simp [aJ.l0, Dz]
    ·rw [List.length_range] at hi
     rw [List.getElem_range] at hp
     rw [← Dw]
     simp only [aJ.l0, DI (i := i) (by omega)]
     rw [ep, ep, ep, Dy]
     by_cases h63 : bt p (i : Int) = 63
     ·rw [if_pos h63]; exact hr
     ·have he : bt p (i : Int) = bt w (i : Int) := by simpa [h63] using hp
      rw [if_neg h63, ep, ep he]
      exact hr
    ·rw [List.length_range] at hi
     rw [List.getElem_range] at hp
     simp only [Bool.or_eq_false_iff, decide_eq_false_iff_not] at hp
     rw [← Dw]
     simp only [aJ.l0, DI (i := i) (by omega)]
     rw [ep, ep, ep, en hp.1, ep, en hp.2]
     exact Dz _
   ·rw [if_neg h3, show ((p.size : Int) != (w.size : Int)) = true by simp; omega]
    exact hf
  ·exact hf
 ·exact hf
def Ga (how a : Int) (pl : List bY) (d : List S73) (pat w : Oo) : Bool := Ec pat w && ((decide (Int.tmod how 2 = 0) || hasB d w a) && (decide (how < 2) || EM pl w))
def EZ (how a : Int) (pl : List bY) (d : List S73) (l : List Oo) (pat : Oo) : List Oo := if 0 ≤ how ∧ how ≤ 3 then Kv (l.filter (Ga how a pl d pat)) else []
theorem Lg (how a : Int) (pl : List bY) (d : List S73) (l : List Oo) (pat : Oo) : (EZ how a pl d l pat).length ≤ l.length := by
 unfold EZ
 split
 ·exact Nat.le_trans (Nt _) (List.length_filter_le _ _)
 ·simp
theorem Hq (a : Int) (pl : List bY) (d : List S73) (l : List Oo) (pat : Oo) (how : Int) (hp : pl.length < 4611686018427387904) (hd : d.length < 4611686018427387904) (hl : l.length ≤ 8796093022208) : Ev (fun k => aV.f k a pl d l pat how) (EZ how a pl d l pat) := by
 have hend : ∀ (out : List Oo) (i : Int), Ev (fun k => aV.j1 k d l pat how out i false a pl) out := by
  intro out i
  rw [← Dw]
  simp only [aV.j1, Bool.false_eq_true, if_false]
  exact Dz _
 have hj3 : ∀ (out : List Oo) (i : Nat) (w : Oo) (sn py : Bool) (r : List Oo), i < 4611686018427387904 → out.length < 8796093022208 → Ev (fun k => aV.l0 k d l pat how (if (Ec pat w && (sn && py)) = true then Ei out w else out) ((i + 1 : Nat) : Int) a pl) r → Ev (fun k => aV.j3 k d l pat how out (i : Int) w sn py a pl) r := by
  intro out i w sn py r hi ho hr
  rw [← Dw]
  simp only [aV.j3, DI (i := i) hi]
  rw [Dx (Fq pat w), Dy]
  by_cases h1 : Ec pat w = true
  ·rw [if_pos h1, Dy]
   by_cases h2 : sn = true
   ·rw [if_pos h2, Dy]
    by_cases h3 : py = true
    ·rw [if_pos h3, Dx (Jb out w (by omega)), Dy]
     rw [h1, h2, h3] at hr
     simp only [Bool.and_self, if_true] at hr
     unfold Ei at hr
     by_cases h4 : Lh out w = true
     ·rw [if_pos h4] at hr ⊢
      exact hr
     ·rw [if_neg h4] at hr ⊢
      rw [ep]
      exact hr
    ·rw [if_neg h3]
     rw [if_neg (by simp [h3])] at hr
     exact hr
   ·rw [if_neg h2]
    rw [if_neg (by simp [h2])] at hr
    exact hr
  ·rw [if_neg h1]
   rw [if_neg (by simp [h1])] at hr
   exact hr
 have hj2 : ∀ (out : List Oo) (i : Int) (w : Oo) (sn : Bool) (r : List Oo), Ev (fun k => aV.j3 k d l pat how out i w sn (decide (how < 2) || EM pl w) a pl) r → Ev (fun k => aV.j2 k d l pat how out i w sn a pl) r := by
  intro out i w sn r hr
  rw [← Dw]
  simp only [aV.j2]
  rw [Dy]
  by_cases h : how < 2
  ·rw [if_pos h]
   rw [decide_eq_true h, Bool.true_or] at hr
   exact hr
  ·rw [if_neg h, Dx (Kj pl w hp)]
   rw [decide_eq_false h, Bool.false_or] at hr
   exact hr
 unfold aV.f EZ
 by_cases hh : 0 ≤ how ∧ how ≤ 3
 ·rw [if_pos hh]
  refine DY (σ := List Oo) (fun k out i => aV.l0 k d l pat how out i a pl) l.length (fun i out => out = ((l.take i).filter (Ga how a pl d pat)).foldl Ei []) (fun _ _ => Kv (l.filter (Ga how a pl d pat))) (fun out ho => ?_) (fun i out hi ho => ?_) 0 [] (Nat.zero_le _) rfl
  ·rw [List.take_length] at ho
   rw [← Dw]
   simp only [aV.l0, Int.lt_irrefl, if_false]
   rw [ho]
   exact hend _ _
  ·have hlen : out.length ≤ i := by
    have h1 := Fy ((l.take i).filter (Ga how a pl d pat)) []
    have h2 := List.length_filter_le (Ga how a pl d pat) (l.take i)
    rw [ho]
    simp only [List.length_nil, List.length_take] at h1 h2
    omega
   refine .inr ⟨if Ga how a pl d pat l[i] = true then Ei out l[i] else out, ?_, rfl, fun r hr => ?_⟩
   ·rw [MX _ l i hi, ← ho]
   ·have hr' := hj2 out (i : Int) l[i] (decide (Int.tmod how 2 = 0) || hasB d l[i] a) r (hj3 out i l[i] _ _ r (by omega) (by omega) hr)
    rw [← Dw]
    simp only [aV.l0, EF, Option.bind_some, dT hh]
    rw [ep, ← Dw]
    simp only [aV.j1, if_true, Ej ByteArray.empty l i hi]
    rw [ep, ep, Dy]
    by_cases h : Int.tmod how 2 = 0
    ·rw [if_pos h]
     rw [decide_eq_true h, Bool.true_or] at hr'
     exact hr'
    ·rw [if_neg h, Dx (Iu d l[i] a hd)]
     rw [decide_eq_false h, Bool.false_or] at hr'
     exact hr'
 ·rw [if_neg hh, ← Dw]
  simp only [aV.l0, EF, Option.bind_some, dF hh]
  rw [Dy]
  split
  ·exact hend _ _
  ·exact hend _ _
theorem JY (how a : Int) (pl : List bY) (d : List S73) (pat w : Oo) (hh : 0 ≤ how ∧ how ≤ 3) (hp : pl.length < 4611686018427387904) (hd : d.length < 4611686018427387904) : Ev (fun k => aR.g how k a pl d pat w) (Ga how a pl d pat w) := by
 have hc : how = 0 ∨ how = 1 ∨ how = 2 ∨ how = 3 := by omega
 have f := Et pat w
 have h := Ij d w a hd
 have m := JV pl w hp
 unfold Ga
 generalize Ec pat w = fb at *
 generalize hasB d w a = hb at *
 generalize EM pl w = mb at *
 rcases hc with rfl | rfl | rfl | rfl
 ·rw [show Int.tmod 0 2 = 0 by decide]
  simp only [aR.g, aR.g0, if_true]
  rw [Dx f, Dy]
  cases fb <;> simp [DK]
 ·rw [show Int.tmod 1 2 = 1 by decide]
  simp only [aR.g, aR.g1, if_true, show ¬ (1 : Int) = 0 by decide, if_false]
  rw [Dx f, Dy, Dx h, Dy]
  cases fb <;> cases hb <;> simp [DK]
 ·rw [show Int.tmod 2 2 = 0 by decide]
  simp only [aR.g, aR.g2, if_true, show ¬ (2 : Int) = 0 by decide, show ¬ (2 : Int) = 1 by decide, if_false]
  rw [Dx f, Dy, Dx m]
  cases fb <;> simp [DK]
 ·rw [show Int.tmod 3 2 = 1 by decide]
  simp only [aR.g, aR.g3, show ¬ (3 : Int) = 0 by decide, show ¬ (3 : Int) = 1 by decide, show ¬ (3 : Int) = 2 by decide, if_false]
  rw [Dx f, Dy, Dx h, Dy, Dx m]
  cases fb <;> cases hb <;> simp [DK]
theorem He (a : Int) (pl : List bY) (d : List S73) (l : List Oo) (pat : Oo) (how : Int) (hp : pl.length < 4611686018427387904) (hd : d.length < 4611686018427387904) (hl : l.length ≤ 8796093022208) : Ev (fun k => aR.f k a pl d l pat how) (EZ how a pl d l pat) := by
 unfold aR.f EZ
 simp only [EB, Option.bind_some, decide_eq_true_eq, Dy]
 by_cases hh : 0 ≤ how ∧ how ≤ 3
 ·rw [if_pos hh, if_pos hh, Dx (Ka l _ (Ga how a pl d pat) hl (fun s _ => JY how a pl d pat s hh hp hd))]
  exact KG _ (Nat.le_trans (List.length_filter_le _ _) hl)
 ·rw [if_neg hh, if_neg hh]
  exact Dz _
def Nb (R C : Int) (i j : Nat) : Prop := ∃ r c r' c' : Int, (0 ≤ r ∧ r < R) ∧ (0 ≤ c ∧ c < C) ∧ (0 ≤ r' ∧ r' < R) ∧ (0 ≤ c' ∧ c' < C) ∧ (i : Int) = r * C + c ∧ (j : Int) = r' * C + c' ∧ ((r' = r - 1 ∧ c' = c) ∨ (r' = r + 1 ∧ c' = c) ∨ (r' = r ∧ c' = c - 1) ∨ (r' = r ∧ c' = c + 1))
def Wh (s : Oo) (i : Nat) : Prop := bt s (i : Int) = 46
inductive pW (R C : Int) (s : Oo) (a : Nat) : Nat → Prop
 | refl : pW R C s a a
 | step {x y : Nat} : pW R C s a x → Nb R C x y → Wh s y → pW R C s a y
theorem pW.trans {R C : Int} {s : Oo} {a x y : Nat} (h1 : pW R C s a x) (h2 : pW R C s x y) : pW R C s a y := by
 induction h2 with
 | refl => exact h1
 | step _ hn hw ih => exact .step ih hn hw
theorem Mr {C r c r' c' : Int} (hc : 0 ≤ c ∧ c < C) (hc' : 0 ≤ c' ∧ c' < C) (h : r * C + c = r' * C + c') : r = r' ∧ c = c' := by
 have h1 : (r * C + c) / C = r := by rw [Int.add_comm, Int.add_mul_ediv_right _ _ (by omega), Int.ediv_eq_zero_of_lt hc.1 hc.2]; omega
 have h2 : (r' * C + c') / C = r' := by rw [Int.add_comm, Int.add_mul_ediv_right _ _ (by omega), Int.ediv_eq_zero_of_lt hc'.1 hc'.2]; omega
 have h3 : r = r' := by rw [← h1, h, h2]
 subst h3
 exact ⟨rfl, by omega⟩
theorem cell_of (C : Int) (i : Nat) : (i : Int) = ((i : Int) / C) * C + (i : Int) % C := by
 have := Int.mul_ediv_add_emod (i : Int) C
 rw [Int.mul_comm]
 omega
theorem Ms {R C : Int} {i : Nat} (hC : 0 < C) (hi : (i : Int) < R * C) : (0 ≤ (i : Int) / C ∧ (i : Int) / C < R) ∧ (0 ≤ (i : Int) % C ∧ (i : Int) % C < C) :=
 ⟨⟨Int.ediv_nonneg (by omega) (by omega), Int.ediv_lt_of_lt_mul hC hi⟩, Int.emod_nonneg _ (by omega), Int.emod_lt_of_pos _ hC⟩
theorem AX {R C r c : Int} (hr : 0 ≤ r ∧ r < R) (hc : 0 ≤ c ∧ c < C) : 0 ≤ r * C + c ∧ r * C + c < R * C := by
 have h1 : 0 ≤ r * C := Int.mul_nonneg hr.1 (by omega)
 have h2 : (r + 1) * C ≤ R * C := Int.mul_le_mul_of_nonneg_right (by omega) (by omega)
 rw [Int.add_mul] at h2
 omega
theorem Nb.lt {R C : Int} {i j : Nat} (h : Nb R C i j) : (j : Int) < R * C := by
 obtain ⟨r, c, r', c', _, _, h3, h4, _, e, _⟩ := h
 have := AX h3 h4
 omega
theorem Nb.symm {R C : Int} {i j : Nat} (h : Nb R C i j) : Nb R C j i := by
 obtain ⟨r, c, r', c', h1, h2, h3, h4, e1, e2, h5⟩ := h
 exact ⟨r', c', r, c, h3, h4, h1, h2, e2, e1, by omega⟩
def cnt (n : Nat) (d : Nat → Bool) : Nat := (List.range n).countP (fun j => !d j)
theorem cnt_mono {n : Nat} {d d' : Nat → Bool} (h : ∀ j, d j = true → d' j = true) : cnt n d' ≤ cnt n d := by
 refine List.countP_mono_left (fun j _ hj => ?_)
 have := h j
 revert hj this
 cases d j <;> cases d' j <;> simp
theorem cnt_lt {d d' : Nat → Bool} (h : ∀ j, d j = true → d' j = true) (i : Nat) (h0 : d i = false) (h1 : d' i = true) : ∀ n, i < n → cnt n d' < cnt n d := by
 intro n
 induction n with
 | zero => intro hi; omega
 | succ n ih =>
  intro hi
  unfold cnt at *
  rw [List.range_succ, List.countP_append, List.countP_append]
  by_cases e : i = n
  ·subst e
   have := cnt_mono (n := i) h
   unfold cnt at this
   simp [h0, h1]
   omega
  ·have h2 := ih (by omega)
   have h3 : List.countP (fun j => !d' j) [n] ≤ List.countP (fun j => !d j) [n] := by
    refine List.countP_mono_left (fun j _ hj => ?_)
    have := h j
    revert hj this
    cases d j <;> cases d' j <;> simp
   omega
theorem Od (d : Array Bool) (i j : Nat) (hi : i < d.size) : (d.setIfInBounds i true)[j]! = (decide (j = i) || d[j]!) := by
 simp only [getElem!_def, Array.getElem?_setIfInBounds]
 by_cases h : j = i
 ·subst h; simp [hi]
 ·rw [if_neg (by omega)]; simp [h]
def Ct (R C : Int) (s : Oo) (d : Array Bool) (r c : Int) (d' : Array Bool) : Prop :=
 d'.size = d.size ∧ (∀ j : Nat, d[j]! = true → d'[j]! = true) ∧ (∀ i : Nat, (0 ≤ r ∧ r < R) → (0 ≤ c ∧ c < C) → (i : Int) = r * C + c → Wh s i → d'[i]! = true) ∧
 ∀ j : Nat, d'[j]! = true → d[j]! = false → (∃ i : Nat, (0 ≤ r ∧ r < R) ∧ (0 ≤ c ∧ c < C) ∧ (i : Int) = r * C + c ∧ Wh s i ∧ pW R C s i j) ∧ ∀ y, Nb R C j y → Wh s y → d'[y]! = true
theorem Ct.from {R C : Int} {s : Oo} {d d' : Array Bool} {r c r1 c1 : Int} {i : Nat} (hr : 0 ≤ r ∧ r < R) (hc : 0 ≤ c ∧ c < C) (hi : (i : Int) = r * C + c) (hn : (r1 = r - 1 ∧ c1 = c) ∨ (r1 = r + 1 ∧ c1 = c) ∨ (r1 = r ∧ c1 = c - 1) ∨ (r1 = r ∧ c1 = c + 1)) (h : Ct R C s d r1 c1 d') :
  ∀ j : Nat, d'[j]! = true → d[j]! = false → pW R C s i j ∧ ∀ y, Nb R C j y → Wh s y → d'[y]! = true := by
 intro j h1 h2
 obtain ⟨⟨i1, a1, a2, a3, a4, a5⟩, h3⟩ := h.2.2.2 j h1 h2
 exact ⟨(pW.step .refl ⟨r, c, r1, c1, hr, hc, a1, a2, hi, a3, hn⟩ a4).trans a5, h3⟩
theorem Ob {R C : Int} {s : Oo} (hs : (s.size : Int) = R * C) : ∀ (m : Nat) (d : Array Bool) (r c : Int), d.size = s.size → cnt s.size (fun j => d[j]!) < m → ∃ d', Ev (fun k => HandForm.dfs R C s k d r c) d' ∧ Ct R C s d r c d' := by
 intro m
 induction m with
 | zero => intro d r c _ h; omega
 | succ m ih =>
  intro d r c hd hm
  by_cases hstop : HandForm.pq R C s d r c = true
  ·refine ⟨d, ?_, rfl, fun _ h => h, fun i hr hc hi hw => ?_, fun j h1 h2 => by rw [h1] at h2; cases h2⟩
   ·rw [← Dw]
    simp only [HandForm.dfs, hstop, if_true]
    exact Dz _
   ·unfold HandForm.pq at hstop
    unfold Wh at hw
    rw [if_pos hr, if_pos hc, ← hi, hw] at hstop
    simpa using hstop
  ·have hgo := hstop
   unfold HandForm.pq at hgo
   have hr : 0 ≤ r ∧ r < R := Decidable.byContradiction fun h => hgo (by rw [if_neg h])
   rw [if_pos hr] at hgo
   have hc : 0 ≤ c ∧ c < C := Decidable.byContradiction fun h => hgo (by rw [if_neg h])
   rw [if_pos hc] at hgo
   have hlt := AX hr hc
   obtain ⟨i, hi⟩ : ∃ i : Nat, (i : Int) = r * C + c := ⟨(r * C + c).toNat, by omega⟩
   rw [← hi] at hgo
   simp only [Int.toNat_natCast, Bool.or_eq_true, Bool.not_eq_true', beq_eq_false_iff_ne, not_or, Bool.not_eq_true, ne_eq, Decidable.not_not] at hgo
   obtain ⟨hdi, hwi⟩ := hgo
   have hid : i < d.size := by omega
   have hget := fun j => Od d i j hid
   have hd0 : (d.setIfInBounds i true).size = s.size := by rw [Array.size_setIfInBounds]; exact hd
   have hsub : ∀ j : Nat, d[j]! = true → (d.setIfInBounds i true)[j]! = true := fun j h => by rw [hget, h, Bool.or_true]
   have hc0 : cnt s.size (fun j => (d.setIfInBounds i true)[j]!) < m := by
    have := cnt_lt (d := fun j => d[j]!) (d' := fun j => (d.setIfInBounds i true)[j]!) hsub i hdi (by show (d.setIfInBounds i true)[i]! = true; rw [hget]; simp) s.size (by omega)
    omega
   obtain ⟨d1, e1, p1⟩ := ih (d.setIfInBounds i true) (r - 1) c hd0 hc0
   have c1 := Nat.lt_of_le_of_lt (cnt_mono (n := s.size) (d := fun j => (d.setIfInBounds i true)[j]!) (d' := fun j => d1[j]!) p1.2.1) hc0
   have z1 : d1.size = s.size := p1.1.trans hd0
   obtain ⟨d2, e2, p2⟩ := ih d1 (r + 1) c z1 c1
   have c2 := Nat.lt_of_le_of_lt (cnt_mono (n := s.size) (d := fun j => d1[j]!) (d' := fun j => d2[j]!) p2.2.1) c1
   have z2 : d2.size = s.size := p2.1.trans z1
   obtain ⟨d3, e3, p3⟩ := ih d2 r (c - 1) z2 c2
   have c3 := Nat.lt_of_le_of_lt (cnt_mono (n := s.size) (d := fun j => d2[j]!) (d' := fun j => d3[j]!) p3.2.1) c2
   have z3 : d3.size = s.size := p3.1.trans z2
   obtain ⟨d4, e4, p4⟩ := ih d3 r (c + 1) z3 c3
   have i4 : d4[i]! = true := p4.2.1 i (p3.2.1 i (p2.2.1 i (p1.2.1 i (by rw [hget]; simp))))
   have clI : ∀ y, Nb R C i y → Wh s y → d4[y]! = true := by
    rintro y ⟨r1, c1, r', c', b1, b2, b3, b4, q1, q2, q3⟩ hw
    obtain ⟨rfl, rfl⟩ := Mr b2 hc (q1.symm.trans hi)
    rcases q3 with ⟨rfl, rfl⟩ | ⟨rfl, rfl⟩ | ⟨rfl, rfl⟩ | ⟨rfl, rfl⟩
    ·exact p4.2.1 y (p3.2.1 y (p2.2.1 y (p1.2.2.1 y b3 b4 q2 hw)))
    ·exact p4.2.1 y (p3.2.1 y (p2.2.2.1 y b3 b4 q2 hw))
    ·exact p4.2.1 y (p3.2.2.1 y b3 b4 q2 hw)
    ·exact p4.2.2.1 y b3 b4 q2 hw
   refine ⟨d4, ?_, by rw [p4.1, z3, hd], fun j h => p4.2.1 j (p3.2.1 j (p2.2.1 j (p1.2.1 j (hsub j h)))), fun i' _ _ hi' _ => ?_, fun j h1 h2 => ?_⟩
   ·rw [← Dw]
    simp only [HandForm.dfs, hstop, Bool.false_eq_true, if_false, ← hi, Int.toNat_natCast]
    rw [Dx e1, Dx e2, Dx e3]
    exact e4
   ·rw [show i' = i by omega]; exact i4
   ·have : pW R C s i j ∧ ∀ y, Nb R C j y → Wh s y → d4[y]! = true := by
     cases h3 : d3[j]! with
     | false => exact p4.from hr hc hi (by omega) j h1 h3
     | true =>
      have up : (pW R C s i j ∧ ∀ y, Nb R C j y → Wh s y → d3[y]! = true) → pW R C s i j ∧ ∀ y, Nb R C j y → Wh s y → d4[y]! = true := fun q => ⟨q.1, fun y a b => p4.2.1 y (q.2 y a b)⟩
      cases h4 : d2[j]! with
      | false => exact up (p3.from hr hc hi (by omega) j h3 h4)
      | true =>
       have up2 : (pW R C s i j ∧ ∀ y, Nb R C j y → Wh s y → d2[y]! = true) → pW R C s i j ∧ ∀ y, Nb R C j y → Wh s y → d4[y]! = true := fun q => up ⟨q.1, fun y a b => p3.2.1 y (q.2 y a b)⟩
       cases h5 : d1[j]! with
       | false => exact up2 (p2.from hr hc hi (by omega) j h4 h5)
       | true =>
        cases h6 : (d.setIfInBounds i true)[j]! with
        | false =>
         have q := p1.from hr hc hi (by omega) j h5 h6
         exact up2 ⟨q.1, fun y a b => p2.2.1 y (q.2 y a b)⟩
        | true =>
         rw [hget, h2, Bool.or_false] at h6
         have := of_decide_eq_true h6
         subst this
         exact ⟨.refl, clI⟩
    exact ⟨⟨i, hr, hc, hi, hwi, this.1⟩, this.2⟩
def Met (R C : Int) (s : Oo) (i j : Nat) : Prop := ∃ a, a < i ∧ Wh s a ∧ pW R C s a j
theorem Met.closed {R C : Int} {s : Oo} {i x y : Nat} (h : Met R C s i x) (hn : Nb R C x y) (hw : Wh s y) : Met R C s i y := by
 obtain ⟨a, h1, h2, h3⟩ := h
 exact ⟨a, h1, h2, .step h3 hn hw⟩
theorem Met.succ {R C : Int} {s : Oo} {i j : Nat} : Met R C s (i + 1) j ↔ Met R C s i j ∨ (Wh s i ∧ pW R C s i j) := by
 constructor
 ·rintro ⟨a, h1, h2, h3⟩
  by_cases e : a = i
  ·subst e; exact .inr ⟨h2, h3⟩
  ·exact .inl ⟨a, by omega, h2, h3⟩
 ·rintro (⟨a, h1, h2, h3⟩ | ⟨h1, h2⟩)
  ·exact ⟨a, by omega, h2, h3⟩
  ·exact ⟨i, by omega, h1, h2⟩
theorem Met.same {R C : Int} {s : Oo} {i j : Nat} (h : Wh s i → Met R C s i i) : Met R C s (i + 1) j ↔ Met R C s i j := by
 rw [Met.succ]
 refine ⟨fun q => q.elim id (fun ⟨h1, h2⟩ => ?_), .inl⟩
 obtain ⟨a, a1, a2, a3⟩ := h h1
 exact ⟨a, a1, a2, a3.trans h2⟩
open Classical in
noncomputable def root (R C : Int) (s : Oo) (i : Nat) : Nat := if Wh s i ∧ ¬ Met R C s i i then 1 else 0
noncomputable def roots (R C : Int) (s : Oo) (i : Nat) : Nat := ((List.range' i (s.size - i)).map (root R C s)).sum
theorem Ky (R C : Int) (s : Oo) : roots R C s s.size = 0 := by simp [roots]
theorem JH (R C : Int) (s : Oo) (i : Nat) (hi : i < s.size) : roots R C s i = root R C s i + roots R C s (i + 1) := by
 unfold roots
 rw [show s.size - i = (s.size - (i + 1)) + 1 by omega, List.range'_succ]
 simp
theorem Lx {R C : Int} {s : Oo} {i : Nat} (h : Wh s i) (h' : ¬ Met R C s i i) : root R C s i = 1 := by unfold root; rw [if_pos ⟨h, h'⟩]
theorem KP {R C : Int} {s : Oo} {i : Nat} (h : Wh s i → Met R C s i i) : root R C s i = 0 := by unfold root; rw [if_neg (fun q => q.2 (h q.1))]
theorem NK {R C : Int} {s : Oo} (hs : (s.size : Int) = R * C) (hC : 0 < C) (d : Array Bool) (hd : d.size = s.size) (i : Nat) (hi : i < s.size) (hw : Wh s i) (hm : ∀ j : Nat, d[j]! = true ↔ Met R C s i j) :
  ∃ d', Ev (fun k => HandForm.dfs R C s k d ((i : Int) / C) ((i : Int) % C)) d' ∧ d'.size = s.size ∧ ∀ j : Nat, d'[j]! = true ↔ Met R C s (i + 1) j := by
 have hin := Ms hC (show (i : Int) < R * C by omega)
 have hof := cell_of C i
 obtain ⟨d', e, p1, p2, p3, p4⟩ := Ob hs _ d ((i : Int) / C) ((i : Int) % C) hd (Nat.lt_succ_self _)
 refine ⟨d', e, p1.trans hd, fun j => ?_⟩
 rw [Met.succ, ← hm]
 constructor
 ·intro h
  cases h0 : d[j]! with
  | true => exact .inl rfl
  | false =>
   obtain ⟨⟨i', _, _, a3, _, a5⟩, _⟩ := p4 j h h0
   rw [show i' = i by omega] at a5
   exact .inr ⟨hw, a5⟩
 ·rintro (h | ⟨_, h⟩)
  ·exact p2 j h
  ·induction h with
   | refl => exact p3 i hin.1 hin.2 hof hw
   | step hx hn hwy ih =>
    rename_i x y
    cases h0 : d[x]! with
    | true => exact p2 y ((hm y).2 (((hm x).1 h0).closed hn hwy))
    | false => exact (p4 x ih h0).2 y hn hwy
theorem Nu {R C : Int} {s : Oo} (hs : (s.size : Int) = R * C) (hC : 0 < C) : Ev (fun k => HandForm.parts R C s k (Array.replicate s.size false) 0 0) (roots R C s 0 : Int) := by
 have := DY (σ := Array Bool × Int) (fun k st i => HandForm.parts R C s k st.1 i st.2) s.size (fun i st => st.1.size = s.size ∧ ∀ j : Nat, st.1[j]! = true ↔ Met R C s i j) (fun i st => st.2 + (roots R C s i : Int)) (fun st hst => ?_) (fun i st hi hst => ?_) 0 (Array.replicate s.size false, 0) (Nat.zero_le _) ⟨by simp, fun j => ?_⟩
 ·simpa using this
 ·rw [Ky, ← Dw]
  simp only [HandForm.parts, Int.lt_irrefl, if_false]
  exact DT (Dz _) (by simp)
 ·obtain ⟨hd, hm⟩ := hst
  have hrs := JH R C s i hi
  by_cases hw : Wh s i
  ·cases h0 : st.1[i]! with
   | true =>
    refine .inr ⟨st, ⟨hd, fun j => ?_⟩, ?_, fun r hr => ?_⟩
    ·rw [hm, Met.same (fun _ => (hm i).1 h0)]
    ·rw [hrs, KP (fun _ => (hm i).1 h0)]; simp
    ·rw [← Dw]
     unfold Wh at hw
     simp only [HandForm.parts, Int.toNat_natCast, h0, if_true, hw]
     rw [ep]
     exact hr
   | false =>
    have hnm : ¬ Met R C s i i := fun q => by have := (hm i).2 q; rw [h0] at this; cases this
    obtain ⟨d', e, z, hm'⟩ := NK hs hC st.1 hd i hi hw hm
    refine .inr ⟨(d', st.2 + 1), ⟨z, hm'⟩, ?_, fun r hr => ?_⟩
    ·rw [hrs, Lx hw hnm]; simp; omega
    ·rw [← Dw]
     unfold Wh at hw
     simp only [HandForm.parts, Int.toNat_natCast, h0, Bool.false_eq_true, if_false, if_true, hw]
     rw [ep, Dx e]
     exact hr
  ·refine .inr ⟨st, ⟨hd, fun j => ?_⟩, ?_, fun r hr => ?_⟩
   ·rw [hm, Met.same (fun h => absurd h hw)]
   ·rw [hrs, KP (fun h => absurd h hw)]; simp
   ·rw [← Dw]
    unfold Wh at hw
    simp only [HandForm.parts, hw, if_false]
    rw [ep]
    exact hr
 ·constructor
  ·intro h
   exfalso
   rw [getElem!_def, Array.getElem?_replicate] at h
   split at h <;> simp_all
  ·rintro ⟨a, h, _⟩
   omega
noncomputable def Hg (R C : Int) (s : Oo) : Int := if DN R C s = true then (roots R C s 0 : Int) else 0
theorem IU (R C : Int) (s : Oo) : Ev (fun k => kG.f k R C s) (Hg R C s) := by
 unfold kG.f Hg
 rw [Dx (Eu R C s), Dy]
 split
 ·rename_i hg
  obtain ⟨_, h2, h3, _⟩ := Eh hg
  exact Nu h3 (by omega)
 ·exact Dz _
theorem Lr {R C : Int} {x : List Bool} (hC : 0 < C) (hx : (x.length : Int) = R * C) (y : Nat) (hy : y < x.length) : HandReach.rQ C x (y : Int) = true ↔ ∃ a : Nat, Nb R C a y ∧ x.getD a false = true := by
 have hin := Ms hC (show (y : Int) < R * C by omega)
 have hof := cell_of C y
 unfold HandReach.rQ
 constructor
 ·intro h
  simp only [Bool.or_eq_true, Bool.and_eq_true, decide_eq_true_eq] at h
  rcases h with ((⟨h1, h2⟩ | ⟨h1, h2⟩) | ⟨h1, h2⟩) | ⟨h1, h2⟩
  ·have h0 : 0 ≤ ((y : Int) / C) * C := Int.mul_nonneg hin.1.1 (by omega)
   exact ⟨((y : Int) - 1).toNat, ⟨(y : Int) / C, (y : Int) % C - 1, (y : Int) / C, (y : Int) % C, hin.1, by omega, hin.1, hin.2, by omega, hof, by omega⟩, h2⟩
  ·exact ⟨((y : Int) + 1).toNat, ⟨(y : Int) / C, (y : Int) % C + 1, (y : Int) / C, (y : Int) % C, hin.1, by omega, hin.1, hin.2, by omega, hof, by omega⟩, h2⟩
  ·have h3 : 1 ≤ (y : Int) / C := by
    refine Decidable.byContradiction fun q => ?_
    rw [show (y : Int) / C = 0 by omega] at hof
    omega
   have h4 : ((y : Int) / C - 1) * C = (y : Int) / C * C - C := by rw [Int.sub_mul, Int.one_mul]
   exact ⟨((y : Int) - C).toNat, ⟨(y : Int) / C - 1, (y : Int) % C, (y : Int) / C, (y : Int) % C, by omega, hin.2, hin.1, hin.2, by omega, hof, by omega⟩, h2⟩
  ·have h4 : ((y : Int) / C + 1) * C = (y : Int) / C * C + C := by rw [Int.add_mul, Int.one_mul]
   have h3 : (y : Int) / C + 1 < R := by
    refine Decidable.byContradiction fun q => ?_
    have : R * C ≤ ((y : Int) / C + 1) * C := Int.mul_le_mul_of_nonneg_right (by omega) (by omega)
    omega
   exact ⟨((y : Int) + C).toNat, ⟨(y : Int) / C + 1, (y : Int) % C, (y : Int) / C, (y : Int) % C, by omega, hin.2, hin.1, hin.2, by omega, hof, by omega⟩, h2⟩
 ·rintro ⟨a, ⟨r, c, r', c', b1, b2, b3, b4, q1, q2, q3⟩, h2⟩
  obtain ⟨e1, e2⟩ := Mr b4 hin.2 (q2.symm.trans hof)
  subst e1 e2
  have hat : ∀ z : Int, z = a → fB false x z = true := fun z hz => by subst hz; exact h2
  simp only [Bool.or_eq_true, Bool.and_eq_true, decide_eq_true_eq]
  rcases q3 with ⟨e1, e2⟩ | ⟨e1, e2⟩ | ⟨e1, e2⟩ | ⟨e1, e2⟩
  ·have h4 : r * C = (y : Int) / C * C + C := by rw [show r = (y : Int) / C + 1 by omega, Int.add_mul, Int.one_mul]
   have h5 := AX b1 b2
   exact .inr ⟨by omega, hat _ (by omega)⟩
  ·have h4 : r * C = (y : Int) / C * C - C := by rw [show r = (y : Int) / C - 1 by omega, Int.sub_mul, Int.one_mul]
   have h5 := AX b1 b2
   exact .inl (.inr ⟨by omega, hat _ (by omega)⟩)
  ·subst e1
   exact .inl (.inl (.inr ⟨by omega, hat _ (by omega)⟩))
  ·subst e1
   exact .inl (.inl (.inl ⟨by omega, hat _ (by omega)⟩))
def Nl (R C : Int) (s : Oo) (x x' : List Bool) : Prop :=
 x'.length = x.length ∧ (∀ j : Nat, x.getD j false = true → x'.getD j false = true) ∧ (∀ a y : Nat, x'.getD a false = true → Nb R C a y → Wh s y → x'.getD y false = true) ∧ ∀ j : Nat, x'.getD j false = true → ∃ a, x.getD a false = true ∧ pW R C s a j
theorem Jo (x : List Bool) (i j : Nat) (b : Bool) (hi : i < x.length) : (x.set i b).getD j false = if j = i then b else x.getD j false := by
 simp only [List.getD_eq_getElem?_getD, List.getElem?_set]
 by_cases h : j = i
 ·subst h; simp [hi]
 ·rw [if_neg (by omega), if_neg h]
theorem getD_lt {x : List Bool} {j : Nat} (h : x.getD j false = true) : j < x.length := by
 refine Decidable.byContradiction fun q => ?_
 rw [List.getD_eq_getElem?_getD, List.getElem?_eq_none (by omega)] at h
 cases h
theorem Nw {R C : Int} {s : Oo} (hs : (s.size : Int) = R * C) (hC : 0 < C) : ∀ (m : Nat) (x : List Bool), x.length = s.size → cnt s.size (fun j => x.getD j false) < m → ∃ x', Ev (fun k => HandReach.qA C s k x true) x' ∧ Nl R C s x x' := by
 intro m
 induction m with
 | zero => intro x _ h; omega
 | succ m ih =>
  have inner : ∀ (d i : Nat) (x : List Bool) (g : Bool), i + d = s.size → x.length = s.size → (g = true → cnt s.size (fun j => x.getD j false) < m) → (g = false → cnt s.size (fun j => x.getD j false) < m + 1 ∧ ∀ j, j < i → x.getD j false = true ∨ ¬ Wh s j ∨ HandReach.rQ C x (j : Int) = false) →
    ∃ x', Ev (fun k => HandReach.oI C s k x g (i : Int)) x' ∧ Nl R C s x x' := by
   intro d
   induction d with
   | zero =>
    intro i x g hi hx h1 h2
    have hi' : i = s.size := by omega
    subst hi'
    have hlast : ∀ x', Ev (fun k => HandReach.qA C s k x g) x' → Ev (fun k => HandReach.oI C s k x g (s.size : Int)) x' := by
     intro x' hx'
     rw [← Dw]
     simp only [HandReach.oI]
     rw [en]
     exact hx'
    cases g with
    | true =>
     obtain ⟨x', e, p⟩ := ih x hx (h1 rfl)
     exact ⟨x', hlast x' e, p⟩
    | false =>
     refine ⟨x, hlast x ?_, rfl, fun _ h => h, fun a y ha hn hw => ?_, fun j h => ⟨j, h, .refl⟩⟩
     ·rw [← Dw]
      simp only [HandReach.qA, Bool.false_eq_true, if_false]
      exact Dz _
     ·have hy : y < x.length := by have := hn.lt; omega
      rcases (h2 rfl).2 y (by omega) with h | h | h
      ·exact h
      ·exact absurd hw h
      ·rw [(Lr hC (by omega) y hy).2 ⟨a, hn, ha⟩] at h
       cases h
   | succ d ihd =>
    intro i x g hi hx h1 h2
    have hil : i < x.length := by omega
    have hri : fB false x (i : Int) = x.getD i false := rfl
    by_cases hb : x.getD i false = true ∨ ¬ Wh s i
    ·obtain ⟨x', e, p⟩ := ihd (i + 1) x g (by omega) hx h1 (fun hg => ⟨(h2 hg).1, fun j hj => by
      by_cases hji : j = i
      ·subst hji; exact hb.elim .inl (fun q => .inr (.inl q))
      ·exact (h2 hg).2 j (by omega)⟩)
     refine ⟨x', ?_, p⟩
     rw [← Dw]
     simp only [HandReach.oI, hri]
     rw [ep, Dy, if_pos]
     ·exact e
     ·rcases hb with h | h
      ·rw [h, Bool.true_or]
      ·have : (bt s (i : Int) != 46) = true := bne_iff_ne.2 h
       rw [this, Bool.or_true]
    ·have hb1 : x.getD i false = false := by simpa using fun q => hb (.inl q)
     have hb2 : Wh s i := Classical.byContradiction fun q => hb (.inr q)
     have hcond : (x.getD i false || (bt s (i : Int) != 46)) = false := by rw [hb1, show bt s (i : Int) = 46 from hb2]; rfl
     by_cases hn : HandReach.rQ C x (i : Int) = true
     ·have hset := fun j => Jo x i j true hil
      have hsub : ∀ j : Nat, x.getD j false = true → (x.set i true).getD j false = true := fun j h => by
       rw [hset]; split
       ·rfl
       ·exact h
      have hcl : cnt s.size (fun j => (x.set i true).getD j false) < m := by
       have h3 := cnt_lt (d := fun j => x.getD j false) (d' := fun j => (x.set i true).getD j false) hsub i hb1 (by show (x.set i true).getD i false = true; rw [hset, if_pos rfl]) s.size (by omega)
       cases g with
       | true => have := h1 rfl; omega
       | false => have := (h2 rfl).1; omega
      obtain ⟨x', e, p1, p2, p3, p4⟩ := ihd (i + 1) (x.set i true) true (by omega) (by rw [List.length_set]; exact hx) (fun _ => hcl) (fun h => by cases h)
      refine ⟨x', ?_, by rw [p1, List.length_set], fun j h => p2 j (hsub j h), p3, fun j h => ?_⟩
      ·rw [← Dw]
       simp only [HandReach.oI, hri, hcond, Bool.false_eq_true, if_false, hn, if_true, Int.toNat_natCast]
       rw [ep]
       exact e
      ·obtain ⟨a, ha, hc⟩ := p4 j h
       rw [hset] at ha
       by_cases hai : a = i
       ·subst hai
        obtain ⟨b, hb1, hb3⟩ := (Lr (R := R) hC (by omega) a hil).1 hn
        exact ⟨b, hb3, (pW.step .refl hb1 hb2).trans hc⟩
       ·rw [if_neg hai] at ha
        exact ⟨a, ha, hc⟩
     ·rw [Bool.not_eq_true] at hn
      obtain ⟨x', e, p⟩ := ihd (i + 1) x g (by omega) hx h1 (fun hg => ⟨(h2 hg).1, fun j hj => by
       by_cases hji : j = i
       ·subst hji; exact .inr (.inr hn)
       ·exact (h2 hg).2 j (by omega)⟩)
      refine ⟨x', ?_, p⟩
      rw [← Dw]
      simp only [HandReach.oI, hri, hcond, Bool.false_eq_true, if_false, hn]
      rw [ep]
      exact e
  intro x hx hm
  obtain ⟨x', e, p⟩ := inner s.size 0 x false (by omega) hx (fun h => by cases h) (fun _ => ⟨hm, fun j hj => by omega⟩)
  refine ⟨x', ?_, p⟩
  rw [← Dw]
  simp only [HandReach.qA, if_true]
  exact e
theorem Md {R C : Int} {s : Oo} (hg : DN R C s = true) (i : Nat) (hi : i < s.size) : ∃ x', Ev (fun k => lK.f k R C s (List.replicate s.size false) (i : Int)) x' ∧ x'.length = s.size ∧ ∀ j : Nat, x'.getD j false = true ↔ pW R C s i j := by
 obtain ⟨hR, hC, hs, _⟩ := Eh hg
 have hl : (List.replicate s.size false).length = s.size := List.length_replicate
 have hset := fun j => Jo (List.replicate s.size false) i j true (by omega)
 have hrep : ∀ j : Nat, (List.replicate s.size false).getD j false = false := fun j => by
  rw [List.getD_eq_getElem?_getD, List.getElem?_replicate]
  split <;> rfl
 obtain ⟨x', e, p1, p2, p3, p4⟩ := Nw hs (by omega) _ ((List.replicate s.size false).set i true) (by rw [List.length_set, hl]) (Nat.lt_succ_self _)
 refine ⟨x', ?_, by rw [p1, List.length_set, hl], fun j => ⟨fun h => ?_, fun h => ?_⟩⟩
 ·unfold lK.f HandReach.sN
  rw [Dy, if_pos ⟨hR, hC, hs, by omega, by omega, by omega⟩, Int.toNat_natCast]
  exact e
 ·obtain ⟨a, h1, h2⟩ := p4 j h
  rw [hset, hrep] at h1
  by_cases ha : a = i
  ·subst ha; exact h2
  ·rw [if_neg ha] at h1; cases h1
 ·induction h with
  | refl => exact p2 i (by rw [hset, if_pos rfl])
  | step hx hn hw ih => exact p3 _ _ ih hn hw
theorem LM {R C : Int} {s : Oo} (n : Int) (x one : List Bool) (hx : x.length = s.size) (ho : one.length = s.size) (hsz : s.size ≤ 36) (i : Nat) (r : Int)
  (hr : ∀ x' : List Bool, x'.length = s.size → (∀ j : Nat, x'.getD j false = true ↔ x.getD j false = true ∨ one.getD j false = true) → Ev (fun k => aT.l1 k n x' (wrap64 ((i : Int) + 1)) R C s) r) : Ev (fun k => aT.l3 k n x (i : Int) one 0 R C s) r := by
 refine DY (σ := List Bool) (fun k a j => aT.l3 k n a (i : Int) one j R C s) s.size (fun t a => a.length = s.size ∧ ∀ j : Nat, a.getD j false = true ↔ x.getD j false = true ∨ (j < t ∧ one.getD j false = true)) (fun _ _ => r) (fun a ha => ?_) (fun t a ht ha => ?_) 0 x (Nat.zero_le _) ⟨hx, fun j => by simp⟩
 ·rw [← Dw]
  simp only [aT.l3]
  rw [en]
  refine hr a ha.1 (fun j => ?_)
  rw [ha.2]
  exact ⟨fun q => q.imp id (·.2), fun q => q.imp id (fun h => ⟨by have := getD_lt h; omega, h⟩)⟩
 ·have htl : t < a.length := by omega
  have hra : fB false a (t : Int) = a.getD t false := rfl
  have hro : fB false one (t : Int) = one.getD t false := rfl
  refine .inr ⟨a.set t (a.getD t false || one.getD t false), ⟨by rw [List.length_set]; exact ha.1, fun j => ?_⟩, rfl, fun r' hr' => ?_⟩
  ·rw [Jo _ _ _ _ htl]
   by_cases hj : j = t
   ·subst hj
    rw [if_pos rfl, Bool.or_eq_true, ha.2]
    constructor
    ·rintro ((h | ⟨h, _⟩) | h)
     ·exact .inl h
     ·omega
     ·exact .inr ⟨by omega, h⟩
    ·rintro (h | ⟨_, h⟩)
     ·exact .inl (.inl h)
     ·exact .inr h
   ·rw [if_neg hj, ha.2]
    exact ⟨fun q => q.imp id (fun h => ⟨by omega, h.2⟩), fun q => q.imp id (fun h => ⟨by omega, h.2⟩)⟩
  ·rw [← Dw]
   simp only [aT.l3, hra, hro, DI (i := t) (by omega), Int.toNat_natCast]
   rw [ep, ep, Dy]
   by_cases h : a.getD t false = true
   ·rw [if_pos h]
    rw [h, Bool.true_or] at hr'
    exact hr'
   ·rw [Bool.not_eq_true] at h
    rw [h, Bool.false_or] at hr'
    rw [if_neg (by rw [h]; exact Bool.false_ne_true), ep]
    exact hr'
theorem LK {R C : Int} {s : Oo} (n : Int) (x : List Bool) (hx : x.length = s.size) (hsz : s.size ≤ 36) (i : Nat) (one : List Bool) (r : Int) (ho : Ev (fun k => lK.f k R C s (List.replicate s.size false) (i : Int)) one)
  (hr : Ev (fun k => aT.l3 k n x (i : Int) one 0 R C s) r) : Ev (fun k => aT.l2 k n x (i : Int) [] 0 R C s) r := by
 refine DY (σ := List Bool) (fun k a j => aT.l2 k n x (i : Int) a j R C s) s.size (fun t a => a = List.replicate t false) (fun _ _ => r) (fun a ha => ?_) (fun t a ht ha => .inr ⟨a ++ [false], ?_, rfl, fun r' hr' => ?_⟩) 0 [] (Nat.zero_le _) rfl
 ·subst ha
  rw [← Dw]
  simp only [aT.l2]
  rw [en, Dx ho]
  exact hr
 ·rw [ha, List.replicate_succ']
 ·have hal : a.length = t := by rw [ha, List.length_replicate]
  rw [← Dw]
  simp only [aT.l2, DI (i := t) (by omega)]
  rw [ep, ep]
  exact hr'
theorem LJ {R C : Int} {s : Oo} (hg : DN R C s = true) : Ev (fun k => aT.l1 k 0 (List.replicate s.size false) 0 R C s) (roots R C s 0 : Int) := by
 obtain ⟨hR, hC, hs, _⟩ := Eh hg
 have hsz := DU hg
 have := DY (σ := List Bool × Int) (fun k st i => aT.l1 k st.2 st.1 i R C s) s.size (fun i st => (st.1.length = s.size ∧ 0 ≤ st.2 ∧ st.2 ≤ i) ∧ ∀ j : Nat, st.1.getD j false = true ↔ Met R C s i j) (fun i st => st.2 + (roots R C s i : Int)) (fun st hst => ?_) (fun i st hi hst => ?_) 0 (List.replicate s.size false, 0) (Nat.zero_le _) ⟨⟨by simp, by simp, by simp⟩, fun j => ?_⟩
 ·simpa using this
 ·rw [Ky, ← Dw]
  simp only [aT.l1, Int.lt_irrefl, if_false]
  rw [← Dw]
  simp only [aT.j2, Bool.false_eq_true, if_false]
  exact DT (Dz _) (by simp)
 ·obtain ⟨⟨hx, hn0, hni⟩, hm⟩ := hst
  have hrs := JH R C s i hi
  have hri : fB false st.1 (i : Int) = st.1.getD i false := rfl
  have start : ∀ b : Bool, (if bt s (i : Int) = 46 then (!(st.1.getD i false)) else false) = b → ∀ r, Ev (fun k => aT.j3 k st.2 st.1 (i : Int) b R C s) r → Ev (fun k => aT.l1 k st.2 st.1 (i : Int) R C s) r := by
   intro b hb r hr
   rw [← Dw]
   simp only [aT.l1]
   rw [ep, Dx (Ed R C s), hg, ← Dw]
   simp only [aT.j2, if_true, hri]
   rw [ep, ep, Dy]
   by_cases hw : bt s (i : Int) = 46
   ·rw [if_pos hw] at hb ⊢
    rw [ep, hb]
    exact hr
   ·rw [if_neg hw] at hb ⊢
    rw [hb]
    exact hr
  have skip : (Wh s i → Met R C s i i) → (if bt s (i : Int) = 46 then (!(st.1.getD i false)) else false) = false → ∃ s' : List Bool × Int, ((s'.1.length = s.size ∧ 0 ≤ s'.2 ∧ s'.2 ≤ ((i + 1 : Nat) : Int)) ∧ ∀ j : Nat, s'.1.getD j false = true ↔ Met R C s (i + 1) j) ∧ st.2 + (roots R C s i : Int) = s'.2 + (roots R C s (i + 1) : Int) ∧ ∀ r, Ev (fun k => aT.l1 k s'.2 s'.1 ((i + 1 : Nat) : Int) R C s) r → Ev (fun k => aT.l1 k st.2 st.1 (i : Int) R C s) r := by
   intro h hb
   refine ⟨st, ⟨⟨hx, hn0, by omega⟩, fun j => ?_⟩, ?_, fun r hr => start false hb r ?_⟩
   ·rw [hm, Met.same h]
   ·rw [hrs, KP h]; simp
   ·rw [← Dw]
    simp only [aT.j3, Bool.false_eq_true, if_false, DI (i := i) (by omega)]
    exact hr
  by_cases hw : Wh s i
  ·cases h0 : st.1.getD i false with
   | true => exact .inr (skip (fun _ => (hm i).1 h0) (by unfold Wh at hw; rw [if_pos hw, h0]; rfl))
   | false =>
    have hnm : ¬ Met R C s i i := fun q => by have := (hm i).2 q; rw [h0] at this; cases this
    obtain ⟨one, e, z, hone⟩ := Md hg i hi
    obtain ⟨x', hx'⟩ : ∃ x' : List Bool, x'.length = s.size ∧ ∀ j : Nat, x'.getD j false = true ↔ st.1.getD j false = true ∨ one.getD j false = true := by
     refine ⟨(List.range s.size).map (fun j => st.1.getD j false || one.getD j false), by simp, fun j => ?_⟩
     by_cases hj : j < s.size
     ·rw [List.getD_eq_getElem?_getD, List.getElem?_map, List.getElem?_range hj]
      simp
     ·rw [List.getD_eq_getElem?_getD, List.getElem?_eq_none (by simp; omega)]
      constructor
      ·intro q
       cases q
      ·intro q
       rcases q with q | q
       ·have := getD_lt q; omega
       ·have := getD_lt q; omega
    have hsame : ∀ y : List Bool, y.length = s.size → (∀ j : Nat, y.getD j false = true ↔ st.1.getD j false = true ∨ one.getD j false = true) → y = x' := by
     intro y hy1 hy2
     refine List.ext_getElem (by omega) (fun j h1 h2 => ?_)
     have e1 : y.getD j false = y[j] := by simp [List.getD_eq_getElem?_getD, List.getElem?_eq_getElem h1]
     have e2 : x'.getD j false = x'[j] := by simp [List.getD_eq_getElem?_getD, List.getElem?_eq_getElem h2]
     rw [← e1, ← e2, Bool.eq_iff_iff, hy2, hx'.2]
    refine .inr ⟨(x', st.2 + 1), ⟨⟨hx'.1, by show 0 ≤ st.2 + 1; omega, by show st.2 + 1 ≤ _; omega⟩, fun j => ?_⟩, ?_, fun r hr => start true (by unfold Wh at hw; rw [if_pos hw, h0]; rfl) r ?_⟩
    ·rw [hx'.2, hm, hone, Met.succ]
     exact ⟨fun q => q.imp id (fun h => ⟨hw, h⟩), fun q => q.imp id (·.2)⟩
    ·rw [hrs, Lx hw hnm]; simp; omega
    ·have e1 : wrap64 (st.2 + 1) = st.2 + 1 := El (by omega) (by omega)
     rw [← Dw]
     simp only [aT.j3, if_true, e1]
     refine LK _ _ hx hsz.2 i one r e (LM _ _ one hx z hsz.2 i r (fun y hy1 hy2 => ?_))
     rw [hsame y hy1 hy2, DI (i := i) (by omega)]
     exact hr
  ·exact .inr (skip (fun h => absurd h hw) (by unfold Wh at hw; rw [if_neg hw]))
 ·constructor
  ·intro h
   exfalso
   rw [List.getD_eq_getElem?_getD, List.getElem?_replicate] at h
   split at h <;> simp at h
  ·rintro ⟨a, h, _⟩
   omega
theorem Jg {R C : Int} {s : Oo} (hsz : s.size < 140737488355328) (r : Int) (hr : Ev (fun k => aT.l1 k 0 (List.replicate s.size false) 0 R C s) r) : Ev (fun k => aT.f k R C s) r := by
 unfold aT.f
 refine DY (σ := List Bool) (fun k a j => aT.l0 k 0 a j R C s) s.size (fun t a => a = List.replicate t false) (fun _ _ => r) (fun a ha => ?_) (fun t a ht ha => .inr ⟨a ++ [false], ?_, rfl, fun r' hr' => ?_⟩) 0 [] (Nat.zero_le _) rfl
 ·subst ha
  rw [← Dw]
  simp only [aT.l0, Int.lt_irrefl, if_false]
  exact hr
 ·rw [ha, List.replicate_succ']
 ·have hal : a.length = t := by rw [ha, List.length_replicate]
  rw [← Dw]
  simp only [aT.l0, DI (i := t) (by omega)]
  rw [ep, ep]
  exact hr'
theorem Jc (R C : Int) (s : Oo) (hsz : s.size < 140737488355328) : Ev (fun k => aT.f k R C s) (Hg R C s) := by
 unfold Hg
 split
 ·rename_i hg
  exact Jg hsz _ (LJ hg)
 ·rename_i hg
  rw [Bool.not_eq_true] at hg
  refine Jg hsz _ ?_
  have : Ev (fun k => aT.j2 k 0 (List.replicate s.size false) 0 false R C s) 0 := by
   rw [← Dw]
   simp only [aT.j2, Bool.false_eq_true, if_false]
   exact Dz _
  rw [← Dw]
  simp only [aT.l1]
  rw [Dy]
  split
  ·rw [Dx (Ed R C s), hg]
   exact this
  ·exact this
def ND (R C : Int) (s : Oo) : Bool := DN R C s && decide (IZ s = s)
theorem Iy {R C : Int} {s : Oo} (hg : DN R C s = true) : Ev (fun k => kQ.f k R C s) (R, C, IZ s) := by
 have := DU hg
 unfold kQ.f
 rw [Dx (Ed R C s), ep hg, Dx (FL s (by omega))]
 exact Dz _
theorem Il {R C : Int} {s : Oo} (hg : DN R C s = true) : Ev (fun k => kM.f k R C s) (R, C, IZ s) := by
 have := DU hg
 unfold kM.f
 rw [Dx (Eu R C s), ep hg]
 simp only [FH s (by omega), Option.bind_some]
 exact Dz _
theorem GK (R C : Int) (s : Oo) : Ev (fun k => dV.f k R C s) (ND R C s) := by
 unfold dV.f ND
 rw [Dx (Ed R C s), Dy]
 split
 ·rename_i hg
  rw [Dx (Iy hg)]
  exact DT (Dz _) (by simp [hg, En])
 ·rename_i hg
  exact DT (Dz _) (by simp [hg])
theorem GA (R C : Int) (s : Oo) : Ev (fun k => dP.f k R C s) (ND R C s) := by
 unfold dP.f ND
 rw [Dx (Eu R C s), Dy]
 split
 ·rename_i hg
  rw [Dx (Il hg)]
  exact DT (Dz _) (by simp [hg, En, eq_comm])
 ·rename_i hg
  exact DT (Dz _) (by simp [hg])
theorem MQ (l : List Int) (x : Int) (hl : l.length < 4611686018427387904) : Ev (fun k => dO.f k l x) (match l.findIdx? (fun y => decide (y = x)) with | some i => (i : Int) | none => -1) := by
 refine FV (fun k i => dO.l0 k l x (l.length : Int) i) l _ ?_ (fun i hi hp r hr => ?_) (fun i hi hp => ?_)
 ·rw [← Dw]; simp [dO.l0, Dz]
 ·rw [← Dw]
  simp only [dO.l0, ET l i hi, DI (i := i) (by omega)]
  rw [ep, ep, ep, en (fun e => of_decide_eq_false hp e.symm)]
  exact hr
 ·rw [← Dw]
  simp only [dO.l0, ET l i hi]
  rw [ep, ep, ep, Dy, if_pos (of_decide_eq_true hp).symm]
  exact Dz _
theorem Le {α : Type} (l : List α) (p : α → Bool) : decide ((match l.findIdx? p with | some i => (i : Int) | none => -1) ≥ 0) = l.any p := by
 cases h : l.findIdx? p with
 | none =>
  have := List.findIdx?_eq_none_iff.1 h
  simp
  intro x hx
  simpa using this x hx
 | some i =>
  obtain ⟨h1, h2, _⟩ := List.findIdx?_eq_some_iff_getElem.1 h
  simp
  exact ⟨l[i], gM h1, h2⟩
theorem KC (l : List Int) (x : Int) (hl : l.length < 4611686018427387904) : Ev (fun k => iC.f k l x) (l.any (fun y => decide (y = x))) := by
 unfold iC.f
 rw [Dx (MQ l x hl), Le]
 exact Dz _
def Jp (C : Int) (c : Int) (x : gu) : Bool := (DF C x).any (fun y => decide (y = c))
noncomputable def Fa (R C : Int) (s : Oo) (c : Int) : List Int := (List.range (DC R C s).length).flatMap (fun (i : Nat) => if ((DC R C s)[i]?).any (Jp C c) = true then [(i : Int)] else [])
theorem GY (R C : Int) (s : Oo) (c : Int) (i : Nat) : (((List.range (DC R C s).length).take i).flatMap (fun (i : Nat) => if ((DC R C s)[i]?).any (Jp C c) = true then [(i : Int)] else [])).length ≤ 72 := by
 have h1 := EW (fun i : Nat => if ((DC R C s)[i]?).any (Jp C c) = true then [(i : Int)] else []) 1 i (List.range (DC R C s).length) (fun x _ => by split <;> simp)
 have h2 := (DJ R C s).2.2
 rw [List.length_range] at h1
 omega
theorem KS (R C : Int) (s : Oo) (c : Int) : (((Fa R C s c).length : Int) = 0) ↔ c ∉ ((DC R C s).map (DF C)).flatten := by
 have : ((Fa R C s c).length : Int) = 0 ↔ Fa R C s c = [] := by rw [← List.length_eq_zero_iff]; omega
 rw [this]
 unfold Fa
 rw [List.flatMap_eq_nil_iff]
 simp only [List.mem_range, List.mem_flatten, List.mem_map]
 constructor
 ·rintro h ⟨l, ⟨x, hx, rfl⟩, hc⟩
  obtain ⟨i, hi, rfl⟩ := List.getElem_of_mem hx
  have := h i hi
  rw [if_pos] at this
  ·cases this
  ·rw [List.getElem?_eq_getElem hi]
   show Jp C c (DC R C s)[i] = true
   exact List.any_eq_true.2 ⟨c, hc, dT rfl⟩
 ·intro h i hi
  rw [if_neg]
  rw [List.getElem?_eq_getElem hi]
  intro q
  obtain ⟨y, hy, e⟩ := List.any_eq_true.1 (show Jp C c (DC R C s)[i] = true from q)
  have := of_decide_eq_true e
  subst this
  exact h ⟨_, ⟨_, gM hi, rfl⟩, hy⟩
theorem Fh (R C : Int) (s : Oo) (c : Int) : Ev (fun k => dw.f k R C s c) (Fa R C s c) := by
 have hlen := (DJ R C s).2.2
 have hlr : (List.range (DC R C s).length).length = (DC R C s).length := List.length_range
 unfold dw.f
 rw [Dx (Ee R C s)]
 refine EG (fun k a i => dw.l0 k c a (DC R C s) i R C s) (List.range (DC R C s).length) (fun (i : Nat) => if ((DC R C s)[i]?).any (Jp C c) = true then [(i : Int)] else []) 0 (fun a => ?_) (fun i hi a ha r hr => ?_)
 ·rw [← Dw]; simp only [dw.l0, hlr, Int.lt_irrefl, if_false]; exact Dz _
 ·have hb := GY R C s c i
  have hi' : i < (DC R C s).length := by omega
  have hm := gM hi'
  have hcl : (DF C (DC R C s)[i]).length < 4611686018427387904 := by rw [DX]; have := ((DJ R C s).1 _ hm).2.2.2.1; omega
  rw [List.getElem_range, List.getElem?_eq_getElem hi'] at hr
  rw [← Dw]
  simp only [dw.l0, EA _ i hi', DI (i := i) (by omega)]
  rw [ep, ep, Dx (EK _ hm), Dx (Km _ c hcl), Dy]
  by_cases h : (DF C (DC R C s)[i]).any (fun y => decide (y = c)) = true
  ·rw [if_pos (show Option.any (Jp C c) (some (DC R C s)[i]) = true from h)] at hr
   rw [if_pos h, ep]
   exact hr
  ·rw [if_neg (show ¬ Option.any (Jp C c) (some (DC R C s)[i]) = true from h), List.append_nil] at hr
   rw [if_neg h]
   exact hr
noncomputable def KX (R C : Int) (s : Oo) (c : Int) : Bool := ((Fa R C s c).length : Int) == 2
noncomputable def Fx (R C : Int) (s : Oo) (x : gu) : Int := (((DF C x).countP (fun c => !KX R C s c) : Nat) : Int)
theorem FM (R C : Int) (s : Oo) (c : Int) : Ev (fun k => kF.f k R C s c) (KX R C s c) := by
 unfold kF.f
 rw [Dx (Fh R C s c)]
 exact Dz _
theorem Fw (R C : Int) (s : Oo) (i : Nat) (hi : i < (DC R C s).length) : Ev (fun k => fu.f k R C s (i : Int)) (Fx R C s (DC R C s)[i]) := by
 have hlen := (DJ R C s).2.2
 have hm := gM hi
 have ok := (DJ R C s).1 _ hm
 have hcl := DX C (DC R C s)[i]
 have hok := ok.2.2.2.1
 have e : wrap64 (((DC R C s).length : Int) - 1) = (DC R C s).length - 1 := El (by omega) (by omega)
 unfold fu.f
 rw [Dx (Ee R C s)]
 simp only [EF, Option.bind_some, e, EA _ i hi]
 rw [ep (by simp; omega), ep, ep, Dx (EK _ hm)]
 unfold Fx
 generalize DF C (DC R C s)[i] = l at hcl
 have := DY (σ := Nat) (fun k a j => fu.l0 k l (a : Int) j R C s) l.length (fun j a => a ≤ j) (fun j a => ((a + (l.drop j).countP (fun c => !KX R C s c) : Nat) : Int)) (fun a ha => ?_) (fun j a hj ha => ?_) 0 0 (Nat.zero_le _) (nR _)
 ·simpa using this
 ·rw [← Dw]
  simp only [fu.l0, List.drop_length, List.countP_nil, Nat.add_zero, Int.lt_irrefl, if_false]
  exact Dz _
 ·rw [List.drop_eq_getElem_cons hj, List.countP_cons]
  have ew : wrap64 ((a : Int) + 1) = ((a + 1 : Nat) : Int) := DI (by omega)
  by_cases h : KX R C s l[j] = true
  ·refine .inr ⟨a, by omega, by simp [h], fun r hr => ?_⟩
   rw [← Dw]
   simp only [fu.l0, ET l j hj, DI (i := j) (by omega), ew]
   rw [ep, ep, Dx (FM R C s l[j]), ep h]
   exact hr
  ·refine .inr ⟨a + 1, by omega, by simp [h]; omega, fun r hr => ?_⟩
   rw [← Dw]
   simp only [fu.l0, ET l j hj, DI (i := j) (by omega), ew]
   rw [ep, ep, Dx (FM R C s l[j]), en h]
   exact hr
theorem LH (R C : Int) (s : Oo) (x : gu) (hx : x ∈ DC R C s) : 0 ≤ Fx R C s x ∧ Fx R C s x ≤ 6 := by
 have ok := (DJ R C s).1 _ hx
 have h1 := DX C x
 have h2 := ok.2.2.2.1
 have h3 : (DF C x).countP (fun c => !KX R C s c) ≤ (DF C x).length := List.countP_le_length
 unfold Fx
 omega
theorem IV (R C : Int) (s : Oo) (c : Int) : Ev (fun k => gP.f k R C s c) (Fa R C s c) := by
 have hlen := (DJ R C s).2.2
 have hlr : (List.range (DC R C s).length).length = (DC R C s).length := List.length_range
 have hll : ((DC R C s).map (DF C)).length = (DC R C s).length := List.length_map _
 unfold gP.f
 rw [Dx (EC R C s)]
 refine EG (fun k a i => gP.l0 k c a ((DC R C s).map (DF C)) (((DC R C s).map (DF C)).length : Int) i) (List.range (DC R C s).length) (fun (i : Nat) => if ((DC R C s)[i]?).any (Jp C c) = true then [(i : Int)] else []) 0 (fun a => ?_) (fun i hi a ha r hr => ?_)
 ·rw [← Dw]; simp only [gP.l0, hlr, hll, Int.lt_irrefl, if_false]; exact Dz _
 ·have hb := GY R C s c i
  have hi' : i < (DC R C s).length := by omega
  have hm := gM hi'
  have hcl : (DF C (DC R C s)[i]).length < 4611686018427387904 := by rw [DX]; have := ((DJ R C s).1 _ hm).2.2.2.1; omega
  have hL : ((DC R C s).map (DF C))[i]'(by omega) = DF C (DC R C s)[i] := List.getElem_map _
  rw [List.getElem_range, List.getElem?_eq_getElem hi'] at hr
  rw [← Dw]
  simp only [gP.l0, LZ ((DC R C s).map (DF C)) i (by omega), hL, DI (i := i) (by omega)]
  rw [ep, ep, ep, Dx (KC _ c hcl), Dy]
  by_cases h : (DF C (DC R C s)[i]).any (fun y => decide (y = c)) = true
  ·rw [if_pos (show Option.any (Jp C c) (some (DC R C s)[i]) = true from h)] at hr
   rw [if_pos h, ep]
   exact hr
  ·rw [if_neg (show ¬ Option.any (Jp C c) (some (DC R C s)[i]) = true from h), List.append_nil] at hr
   rw [if_neg h]
   exact hr
theorem FI (R C : Int) (s : Oo) (c : Int) : Ev (fun k => kr.f k R C s c) (KX R C s c) := by
 unfold kr.f
 rw [Dx (IV R C s c)]
 exact Dz _
theorem Fp (R C : Int) (s : Oo) (i : Nat) (hi : i < (DC R C s).length) : Ev (fun k => fq.f k R C s (i : Int)) (Fx R C s (DC R C s)[i]) := by
 have hlen := (DJ R C s).2.2
 have hm := gM hi
 have ok := (DJ R C s).1 _ hm
 have hcl := DX C (DC R C s)[i]
 have hok := ok.2.2.2.1
 have hll : ((DC R C s).map (DF C)).length = (DC R C s).length := List.length_map _
 have hL : ((DC R C s).map (DF C))[i]'(by omega) = DF C (DC R C s)[i] := List.getElem_map _
 unfold fq.f
 rw [Dx (EC R C s)]
 simp only [at_eq, Option.bind_some, LZ ((DC R C s).map (DF C)) i (by omega), hL]
 rw [ep (by simp; omega), ep, ep]
 unfold Fx
 generalize DF C (DC R C s)[i] = l at hcl
 have := DY (σ := Nat) (fun k a j => fq.l0 k (a : Int) l (l.length : Int) j R C s) l.length (fun j a => a ≤ j) (fun j a => ((a + (l.drop j).countP (fun c => !KX R C s c) : Nat) : Int)) (fun a ha => ?_) (fun j a hj ha => ?_) 0 0 (Nat.zero_le _) (nR _)
 ·simpa using this
 ·rw [← Dw]
  simp only [fq.l0, List.drop_length, List.countP_nil, Nat.add_zero, Int.lt_irrefl, if_false]
  exact Dz _
 ·rw [List.drop_eq_getElem_cons hj, List.countP_cons]
  have ew : wrap64 ((a : Int) + 1) = ((a + 1 : Nat) : Int) := DI (by omega)
  by_cases h : KX R C s l[j] = true
  ·refine .inr ⟨a, by omega, by simp [h], fun r hr => ?_⟩
   rw [← Dw]
   simp only [fq.l0, ET l j hj, DI (i := j) (by omega), ew]
   rw [ep, ep, ep, Dx (FI R C s l[j]), ep h]
   exact hr
  ·refine .inr ⟨a + 1, by omega, by simp [h]; omega, fun r hr => ?_⟩
   rw [← Dw]
   simp only [fq.l0, ET l j hj, DI (i := j) (by omega), ew]
   rw [ep, ep, ep, Dx (FI R C s l[j]), en h]
   exact hr
noncomputable def Me (R C : Int) (s : Oo) : Bool := (DC R C s).any (fun x => decide (x.f3 < 3))
noncomputable def Io (R C : Int) (s : Oo) : Bool := (DC R C s).any (fun x => decide (2 * Fx R C s x > x.f3))
noncomputable def FC (R C : Int) (s : Oo) (c : Nat) : Bool := decide (bt s (c : Int) = 46) && decide (((Fa R C s c).length : Int) = 0)
noncomputable def GU (R C : Int) (s : Oo) : Int :=
 if DN R C s = true then (if ND R C s = true then (if (Hg R C s == 1) = true then (if Me R C s = true then 4 else if (Io R C s || (List.range s.size).any (FC R C s)) = true then 5 else 0) else 3) else 2) else 1
theorem Gh {R C : Int} {s : Oo} (hg : DN R C s = true) (c : Nat) (hc : c < s.size) : Ev (fun k => lG.f k R C s (c : Int)) (bt s (c : Int) == 46) := by
 have := DU hg
 have e : wrap64 ((s.size : Int) - 1) = s.size - 1 := El (by omega) (by omega)
 unfold lG.f
 rw [Dx (Ed R C s), ep hg]
 simp only [EF, Option.bind_some, e]
 rw [ep (by simp; omega), ep, ep]
 exact Dz _
theorem IC (R C : Int) (s : Oo) : Ev (fun k => iw.f k R C s) (Me R C s) := by
 have hlen := (DJ R C s).2.2
 unfold iw.f
 rw [Dx (Ee R C s)]
 refine FT (fun k i => iw.l0 k (DC R C s) i) (DC R C s) (fun x => decide (x.f3 < 3)) ?_ (fun i hi hp r hr => ?_) (fun i hi hp => ?_)
 ·rw [← Dw]; simp [iw.l0, Dz]
 ·rw [← Dw]
  simp only [iw.l0, EA _ i hi, DI (i := i) (by omega)]
  rw [ep, ep, en (of_decide_eq_false hp)]
  exact hr
 ·rw [← Dw]
  simp only [iw.l0, EA _ i hi]
  rw [ep, ep, ep (of_decide_eq_true hp)]
  exact Dz _
theorem IB {R C : Int} {s : Oo} (hg : DN R C s = true) : Ev (fun k => bP.l1 k 0 R C s) ((List.range s.size).any (FC R C s)) := by
 have hsz := DU hg
 have hlr : (List.range s.size).length = s.size := List.length_range
 refine FT (fun k i => bP.l1 k i R C s) (List.range s.size) (FC R C s) ?_ (fun i hi hp r hr => ?_) (fun i hi hp => ?_)
 ·rw [← Dw]; simp [bP.l1, Dz]
 ·have hi' : i < s.size := by omega
  rw [List.getElem_range] at hp
  rw [← Dw]
  simp only [bP.l1, DI (i := i) (by omega)]
  rw [ep, Dx (Gh hg i hi'), Dy]
  unfold FC at hp
  by_cases h : bt s (i : Int) = 46
  ·rw [if_pos (by rw [h]; rfl), Dx (Fh R C s i), Dy, if_neg]
   ·exact hr
   ·simpa [h] using hp
  ·rw [if_neg (by simpa using h)]
   exact hr
 ·have hi' : i < s.size := by omega
  rw [List.getElem_range] at hp
  rw [← Dw]
  simp only [bP.l1, DI (i := i) (by omega)]
  unfold FC at hp
  rw [Bool.and_eq_true, decide_eq_true_eq, decide_eq_true_eq] at hp
  rw [ep, Dx (Gh hg i hi'), ep (by rw [hp.1]; rfl), Dx (Fh R C s i), ep hp.2]
  exact Dz _
theorem Ji {α : Type} (l : List α) (p : α → Bool) (i : Nat) (h : i < l.length) : (l.drop i).any p = (p l[i] || (l.drop (i + 1)).any p) := by rw [List.drop_eq_getElem_cons h, List.any_cons]
theorem Np {α : Type} (l : List α) (p : α → Bool) (i : Nat) (h : i < l.length) : (l.drop i).all p = (p l[i] && (l.drop (i + 1)).all p) := by rw [List.drop_eq_getElem_cons h, List.all_cons]
theorem Iz {R C : Int} {s : Oo} (hg : DN R C s = true) : Ev (fun k => bP.f k R C s) (Io R C s || (List.range s.size).any (FC R C s)) := by
 have hlen := (DJ R C s).2.2
 unfold bP.f
 rw [Dx (Ee R C s)]
 have := EH (fun k i => bP.l0 k (DC R C s) i R C s) (DC R C s).length (fun i => ((DC R C s).drop i).any (fun x => decide (2 * Fx R C s x > x.f3)) || (List.range s.size).any (FC R C s)) ?_ (fun i hi => ?_) 0 (Nat.zero_le _)
 ·simpa [Io] using this
 ·rw [← Dw]
  simp only [bP.l0, Int.lt_irrefl, if_false, List.drop_length, List.any_nil, Bool.false_or]
  exact IB hg
 ·have hu := LH R C s _ (gM hi)
  have e2 : wrap64 (2 * Fx R C s (DC R C s)[i]) = 2 * Fx R C s (DC R C s)[i] := El (by omega) (by omega)
  rw [Ji _ _ _ hi]
  by_cases h : 2 * Fx R C s (DC R C s)[i] > (DC R C s)[i].f3
  ·refine .inl ?_
   rw [← Dw]
   simp only [bP.l0, EA _ i hi]
   rw [ep, Dx (Fw R C s i hi), ep, ep (by rw [e2]; exact h)]
   exact DT (Dz _) (by simp [h])
  ·refine .inr ⟨by simp [h], fun r hr => ?_⟩
   rw [← Dw]
   simp only [bP.l0, EA _ i hi, DI (i := i) (by omega)]
   rw [ep, Dx (Fw R C s i hi), ep, en (by rw [e2]; exact h)]
   exact hr
theorem JK (R C : Int) (s : Oo) (hs : s.size < 140737488355328) : Ev (fun k => mq.f k R C s) (GU R C s) := by
 unfold mq.f GU
 rw [Dx (Ed R C s), Dy]
 split
 ·rename_i hg
  rw [Dx (GK R C s), Dy]
  split
  ·have hcon : Ev (fun k => jL.f k R C s) (Hg R C s == 1) := by
    unfold jL.f
    rw [Dx (Jc R C s hs)]
    exact Dz _
   rw [Dx hcon, Dy]
   split
   ·rw [Dx (IC R C s), Dy]
    split
    ·exact Dz _
    ·rw [Dx (Iz hg), Dy]
     split <;> exact Dz _
   ·exact Dz _
  ·exact Dz _
 ·exact Dz _
theorem JW {R C : Int} {s : Oo} (hg : DN R C s = true) : Ev (fun k => nD.f k R C s s) ((List.range s.size).any (FC R C s)) := by
 have hsz := DU hg
 obtain ⟨good, _, hlen⟩ := DJ R C s
 have hlr : (List.range s.size).length = s.size := List.length_range
 have hcl : ∀ l ∈ (DC R C s).map (DF C), l.length ≤ 6 := by
  intro l hl
  obtain ⟨x, hx, rfl⟩ := List.mem_map.1 hl
  rw [DX]
  have := (good x hx).2.2.2.1
  omega
 have hfl : ((DC R C s).map (DF C)).flatten.length ≤ 6 * 72 := by
  have h1 := Jm (fun l : List Int => l) 6 ((DC R C s).map (DF C)) hcl
  rw [List.length_map] at h1
  rw [List.flatMap_id'] at h1
  have : 6 * (DC R C s).length ≤ 6 * 72 := Nat.mul_le_mul_left 6 hlen
  omega
 have hcells : ∀ c ∈ ((DC R C s).map (DF C)).flatten, 0 ≤ c ∧ c < 1000000 := by
  intro c hc
  obtain ⟨l, hl, hcl⟩ := List.mem_flatten.1 hc
  obtain ⟨x, hx, rfl⟩ := List.mem_map.1 hl
  have := EN (good x hx) c hcl
  omega
 unfold nD.f
 rw [Dx (EC R C s)]
 unfold HandAlone.su
 rw [Dy, if_pos ⟨by omega, by omega, by rw [List.length_map]; omega, hcells⟩]
 have hnil := fun c : Nat => KS R C s (c : Int)
 generalize ((DC R C s).map (DF C)).flatten = S at hnil
 refine FT (fun k i => HandAlone.oD DL.f S s s k i) (List.range s.size) (FC R C s) ?_ (fun i hi hp r hr => ?_) (fun i hi hp => ?_)
 ·rw [← Dw]; simp [HandAlone.oD, Dz]
 ·rw [List.getElem_range] at hp
  rw [← Dw]
  simp only [HandAlone.oD]
  unfold FC at hp
  rw [ep, Dy]
  by_cases h : bt s (i : Int) = 46
  ·rw [if_pos h, Dy, if_pos]
   ·exact hr
   ·rw [h, dT rfl, Bool.true_and, decide_eq_false_iff_not, hnil] at hp
    exact Classical.byContradiction hp
  ·rw [if_neg h]
   exact hr
 ·rw [List.getElem_range] at hp
  unfold FC at hp
  rw [Bool.and_eq_true, decide_eq_true_eq, decide_eq_true_eq, hnil] at hp
  rw [← Dw]
  simp only [HandAlone.oD]
  rw [ep, ep hp.1, en hp.2, ep]
  simp only [EO, hp.1, Option.bind_some]
  exact DT (Dz _) rfl
theorem Jt {R C : Int} {s : Oo} (hg : DN R C s = true) : Ev (fun k => fQ.l1 k (DC R C s) ((DC R C s).length : Int) 0 R C s) (if (Io R C s || (List.range s.size).any (FC R C s)) = true then 5 else 0) := by
 have hlen := (DJ R C s).2.2
 have := EH (fun k i => fQ.l1 k (DC R C s) ((DC R C s).length : Int) i R C s) (DC R C s).length (fun i => if (((DC R C s).drop i).any (fun x => decide (2 * Fx R C s x > x.f3)) || (List.range s.size).any (FC R C s)) = true then (5 : Int) else 0) ?_ (fun i hi => ?_) 0 (Nat.zero_le _)
 ·exact this
 ·rw [← Dw]
  simp only [fQ.l1, Int.lt_irrefl, if_false, List.drop_length, List.any_nil, Bool.false_or]
  rw [Dx (JW hg), Dy]
  split <;> exact Dz _
 ·have hu := LH R C s _ (gM hi)
  have e2 : wrap64 (2 * Fx R C s (DC R C s)[i]) = 2 * Fx R C s (DC R C s)[i] := El (by omega) (by omega)
  rw [Ji _ _ _ hi]
  by_cases h : 2 * Fx R C s (DC R C s)[i] > (DC R C s)[i].f3
  ·refine .inl ?_
   rw [← Dw]
   simp only [fQ.l1, EA _ i hi]
   rw [ep, ep, ep, Dx (Fp R C s i hi), ep (by rw [e2]; exact h)]
   exact DT (Dz _) (by simp [h])
  ·refine .inr ⟨by simp [h], fun r hr => ?_⟩
   rw [← Dw]
   simp only [fQ.l1, EA _ i hi, DI (i := i) (by omega)]
   rw [ep, ep, ep, Dx (Fp R C s i hi), en (by rw [e2]; exact h)]
   exact hr
theorem Js {R C : Int} {s : Oo} (hg : DN R C s = true) : Ev (fun k => fQ.l0 k (DC R C s) (DC R C s) ((DC R C s).length : Int) 0 R C s) (if Me R C s = true then 4 else if (Io R C s || (List.range s.size).any (FC R C s)) = true then 5 else 0) := by
 have hlen := (DJ R C s).2.2
 have := EH (fun k i => fQ.l0 k (DC R C s) (DC R C s) ((DC R C s).length : Int) i R C s) (DC R C s).length (fun i => if ((DC R C s).drop i).any (fun x => decide (x.f3 < 3)) = true then (4 : Int) else if (Io R C s || (List.range s.size).any (FC R C s)) = true then 5 else 0) ?_ (fun i hi => ?_) 0 (Nat.zero_le _)
 ·exact this
 ·rw [← Dw]
  simp only [fQ.l0, Int.lt_irrefl, if_false, List.drop_length, List.any_nil, Bool.false_eq_true]
  exact Jt hg
 ·rw [Ji _ _ _ hi]
  by_cases h : (DC R C s)[i].f3 < 3
  ·refine .inl ?_
   rw [← Dw]
   simp only [fQ.l0, EA _ i hi]
   rw [ep, ep, ep, ep h]
   exact DT (Dz _) (by simp [h])
  ·refine .inr ⟨by simp [h], fun r hr => ?_⟩
   rw [← Dw]
   simp only [fQ.l0, EA _ i hi, DI (i := i) (by omega)]
   rw [ep, ep, ep, en h]
   exact hr
theorem Jr (R C : Int) (s : Oo) : Ev (fun k => fQ.f k R C s) (GU R C s) := by
 unfold fQ.f GU
 rw [Dx (Eu R C s), Dy]
 split
 ·rename_i hg
  rw [Dx (GA R C s), Dy]
  split
  ·have hcon : Ev (fun k => jI.f k R C s) (Hg R C s == 1) := by
    unfold jI.f
    rw [Dx (IU R C s)]
    exact Dz _
   rw [Dx hcon, Dy]
   split
   ·rw [Dx (Fe R C s)]
    exact Js hg
   ·exact Dz _
  ·exact Dz _
 ·exact Dz _
noncomputable def Fz (R C : Int) (s : Oo) (l : List S70) (q : List Int) (e : Int) : Bool :=
 decide (GU R C s = 0) && (decide ((l.length : Int) = ((DC R C s).length : Int)) && (decide ((q.length : Int) = ((DC R C s).length : Int)) && (decide (1 ≤ e ∧ e ≤ 9999) && l.all (fun x => ED x.f0 x.f1))))
theorem GX {R C : Int} {s : Oo} {l : List S70} {q : List Int} {e : Int} (h : Fz R C s l q e = true) : GU R C s = 0 ∧ l.length = (DC R C s).length ∧ q.length = (DC R C s).length ∧ (1 ≤ e ∧ e ≤ 9999) ∧ ∀ x ∈ l, ED x.f0 x.f1 = true := by
 unfold Fz at h
 simp only [Bool.and_eq_true, decide_eq_true_eq, List.all_eq_true] at h
 exact ⟨h.1, by have := h.2.1; omega, by have := h.2.2.1; omega, h.2.2.2.1, h.2.2.2.2⟩
theorem FX (R C : Int) (s : Oo) (l : List S70) (q : List Int) (e : Int) (hs : s.size < 140737488355328) (hl : l.length < 4611686018427387904) (hx : ∀ x ∈ l, x.f1.length < 4611686018427387904) : Ev (fun k => gF.f k R C s l q e) (Fz R C s l q e) := by
 unfold gF.f
 have key : ∀ b : Bool, b = l.all (fun x => ED x.f0 x.f1) → Ev (fun k => gF.f k R C s l q e) (if b = true then (decide (GU R C s = 0) && (decide ((l.length : Int) = ((DC R C s).length : Int)) && (decide ((q.length : Int) = ((DC R C s).length : Int)) && decide (1 ≤ e ∧ e ≤ 9999)))) else false) := by
  intro b hb
  subst hb
  unfold gF.f
  have := EH (fun k i => gF.l0 k i R C s l q e) l.length (fun i => if (l.drop i).all (fun x => ED x.f0 x.f1) = true then (decide (GU R C s = 0) && (decide ((l.length : Int) = ((DC R C s).length : Int)) && (decide ((q.length : Int) = ((DC R C s).length : Int)) && decide (1 ≤ e ∧ e ≤ 9999)))) else false) ?_ (fun i hi => ?_) 0 (Nat.zero_le _)
  ·exact this
  ·rw [← Dw]
   simp only [gF.l0, Int.lt_irrefl, if_false, List.drop_length, List.all_nil, if_true, EF, Option.bind_some]
   rw [Dx (Ee R C s), Dx (JK R C s hs), Dy]
   by_cases h1 : GU R C s = 0
   ·rw [if_pos h1, Dy]
    by_cases h2 : (l.length : Int) = ((DC R C s).length : Int)
    ·rw [if_pos h2, Dy]
     by_cases h3 : (q.length : Int) = ((DC R C s).length : Int)
     ·rw [if_pos h3]
      exact DT (Dz _) (by rw [decide_eq_true h1, dT h2, dT h3]; rfl)
     ·rw [if_neg h3]
      exact DT (Dz _) (by rw [decide_eq_false h3, Bool.false_and, Bool.and_false, Bool.and_false])
    ·rw [if_neg h2]
     exact DT (Dz _) (by rw [decide_eq_false h2, Bool.false_and, Bool.and_false])
   ·rw [if_neg h1]
    exact DT (Dz _) (by rw [decide_eq_false h1, Bool.false_and])
  ·have hc := JM l[i].f0 l[i].f1 (hx _ (gM hi))
   rw [Np _ _ _ hi]
   by_cases h : ED l[i].f0 l[i].f1 = true
   ·refine .inr ⟨by simp only [h, Bool.true_and], fun r hr => ?_⟩
    rw [← Dw]
    simp only [gF.l0, Gb _ i hi, DI (i := i) (by omega)]
    rw [ep, ep, Dx hc, ep h]
    exact hr
   ·refine .inl ?_
    rw [← Dw]
    simp only [gF.l0, Gb _ i hi]
    rw [ep, ep, Dx hc, en h]
    exact DT (Dz _) (by simp only [h, Bool.false_and, Bool.false_eq_true, if_false])
 refine DT (key _ rfl) ?_
 unfold Fz
 cases l.all (fun x => ED x.f0 x.f1) <;> simp
theorem Ls (l : List S70) (x : Oo) (hl : l.length < 4611686018427387904) (hx : ∀ x ∈ l, x.f1.length < 4611686018427387904) : Ev (fun k => lq.f k l x) (l.any (fun x => !ED x.f0 x.f1)) := by
 have hi : Ev (fun k => gZ.f k l x) (match l.findIdx? (fun x => !ED x.f0 x.f1) with | some i => (i : Int) | none => -1) := by
  have h1 : ∀ i (hi : i < l.length), Ev (fun k => jS.f k l[i].f0 l[i].f1) (!ED l[i].f0 l[i].f1) := by
   intro i hi
   unfold jS.f
   rw [Dx (Jv _ _ (hx _ (gM hi)))]
   exact Dz _
  refine FV (fun k i => gZ.l0 k l (l.length : Int) i) l _ ?_ (fun i hi hp r hr => ?_) (fun i hi hp => ?_)
  ·rw [← Dw]; simp [gZ.l0, Dz]
  ·rw [← Dw]
   simp only [gZ.l0, Gb _ i hi, DI (i := i) (by omega)]
   rw [ep, ep, ep, Dx (h1 i hi), en (by rw [hp]; exact Bool.false_ne_true)]
   exact hr
  ·rw [← Dw]
   simp only [gZ.l0, Gb _ i hi]
   rw [ep, ep, ep, Dx (h1 i hi), ep hp]
   exact Dz _
 unfold lq.f
 rw [Dx hi, Le]
 exact Dz _
theorem FR (R C : Int) (s : Oo) (l : List S70) (q : List Int) (e : Int) (hl : l.length < 4611686018427387904) (hx : ∀ x ∈ l, x.f1.length < 4611686018427387904) : Ev (fun k => jB.f k R C s l q e) (Fz R C s l q e) := by
 unfold jB.f Fz
 rw [Dx (Jr R C s), Dy]
 by_cases h1 : GU R C s = 0
 ·rw [if_pos h1, Dx (Fe R C s), Dy, dT h1, Bool.true_and]
  by_cases h2 : (l.length : Int) = ((DC R C s).length : Int)
  ·rw [if_pos h2, Dy, dT h2, Bool.true_and]
   by_cases h3 : (q.length : Int) = ((DC R C s).length : Int)
   ·rw [if_pos h3, dT h3, Bool.true_and]
    simp only [EB, Option.bind_some]
    rw [Dy]
    by_cases h4 : 1 ≤ e ∧ e ≤ 9999
    ·rw [if_pos (by simpa using h4), Dx (Ls l _ hl hx), dT h4, Bool.true_and]
     exact DT (Dz _) (by rw [List.not_any_eq_all_not]; simp)
    ·rw [if_neg (by simpa using h4), dF h4, Bool.false_and]
     exact Dz _
   ·rw [if_neg h3, dF h3, Bool.false_and]
    exact Dz _
  ·rw [if_neg h2, dF h2, Bool.false_and]
   exact Dz _
 ·rw [if_neg h1, dF h1, Bool.false_and]
  exact Dz _
def JB (l : List Int) : Prop := ∀ c ∈ l, 0 ≤ c ∧ c ≤ 255
theorem Eo (l : List Int) (h : JB l) : bytesOf (strOfNums l) = l := by
 unfold bytesOf
 rw [strOfNums_data, List.map_map]
 have : ∀ c ∈ l, ((fun c : UInt8 => (c.toNat : Int)) ∘ fun n : Int => UInt8.ofNat n.toNat) c = c := by
  intro c hc
  have := h c hc
  simp only [Function.comp_apply, UInt8.toNat_ofNat']
  omega
 conv => rhs; rw [← List.map_id l]
 exact List.map_congr_left (fun c hc => by rw [this c hc]; rfl)
theorem FN (s : Oo) : strOfNums (bytesOf s) = s := bytes_inj (Eo _ (EX s))
theorem Hu (s : Oo) (j : Nat) : bt s (j : Int) = (bytesOf s).getD j 0 := by rw [← JE]; rfl
def IY : List Int → List Int → List Int → List Int
 | b, c :: cs, x :: xs => IY (b.set c.toNat x) cs xs
 | b, _, _ => b
def Grow (b b' : List Int) : Prop := b'.length = b.length ∧ ∀ j : Nat, b'.getD j 0 = b.getD j 0 ∨ (b.getD j 0 = 63 ∧ 97 ≤ b'.getD j 0 ∧ b'.getD j 0 ≤ 122)
theorem Grow.refl (b : List Int) : Grow b b := ⟨rfl, fun _ => .inl rfl⟩
theorem Grow.trans {a b c : List Int} (h1 : Grow a b) (h2 : Grow b c) : Grow a c := by
 refine ⟨h2.1.trans h1.1, fun j => ?_⟩
 have q1 := h1.2 j
 have q2 := h2.2 j
 omega
theorem Kt (l : List Int) (i j : Nat) (x : Int) : (l.set i x).getD j 0 = if j = i ∧ i < l.length then x else l.getD j 0 := by
 simp only [List.getD_eq_getElem?_getD, List.getElem?_set]
 by_cases h : j = i
 ·subst h
  by_cases h2 : j < l.length
  ·simp [h2]
  ·rw [if_pos rfl, if_neg h2, if_neg (fun q => h2 q.2), List.getElem?_eq_none (by omega)]
 ·rw [if_neg (by omega), if_neg (fun q => h q.1)]
theorem Ns (b : List Int) (c : Nat) (x : Int) (h : b.getD c 0 = 63 ∨ b.getD c 0 = x) (hx : 97 ≤ x ∧ x ≤ 122) : Grow b (b.set c x) := by
 refine ⟨List.length_set, fun j => ?_⟩
 rw [Kt]
 split
 ·rename_i q
  rw [q.1]
  omega
 ·exact .inl rfl
theorem Kw : ∀ (cs b xs : List Int), (cs.map Int.toNat).Nodup → (∀ i : Nat, i < cs.length → i < xs.length → b.getD (cs.getD i 0).toNat 0 = 63 ∨ b.getD (cs.getD i 0).toNat 0 = xs.getD i 0) → (∀ x ∈ xs, 97 ≤ x ∧ x ≤ 122) → Grow b (IY b cs xs)
 | [], b, xs, _, _, _ => by cases xs <;> exact Grow.refl _
 | c :: cs, b, [], _, _, _ => Grow.refl _
 | c :: cs, b, x :: xs, hn, h, hx => by
  rw [List.map_cons, List.nodup_cons] at hn
  have h0 := h 0 (by simp) (by simp)
  simp only [List.getD_cons_zero] at h0
  refine (Ns b c.toNat x h0 (hx x List.mem_cons_self)).trans (Kw cs _ xs hn.2 (fun i hi hj => ?_) (fun y hy => hx y (List.mem_cons_of_mem _ hy)))
  have h1 := h (i + 1) (by simpa using hi) (by simpa using hj)
  simp only [List.getD_cons_succ] at h1
  rw [Kt, if_neg]
  ·exact h1
  ·rintro ⟨q, _⟩
   refine hn.1 (List.mem_map.2 ⟨cs.getD i 0, ?_, q⟩)
   rw [List.getD_eq_getElem?_getD, List.getElem?_eq_getElem hi]
   exact gM hi
theorem NS (cs b xs : List Int) (hb : JB b) (hx : JB xs) : JB (IY b cs xs) := by
 induction cs generalizing b xs with
 | nil => cases xs <;> exact hb
 | cons c cs ih =>
  cases xs with
  | nil => exact hb
  | cons x xs =>
   refine ih _ _ (fun y hy => ?_) (fun y hy => hx y (List.mem_cons_of_mem _ hy))
   rcases List.mem_or_eq_of_mem_set hy with h | h
   ·exact hb y h
   ·rw [h]; exact hx x List.mem_cons_self
def Lv (f : Oo) (cs : List Int) (w : Oo) : Oo := strOfNums (IY (bytesOf f) cs (bytesOf w))
theorem LY (f : Oo) (cs : List Int) (w : Oo) : bytesOf (Lv f cs w) = IY (bytesOf f) cs (bytesOf w) := Eo _ (NS _ _ _ (EX f) (EX w))
theorem KA {C : Int} {s : Oo} (hC : 2 ≤ C ∧ C ≤ 6) {x : gu} (ok : NA C s x) : ((DF C x).map Int.toNat).Nodup := by
 have hst := IG hC x
 unfold DF
 rw [List.map_map]
 have hp := List.pairwise_map (f := Int.toNat ∘ fun j : Nat => x.f2 + (j : Int) * stepOf C x) (R := fun a b => a ≠ b) (l := List.range x.f3.toNat)
 refine hp.2 ?_
 refine List.Pairwise.imp_of_mem ?_ List.nodup_range
 intro a b ha hb hab
 have h0 := ok.1
 have ha' := ok.2.2.2.2 a (by omega) (by have := List.mem_range.1 ha; omega)
 have hb' := ok.2.2.2.2 b (by omega) (by have := List.mem_range.1 hb; omega)
 intro q
 simp only [Function.comp_apply] at q
 have e : (a : Int) * stepOf C x = (b : Int) * stepOf C x := by omega
 have := Int.eq_of_mul_eq_mul_right (by omega) e
 omega
theorem IW {w : Oo} (h : DW w = true) : ∀ c ∈ bytesOf w, 97 ≤ c ∧ c ≤ 122 := by
 intro c hc
 unfold DW at h
 rw [Bool.and_eq_true, List.all_eq_true] at h
 have := h.2 c hc
 simpa [Ez] using this
theorem FZ {p w : Oo} (h : Ec p w = true) : DW w = true ∧ p.size = w.size ∧ ∀ i : Nat, i < p.size → bt p (i : Int) = 63 ∨ bt p (i : Int) = bt w (i : Int) := by
 unfold Ec at h
 split at h
 ·split at h
  ·split at h
   ·rename_i h1 h2 h3
    refine ⟨h2, h3, fun i hi => ?_⟩
    have := List.all_eq_true.1 h i (List.mem_range.2 hi)
    simpa using this
   ·cases h
  ·cases h
 ·cases h
theorem MC {f : Oo} {l : List Int} (i : Nat) (hi : i < l.length) : bt (Es f l) (i : Int) = bt f l[i] := by
 rw [Hu, Es, Eo]
 ·simp [List.getD_eq_getElem?_getD, hi]
 ·intro c hc
  obtain ⟨z, _, rfl⟩ := List.mem_map.1 hc
  exact KW f z
theorem JD {R C : Int} {s f w : Oo} (hf : DZ R C s f = true) {x : gu} (hx : x ∈ DC R C s) (h : Ec (Es f (DF C x)) w = true) : Grow (bytesOf f) (bytesOf (Lv f (DF C x) w)) := by
 obtain ⟨hg, hfs, _⟩ := Er hf
 obtain ⟨h1, h2, h3⟩ := FZ h
 have ok := (DJ R C s).1 x hx
 rw [LY]
 refine Kw _ _ _ (KA (Eh hg).2.1 ok) (fun i hi hj => ?_) (IW h1)
 have h4 := h3 i (by rw [EP]; exact hi)
 rw [MC i hi] at h4
 have hc := EN ok _ (gM hi)
 have e1 : (DF C x).getD i 0 = (DF C x)[i] := by simp [List.getD_eq_getElem?_getD, List.getElem?_eq_getElem hi]
 have e2 : bt f (DF C x)[i] = (bytesOf f).getD ((DF C x)[i]).toNat 0 := by
  rw [← Hu]
  congr 1
  omega
 rw [e1, ← e2, ← Hu]
 exact h4
theorem MB {f f' : Oo} (h : Grow (bytesOf f) (bytesOf f')) (j : Nat) : bt f' (j : Int) = bt f (j : Int) ∨ (bt f (j : Int) = 63 ∧ 97 ≤ bt f' (j : Int) ∧ bt f' (j : Int) ≤ 122) := by
 rw [Hu, Hu]
 exact h.2 j
theorem MP {f f' : Oo} (h : Grow (bytesOf f) (bytesOf f')) : f'.size = f.size := by
 have := h.1
 rw [bytesOf_length, bytesOf_length] at this
 exact this
theorem Ii {R C : Int} {s f f' : Oo} (hf : DZ R C s f = true) (h : Grow (bytesOf f) (bytesOf f')) : DZ R C s f' = true := by
 obtain ⟨hg, hfs, ha⟩ := Er hf
 have hs := MP h
 unfold DZ
 rw [hg, Bool.true_and, Bool.and_eq_true, List.all_eq_true]
 refine ⟨dT (by omega), fun i hi => ?_⟩
 have hi' := List.mem_range.1 hi
 have q := ha i (by omega)
 have g := MB h i
 unfold Fb at q ⊢
 have q' := of_decide_eq_true q
 refine dT ?_
 omega
theorem Gj (l : List Int) : (strOfNums l).data.toList = l.map fun n => UInt8.ofNat n.toNat := rfl
theorem LP (f : Oo) : (bytesOf f).map (fun n => UInt8.ofNat n.toNat) = f.data.toList := by
 have := congrArg (fun s : Oo => s.data.toList) (FN f)
 exact this
theorem NJ (f : Oo) (c : Nat) (hc : c < f.size) (b : Int) : (f.extract 0 c ++ strOfNums [b]) ++ f.extract (c + 1) f.size = strOfNums ((bytesOf f).set c b) := by
 have hd : c < f.data.toList.length := by rw [Array.length_toList]; exact hc
 have hsz : f.data.size = f.data.toList.length := (Array.length_toList).symm
 have hsz2 : f.size = f.data.toList.length := hsz
 refine ByteArray.ext (Array.toList_inj.1 ?_)
 rw [Gj, List.map_set, LP, ByteArray.data_append, ByteArray.data_append, Array.toList_append, Array.toList_append, ByteArray.data_extract, ByteArray.data_extract, Array.toList_extract, Array.toList_extract, Gj,
  List.extract_eq_drop_take', List.extract_eq_drop_take', List.set_eq_take_append_cons_drop, if_pos hd, hsz2, List.take_length, List.drop_zero]
 simp
theorem KM (w : Oo) (cs : List Int) (hw : cs.length ≤ w.size) (hw2 : w.size ≤ 1000) (f : Oo) (hf : f.size ≤ 1000) (hcs : ∀ c ∈ cs, 0 ≤ c ∧ c < f.size) : Ev (fun k => bN.l0 k f w cs 0) (Lv f cs w, true) := by
 have := DY (σ := Oo) (fun k a j => bN.l0 k a w cs j) cs.length (fun j a => a.size = f.size) (fun j a => (strOfNums (IY (bytesOf a) (cs.drop j) ((bytesOf w).drop j)), true)) (fun a ha => ?_) (fun j a hj ha => ?_) 0 f (Nat.zero_le _) rfl
 ·exact this
 ·rw [← Dw]
  simp only [bN.l0, Int.lt_irrefl, if_false, List.drop_length]
  refine DT (Dz _) ?_
  rw [show IY (bytesOf a) [] ((bytesOf w).drop cs.length) = bytesOf a by cases (bytesOf w).drop cs.length <;> rfl, FN]
 ·have hjw : j < (bytesOf w).length := by rw [bytesOf_length]; omega
  have hc := hcs _ (gM hj)
  obtain ⟨c, hcn⟩ := Int.eq_ofNat_of_zero_le hc.1
  have hca : c < a.size := by omega
  have hok : JB ((bytesOf a).set c (bytesOf w)[j]) := by
   intro y hy
   rcases List.mem_or_eq_of_mem_set hy with h | h
   ·exact EX a y h
   ·rw [h]; exact EX w _ (gM hjw)
  have hset := NJ a c hca (bytesOf w)[j]
  have hx1 := Jk w j (by omega)
  have ew : wrap64 ((c : Int) + 1) = ((c + 1 : Nat) : Int) := DI (by omega)
  have hz1 : (a.extract 0 c).size = c := by rw [ByteArray.size_extract]; omega
  have hz2 : (strOfNums [(bytesOf w)[j]]).size = 1 := by rw [strOfNums_size]; rfl
  have hz3 : (a.extract 0 c ++ strOfNums [(bytesOf w)[j]]).size = c + 1 := by rw [ByteArray.size_append, hz1, hz2]
  have hz4 : (a.extract (c + 1) a.size).size ≤ 1000 := by rw [ByteArray.size_extract]; omega
  refine .inr ⟨strOfNums ((bytesOf a).set c (bytesOf w)[j]), ?_, ?_, fun r hr => ?_⟩
  ·rw [strOfNums_size, List.length_set, bytesOf_length, ha]
  ·rw [Eo _ hok, List.drop_eq_getElem_cons hj, List.drop_eq_getElem_cons hjw, IY, hcn, Int.toNat_natCast]
  ·rw [← Dw]
   simp only [bN.l0, ET cs j hj, hcn, DI (i := j) (by omega), ew, Int.toNat_natCast, hx1]
   rw [ep, ep, ep, ep, ep, ep, ep, ep, ep, ep, hset]
   exact hr
def Oc (C : Int) (f : Oo) (x : gu) (w : Oo) : Oo × Bool := if Ec (Es f (DF C x)) w = true then (Lv f (DF C x) w, true) else (f, false)
theorem Jl {C : Int} {f w : Oo} {x : gu} (h : Ec (Es f (DF C x)) w = true) : (DF C x).length = w.size ∧ w.size ≤ 8 := by
 obtain ⟨h1, h2, _⟩ := FZ h
 rw [EP] at h2
 have := DV h1
 omega
theorem Jd {R C : Int} {s f : Oo} (hf : DZ R C s f = true) (i : Nat) (hi : i < (DC R C s).length) (w : Oo) : Ev (fun k => bN.f k R C s f (i : Int) w) (Oc C f (DC R C s)[i] w) := by
 have hm := gM hi
 obtain ⟨hg, hfs, _⟩ := Er hf
 have hsz := DU hg
 unfold bN.f Oc
 rw [Dx (Fu hf i hi), Dx (Fq _ w), Dy]
 split
 ·rename_i h
  obtain ⟨z1, z2⟩ := Jl h
  simp only [Dx (Ee R C s), EA _ i hi]
  rw [ep, ep, Dx (EK _ hm)]
  exact KM w _ (by omega) (by omega) f (by omega) (fun c hc => by have := EN ((DJ R C s).1 _ hm) c hc; omega)
 ·exact Dz _
theorem NH (l : List Int) (wd : Oo) (d : Array Int) (hl : l.length ≤ wd.size) : ∀ i, i ≤ l.length → IY (HandPut.wrA l wd d i).toList (l.drop i) ((bytesOf wd).drop i) = IY d.toList l (bytesOf wd) := by
 intro i
 induction i with
 | zero => intro _; rfl
 | succ i ih =>
  intro hi
  have hil : i < l.length := by omega
  have hiw : i < (bytesOf wd).length := by rw [bytesOf_length]; omega
  rw [← ih (by omega), List.drop_eq_getElem_cons hil, List.drop_eq_getElem_cons hiw, IY, HandPut.wrA, Array.toList_setIfInBounds, ET l i hil, EL wd i (by omega)]
theorem Hf (f w : Oo) (cs : List Int) (hf : f.size ≤ 1000) (hw : cs.length ≤ w.size) (hw2 : w.size ≤ 1000) (hcs : ∀ c ∈ cs, 0 ≤ c ∧ c < f.size) : jT.f f cs w = some (Lv f cs w) := by
 have := NH cs w (HandSort.nums f).toArray hw cs.length (nR _)
 rw [List.drop_length] at this
 have e : IY (HandPut.wrA cs w (HandSort.nums f).toArray cs.length).toList [] ((bytesOf w).drop cs.length) = (HandPut.wrA cs w (HandSort.nums f).toArray cs.length).toList := by cases (bytesOf w).drop cs.length <;> rfl
 rw [e] at this
 unfold jT.f Lv
 rw [if_pos ⟨hf, hw, hw2, hcs⟩, this]
 rfl
theorem JA {β : Type} (L : Nat → Int → Int → Option Int) (xs : List β) (wd : β → Nat) (B : Int)
  (hend : ∀ b, Ev (fun k => L k b (xs.length : Int)) b)
  (hstep : ∀ i (h : i < xs.length) (b : Int), 0 ≤ b → b ≤ B → Ev (fun k => L k b (i : Int)) (-1) ∨ ∃ b', 0 ≤ b' ∧ b' + wd xs[i] ≤ b ∧ ∀ r, Ev (fun k => L k b' ((i + 1 : Nat) : Int)) r → Ev (fun k => L k b (i : Int)) r) :
  ∀ a, 0 ≤ a → a ≤ B → ∃ r, Ev (fun k => L k a 0) r ∧ r ≤ B ∧ (0 ≤ r → r + Ef wd xs ≤ a) := by
 have key : ∀ (d i : Nat) (b : Int), i + d = xs.length → 0 ≤ b → b ≤ B → ∃ r, Ev (fun k => L k b (i : Int)) r ∧ r ≤ B ∧ (0 ≤ r → r + Ef wd (xs.drop i) ≤ b) := by
  intro d
  induction d with
  | zero =>
   intro i b hi _ hb
   have : i = xs.length := by omega
   subst this
   exact ⟨b, hend b, hb, fun _ => by rw [List.drop_length]; simp [Ef]⟩
  | succ d ih =>
   intro i b hi hb hb'
   rcases hstep i (by omega) b hb hb' with h | ⟨b', h1, h2, h3⟩
   ·exact ⟨-1, h, by omega, fun h => by omega⟩
   ·obtain ⟨r, hr, hrb, hrs⟩ := ih (i + 1) b' (by omega) h1 (by omega)
    refine ⟨r, h3 r hr, hrb, fun h0 => ?_⟩
    rw [List.drop_eq_getElem_cons (show i < xs.length by omega)]
    have := hrs h0
    simp only [Ef]
    omega
 intro a h0 h1
 simpa using key xs.length 0 a (by omega) h0 h1
theorem LC (l : List mX) (hl : l.length < 4611686018427387904) (hs : ∀ x ∈ l, x.f1.size ≤ 140737488351232) (a : Int) (ha : 0 ≤ a) (ha' : a ≤ 1048576) : ∃ r, Ev (fun k => iH.f k l a) r ∧ r ≤ 1048576 ∧ (0 ≤ r → r + l.length ≤ a) := by
 unfold iH.f
 have w1 : wrap64 (a - (l.length : Int)) = a - l.length := El (by omega) (by omega)
 simp only [Dy, DK, w1]
 by_cases h : a - (l.length : Int) < 0
 ·exact ⟨-1, by simp [h]⟩
 ·simp only [h, if_false]
  obtain ⟨r, hr, hrb, hrs⟩ := JA (fun k b i => iH.l0 k l b i) l (fun _ => 0) 1048576 (fun b => by
    rw [← Dw]
    simp only [iH.l0]
    rw [en]
    exact Dz _) (fun i hi b hb hb' => by
    have hsz := hs _ (gM hi)
    have w3 : wrap64 (b - (l[i].f1.size : Int)) = b - l[i].f1.size := El (by omega) (by omega)
    by_cases h2 : b - (l[i].f1.size : Int) < 0
    ·refine .inl ?_
     rw [← Dw]
     simp only [iH.l0, lX.f, KO l i hi, DI (i := i) (by omega), w3, if_pos h2, Option.bind_some]
     simp [Dy, DK, hi]
    ·refine .inr ⟨b - l[i].f1.size, by omega, by show _ + ((0 : Nat) : Int) ≤ _; omega, fun r hr => ?_⟩
     rw [← Dw]
     simp only [iH.l0, lX.f, KO l i hi, DI (i := i) (by omega), w3, if_neg h2, Option.bind_some]
     rw [ep, ep]
     exact hr) (a - l.length) (by omega) (by omega)
  exact ⟨r, hr, hrb, fun h0 => by have := hrs h0; omega⟩
theorem Mj (a0 : Int) (l : List mX) (hl : l.length < 4611686018427387904) (hs : ∀ x ∈ l, x.f1.size ≤ 140737488351232) (a : Int) (ha : 0 ≤ a) (ha' : a ≤ 1048576) : ∃ r, Ev (fun k => lU.f k a0 l a) r ∧ r ≤ 1048576 ∧ (0 ≤ r → r + l.length ≤ a) := by
 obtain ⟨r, hr, hb, hc⟩ := LC l hl hs a ha ha'
 unfold lU.f
 by_cases h : r < 0
 ·exact ⟨-1, by rw [Dx hr, ep h]; exact Dz _, by omega, fun h => by omega⟩
 ·exact ⟨r, by rw [Dx hr, en h]; exact Dz _, hb, hc⟩
theorem LB (l : List S84) (hl : l.length < 4611686018427387904) (hs : ∀ x ∈ l, x.f1.length < 4611686018427387904 ∧ ∀ y ∈ x.f1, y.f1.size ≤ 140737488351232) (a : Int) (ha : 0 ≤ a) (ha' : a ≤ 1048576) : ∃ r, Ev (fun k => iG.f k l a) r ∧ r ≤ 1048576 ∧ (0 ≤ r → r + l.length + Ef (fun x => x.f1.length) l ≤ a) := by
 unfold iG.f
 have w1 : wrap64 (a - (l.length : Int)) = a - l.length := El (by omega) (by omega)
 simp only [Dy, DK, w1]
 by_cases h : a - (l.length : Int) < 0
 ·exact ⟨-1, by simp [h]⟩
 ·simp only [h, if_false]
  obtain ⟨r, hr, hrb, hrs⟩ := JA (fun k b i => iG.l0 k l b i) l (fun x => x.f1.length) 1048576 (fun b => by
    rw [← Dw]
    simp only [iG.l0]
    rw [en]
    exact Dz _) (fun i hi b hb hb' => by
    have hsz := hs _ (gM hi)
    obtain ⟨r, hr, hrb, hrs⟩ := Mj l[i].f0 l[i].f1 hsz.1 hsz.2 b hb hb'
    by_cases h2 : r < 0
    ·refine .inl ?_
     rw [← Dw]
     simp only [iG.l0, Mc l i hi]
     rw [ep, ep, Dx hr, ep h2]
     exact Dz _
    ·refine .inr ⟨r, by omega, hrs (by omega), fun q hq => ?_⟩
     rw [← Dw]
     simp only [iG.l0, Mc l i hi, DI (i := i) (by omega)]
     rw [ep, ep, Dx hr, en h2]
     exact hq) (a - l.length) (by omega) (by omega)
  exact ⟨r, hr, hrb, fun h0 => by have := hrs h0; omega⟩
theorem KT (R C : Int) (s : Oo) (l : List S84) (q : List Int) (e : Int) (hs : s.size ≤ 140737488351232) (hl : l.length < 4611686018427387904) (hx : ∀ x ∈ l, x.f1.length < 4611686018427387904 ∧ ∀ y ∈ x.f1, y.f1.size ≤ 140737488351232) (hq : q.length < 4611686018427387904) (a : Int) (h0 : 0 ≤ a) (h1 : a ≤ 1048576) : ∃ r, Ev (fun k => kP.f k R C s l q e a) r ∧ r ≤ 1048576 ∧ (0 ≤ r → r + l.length + Ef (fun x => x.f1.length) l ≤ 1048576) := by
 unfold kP.f
 obtain ⟨g, hg, hgb⟩ := Nf R C s a hs h0 h1
 simp only [hg, Option.bind_some]
 by_cases n1 : g < 0
 ·exact ⟨-1, by rw [ep n1]; exact Dz _, by omega, fun h => by omega⟩
 obtain ⟨c, hc, hcb, hcs⟩ := LB l hl hx g (by omega) hgb
 by_cases n2 : c < 0
 ·exact ⟨-1, by rw [en n1, Dx hc, ep n2]; exact Dz _, by omega, fun h => by omega⟩
 have hi0 : ∃ i, lW.f q c = some i ∧ i ≤ c := by
  unfold lW.f
  rw [El (by omega) (by omega)]
  split
  ·exact ⟨_, rfl, by omega⟩
  ·exact ⟨_, rfl, by omega⟩
 obtain ⟨i, hi, hib⟩ := hi0
 by_cases n3 : i < 0
 ·exact ⟨-1, by rw [en n1, Dx hc, en n2]; simp only [hi, Option.bind_some, if_pos n3]; exact Dz _, by omega, fun h => by omega⟩
 ·exact ⟨i, by rw [en n1, Dx hc, en n2]; simp only [hi, Option.bind_some, if_neg n3]; exact Dz _, by omega, fun h => by have := hcs (by omega); omega⟩
abbrev cwd (x : S70) : Nat := 1 + 4 * x.f1.length
theorem Nn : ∀ l : List S84, Ef cwd (l.map Ep) = l.length + 4 * Ef (fun x => x.f1.length) l
 | [] => rfl
 | x :: l => by
  have : cwd (Ep x) = 1 + 4 * x.f1.length := by simp [cwd, Ep]
  simp only [List.map_cons, Ef, Nn l, List.length_cons]
  omega
theorem Mt : ∀ l : List S70, l.length ≤ Ef cwd l
 | [] => nR _
 | x :: l => by
  have := Mt l
  have : 1 ≤ cwd x := by simp only [cwd]; omega
  simp only [Ef, List.length_cons]
  omega
theorem KI (l : List S70) (c : Int) (h0 : 0 ≤ c) (hc : c + Ef cwd l < 4611686018427387904) : Ev (fun k => gB.f k l c) (c + Ef cwd l) := by
 have hll := Mt l
 have := DY (σ := List S70 × Int) (fun k s i => gB.l0 k s.1 s.2 i) l.length (fun i s => s.1.length = l.length ∧ s.1.drop i = l.drop i ∧ s.2 = c + Ef cwd (l.take i))
  (fun _ _ => c + (Ef cwd l : Int)) (fun s ⟨h1, h2, h4⟩ => ?_) (fun i s hi ⟨h1, h2, h4⟩ => ?_) 0 (l, c) (Nat.zero_le _) (by simp [Ef])
 ·exact this
 ·rw [← Dw]
  simp only [gB.l0]
  rw [en, h4, List.take_of_length_le (nR _)]
  exact Dz _
 ·have hil : i < s.1.length := by omega
  have hsi : s.1[i] = l[i] := by
   rw [List.drop_eq_getElem_cons hil, List.drop_eq_getElem_cons hi] at h2
   exact (List.cons.inj h2).1
  have hw := FE cwd l i hi
  have hle := Gd cwd l (i + 1)
  have hwd : cwd l[i] = 1 + 4 * l[i].f1.length := rfl
  have e1 : wrap64 (s.2 + 1) = s.2 + 1 := El (by omega) (by omega)
  have hm := KJ l[i].f1 (s.2 + 1) (by omega) (by omega)
  obtain ⟨m, hmm⟩ : ∃ m, m = EI (fun (_ : bY) b => (⟨b, MT (b + 1), b + 2, b + 3⟩ : bY)) (fun _ => 4) l[i].f1 (s.2 + 1) := ⟨_, rfl⟩
  rw [← hmm] at hm
  refine .inr ⟨((s.1.set i ⟨s.2, l[i].f1⟩).set i ⟨s.2, m⟩, s.2 + 1 + 4 * l[i].f1.length), ⟨by rw [List.length_set, List.length_set]; exact h1, ?_, by show s.2 + 1 + 4 * (l[i].f1.length : Int) = _; rw [hw, h4]; omega⟩, rfl, fun r hr => ?_⟩
  ·show (((s.1.set i _).set i _).drop (i + 1)) = l.drop (i + 1)
   rw [List.drop_set_of_lt (by omega), List.drop_set_of_lt (by omega)]
   rw [List.drop_eq_getElem_cons hil, List.drop_eq_getElem_cons hi] at h2
   exact (List.cons.inj h2).2
  ·rw [← Dw]
   simp only [gB.l0, Gb s.1 i hil, hsi, e1, DI (i := i) (by omega), Option.bind_some, Int.toNat_natCast]
   rw [ep, ep]
   simp only [NT s.1 i _ hil]
   rw [Dx hm]
   exact hr
theorem Ke (R C : Int) (s : Oo) (l : List S70) (q : List Int) (e : Int) (c : Int) (h0 : 0 ≤ c) (hc : c + Ef cwd l + q.length < 4611686018427387904) : Ev (fun k => jU.f k R C s l q e c) (c + Ef cwd l + q.length, EI (fun _ b => b) (fun _ => 1) q (c + Ef cwd l)) := by
 unfold jU.f
 rw [Dx (KI l c h0 (by omega)), Dx (Lm q (c + Ef cwd l) (by omega) (by omega))]
 exact Dz _
noncomputable def KY (R C : Int) (s f : Oo) (l : List S70) (d : List S73) (w : List Oo) (i : Nat) : List Oo :=
 match (DC R C s)[i]?, l[i]? with
 | some x, some c => EZ 3 c.f0 c.f1 d w (Es f (DF C x))
 | _, _ => []
noncomputable def FP (R C : Int) (s f : Oo) (l : List S70) (d : List S73) (w : List Oo) (i : Nat) : List (List Oo) := (List.range' i ((DC R C s).length - i)).map (KY R C s f l d w)
noncomputable def Gy (R C : Int) (s : Oo) (l : List S70) (q : List Int) (e : Int) (f : Oo) (d : List S73) (w : List Oo) : List (List Oo) :=
 if Fz R C s l q e = true ∧ DZ R C s f = true then FP R C s f l d w 0 else []
theorem KZ (R C : Int) (s f : Oo) (l : List S70) (d : List S73) (w : List Oo) : FP R C s f l d w (DC R C s).length = [] := by simp [FP]
theorem Kq (R C : Int) (s f : Oo) (l : List S70) (d : List S73) (w : List Oo) (i : Nat) (hi : i < (DC R C s).length) : FP R C s f l d w i = [KY R C s f l d w i] ++ FP R C s f l d w (i + 1) := by
 unfold FP
 rw [show (DC R C s).length - i = ((DC R C s).length - (i + 1)) + 1 by omega, List.range'_succ, List.map_cons, List.cons_append, List.nil_append]
theorem NM (R C : Int) (s f : Oo) (l : List S70) (d : List S73) (w : List Oo) (i : Nat) : (KY R C s f l d w i).length ≤ w.length := by
 unfold KY
 split
 ·exact Lg _ _ _ _ _ _
 ·exact Nat.zero_le _
theorem Mv {R C : Int} {s : Oo} (f : Oo) {l : List S70} (d : List S73) (w : List Oo) (i : Nat) (hi : i < (DC R C s).length) (hl : i < l.length) : KY R C s f l d w i = EZ 3 l[i].f0 l[i].f1 d w (Es f (DF C (DC R C s)[i])) := by
 unfold KY
 rw [List.getElem?_eq_getElem hi, List.getElem?_eq_getElem hl]
theorem GJ (R C : Int) (s : Oo) (l : List S70) (q : List Int) (e : Int) (f : Oo) (d : List S73) (w : List Oo) (hs : s.size < 140737488355328) (hl : l.length < 4611686018427387904) (hx : ∀ x ∈ l, x.f1.length < 4611686018427387904) (hd : d.length < 4611686018427387904) (hw : w.length ≤ 8796093022208) :
  Ev (fun k => aY.f k R C s l q e f d w) (Gy R C s l q e f d w) := by
 have hend : ∀ (out : List (List Oo)) (i : Int), Ev (fun k => aY.j1 k f d w out i false R C s l q e) out := by
  intro out i
  rw [← Dw]
  simp only [aY.j1, Bool.false_eq_true, if_false]
  exact Dz _
 have hp := FX R C s l q e hs hl hx
 have hfl := FD R C s f
 unfold aY.f
 by_cases hok : Fz R C s l q e = true ∧ DZ R C s f = true
 ·have hlen : l.length = (DC R C s).length := (GX hok.1).2.1
  have hn := (DJ R C s).2.2
  have hrb : Gy R C s l q e f d w = [] ++ FP R C s f l d w 0 := by unfold Gy; rw [if_pos hok]; rfl
  rw [hrb]
  refine DY (σ := List (List Oo)) (fun k out i => aY.l0 k f d w out i R C s l q e) (DC R C s).length (fun i out => out.length = i) (fun i out => out ++ FP R C s f l d w i) (fun out _ => ?_) (fun i out hi hout => .inr ⟨out ++ [KY R C s f l d w i], by rw [List.length_append, hout]; rfl, by rw [Kq R C s f l d w i hi, List.append_assoc], fun r hr => ?_⟩) 0 [] (Nat.zero_le _) rfl
  ·rw [KZ, List.append_nil, ← Dw]
   simp only [aY.l0]
   rw [en]
   exact hend out _
  ·have hil : i < l.length := by omega
   have hgs := Hq l[i].f0 l[i].f1 d w (Es f (DF C (DC R C s)[i])) 3 (hx _ (gM hil)) hd hw
   rw [Mv f d w i hi hil] at hr
   rw [← Dw]
   simp only [aY.l0]
   rw [ep, Dx hp, ep hok.1, Dx hfl, hok.2, ← Dw]
   simp only [aY.j1, if_true, Gb _ i hil, DI (i := i) (by omega)]
   rw [ep, ep, Dx (Fu hok.2 i hi), Dx hgs, ep]
   exact hr
 ·have hrb : Gy R C s l q e f d w = [] := by unfold Gy; rw [if_neg hok]
  rw [hrb, ← Dw]
  simp only [aY.l0]
  rw [Dy]
  split
  ·rw [Dx hp, Dy]
   split
   ·rename_i h1
    have : DZ R C s f = false := by simpa using fun h2 => hok ⟨h1, h2⟩
    rw [Dx hfl, this]
    exact hend _ _
   ·exact hend _ _
  ·exact hend _ _
theorem Gz (R C : Int) (s : Oo) (l : List S70) (q : List Int) (e : Int) (f : Oo) (d : List S73) (w : List Oo) (hl : l.length < 4611686018427387904) (hx : ∀ x ∈ l, x.f1.length < 4611686018427387904) (hd : d.length < 4611686018427387904) (hw : w.length ≤ 8796093022208) :
  Ev (fun k => eY.f k R C s l q e f d w) (Gy R C s l q e f d w) := by
 unfold eY.f
 rw [Dx (FR R C s l q e hl hx), Dy]
 split
 ·rename_i hpz
  have hlen : l.length = (DC R C s).length := (GX hpz).2.1
  have hn := (DJ R C s).2.2
  rw [Dx (Im R C s f)]
  by_cases hf : DZ R C s f = true
  ·have hrb : Gy R C s l q e f d w = [] ++ FP R C s f l d w 0 := by unfold Gy; rw [if_pos ⟨hpz, hf⟩]; rfl
   have hpe : GV R C s f = (DC R C s).map (fun x => Es f (DF C x)) := by unfold GV; rw [if_pos hf]
   have hpl : (GV R C s f).length = (DC R C s).length := by rw [hpe, List.length_map]
   rw [hrb]
   refine DY (σ := List (List Oo)) (fun k out i => eY.l0 k d w out (GV R C s f) ((GV R C s f).length : Int) i R C s l q e) (DC R C s).length (fun i out => out.length = i) (fun i out => out ++ FP R C s f l d w i) (fun out _ => ?_) (fun i out hi hout => .inr ⟨out ++ [KY R C s f l d w i], by rw [List.length_append, hout]; rfl, by rw [Kq R C s f l d w i hi, List.append_assoc], fun r hr => ?_⟩) 0 [] (Nat.zero_le _) rfl
   ·rw [KZ, List.append_nil, ← Dw]
    simp only [eY.l0]
    rw [en]
    exact Dz _
   ·have hil : i < l.length := by omega
    have hgs := He l[i].f0 l[i].f1 d w (Es f (DF C (DC R C s)[i])) 3 (hx _ (gM hil)) hd hw
    have hpi : fB ByteArray.empty (GV R C s f) (i : Int) = Es f (DF C (DC R C s)[i]) := by
     rw [Ej ByteArray.empty _ i (by omega)]
     simp only [hpe, List.getElem_map]
    rw [Mv f d w i hi hil] at hr
    rw [← Dw]
    simp only [eY.l0, Gb _ i hil, hpi, DI (i := i) (by omega)]
    rw [ep, ep, ep, ep, Dx hgs, ep]
    exact hr
  ·have hpe : GV R C s f = [] := by unfold GV; rw [if_neg hf]
   have hrb : Gy R C s l q e f d w = [] := by unfold Gy; rw [if_neg (fun h => hf h.2)]
   rw [hpe, hrb, ← Dw]
   simp only [eY.l0, List.length_nil]
   rw [en (by simp)]
   exact Dz _
 ·rename_i hok
  have hrb : Gy R C s l q e f d w = [] := by unfold Gy; rw [if_neg (fun h => hok h.1)]
  rw [hrb]
  exact Dz _
def srW : List (List Int × List Oo) → Oo → List Oo → List Oo
 | [], f, out => out ++ [f]
 | (c, ds) :: t, f, out => ds.foldl (fun o w => if o.length < 30 ∧ Ec (Es f c) w = true then srW t (Lv f c w) o else o) out
def srG (t : List (List Int × List Oo)) (f : Oo) (c : List Int) (o : List Oo) (w : Oo) : List Oo := if o.length < 30 ∧ Ec (Es f c) w = true then srW t (Lv f c w) o else o
theorem Ih (c : List Int) (ds : List Oo) (t : List (List Int × List Oo)) (f : Oo) (out : List Oo) : srW ((c, ds) :: t) f out = ds.foldl (srG t f c) out := rfl
theorem Mw {G : List Oo → Oo → List Oo} (h : ∀ o w, o.length ≤ 30 → (G o w).length ≤ 30) : ∀ (ds : List Oo) (o : List Oo), o.length ≤ 30 → (ds.foldl G o).length ≤ 30
 | [], o, ho => ho
 | w :: ds, o, ho => Mw h ds _ (h o w ho)
theorem Gv {G : List Oo → Oo → List Oo} : ∀ (ds : List Oo) (o : List Oo), (∀ w ∈ ds, G o w = o) → ds.foldl G o = o
 | [], o, _ => rfl
 | w :: ds, o, h => by
  rw [List.foldl_cons, h w List.mem_cons_self]
  exact Gv ds o (fun x hx => h x (List.mem_cons_of_mem _ hx))
theorem Mi : ∀ (t : List (List Int × List Oo)) (f : Oo) (out : List Oo), out.length < 30 → (srW t f out).length ≤ 30
 | [], f, out, h => by simp [srW]; omega
 | (c, ds) :: t, f, out, h => by
  rw [Ih]
  refine Mw (fun o w ho => ?_) ds out (by omega)
  unfold srG
  split
  ·rename_i hc
   exact Mi t _ o hc.1
  ·exact ho
theorem NC (t : List (List Int × List Oo)) (f : Oo) (c : List Int) (o : List Oo) (w : Oo) (h : o.length ≤ 30) : (srG t f c o w).length ≤ 30 := by
 unfold srG
 split
 ·rename_i hc
  exact Mi t _ o hc.1
 ·exact h
def LW (t : List (List Int × List Oo)) (f : Oo) : Bool := t.any fun p => !(p.2.any (Ec (Es f p.1)))
theorem ML {f f' w : Oo} {c : List Int} (h : ∀ z ∈ c, bt f' z = bt f z ∨ bt f z = 63) (hw : Ec (Es f' c) w = true) : Ec (Es f c) w = true := by
 have hb : ∀ g : Oo, bytesOf (Es g c) = c.map (bt g) := fun g => by
  rw [Es, Eo]
  intro x hx
  obtain ⟨z, _, rfl⟩ := List.mem_map.1 hx
  exact KW g z
 obtain ⟨h1, h2, h3⟩ := FZ hw
 have hp : FB (Es f' c) = true := by
  unfold Ec at hw
  by_cases hp : FB (Es f' c) = true
  ·exact hp
  ·rw [if_neg hp] at hw
   cases hw
 have hq : FB (Es f c) = true := by
  unfold FB at hp ⊢
  rw [Bool.and_eq_true, List.all_eq_true, hb, EP] at hp
  rw [Bool.and_eq_true, List.all_eq_true, hb, EP]
  refine ⟨hp.1, fun x hx => ?_⟩
  obtain ⟨z, hz, rfl⟩ := List.mem_map.1 hx
  rcases h z hz with e | e
  ·rw [← e]
   exact hp.2 _ (List.mem_map_of_mem hz)
  ·simp [e]
 rw [EP] at h2
 unfold Ec
 rw [if_pos hq, if_pos h1, EP, if_pos h2, List.all_eq_true]
 intro i hi
 have hi' : i < c.length := List.mem_range.1 hi
 have h4 := h3 i (by rw [EP]; exact hi')
 rw [MC i hi'] at h4 ⊢
 rcases h c[i] (gM hi') with e | e
 ·rw [← e]
  simpa using h4
 ·simp [e]
theorem LV {R C : Int} {s f f' : Oo} (hf : DZ R C s f = true) (h : Grow (bytesOf f) (bytesOf f')) {x : gu} (hx : x ∈ DC R C s) : ∀ z ∈ DF C x, bt f' z = bt f z ∨ bt f z = 63 := by
 intro z hz
 have hc := EN ((DJ R C s).1 x hx) z hz
 have := MB h z.toNat
 rw [Int.toNat_of_nonneg hc.1] at this
 exact this.imp id (fun h2 => h2.1)
theorem MG {R C : Int} {s : Oo} : ∀ (t : List (List Int × List Oo)), (∀ p ∈ t, ∃ x ∈ DC R C s, p.1 = DF C x) → ∀ f, DZ R C s f = true → LW t f = true → ∀ out, srW t f out = out
 | [], _, f, _, h, _ => by simp [LW] at h
 | (c, ds) :: t, ht, f, hf, h, out => by
  obtain ⟨x, hx, e⟩ := ht _ List.mem_cons_self
  replace e : c = DF C x := e
  subst e
  rw [Ih]
  refine Gv ds out (fun w hw => ?_)
  unfold srG
  split
  ·rename_i hc
   have hg := JD hf hx hc.2
   rw [LW, List.any_cons, Bool.or_eq_true] at h
   rcases h with h | h
   ·rw [Bool.not_eq_true', List.any_eq_false] at h
    exact absurd hc.2 (h w hw)
   ·refine MG t (fun p hp => ht p (List.mem_cons_of_mem _ hp)) _ (Ii hf hg) ?_ out
    obtain ⟨p, hp, h2⟩ := List.any_eq_true.1 h
    obtain ⟨y, hy, e⟩ := ht p (List.mem_cons_of_mem _ hp)
    refine List.any_eq_true.2 ⟨p, hp, ?_⟩
    rw [Bool.not_eq_true', List.any_eq_false] at h2 ⊢
    intro v hv h3
    refine h2 v hv (ML ?_ h3)
    rw [e]
    exact LV hf hg hy
  ·rfl
theorem NI (p : Oo) (l : List Oo) (hl : l.length ≤ 8796093022208) : Ev (fun k => eX.f k l (fun j s => aJ.f j p s)) (l.any (Ec p)) := by
 have hi : Ev (fun k => bF.f k l (fun j s => aJ.f j p s)) (match l.findIdx? (Ec p) with | some i => (i : Int) | none => -1) := by
  unfold bF.f
  refine FV (fun k i => bF.l0 k l (fun j s => aJ.f j p s) (l.length : Int) i) l _ ?_ (fun i hi hp r hr => ?_) (fun i hi hp => ?_)
  ·rw [← Dw]
   simp only [bF.l0]
   rw [en]
   exact Dz _
  ·rw [← Dw]
   simp only [bF.l0, Ej ByteArray.empty l i hi, DI (i := i) (by omega)]
   rw [ep, ep, ep, Dx (Et p l[i]), en (by rw [hp]; decide)]
   exact hr
  ·rw [← Dw]
   simp only [bF.l0, Ej ByteArray.empty l i hi, DI (i := i) (by omega)]
   rw [ep, ep, ep, Dx (Et p l[i]), ep hp]
   exact Dz _
 unfold eX.f
 rw [Dx hi]
 refine DT (Dz _) ?_
 cases h : l.findIdx? (Ec p) with
 | none =>
  rw [List.findIdx?_eq_none_iff] at h
  have : l.any (Ec p) = false := by
   rw [List.any_eq_false]
   intro x hx hp
   rw [h x hx] at hp
   cases hp
  simp [this]
 | some i =>
  obtain ⟨h1, h2, _⟩ := List.findIdx?_eq_some_iff_getElem.1 h
  have : l.any (Ec p) = true := List.any_eq_true.2 ⟨_, gM h1, h2⟩
  simp [this]
theorem Jj {α β : Type} (A : List α) (B : List β) (i : Nat) (ha : i < A.length) (hb : i < B.length) : (A.zip B).drop i = (A[i], B[i]) :: (A.zip B).drop (i + 1) := by
 rw [List.drop_eq_getElem_cons (by rw [List.length_zip]; omega), List.getElem_zip]
theorem Nk {R C : Int} {s : Oo} (D : List (List Oo)) (i : Nat) : ∀ p ∈ (((DC R C s).map (DF C)).zip D).drop i, ∃ x ∈ DC R C s, p.1 = DF C x := by
 intro p hp
 obtain ⟨x, hx, e⟩ := List.mem_map.1 (List.of_mem_zip (List.mem_of_mem_drop hp)).1
 exact ⟨x, hx, e.symm⟩
theorem KH {R C : Int} {s : Oo} (D : List (List Oo)) (hD : D.length = (DC R C s).length) (hl : ∀ x ∈ D, x.length ≤ 8796093022208) : ∀ (n i : Nat) (f : Oo) (out : List Oo), i + n = D.length → DZ R C s f = true → out.length < 30 → Ev (fun k => bq.f k R C s D f (i : Int) out) (srW ((((DC R C s).map (DF C)).zip D).drop i) f out) := by
 intro n
 induction n with
 | zero =>
  intro i f out hi hf ho
  rw [List.drop_eq_nil_of_le (by rw [List.length_zip, List.length_map]; omega), ← Dw]
  simp only [bq.f]
  rw [ep, ep]
  exact Dz _
 | succ n ih =>
  intro i f out hi hf ho
  have hid : i < D.length := by omega
  have his : i < (DC R C s).length := by omega
  have hn := (DJ R C s).2.2
  have hdl := hl _ (gM hid)
  rw [Jj _ _ i (by rw [List.length_map]; exact his) hid, List.getElem_map, Ih, ← Dw]
  simp only [bq.f]
  rw [en]
  have hstop : ∀ (o : List Oo) (j : Int), Ev (fun k => bq.j1 k D f (i : Int) o j false R C s) o := by
   intro o j
   rw [← Dw]
   simp only [bq.j1, Bool.false_eq_true, if_false]
   exact Dz _
  refine DY (σ := List Oo) (fun k o j => bq.l0 k D f (i : Int) o j R C s) D[i].length (fun j o => o.length ≤ 30) (fun j o => (D[i].drop j).foldl (srG ((((DC R C s).map (DF C)).zip D).drop (i + 1)) f (DF C (DC R C s)[i])) o) (fun o _ => ?_) (fun j o hj hjo => ?_) 0 out (Nat.zero_le _) (by omega)
  ·rw [List.drop_length, List.foldl_nil, ← Dw]
   simp only [bq.l0, KN D i hid]
   rw [ep, ep, en]
   exact hstop o _
  ·rw [List.drop_eq_getElem_cons hj, List.foldl_cons]
   by_cases h30 : o.length < 30
   ·refine .inr ⟨srG ((((DC R C s).map (DF C)).zip D).drop (i + 1)) f (DF C (DC R C s)[i]) o D[i][j], NC _ _ _ _ _ hjo, rfl, fun r hr => ?_⟩
    rw [← Dw]
    simp only [bq.l0, KN D i hid]
    rw [ep, ep, ep, dT (by omega), ← Dw]
    simp only [bq.j1, if_true, KN D i hid, Ej ByteArray.empty _ j hj, DI (i := j) (by omega), DI (i := i) (by omega)]
    rw [ep, ep, ep, ep, Dx (Jd hf i his _), Dy]
    unfold Oc
    unfold srG at hr
    by_cases hfit : Ec (Es f (DF C (DC R C s)[i])) D[i][j] = true
    ·rw [if_pos ⟨h30, hfit⟩] at hr
     rw [if_pos hfit, if_pos rfl, Dx (ih (i + 1) _ o (by omega) (Ii hf (JD hf (gM his) hfit)) h30)]
     exact hr
    ·rw [if_neg (fun h => hfit h.2)] at hr
     rw [if_neg hfit, if_neg (by simp)]
     exact hr
   ·refine .inl ?_
    have e : (D[i].drop (j + 1)).foldl (srG ((((DC R C s).map (DF C)).zip D).drop (i + 1)) f (DF C (DC R C s)[i])) (srG ((((DC R C s).map (DF C)).zip D).drop (i + 1)) f (DF C (DC R C s)[i]) o D[i][j]) = o := by
     have hg : ∀ w, srG ((((DC R C s).map (DF C)).zip D).drop (i + 1)) f (DF C (DC R C s)[i]) o w = o := fun w => by unfold srG; rw [if_neg (fun h => h30 h.1)]
     rw [hg]
     exact Gv _ _ (fun w _ => hg w)
    rw [e, ← Dw]
    simp only [bq.l0, KN D i hid]
    rw [ep, ep, ep, dF (by omega)]
    exact hstop o _
theorem Lj {R C : Int} {s f : Oo} (D : List (List Oo)) (hD : D.length = (DC R C s).length) (hl : ∀ x ∈ D, x.length ≤ 8796093022208) (hf : DZ R C s f = true) : ∀ i : Nat, i ≤ ((DC R C s).map (DF C)).length → Ev (fun k => cO.f k ((DC R C s).map (DF C)) D f (i : Int)) (LW ((((DC R C s).map (DF C)).zip D).drop i) f) := by
 have hn := (DJ R C s).2.2
 have hL : ((DC R C s).map (DF C)).length = (DC R C s).length := List.length_map _
 refine EH (fun k i => cO.f k ((DC R C s).map (DF C)) D f i) ((DC R C s).map (DF C)).length (fun i => LW ((((DC R C s).map (DF C)).zip D).drop i) f) ?_ (fun i hi => ?_)
 ·rw [List.drop_eq_nil_of_le (by rw [List.length_zip]; omega)]
  unfold cO.f
  rw [← Dw]
  simp only [cO.l0]
  rw [en]
  exact Dz _
 ·have his : i < (DC R C s).length := by omega
  have hid : i < D.length := by omega
  have hx := gM his
  have hc := EN ((DJ R C s).1 _ hx)
  obtain ⟨hg, hfs, _⟩ := Er hf
  have hcl := DX C (DC R C s)[i]
  have hsl := (DJ R C s).1 _ hx
  have hr := ER f (DF C (DC R C s)[i]) (by have := hsl.2.2.2.1; omega) (fun c h => by have := hc c h; omega)
  have ha := NI (Es f (DF C (DC R C s)[i])) D[i] (hl _ (gM hid))
  have hh : LW ((((DC R C s).map (DF C)).zip D).drop i) f = (!(D[i].any (Ec (Es f (DF C (DC R C s)[i])))) || LW ((((DC R C s).map (DF C)).zip D).drop (i + 1)) f) := by
   rw [Jj _ _ i hi hid, List.getElem_map]
   rfl
  have key : ∀ r, (if D[i].any (Ec (Es f (DF C (DC R C s)[i]))) = true then Ev (fun k => cO.f k ((DC R C s).map (DF C)) D f ((i + 1 : Nat) : Int)) r else r = true) → Ev (fun k => cO.f k ((DC R C s).map (DF C)) D f (i : Int)) r := by
   intro r h
   unfold cO.f
   rw [← Dw]
   simp only [cO.l0, Gl _ _ i hi, Gl _ _ i hid, List.getElem_map, DI (i := i) (by omega)]
   rw [ep, ep, Dx hr, ep, Dx ha, Dy]
   split
   ·rename_i h2
    rw [if_pos h2] at h
    exact h
   ·rename_i h2
    rw [if_neg h2] at h
    exact DT (Dz _) h.symm
  rw [hh]
  by_cases h2 : D[i].any (Ec (Es f (DF C (DC R C s)[i]))) = true
  ·refine .inr ⟨by rw [h2]; rfl, fun r h => key r (by rw [if_pos h2]; exact h)⟩
  ·refine .inl (key _ (by rw [if_neg h2]; simp at h2 ⊢; exact .inl h2))
theorem Na {R C : Int} {s : Oo} (D : List (List Oo)) (hD : D.length = (DC R C s).length) (hl : ∀ x ∈ D, x.length ≤ 8796093022208) : ∀ (n i : Nat) (f : Oo) (out : List Oo), i + n = D.length → DZ R C s f = true → out.length < 30 → Ev (fun k => Oe.f k ((DC R C s).map (DF C)) D 30 f (i : Int) out) (srW ((((DC R C s).map (DF C)).zip D).drop i) f out) := by
 have hL : ((DC R C s).map (DF C)).length = (DC R C s).length := List.length_map _
 intro n
 induction n with
 | zero =>
  intro i f out hi hf ho
  rw [List.drop_eq_nil_of_le (by rw [List.length_zip]; omega), ← Dw]
  simp only [Oe.f]
  rw [ep, ep]
  exact Dz _
 | succ n ih =>
  intro i f out hi hf ho
  have hid : i < D.length := by omega
  have his : i < (DC R C s).length := by omega
  have hiL : i < ((DC R C s).map (DF C)).length := by omega
  have hn := (DJ R C s).2.2
  have hdl := hl _ (gM hid)
  have hx := gM his
  have hc := EN ((DJ R C s).1 _ hx)
  obtain ⟨hg, hfs, _⟩ := Er hf
  have hsz := DU hg
  have hsl := (DJ R C s).1 _ hx
  have hcl := DX C (DC R C s)[i]
  have hr := ER f (DF C (DC R C s)[i]) (by have := hsl.2.2.2.1; omega) (fun c h => by have := hc c h; omega)
  rw [← Dw]
  simp only [Oe.f]
  rw [en, Dx (Lj D hD hl hf i (by omega)), Dy]
  split
  ·rename_i hh
   rw [MG _ (Nk D i) f hf hh out]
   exact Dz _
  ·rw [Jj _ _ i hiL hid, List.getElem_map, Ih]
   simp only [Gl _ _ i hiL, Gl _ _ i hid, List.getElem_map]
   rw [ep, ep, Dx hr, ep]
   refine DY (σ := List Oo) (fun k o j => Oe.l0 k ((DC R C s).map (DF C)) D 30 f (i : Int) (Es f (DF C (DC R C s)[i])) D[i] j o) D[i].length (fun j o => o.length ≤ 30) (fun j o => (D[i].drop j).foldl (srG ((((DC R C s).map (DF C)).zip D).drop (i + 1)) f (DF C (DC R C s)[i])) o) (fun o _ => ?_) (fun j o hj hjo => ?_) 0 out (Nat.zero_le _) (by omega)
   ·rw [List.drop_length, List.foldl_nil, ← Dw]
    simp only [Oe.l0]
    rw [en]
    exact Dz _
   ·rw [List.drop_eq_getElem_cons hj, List.foldl_cons]
    by_cases h30 : o.length < 30
    ·refine .inr ⟨srG ((((DC R C s).map (DF C)).zip D).drop (i + 1)) f (DF C (DC R C s)[i]) o D[i][j], NC _ _ _ _ _ hjo, rfl, fun r hr2 => ?_⟩
     rw [← Dw]
     simp only [Oe.l0, Ej ByteArray.empty _ j hj, DI (i := j) (by omega), Gl _ _ i hiL, List.getElem_map]
     rw [ep, ep, en, Dx (Et _ _), Dy]
     unfold srG at hr2
     by_cases hfit : Ec (Es f (DF C (DC R C s)[i])) D[i][j] = true
     ·rw [if_pos ⟨h30, hfit⟩] at hr2
      obtain ⟨z1, z2⟩ := Jl hfit
      rw [if_pos hfit, Dx (Nq (Hf f D[i][j] _ (by omega) (by omega) (by omega) (fun c h => by have := hc c h; omega))), ep, show ((i : Int) + 1) = ((i + 1 : Nat) : Int) by omega, Dx (ih (i + 1) _ o (by omega) (Ii hf (JD hf hx hfit)) h30)]
      exact hr2
     ·rw [if_neg (fun h => hfit h.2)] at hr2
      rw [if_neg hfit]
      exact hr2
    ·refine .inl ?_
     have e : (D[i].drop (j + 1)).foldl (srG ((((DC R C s).map (DF C)).zip D).drop (i + 1)) f (DF C (DC R C s)[i])) (srG ((((DC R C s).map (DF C)).zip D).drop (i + 1)) f (DF C (DC R C s)[i]) o D[i][j]) = o := by
      have hg2 : ∀ w, srG ((((DC R C s).map (DF C)).zip D).drop (i + 1)) f (DF C (DC R C s)[i]) o w = o := fun w => by unfold srG; rw [if_neg (fun h => h30 h.1)]
      rw [hg2]
      exact Gv _ _ (fun w _ => hg2 w)
     rw [e, ← Dw]
     simp only [Oe.l0]
     rw [ep, ep, ep]
     exact Dz _
noncomputable def Ir (R C : Int) (s : Oo) (l : List S70) (q : List Int) (e : Int) (f : Oo) (d : List S73) (w : List Oo) : List Oo :=
 if Fz R C s l q e = true ∧ DZ R C s f = true then srW (((DC R C s).map (DF C)).zip (FP R C s f l d w 0)) f [] else []
theorem NW (R C : Int) (s : Oo) (l : List S70) (q : List Int) (e : Int) (f : Oo) (d : List S73) (w : List Oo) : (Ir R C s l q e f d w).length ≤ 30 := by
 unfold Ir
 split
 ·exact Mi _ _ _ (by simp)
 ·simp
theorem La (R C : Int) (s f : Oo) (l : List S70) (d : List S73) (w : List Oo) : (FP R C s f l d w 0).length = (DC R C s).length := by
 unfold FP
 rw [List.length_map, List.length_range', Nat.sub_zero]
theorem Lb (R C : Int) (s f : Oo) (l : List S70) (d : List S73) (w : List Oo) (hw : w.length ≤ 8796093022208) : ∀ x ∈ FP R C s f l d w 0, x.length ≤ 8796093022208 := by
 intro x hx
 obtain ⟨i, _, rfl⟩ := List.mem_map.1 hx
 exact Nat.le_trans (NM R C s f l d w i) hw
theorem GL (R C : Int) (s : Oo) (l : List S70) (q : List Int) (e : Int) (f : Oo) (d : List S73) (w : List Oo) (hs : s.size < 140737488355328) (hl : l.length < 4611686018427387904) (hx : ∀ x ∈ l, x.f1.length < 4611686018427387904) (hd : d.length < 4611686018427387904) (hw : w.length ≤ 8796093022208) :
  Ev (fun k => Og.f k R C s l q e f d w) (Ir R C s l q e f d w) := by
 have hno : ∀ r, r = [] → Ev (fun k => Og.j0 k f d w true R C s l q e) r := by
  rintro r rfl
  rw [← Dw]
  simp only [Og.j0, if_true]
  exact Dz _
 unfold Og.f
 rw [Dx (FX R C s l q e hs hl hx), Dy]
 split
 ·rename_i hp
  rw [Dx (FD R C s f)]
  by_cases hf : DZ R C s f = true
  ·have e1 : Ir R C s l q e f d w = srW ((((DC R C s).map (DF C)).zip (FP R C s f l d w 0)).drop 0) f [] := by unfold Ir; rw [if_pos ⟨hp, hf⟩]; rfl
   have e2 : Gy R C s l q e f d w = FP R C s f l d w 0 := by unfold Gy; rw [if_pos ⟨hp, hf⟩]
   have hc := GJ R C s l q e f d w hs hl hx hd hw
   rw [e2] at hc
   rw [e1, hf, ← Dw]
   simp only [Og.j0, Bool.not_true, Bool.false_eq_true, if_false]
   have h0 : Ev (fun k => bq.f k R C s (FP R C s f l d w 0) f 0 []) _ := KH _ (La R C s f l d w) (Lb R C s f l d w hw) (FP R C s f l d w 0).length 0 f [] (by omega) hf (by simp)
   rw [Dx hc, Dx h0]
   exact Dz _
  ·rw [Bool.not_eq_true] at hf
   rw [hf]
   exact hno _ (by unfold Ir; rw [if_neg (by rw [hf]; simp)])
 ·rename_i hp
  exact hno _ (by unfold Ir; rw [if_neg (fun h => hp h.1)])
theorem GD (R C : Int) (s : Oo) (l : List S70) (q : List Int) (e : Int) (f : Oo) (d : List S73) (w : List Oo) (hl : l.length < 4611686018427387904) (hx : ∀ x ∈ l, x.f1.length < 4611686018427387904) (hd : d.length < 4611686018427387904) (hw : w.length ≤ 8796093022208) :
  Ev (fun k => eZ.f k R C s l q e f d w) (Ir R C s l q e f d w) := by
 unfold eZ.f
 rw [Dx (FR R C s l q e hl hx), Dy]
 split
 ·rename_i hp
  rw [Dx (Gm R C s f), Dy]
  split
  ·rename_i hf
   have e1 : Ir R C s l q e f d w = srW ((((DC R C s).map (DF C)).zip (FP R C s f l d w 0)).drop 0) f [] := by unfold Ir; rw [if_pos ⟨hp, hf⟩]; rfl
   have e2 : Gy R C s l q e f d w = FP R C s f l d w 0 := by unfold Gy; rw [if_pos ⟨hp, hf⟩]
   have hc := Gz R C s l q e f d w hl hx hd hw
   rw [e2] at hc
   rw [e1, Dx (EC R C s), Dx hc]
   exact Na _ (La R C s f l d w) (Lb R C s f l d w hw) (FP R C s f l d w 0).length 0 f [] (by omega) hf (by simp)
  ·rename_i hf
   exact DT (Dz _) (by unfold Ir; rw [if_neg (fun h => hf h.2)])
 ·rename_i hp
  exact DT (Dz _) (by unfold Ir; rw [if_neg (fun h => hp h.1)])
theorem FnExactSolvePuzzle : bZ.Pure := by
 intro y f d w ⟨⟨_, _, h0⟩, ⟨h1, h2, h3⟩, ⟨h4, h5, _⟩, _⟩ _ ⟨i1, i2, i3⟩ ⟨j1, j2, j3⟩
 refine Ev.rounds ?_
 unfold bZ.f
 rw [Dy]
 split
 ·exact Dz _
 have hx : ∀ x ∈ y.f1, x.f1.length ≤ 3518437208883 := fun x hx => by have := (h3 x hx).2.1; omega
 obtain ⟨a, ha, hab, hsum⟩ := KT y.f0.f0 y.f0.f1 y.f0.f2 y.f1 y.f2 y.f3 h0 (by omega) (fun x hx => ⟨by have := (h3 x hx).2.1; omega, fun t ht => ((h3 x hx).2.2.2 t ht).2.1⟩) (by omega) 1048576 (by omega) (by omega)
 rw [Dx ha, Dy]
 split
 ·exact Dz _
 rename_i ha0
 replace hsum := hsum (by omega)
 obtain ⟨c, hc, hcb⟩ := Kn d (by omega) (fun x hx => (i3 x hx).1) a (by omega) hab
 rw [Dx hc, Dy]
 split
 ·exact Dz _
 obtain ⟨e, he, _⟩ := KU w (by omega) (fun x hx => j3 x hx) c (by omega) hcb
 rw [Dx he, Dy]
 split
 ·exact Dz _
 have t1 := LG y.f0.f0 y.f0.f1 y.f0.f2 y.f1 y.f2 y.f3 (by omega) hx (by omega)
 have t2 := Ko d (by omega)
 have t3 := KV w (by omega)
 have l1 : (y.f1.map Ep).length = y.f1.length := List.length_map _
 have l2 : (d.map Ey).length = d.length := List.length_map _
 have hx' : ∀ x ∈ y.f1.map Ep, x.f1.length < 4611686018427387904 := by
  intro x hm
  obtain ⟨u, hu, rfl⟩ := List.mem_map.1 hm
  have := hx u hu
  simp only [Ep, List.length_map]
  omega
 have hcw := Nn y.f1
 have s := GL y.f0.f0 y.f0.f1 y.f0.f2 (y.f1.map Ep) y.f2 y.f3 f (d.map Ey) w (by omega) (by omega) hx' (by omega) (by omega)
 have i := GD y.f0.f0 y.f0.f1 y.f0.f2 (y.f1.map Ep) y.f2 y.f3 f (d.map Ey) w (by omega) hx' (by omega) (by omega)
 have e1 := Lc y.f0.f0 y.f0.f1 y.f0.f2 (y.f1.map Ep) y.f2 y.f3 (by omega) hx' (by omega)
 have e2 := JQ (d.map Ey) (by omega)
 have e3 := Hy w (by omega)
 have hg := NW y.f0.f0 y.f0.f1 y.f0.f2 (y.f1.map Ep) y.f2 y.f3 f (d.map Ey) w
 have m1 := Ke y.f0.f0 y.f0.f1 y.f0.f2 (y.f1.map Ep) y.f2 y.f3 1 (by omega) (by omega)
 have m2 := IX (d.map Ey) (1 + Ef cwd (y.f1.map Ep) + y.f2.length) (by omega) (by omega)
 have m3 := Gr w (1 + Ef cwd (y.f1.map Ep) + y.f2.length + 2 * (d.map Ey).length) (by omega) (by omega)
 generalize Ir y.f0.f0 y.f0.f1 y.f0.f2 (y.f1.map Ep) y.f2 y.f3 f (d.map Ey) w = g at s i hg
 have e4 := Hy g (by omega)
 have m4 := Gr g 1 (by omega) (by omega)
 have d4 := Jq g 1 (by omega) (by omega)
 simp only [Dx t1, Dx t2, Dx t3, Dx s, Dx i, Dx e1, Dx e2, Dx e3, Dx e4, Dx m1, Dx m2, Dx m3, Dy, if_true]
 rw [if_neg (by omega), ← Dw]
 simp only [bZ.j0, Bool.not_true, Bool.false_eq_true, if_false, Dx t1, Dx t2, Dx t3, Dx i, Dx e4, Dx m4, Dx d4, Dy, if_true]
 rw [if_neg (by omega)]
 exact Dz _
end Go.Proofs.YtikmdgmnhbodjaaGreat.Pure
