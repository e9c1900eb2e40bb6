/- Plain lemmas for functions with rounds: what a loop comes to from some number of rounds on; whole numbers that do not wrap; lists read by an index. No condition beside those written. -/
import Derived.Test.YtdbefmkcondbgaaGreatDoorZHaOnSoW
namespace Go.Proofs.YtdbefmkcondbgaaGreatDoor.Sem
open Go.RowKit Go.Proofs.Yw.PrintWords
set_option linter.unusedVariables false
set_option linter.unusedSimpArgs false
theorem eU {α : Type} {a r : α} : Ev (fun _ => some a) r ↔ a = r :=
 ⟨fun ⟨K, h⟩ => Option.some.inj (h K (Nat.le_refl _)), fun h => ⟨0, fun _ _ => by rw [h]⟩⟩
theorem aD {α : Type} {c : Prop} [Decidable c] {f g : Nat → Option α} {r : α} : Ev (fun k => if c then f k else g k) r ↔ if c then Ev f r else Ev g r := by
 by_cases h : c <;> simp only [h, if_true, if_false]
section
variable {α β : Type} {f g : Nat → Option α} {r : α} {c : Prop} [Decidable c]
theorem ep (h : c := by omega) : Ev (fun k => if c then f k else g k) r ↔ Ev f r := by rw [aD, if_pos h]
theorem en (h : ¬ c := by omega) : Ev (fun k => if c then f k else g k) r ↔ Ev g r := by rw [aD, if_neg h]
end
theorem ay {α β : Type} {g : Nat → Option α} {f : Nat → α → Option β} {a : α} {r : β} (h : Ev g a) : Ev (fun n => (g n).bind (f n)) r ↔ Ev (fun n => f n a) r := by
 constructor
 ·rintro ⟨K, hk⟩
  obtain ⟨K', h⟩ := h
  refine ⟨max K K', fun n hn => ?_⟩
  have h1 := hk n (by omega)
  have h2 := h n (by omega)
  simp only [h2, Option.bind_some] at h1
  exact h1
 ·exact fun k => Ev.bind h k
theorem av {α : Type} {g : Nat → Option α} {r : α} : Ev (fun k => g (k + 1)) r ↔ Ev g r := by
 constructor
 ·rintro ⟨K, h⟩
  refine ⟨K + 1, fun n hn => ?_⟩
  obtain ⟨m, rfl⟩ : ∃ m, n = m + 1 := ⟨n - 1, by omega⟩
  exact h m (by omega)
 ·rintro ⟨K, h⟩
  exact ⟨K, fun n hn => h (n + 1) (by omega)⟩
theorem aG {α : Type} (r : α) : Ev (fun _ => some r) r := ⟨0, fun _ _ => rfl⟩
theorem IB {α : Type} {x : Option α} {r : α} (h : x = some r) : Ev (fun _ => x) r := ⟨0, fun _ _ => h⟩
theorem gI {α : Type} {g : Nat → Option α} {r r' : α} (h : Ev g r) (e : r = r') : Ev g r' := e ▸ h
theorem GI {α : Type} {g : Nat → Option α} {r r' : α} (h : Ev g r) (h' : Ev g r') : r = r' := by
 obtain ⟨K, h⟩ := h
 obtain ⟨K', h'⟩ := h'
 have a := h (max K K') (Nat.le_max_left _ _)
 have b := h' (max K K') (Nat.le_max_right _ _)
 rw [a] at b
 exact Option.some.inj b
theorem iP {σ ρ : Type} (L : Nat → σ → Int → Option ρ) (n : Nat) (Inv : Nat → σ → Prop) (R : Nat → σ → ρ)
  (hend : ∀ s, Inv n s → Ev (fun k => L k s (n : Int)) (R n s))
  (hstep : ∀ i s, i < n → Inv i s → Ev (fun k => L k s (i : Int)) (R i s) ∨ ∃ s', Inv (i + 1) s' ∧ R i s = R (i + 1) s' ∧ ∀ r, Ev (fun k => L k s' ((i + 1 : Nat) : Int)) r → Ev (fun k => L k s (i : Int)) r) :
  ∀ i s, i ≤ n → Inv i s → Ev (fun k => L k s (i : Int)) (R i s) := by
 have key : ∀ d i s, i + d = n → Inv i s → Ev (fun k => L k s (i : Int)) (R i s) := by
  intro d
  induction d with
  | zero =>
   intro i s h hi
   have : i = n := by omega
   subst this
   exact hend s hi
  | succ d ih =>
   intro i s h hi
   rcases hstep i s (by omega) hi with h1 | ⟨s', h1, h2, h3⟩
   ·exact h1
   ·rw [h2]
    exact h3 _ (ih (i + 1) s' (by omega) h1)
 intro i s h hi
 exact key (n - i) i s (by omega) hi
theorem mP {ρ : Type} (L : Nat → Int → Option ρ) (n : Nat) (R : Nat → ρ) (hend : Ev (fun k => L k (n : Int)) (R n))
  (hstep : ∀ i, i < n → Ev (fun k => L k (i : Int)) (R i) ∨ (R i = R (i + 1) ∧ ∀ r, Ev (fun k => L k ((i + 1 : Nat) : Int)) r → Ev (fun k => L k (i : Int)) r)) :
  ∀ i, i ≤ n → Ev (fun k => L k (i : Int)) (R i) := by
 intro i hi
 exact iP (fun k (_ : Unit) x => L k x) n (fun _ _ => True) (fun i _ => R i) (fun _ _ => hend)
  (fun i s h _ => (hstep i h).imp id (fun ⟨a, b⟩ => ⟨(), trivial, a, b⟩)) i () hi trivial
theorem jX {α : Type} (L : Nat → Int → Option Bool) (xs : List α) (p : α → Bool)
  (hend : Ev (fun k => L k (xs.length : Int)) true)
  (hyes : ∀ i (h : i < xs.length), p xs[i] = true → ∀ r, Ev (fun k => L k ((i + 1 : Nat) : Int)) r → Ev (fun k => L k (i : Int)) r)
  (hno : ∀ i (h : i < xs.length), p xs[i] = false → Ev (fun k => L k (i : Int)) false) : Ev (fun k => L k 0) (xs.all p) := by
 have := mP L xs.length (fun i => (xs.drop i).all p) (by simpa using hend) (fun i hi => ?_) 0 (Nat.zero_le _)
 ·simpa using this
 ·simp only [List.drop_eq_getElem_cons hi, List.all_cons]
  cases hp : p xs[i] with
  | true => exact .inr ⟨by simp, hyes i hi hp⟩
  | false => exact .inl (by simpa using hno i hi hp)
theorem qy {α : Type} (L : Nat → Int → Option Bool) (xs : List α) (p : α → Bool)
  (hend : Ev (fun k => L k (xs.length : Int)) false)
  (hno : ∀ i (h : i < xs.length), p xs[i] = false → ∀ r, Ev (fun k => L k ((i + 1 : Nat) : Int)) r → Ev (fun k => L k (i : Int)) r)
  (hyes : ∀ i (h : i < xs.length), p xs[i] = true → Ev (fun k => L k (i : Int)) true) : Ev (fun k => L k 0) (xs.any p) := by
 have := mP L xs.length (fun i => (xs.drop i).any p) (by simpa using hend) (fun i hi => ?_) 0 (Nat.zero_le _)
 ·simpa using this
 ·simp only [List.drop_eq_getElem_cons hi, List.any_cons]
  cases hp : p xs[i] with
  | true => exact .inl (by simpa using hyes i hi hp)
  | false => exact .inr ⟨by simp, hno i hi hp⟩
theorem qA {α : Type} (L : Nat → Int → Option Int) (xs : List α) (p : α → Bool)
  (hend : Ev (fun k => L k (xs.length : Int)) (-1))
  (hno : ∀ i (h : i < xs.length), p xs[i] = false → ∀ r, Ev (fun k => L k ((i + 1 : Nat) : Int)) r → Ev (fun k => L k (i : Int)) r)
  (hyes : ∀ i (h : i < xs.length), p xs[i] = true → Ev (fun k => L k (i : Int)) (i : Int)) :
  Ev (fun k => L k 0) (match xs.findIdx? p with | some i => (i : Int) | none => -1) := by
 have := mP L xs.length (fun i => (match (xs.drop i).findIdx? p with | some j => ((i + j : Nat) : Int) | none => -1)) (by simpa using hend) (fun i hi => ?_) 0 (Nat.zero_le _)
 ·simpa using this
 ·simp only [List.drop_eq_getElem_cons hi, List.findIdx?_cons]
  cases hp : p xs[i] with
  | true => exact .inl (by simpa using hyes i hi hp)
  | false =>
   refine .inr ⟨?_, hno i hi hp⟩
   cases (xs.drop (i + 1)).findIdx? p with
   | none => simp
   | some j => simp; omega
theorem mE {α β : Type} (L : Nat → List β → Int → Option (List β)) (xs : List α) (f : α → List β) (N : Nat)
  (hend : ∀ s, Ev (fun k => L k s (xs.length : Int)) s)
  (hstep : ∀ i (h : i < xs.length) s, s.length ≤ ((xs.take i).flatMap f).length → ∀ r, Ev (fun k => L k (s ++ f xs[i]) ((i + 1 : Nat) : Int)) r → Ev (fun k => L k s (i : Int)) r) :
  Ev (fun k => L k [] 0) (xs.flatMap f) := by
 have := iP L xs.length (fun i s => s = (xs.take i).flatMap f) (fun i s => s ++ (xs.drop i).flatMap f) (fun s _ => by simpa using hend s) (fun i s hi hs => ?_) 0 [] (Nat.zero_le _) (by simp)
 ·simpa using this
 ·refine .inr ⟨s ++ f xs[i], ?_, ?_, hstep i hi s (by rw [hs]; exact Nat.le_refl _)⟩
  ·rw [List.take_succ_eq_append_getElem hi, List.flatMap_append, hs]
   simp
  ·simp only [List.drop_eq_getElem_cons hi, List.flatMap_cons, List.append_assoc]
theorem qz {α β : Type} (L : Nat → List β → Int → Option (List β)) (xs : List α) (f : α → β) (z : β)
  (hend : ∀ s : List β, s.length = xs.length → Ev (fun k => L k s (xs.length : Int)) s)
  (hstep : ∀ i (h : i < xs.length) (s : List β), s.length = xs.length → ∀ r, Ev (fun k => L k (s.set i (f xs[i])) ((i + 1 : Nat) : Int)) r → Ev (fun k => L k s (i : Int)) r) :
  Ev (fun k => L k (List.replicate xs.length z) 0) (xs.map f) := by
 have := iP L xs.length (fun i s => s.length = xs.length ∧ s.take i = (xs.take i).map f) (fun i s => s.take i ++ (xs.drop i).map f) (fun s hs => ?_) (fun i s hi hs => ?_) 0 (List.replicate xs.length z) (Nat.zero_le _) (by simp)
 ·simpa using this
 ·rw [List.take_of_length_le (by omega)]
  simpa using hend s hs.1
 ·have hl : (s.set i (f xs[i])).length = xs.length := by rw [List.length_set]; exact hs.1
  have ht : (s.set i (f xs[i])).take (i + 1) = s.take i ++ [f xs[i]] := by
   rw [List.take_succ_eq_append_getElem (by rw [hl]; exact hi), List.take_set_of_le (Nat.le_refl _)]
   simp
  refine .inr ⟨s.set i (f xs[i]), ⟨hl, ?_⟩, ?_, hstep i hi s hs.1⟩
  ·rw [ht, hs.2, List.take_succ_eq_append_getElem hi, List.map_append]; rfl
  ·rw [ht, List.drop_eq_getElem_cons hi]; simp only [List.map_cons, List.append_assoc, List.cons_append, List.nil_append]
theorem rX {β : Type} (L : Nat → Int → Int → Option Int) (xs : List β) (B : Int)
  (hend : ∀ b, Ev (fun k => L k b (xs.length : Int)) b)
  (hstep : ∀ i (h : i < xs.length) (b : Int), 0 ≤ b → b ≤ B → Ev (fun k => L k b (i : Int)) (-1) ∨ ∃ b', 0 ≤ b' ∧ b' ≤ B ∧ ∀ r, Ev (fun k => L k b' ((i + 1 : Nat) : Int)) r → Ev (fun k => L k b (i : Int)) r) :
  ∀ a, 0 ≤ a → a ≤ B → ∃ r, Ev (fun k => L k a 0) r ∧ r ≤ B := by
 have key : ∀ (d i : Nat) (b : Int), i + d = xs.length → 0 ≤ b → b ≤ B → ∃ r, Ev (fun k => L k b (i : Int)) r ∧ r ≤ B := by
  intro d
  induction d with
  | zero =>
   intro i b hi _ hb
   have : i = xs.length := by omega
   subst this
   exact ⟨b, hend b, hb⟩
  | succ d ih =>
   intro i b hi hb hb'
   rcases hstep i (by omega) b hb hb' with h | ⟨b', h1, h2, h3⟩
   ·exact ⟨-1, h, by omega⟩
   ·obtain ⟨r, hr, hrb⟩ := ih (i + 1) b' (by omega) h1 h2
    exact ⟨r, h3 r hr, hrb⟩
 intro a h0 h1
 exact key xs.length 0 a (by omega) h0 h1
theorem bH {i : Nat} (h : i < 4611686018427387904) : wrap64 ((i : Int) + 1) = ((i + 1 : Nat) : Int) := by unfold wrap64; omega
theorem lD {n : Int} (h : -9223372036854775808 ≤ n) (h' : n ≤ 9223372036854775807) : wrap64 n = n := by unfold wrap64; omega
theorem wf_i64 {n : Int} (h : (Lit.int .i64 n).wf = true) : -9223372036854775808 ≤ n ∧ n ≤ 9223372036854775807 := by
 simp [Lit.wf, IntKind.min, IntKind.max, IntKind.signed, IntKind.bits] at h
 omega
theorem nP (xs : List Int) (i : Nat) (h : i < xs.length) : rd xs (i : Int) = xs[i] := by
 simp [rd, List.getD_eq_getElem?_getD, List.getElem?_eq_getElem h]
theorem jY {α : Type} (d : α) (xs : List α) (i : Nat) (h : i < xs.length) : gq d xs (i : Int) = xs[i] := by
 simp [gq, List.getD_eq_getElem?_getD, List.getElem?_eq_getElem h]
theorem rF {α : Type} (d : α) (xs : List α) (i : Nat) (h : i < xs.length) : xs.getD ((i : Int)).toNat d = xs[i] := by
 simp [List.getD_eq_getElem?_getD, List.getElem?_eq_getElem h]
theorem mI (s : aj) (i : Nat) (h : i < s.size) : bt s (i : Int) = (bytesOf s)[i]'(by rw [bytesOf_length]; exact h) := by
 rw [← Bt]
 exact nP _ _ _
theorem ou (s : aj) : ∀ c ∈ bytesOf s, 0 ≤ c ∧ c ≤ 255 := by
 intro c hc
 obtain ⟨x, _, rfl⟩ := List.mem_map.1 hc
 have := x.toNat_lt
 omega
theorem bytes_inj {s t : aj} (h : bytesOf s = bytesOf t) : s = t := by
 have h1 : s.data.toList = t.data.toList := by
  refine List.map_inj_right (f := fun c : UInt8 => (c.toNat : Int)) ?_ |>.1 h
  intro x y hxy
  have : x.toNat = y.toNat := Int.ofNat_inj.1 hxy
  exact UInt8.toNat_inj.1 this
 exact ByteArray.ext (Array.toList_inj.1 h1)
theorem EN (s : aj) : ∀ (d i : Nat) (r : List UInt8), i + d = s.size → ByteArray.toList.loop s i r = r.reverse ++ s.data.toList.drop i := by
 intro d
 induction d with
 | zero =>
  intro i r h
  rw [ByteArray.toList.loop, if_neg (by omega), List.drop_eq_nil_of_le (by rw [Array.length_toList]; exact Nat.le_of_eq h.symm)]
  simp
 | succ d ih =>
  intro i r h
  have hi : i < s.data.toList.length := by rw [Array.length_toList]; exact Nat.lt_of_lt_of_eq (by omega) h
  rw [ByteArray.toList.loop, if_pos (by omega), ih (i + 1) _ (by omega), List.drop_eq_getElem_cons hi]
  have : s.get! i = s.data.toList[i] := by
   simp only [ByteArray.get!]
   rw [getElem!_pos s.data i (by simpa using hi)]
   simp
  simp [this]
theorem toList_data (s : aj) : s.toList = s.data.toList := by
 unfold ByteArray.toList
 rw [EN s s.size 0 [] (by omega)]
 rfl
theorem toList_eq {s t : aj} : s.toList = t.toList ↔ s = t := by
 rw [toList_data, toList_data]
 exact ⟨fun h => ByteArray.ext (Array.toList_inj.1 h), fun h => by rw [h]⟩
theorem kg (s t : aj) : (s.toList == t.toList) = decide (s = t) := by
 rw [Bool.eq_iff_iff]
 simp [toList_eq]
theorem toList_nil {s : aj} : s.toList = ([] : List UInt8) ↔ s.size = 0 := by
 rw [toList_data]
 constructor
 ·intro h
  rw [← ow, h]
  rfl
 ·intro h
  exact List.eq_nil_of_length_eq_zero (by rw [ow]; exact h)
end Go.Proofs.YtdbefmkcondbgaaGreatDoor.Sem
