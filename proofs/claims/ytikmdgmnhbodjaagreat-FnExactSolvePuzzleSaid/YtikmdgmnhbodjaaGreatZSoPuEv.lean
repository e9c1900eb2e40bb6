/- Plain lemmas for functions with rounds: what a loop comes to from some number of rounds on; whole numbers that do not wrap; lists read by an index. No condition beside those written. -/
import Derived.Test.YtikmdgmnhbodjaaGreatZSoPuW
namespace Go.Proofs.YtikmdgmnhbodjaaGreat.Sem
open Go.RowKit Go.Proofs.Yw.PrintWords
set_option linter.unusedVariables false
set_option linter.unusedSimpArgs false
theorem DK {α : Type} {a r : α} : Ev (fun _ => some a) r ↔ a = r :=
 ⟨fun ⟨K, h⟩ => Option.some.inj (h K (Nat.le_refl _)), fun h => ⟨0, fun _ _ => by rw [h]⟩⟩
theorem Dy {α : Type} {c : Prop} [Decidable c] {f g : Nat → Option α} {r : α} : Ev (fun k => if c then f k else g k) r ↔ if c then Ev f r else Ev g r := by
 by_cases h : c <;> simp only [h, if_true, if_false]
section
variable {α β : Type} {f g : Nat → Option α} {r : α} {c : Prop} [Decidable c]
theorem ep (h : c := by omega) : Ev (fun k => if c then f k else g k) r ↔ Ev f r := by rw [Dy, if_pos h]
theorem en (h : ¬ c := by omega) : Ev (fun k => if c then f k else g k) r ↔ Ev g r := by rw [Dy, if_neg h]
end
theorem Dx {α β : Type} {g : Nat → Option α} {f : Nat → α → Option β} {a : α} {r : β} (h : Ev g a) : Ev (fun n => (g n).bind (f n)) r ↔ Ev (fun n => f n a) r := by
 constructor
 ·rintro ⟨K, hk⟩
  obtain ⟨K', h⟩ := h
  refine ⟨max K K', fun n hn => ?_⟩
  have h1 := hk n (by omega)
  have h2 := h n (by omega)
  simp only [h2, Option.bind_some] at h1
  exact h1
 ·exact fun k => Ev.bind h k
theorem Dw {α : Type} {g : Nat → Option α} {r : α} : Ev (fun k => g (k + 1)) r ↔ Ev g r := by
 constructor
 ·rintro ⟨K, h⟩
  refine ⟨K + 1, fun n hn => ?_⟩
  obtain ⟨m, rfl⟩ : ∃ m, n = m + 1 := ⟨n - 1, by omega⟩
  exact h m (by omega)
 ·rintro ⟨K, h⟩
  exact ⟨K, fun n hn => h (n + 1) (by omega)⟩
theorem Dz {α : Type} (r : α) : Ev (fun _ => some r) r := ⟨0, fun _ _ => rfl⟩
theorem Nq {α : Type} {x : Option α} {r : α} (h : x = some r) : Ev (fun _ => x) r := ⟨0, fun _ _ => h⟩
theorem DT {α : Type} {g : Nat → Option α} {r r' : α} (h : Ev g r) (e : r = r') : Ev g r' := e ▸ h
theorem MK {α : Type} {g : Nat → Option α} {r r' : α} (h : Ev g r) (h' : Ev g r') : r = r' := by
 obtain ⟨K, h⟩ := h
 obtain ⟨K', h'⟩ := h'
 have a := h (max K K') (Nat.le_max_left _ _)
 have b := h' (max K K') (Nat.le_max_right _ _)
 rw [a] at b
 exact Option.some.inj b
theorem DY {σ ρ : Type} (L : Nat → σ → Int → Option ρ) (n : Nat) (Inv : Nat → σ → Prop) (R : Nat → σ → ρ)
  (hend : ∀ s, Inv n s → Ev (fun k => L k s (n : Int)) (R n s))
  (hstep : ∀ i s, i < n → Inv i s → Ev (fun k => L k s (i : Int)) (R i s) ∨ ∃ s', Inv (i + 1) s' ∧ R i s = R (i + 1) s' ∧ ∀ r, Ev (fun k => L k s' ((i + 1 : Nat) : Int)) r → Ev (fun k => L k s (i : Int)) r) :
  ∀ i s, i ≤ n → Inv i s → Ev (fun k => L k s (i : Int)) (R i s) := by
 have key : ∀ d i s, i + d = n → Inv i s → Ev (fun k => L k s (i : Int)) (R i s) := by
  intro d
  induction d with
  | zero =>
   intro i s h hi
   have : i = n := by omega
   subst this
   exact hend s hi
  | succ d ih =>
   intro i s h hi
   rcases hstep i s (by omega) hi with h1 | ⟨s', h1, h2, h3⟩
   ·exact h1
   ·rw [h2]
    exact h3 _ (ih (i + 1) s' (by omega) h1)
 intro i s h hi
 exact key (n - i) i s (by omega) hi
theorem EH {ρ : Type} (L : Nat → Int → Option ρ) (n : Nat) (R : Nat → ρ) (hend : Ev (fun k => L k (n : Int)) (R n))
  (hstep : ∀ i, i < n → Ev (fun k => L k (i : Int)) (R i) ∨ (R i = R (i + 1) ∧ ∀ r, Ev (fun k => L k ((i + 1 : Nat) : Int)) r → Ev (fun k => L k (i : Int)) r)) :
  ∀ i, i ≤ n → Ev (fun k => L k (i : Int)) (R i) := by
 intro i hi
 exact DY (fun k (_ : Unit) x => L k x) n (fun _ _ => True) (fun i _ => R i) (fun _ _ => hend)
  (fun i s h _ => (hstep i h).imp id (fun ⟨a, b⟩ => ⟨(), trivial, a, b⟩)) i () hi trivial
theorem Em {α : Type} (L : Nat → Int → Option Bool) (xs : List α) (p : α → Bool)
  (hend : Ev (fun k => L k (xs.length : Int)) true)
  (hyes : ∀ i (h : i < xs.length), p xs[i] = true → ∀ r, Ev (fun k => L k ((i + 1 : Nat) : Int)) r → Ev (fun k => L k (i : Int)) r)
  (hno : ∀ i (h : i < xs.length), p xs[i] = false → Ev (fun k => L k (i : Int)) false) : Ev (fun k => L k 0) (xs.all p) := by
 have := EH L xs.length (fun i => (xs.drop i).all p) (by simpa using hend) (fun i hi => ?_) 0 (Nat.zero_le _)
 ·simpa using this
 ·simp only [List.drop_eq_getElem_cons hi, List.all_cons]
  cases hp : p xs[i] with
  | true => exact .inr ⟨by simp, hyes i hi hp⟩
  | false => exact .inl (by simpa using hno i hi hp)
theorem FT {α : Type} (L : Nat → Int → Option Bool) (xs : List α) (p : α → Bool)
  (hend : Ev (fun k => L k (xs.length : Int)) false)
  (hno : ∀ i (h : i < xs.length), p xs[i] = false → ∀ r, Ev (fun k => L k ((i + 1 : Nat) : Int)) r → Ev (fun k => L k (i : Int)) r)
  (hyes : ∀ i (h : i < xs.length), p xs[i] = true → Ev (fun k => L k (i : Int)) true) : Ev (fun k => L k 0) (xs.any p) := by
 have := EH L xs.length (fun i => (xs.drop i).any p) (by simpa using hend) (fun i hi => ?_) 0 (Nat.zero_le _)
 ·simpa using this
 ·simp only [List.drop_eq_getElem_cons hi, List.any_cons]
  cases hp : p xs[i] with
  | true => exact .inl (by simpa using hyes i hi hp)
  | false => exact .inr ⟨by simp, hno i hi hp⟩
theorem FV {α : Type} (L : Nat → Int → Option Int) (xs : List α) (p : α → Bool)
  (hend : Ev (fun k => L k (xs.length : Int)) (-1))
  (hno : ∀ i (h : i < xs.length), p xs[i] = false → ∀ r, Ev (fun k => L k ((i + 1 : Nat) : Int)) r → Ev (fun k => L k (i : Int)) r)
  (hyes : ∀ i (h : i < xs.length), p xs[i] = true → Ev (fun k => L k (i : Int)) (i : Int)) :
  Ev (fun k => L k 0) (match xs.findIdx? p with | some i => (i : Int) | none => -1) := by
 have := EH L xs.length (fun i => (match (xs.drop i).findIdx? p with | some j => ((i + j : Nat) : Int) | none => -1)) (by simpa using hend) (fun i hi => ?_) 0 (Nat.zero_le _)
 ·simpa using this
 ·simp only [List.drop_eq_getElem_cons hi, List.findIdx?_cons]
  cases hp : p xs[i] with
  | true => exact .inl (by simpa using hyes i hi hp)
  | false =>
   refine .inr ⟨?_, hno i hi hp⟩
   cases (xs.drop (i + 1)).findIdx? p with
   | none => simp
   | some j => simp; omega
theorem EG {α β : Type} (L : Nat → List β → Int → Option (List β)) (xs : List α) (f : α → List β) (N : Nat)
  (hend : ∀ s, Ev (fun k => L k s (xs.length : Int)) s)
  (hstep : ∀ i (h : i < xs.length) s, s.length ≤ ((xs.take i).flatMap f).length → ∀ r, Ev (fun k => L k (s ++ f xs[i]) ((i + 1 : Nat) : Int)) r → Ev (fun k => L k s (i : Int)) r) :
  Ev (fun k => L k [] 0) (xs.flatMap f) := by
 have := DY L xs.length (fun i s => s = (xs.take i).flatMap f) (fun i s => s ++ (xs.drop i).flatMap f) (fun s _ => by simpa using hend s) (fun i s hi hs => ?_) 0 [] (Nat.zero_le _) (by simp)
 ·simpa using this
 ·refine .inr ⟨s ++ f xs[i], ?_, ?_, hstep i hi s (by rw [hs]; exact Nat.le_refl _)⟩
  ·rw [List.take_succ_eq_append_getElem hi, List.flatMap_append, hs]
   simp
  ·simp only [List.drop_eq_getElem_cons hi, List.flatMap_cons, List.append_assoc]
theorem FU {α β : Type} (L : Nat → List β → Int → Option (List β)) (xs : List α) (f : α → β) (z : β)
  (hend : ∀ s : List β, s.length = xs.length → Ev (fun k => L k s (xs.length : Int)) s)
  (hstep : ∀ i (h : i < xs.length) (s : List β), s.length = xs.length → ∀ r, Ev (fun k => L k (s.set i (f xs[i])) ((i + 1 : Nat) : Int)) r → Ev (fun k => L k s (i : Int)) r) :
  Ev (fun k => L k (List.replicate xs.length z) 0) (xs.map f) := by
 have := DY L xs.length (fun i s => s.length = xs.length ∧ s.take i = (xs.take i).map f) (fun i s => s.take i ++ (xs.drop i).map f) (fun s hs => ?_) (fun i s hi hs => ?_) 0 (List.replicate xs.length z) (Nat.zero_le _) (by simp)
 ·simpa using this
 ·rw [List.take_of_length_le (by omega)]
  simpa using hend s hs.1
 ·have hl : (s.set i (f xs[i])).length = xs.length := by rw [List.length_set]; exact hs.1
  have ht : (s.set i (f xs[i])).take (i + 1) = s.take i ++ [f xs[i]] := by
   rw [List.take_succ_eq_append_getElem (by rw [hl]; exact hi), List.take_set_of_le (Nat.le_refl _)]
   simp
  refine .inr ⟨s.set i (f xs[i]), ⟨hl, ?_⟩, ?_, hstep i hi s hs.1⟩
  ·rw [ht, hs.2, List.take_succ_eq_append_getElem hi, List.map_append]; rfl
  ·rw [ht, List.drop_eq_getElem_cons hi]; simp only [List.map_cons, List.append_assoc, List.cons_append, List.nil_append]
def EI {β : Type} (g : β → Int → β) (wd : β → Nat) : List β → Int → List β
 | [], _ => []
 | x :: xs, c => g x c :: EI g wd xs (c + wd x)
def Ef {β : Type} (wd : β → Nat) : List β → Nat
 | [] => 0
 | x :: xs => wd x + Ef wd xs
theorem Ew {β : Type} (g : β → Int → β) (wd : β → Nat) : ∀ (xs : List β) (c : Int), (EI g wd xs c).length = xs.length
 | [], _ => rfl
 | x :: xs, c => by simp [EI, Ew g wd xs]
theorem Ip {β : Type} (g : β → Int → β) (wd : β → Nat) : ∀ (xs : List β) (c : Int) (i : Nat) (h : i < xs.length), (EI g wd xs c)[i]'(by rw [Ew]; exact h) = g xs[i] (c + Ef wd (xs.take i))
 | x :: xs, c, 0, h => by simp [EI, Ef]
 | x :: xs, c, i + 1, h => by
  simp only [EI, List.getElem_cons_succ, List.take_succ_cons, Ef]
  rw [Ip g wd xs (c + wd x) i (by simpa using h)]
  congr 1
  omega
theorem Gu {β : Type} (wd : β → Nat) : ∀ (xs ys : List β), Ef wd (xs ++ ys) = Ef wd xs + Ef wd ys
 | [], ys => by simp [Ef]
 | x :: xs, ys => by simp only [List.cons_append, Ef, Gu wd xs ys]; omega
theorem FE {β : Type} (wd : β → Nat) (xs : List β) (i : Nat) (h : i < xs.length) : Ef wd (xs.take (i + 1)) = Ef wd (xs.take i) + wd xs[i] := by
 rw [List.take_succ_eq_append_getElem h, Gu]
 simp [Ef]
theorem Gd {β : Type} (wd : β → Nat) (xs : List β) (i : Nat) : Ef wd (xs.take i) ≤ Ef wd xs := by
 have := Gu wd (xs.take i) (xs.drop i)
 rw [List.take_append_drop] at this
 omega
theorem FY {β : Type} (w : Nat) : ∀ xs : List β, Ef (fun _ => w) xs = w * xs.length
 | [] => rfl
 | x :: xs => by simp only [Ef, FY w xs, List.length_cons]; rw [Nat.mul_add]; omega
theorem LX {β : Type} (g : β → Int → β) (wd : β → Nat) (xs : List β) (c : Int) (i : Nat) (h : i < xs.length) :
  (EI g wd xs c).take (i + 1) = (EI g wd xs c).take i ++ [g xs[i] (c + Ef wd (xs.take i))] := by
 rw [List.take_succ_eq_append_getElem (by rw [Ew]; exact h), Ip _ _ _ _ _ h]
theorem Gw {β : Type} (L : Nat → List β → Int → Int → Option (Int × List β)) (xs : List β) (wd : β → Nat) (g : β → Int → β) (c : Int)
  (hend : ∀ (s : List β) b, s.length = xs.length → Ev (fun k => L k s b (xs.length : Int)) (b, s))
  (hstep : ∀ i (h : i < xs.length) (s : List β) (b : Int), (hs : s.length = xs.length) → s[i]'(by omega) = xs[i] → c ≤ b → b + wd xs[i] ≤ c + Ef wd xs → ∀ r, Ev (fun k => L k (s.set i (g xs[i] b)) (b + wd xs[i]) ((i + 1 : Nat) : Int)) r → Ev (fun k => L k s b (i : Int)) r) :
  Ev (fun k => L k xs c 0) (c + Ef wd xs, EI g wd xs c) := by
 have := DY (σ := List β × Int) (fun k s i => L k s.1 s.2 i) xs.length (fun i s => s.1.length = xs.length ∧ s.1.drop i = xs.drop i ∧ s.1.take i = (EI g wd xs c).take i ∧ s.2 = c + Ef wd (xs.take i))
  (fun i s => (c + Ef wd xs, EI g wd xs c)) (fun s ⟨h1, h2, h3, h4⟩ => ?_) (fun i s hi ⟨h1, h2, h3, h4⟩ => ?_) 0 (xs, c) (Nat.zero_le _) (by simp [Ef])
 ·simpa using this
 ·have e : s = (EI g wd xs c, c + (Ef wd xs : Int)) := by
   refine Prod.ext ?_ ?_
   ·rw [List.take_of_length_le (by omega), List.take_of_length_le (by rw [Ew]; exact Nat.le_refl _)] at h3
    exact h3
   ·rw [List.take_of_length_le (Nat.le_refl _)] at h4
    exact h4
  have e1 := congrArg Prod.fst e
  have e2 := congrArg Prod.snd e
  simp only at e1 e2
  have := hend s.1 s.2 h1
  rw [e1, e2] at this ⊢
  exact this
 ·have hil : i < s.1.length := by omega
  have hsi : s.1[i] = xs[i] := by
   rw [List.drop_eq_getElem_cons hil, List.drop_eq_getElem_cons hi] at h2
   exact (List.cons.inj h2).1
  have hw := FE wd xs i hi
  have hle := Gd wd xs (i + 1)
  refine .inr ⟨(s.1.set i (g xs[i] s.2), s.2 + wd xs[i]), ⟨by rw [List.length_set]; exact h1, ?_, ?_, ?_⟩, rfl, fun r hr => hstep i hi s.1 s.2 h1 hsi (by omega) (by omega) r hr⟩
  ·show (s.1.set i (g xs[i] s.2)).drop (i + 1) = xs.drop (i + 1)
   rw [List.drop_set_of_lt (by omega)]
   rw [List.drop_eq_getElem_cons hil, List.drop_eq_getElem_cons hi] at h2
   exact (List.cons.inj h2).2
  ·show (s.1.set i (g xs[i] s.2)).take (i + 1) = _
   rw [List.take_succ_eq_append_getElem (by rw [List.length_set]; exact hil), List.take_set_of_le (Nat.le_refl _), LX _ _ _ _ _ hi, h3, h4]
   simp
  ·show s.2 + (wd xs[i] : Int) = _
   rw [hw, h4]
   omega
theorem MW {β : Type} (L : Nat → Int → Int → Option Int) (xs : List β) (wd : β → Nat) (c : Int)
  (hend : ∀ b, Ev (fun k => L k b (xs.length : Int)) b)
  (hstep : ∀ i (h : i < xs.length) (b : Int), b = c + Ef wd (xs.take i) → b + wd xs[i] ≤ c + Ef wd xs → ∀ r, Ev (fun k => L k (b + wd xs[i]) ((i + 1 : Nat) : Int)) r → Ev (fun k => L k b (i : Int)) r) :
  Ev (fun k => L k c 0) (c + Ef wd xs) := by
 have := DY (fun k s i => L k s i) xs.length (fun i s => s = c + Ef wd (xs.take i)) (fun i s => c + (Ef wd xs : Int)) (fun s hs => ?_) (fun i s hi hs => ?_) 0 c (Nat.zero_le _) (by simp [Ef])
 ·simpa using this
 ·rw [List.take_of_length_le (Nat.le_refl _)] at hs
  rw [← hs]
  exact hend s
 ·have hw := FE wd xs i hi
  have hle := Gd wd xs (i + 1)
  exact .inr ⟨s + wd xs[i], by rw [hw, hs]; omega, rfl, hstep i hi s hs (by omega)⟩
theorem Ku {β : Type} (L : Nat → Int → Int → Option Int) (xs : List β) (B : Int)
  (hend : ∀ b, Ev (fun k => L k b (xs.length : Int)) b)
  (hstep : ∀ i (h : i < xs.length) (b : Int), 0 ≤ b → b ≤ B → Ev (fun k => L k b (i : Int)) (-1) ∨ ∃ b', 0 ≤ b' ∧ b' ≤ B ∧ ∀ r, Ev (fun k => L k b' ((i + 1 : Nat) : Int)) r → Ev (fun k => L k b (i : Int)) r) :
  ∀ a, 0 ≤ a → a ≤ B → ∃ r, Ev (fun k => L k a 0) r ∧ r ≤ B := by
 have key : ∀ (d i : Nat) (b : Int), i + d = xs.length → 0 ≤ b → b ≤ B → ∃ r, Ev (fun k => L k b (i : Int)) r ∧ r ≤ B := by
  intro d
  induction d with
  | zero =>
   intro i b hi _ hb
   have : i = xs.length := by omega
   subst this
   exact ⟨b, hend b, hb⟩
  | succ d ih =>
   intro i b hi hb hb'
   rcases hstep i (by omega) b hb hb' with h | ⟨b', h1, h2, h3⟩
   ·exact ⟨-1, h, by omega⟩
   ·obtain ⟨r, hr, hrb⟩ := ih (i + 1) b' (by omega) h1 h2
    exact ⟨r, h3 r hr, hrb⟩
 intro a h0 h1
 exact key xs.length 0 a (by omega) h0 h1
theorem DI {i : Nat} (h : i < 4611686018427387904) : wrap64 ((i : Int) + 1) = ((i + 1 : Nat) : Int) := by unfold wrap64; omega
theorem El {n : Int} (h : -9223372036854775808 ≤ n) (h' : n ≤ 9223372036854775807) : wrap64 n = n := by unfold wrap64; omega
theorem wf_i64 {n : Int} (h : (Lit.int .i64 n).wf = true) : -9223372036854775808 ≤ n ∧ n ≤ 9223372036854775807 := by
 simp [Lit.wf, IntKind.min, IntKind.max, IntKind.signed, IntKind.bits] at h
 omega
theorem ET (xs : List Int) (i : Nat) (h : i < xs.length) : rd xs (i : Int) = xs[i] := by
 simp [rd, List.getD_eq_getElem?_getD, List.getElem?_eq_getElem h]
theorem Ej {α : Type} (d : α) (xs : List α) (i : Nat) (h : i < xs.length) : fB d xs (i : Int) = xs[i] := by
 simp [fB, List.getD_eq_getElem?_getD, List.getElem?_eq_getElem h]
theorem Gl {α : Type} (d : α) (xs : List α) (i : Nat) (h : i < xs.length) : xs.getD ((i : Int)).toNat d = xs[i] := by
 simp [List.getD_eq_getElem?_getD, List.getElem?_eq_getElem h]
theorem EL (s : Oo) (i : Nat) (h : i < s.size) : bt s (i : Int) = (bytesOf s)[i]'(by rw [bytesOf_length]; exact h) := by
 rw [← JE]
 exact ET _ _ _
theorem EX (s : Oo) : ∀ c ∈ bytesOf s, 0 ≤ c ∧ c ≤ 255 := by
 intro c hc
 obtain ⟨x, _, rfl⟩ := List.mem_map.1 hc
 have := x.toNat_lt
 omega
theorem bytes_inj {s t : Oo} (h : bytesOf s = bytesOf t) : s = t := by
 have h1 : s.data.toList = t.data.toList := by
  refine List.map_inj_right (f := fun c : UInt8 => (c.toNat : Int)) ?_ |>.1 h
  intro x y hxy
  have : x.toNat = y.toNat := Int.ofNat_inj.1 hxy
  exact UInt8.toNat_inj.1 this
 exact ByteArray.ext (Array.toList_inj.1 h1)
theorem LD (s : Oo) : ∀ (d i : Nat) (r : List UInt8), i + d = s.size → ByteArray.toList.loop s i r = r.reverse ++ s.data.toList.drop i := by
 intro d
 induction d with
 | zero =>
  intro i r h
  rw [ByteArray.toList.loop, if_neg (by omega), List.drop_eq_nil_of_le (by rw [Array.length_toList]; exact Nat.le_of_eq h.symm)]
  simp
 | succ d ih =>
  intro i r h
  have hi : i < s.data.toList.length := by rw [Array.length_toList]; exact Nat.lt_of_lt_of_eq (by omega) h
  rw [ByteArray.toList.loop, if_pos (by omega), ih (i + 1) _ (by omega), List.drop_eq_getElem_cons hi]
  have : s.get! i = s.data.toList[i] := by
   simp only [ByteArray.get!]
   rw [getElem!_pos s.data i (by simpa using hi)]
   simp
  simp [this]
theorem toList_data (s : Oo) : s.toList = s.data.toList := by
 unfold ByteArray.toList
 rw [LD s s.size 0 [] (by omega)]
 rfl
theorem toList_eq {s t : Oo} : s.toList = t.toList ↔ s = t := by
 rw [toList_data, toList_data]
 exact ⟨fun h => ByteArray.ext (Array.toList_inj.1 h), fun h => by rw [h]⟩
theorem En (s t : Oo) : (s.toList == t.toList) = decide (s = t) := by
 rw [Bool.eq_iff_iff]
 simp [toList_eq]
theorem toList_nil {s : Oo} : s.toList = ([] : List UInt8) ↔ s.size = 0 := by
 rw [toList_data]
 constructor
 ·intro h
  rw [← EY, h]
  rfl
 ·intro h
  exact List.eq_nil_of_length_eq_zero (by rw [EY]; exact h)
end Go.Proofs.YtikmdgmnhbodjaaGreat.Sem
