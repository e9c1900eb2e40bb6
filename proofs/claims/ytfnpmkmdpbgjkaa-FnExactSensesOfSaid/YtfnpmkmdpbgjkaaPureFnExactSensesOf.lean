/- The program's SensesOf returns what the reference's returns, for every argument; no further condition. -/
import Derived.Test.YtfnpmkmdpbgjkaaQFnExactSensesOf
import Derived.Test.YtfnpmkmdpbgjkaaEv
namespace Go.Proofs.Ytfnpmkmdpbgjkaa.Pure
open Go.RowKit Go.Proofs.Ytfnpmkmdpbgjkaa.PFnExactSensesOf Go.Proofs.YtfnpmkmdpbgjkaaW.PrintWords Go.Proofs.YtfnpmkmdpbgjkaaW.PrintLast Go.Proofs.YtfnpmkmdpbgjkaaW.PrintMore Go.Proofs.Ytfnpmkmdpbgjkaa.Sem
set_option linter.unusedVariables false
set_option linter.unusedSimpArgs false
theorem rdt_72 (xs : List S72) (i : Nat) (h : i < xs.length) : rd_T72 xs (i : Int) = xs[i] := by
  simp [rd_T72, List.getD_eq_getElem?_getD, List.getElem?_eq_getElem h]
theorem rdts_72 (xs : List S72) (i : Nat) (x : S72) (h : i < xs.length) : rd_T72 (xs.set i x) (i : Int) = x := by
  rw [rdt_72 _ i (by rw [List.length_set]; exact h), List.getElem_set_self]
theorem rdt_73 (xs : List S73) (i : Nat) (h : i < xs.length) : rd_T73 xs (i : Int) = xs[i] := by
  simp [rd_T73, List.getD_eq_getElem?_getD, List.getElem?_eq_getElem h]
theorem rdts_73 (xs : List S73) (i : Nat) (x : S73) (h : i < xs.length) : rd_T73 (xs.set i x) (i : Int) = x := by
  rw [rdt_73 _ i (by rw [List.length_set]; exact h), List.getElem_set_self]
theorem eqIntS_ev (l : List Int) (hl : l.length < 4611686018427387904) : Ev (fun k => laws_eqIntS.f k l l) true := by
  unfold laws_eqIntS.f
  rw [ev_ite_iff, if_pos rfl]
  refine ev_as (loop_all (fun k i => laws_eqIntS.l0 k l l i) l (fun _ => true) ?_ (fun i hi hp r hr => ?_) (fun i hi hp => by cases hp)) (by simp)
  · rw [← ev_succ_iff]; simp [laws_eqIntS.l0, ev_some]
  · rw [← ev_succ_iff]
    simp only [laws_eqIntS.l0, w_succ (i := i) (by omega)]
    simp [ev_ite_iff, hi]
    exact hr
theorem markIntS_ev (l : List Int) (c : Int) (h0 : 0 ≤ c) (hc : c + l.length < 4611686018427387904) : Ev (fun k => laws_markIntS.f k l c) (c + l.length, markd (fun _ b => b) (fun _ => 1) l c) := by
  have hw : wsum (fun _ => 1) l = l.length := by rw [wsum_one]; omega
  have := loop_mark (fun k s b i => laws_markIntS.l0 k s b i) l (fun _ => 1) (fun _ b => b) c (fun s b hs => ?_) (fun i hi s b hs hsi hb hb' r hr => ?_)
  · rw [hw] at this
    exact this
  · rw [← ev_succ_iff]
    simp only [laws_markIntS.l0]
    simp [hs, ev_some]
  · rw [← ev_succ_iff]
    rw [hw] at hb'
    have e : wrap64 (b + 1) = b + 1 := w_in (by omega) (by omega)
    simp only [laws_markIntS.l0, w_succ (i := i) (by omega), e]
    simp [ev_ite_iff, hi, hs]
    exact hr
theorem heldIntS_ev (l : List Int) (c : Int) (h0 : 0 ≤ c) (hc : c + l.length < 4611686018427387904) : Ev (fun k => laws_heldIntS.f k (markd (fun _ b => b) (fun _ => 1) l c) c) (c + l.length) := by
  have hw : wsum (fun _ => 1) l = l.length := by rw [wsum_one]; omega
  have := loop_held (fun k b i => laws_heldIntS.l0 k (markd (fun _ b => b) (fun _ => 1) l c) b i) l (fun _ => 1) c (fun b => ?_) (fun i hi b hb hb' r hr => ?_)
  · rw [hw] at this
    exact this
  · rw [← ev_succ_iff]
    simp only [laws_heldIntS.l0]
    simp [markd_length, ev_some]
  · rw [← ev_succ_iff]
    rw [hw] at hb'
    have e : wrap64 (b + 1) = b + 1 := w_in (by omega) (by omega)
    have hr' := rd_nat (markd (fun _ b => b) (fun _ => 1) l c) i (by rw [markd_length]; exact hi)
    rw [markd_get _ _ _ _ _ hi] at hr'
    simp only [laws_heldIntS.l0, w_succ (i := i) (by omega), e, hr', ← hb]
    simp [ev_ite_iff, hi, markd_length]
    exact hr
theorem strOfNums_one (c : Int) : (strOfNums [c]).size = 1 := rfl
theorem markText_loop : ∀ (n : Nat) (x : Int) (s : ByteArray), x.toNat ≤ n → s.size + n < 9223372036854775807 → n < 4611686018427387904 → ∃ r, Ev (fun k => laws_markText.l0 k x s) r := by
  intro n
  induction n with
  | zero =>
    intro x s hx hs hn
    refine ⟨(⟨#[109]⟩ : ByteArray) ++ s, ?_⟩
    rw [← ev_succ_iff]
    simp only [laws_markText.l0]
    rw [ev_ite_iff, if_neg (by omega), ev_ite_iff, if_pos (by omega)]
    exact ev_some _
  | succ n ih =>
    intro x s hx hs hn
    by_cases h : x > 0
    · have h1 : Int.tdiv x 10 = x / 10 := Int.tdiv_eq_ediv_of_nonneg (by omega)
      have h2 : wrap64 (Int.tdiv x 10) = x / 10 := by rw [h1]; exact w_in (by omega) (by omega)
      obtain ⟨r, hr⟩ := ih (x / 10) ((strOfNums [(wrap64 (48 + (Int.tmod x 10))) % 256]) ++ s) (by omega) (by rw [ByteArray.size_append, strOfNums_one]; omega) (by omega)
      refine ⟨r, ?_⟩
      rw [← ev_succ_iff]
      simp only [laws_markText.l0, Option.bind_some, h2]
      rw [ev_ite_iff, if_pos h, ev_ite_iff, if_pos (by rw [strOfNums_one]; omega)]
      exact hr
    · refine ⟨(⟨#[109]⟩ : ByteArray) ++ s, ?_⟩
      rw [← ev_succ_iff]
      simp only [laws_markText.l0]
      rw [ev_ite_iff, if_neg h, ev_ite_iff, if_pos (by omega)]
      exact ev_some _
theorem markText_ex (c : Int) (h : c < 4611686018427387904) : ∃ r, Ev (fun k => laws_markText.f k c) r := by
  unfold laws_markText.f
  by_cases h0 : c ≤ 0
  · exact ⟨_, by rw [ev_ite_iff, if_pos h0]; exact ev_some _⟩
  · obtain ⟨r, hr⟩ := markText_loop c.toNat c ⟨#[]⟩ (Nat.le_refl _) (by show 0 + _ < _; omega) (by omega)
    exact ⟨r, by rw [ev_ite_iff, if_neg h0]; exact hr⟩
noncomputable def MT (c : Int) : ByteArray := open Classical in if h : ∃ r, Ev (fun k => laws_markText.f k c) r then h.choose else ByteArray.empty
theorem MT_ev (c : Int) (h : c < 4611686018427387904) : Ev (fun k => laws_markText.f k c) (MT c) := by
  have hx := markText_ex c h
  unfold MT
  rw [dif_pos hx]
  exact hx.choose_spec
theorem szMeaningS_ev (l : List S72) (hl : l.length < 4611686018427387904) (hs : ∀ x ∈ l, x.f0.size ≤ 140737488351232) (a : Int) (ha : 0 ≤ a) (ha' : a ≤ 1048576) : ∃ r, Ev (fun k => laws_szMeaningS.f k l a) r ∧ r ≤ 1048576 := by
  unfold laws_szMeaningS.f
  have w1 : wrap64 (a - (l.length : Int)) = a - l.length := w_in (by omega) (by omega)
  simp only [ev_ite_iff, ev_some_iff, w1]
  by_cases h : a - (l.length : Int) < 0
  · exact ⟨-1, by simp [h]⟩
  · simp only [h, if_false]
    refine loop_size (fun k b i => laws_szMeaningS.l0 k l b i) l 1048576 (fun b => ?_) (fun i hi b hb hb' => ?_) _ (by omega) (by omega)
    · rw [← ev_succ_iff]
      simp only [laws_szMeaningS.l0]
      rw [ev_ite_iff, if_neg (by omega)]
      exact ev_some _
    · have hsz := hs _ (List.getElem_mem hi)
      have w3 : wrap64 (b - (l[i].f0.size : Int)) = b - l[i].f0.size := w_in (by omega) (by omega)
      by_cases h2 : b - (l[i].f0.size : Int) < 0
      · refine .inl ?_
        rw [← ev_succ_iff]
        simp only [laws_szMeaningS.l0, laws_szMeaning.f, rdt_72 l i hi, w_succ (i := i) (by omega), w3, if_pos h2, Option.bind_some]
        simp [ev_ite_iff, ev_some_iff, hi]
      · refine .inr ⟨b - l[i].f0.size, by omega, by omega, fun r hr => ?_⟩
        rw [← ev_succ_iff]
        simp only [laws_szMeaningS.l0, laws_szMeaning.f, rdt_72 l i hi, w_succ (i := i) (by omega), w3, if_neg h2, Option.bind_some]
        rw [ev_ite_iff, if_pos (by omega), ev_ite_iff, if_pos (by omega)]
        exact hr
def toMeaning (x : S72) : S73 := ⟨x.f0, x.f1⟩
theorem toMeaningS_ev (l : List S72) (hl : l.length ≤ 5864062014805) : Ev (fun k => laws_toMeaningS.f k l) (l.map toMeaning) := by
  unfold laws_toMeaningS.f
  rw [ev_ite_iff, if_pos (by omega), ev_ite_iff, if_pos (by omega)]
  refine loop_fill (fun k s i => laws_toMeaningS.l0 k l s i) l toMeaning z73 (fun s hs => ?_) (fun i hi s hs r hr => ?_)
  · rw [← ev_succ_iff]
    simp [laws_toMeaningS.l0, ev_some]
  · rw [← ev_succ_iff]
    simp only [laws_toMeaningS.l0, laws_toMeaning.f, rdt_72 l i hi, w_succ (i := i) (by omega), Option.bind_some]
    simp [ev_ite_iff, hi, hs]
    exact hr
theorem eqMeaningS_ev (l : List S73) (hl : l.length < 4611686018427387904) : Ev (fun k => laws_eqMeaningS.f k l l) true := by
  unfold laws_eqMeaningS.f
  rw [ev_ite_iff, if_pos rfl]
  refine ev_as (loop_all (fun k i => laws_eqMeaningS.l0 k l l i) l (fun _ => true) ?_ (fun i hi hp r hr => ?_) (fun i hi hp => by cases hp)) (by simp)
  · rw [← ev_succ_iff]; simp [laws_eqMeaningS.l0, ev_some]
  · rw [← ev_succ_iff]
    simp only [laws_eqMeaningS.l0, laws_eqMeaning.f, w_succ (i := i) (by omega)]
    simp [ev_ite_iff, hi]
    exact hr
theorem markMeaningS_ex (l : List S73) (c : Int) (h0 : 0 ≤ c) (hc : c + 2 * l.length < 4611686018427387904) : Ev (fun k => laws_markMeaningS.f k l c) (c + 2 * l.length, markd (fun _ b => ⟨MT b, b + 1⟩) (fun _ => 2) l c) := by
  have hw : wsum (fun _ => 2) l = 2 * l.length := wsum_one _ _
  have := loop_mark (fun k s b i => laws_markMeaningS.l0 k s b i) l (fun _ => 2) (fun _ b => ⟨MT b, b + 1⟩) c (fun s b hs => ?_) (fun i hi s b hs hsi hb hb' r hr => ?_)
  · rw [hw] at this
    exact this
  · rw [← ev_succ_iff]
    simp only [laws_markMeaningS.l0]
    simp [hs, ev_some]
  · rw [← ev_succ_iff]
    rw [hw] at hb'
    have e : wrap64 (b + 1) = b + 1 := w_in (by omega) (by omega)
    have e' : wrap64 (b + 1 + 1) = b + ((2 : Nat) : Int) := by rw [w_in (by omega) (by omega)]; omega
    simp only [laws_markMeaningS.l0, w_succ (i := i) (by omega), e, e', Option.bind_some]
    rw [ev_ite_iff, if_pos (by omega), ev_bind_iff (MT_ev b (by omega)), ev_ite_iff, if_pos (by omega)]
    simp only [Int.toNat_natCast, rdts_73, List.length_set, hs, hi, List.set_set]
    exact hr
def sensesB (w : ByteArray) (x : S73) : List Int := if x.f0 = w then [x.f1] else []
theorem flat_if_le {α β : Type} (f : α → List β) (h : ∀ x, (f x).length ≤ 1) (l : List α) : (l.flatMap f).length ≤ l.length := by
  induction l with
  | nil => simp
  | cons x l ih => have := h x; simp only [List.flatMap_cons, List.length_append, List.length_cons]; omega
theorem senses_le (w : ByteArray) (x : S73) : (sensesB w x).length ≤ 1 := by unfold sensesB; split <;> simp
theorem spec_SensesOf_ev (l : List S73) (w : ByteArray) (hl : l.length ≤ 17592186044416) : Ev (fun k => spec_SensesOf.f k l w) (l.flatMap (sensesB w)) := by
  refine loop_collect (fun k x i => spec_SensesOf.l0 k l w x i) l (sensesB w) 0 (fun x => ?_) (fun i hi x hx r hr => ?_)
  · rw [← ev_succ_iff]; simp [spec_SensesOf.l0, ev_some]
  · have hx' := flat_if_le _ (senses_le w) (l.take i)
    rw [List.length_take] at hx'
    rw [← ev_succ_iff]
    simp only [spec_SensesOf.l0, rdt_73 l i hi, w_succ (i := i) (by omega), toList_eq]
    rw [ev_ite_iff, if_pos (by omega), ev_ite_iff, if_pos (by omega), ev_ite_iff]
    unfold sensesB at hr
    split
    · rw [if_pos ‹_›] at hr
      rw [ev_ite_iff, if_pos (by omega)]
      exact hr
    · rw [if_neg ‹_›, List.append_nil] at hr
      exact hr
theorem impl_SensesOf_ev (l : List S73) (w : ByteArray) (hl : l.length ≤ 17592186044416) : Ev (fun k => impl_SensesOf.f k l w) (l.flatMap (sensesB w)) := by
  refine loop_collect (fun k x i => impl_SensesOf.l0 k w x l (l.length : Int) i) l (sensesB w) 0 (fun x => ?_) (fun i hi x hx r hr => ?_)
  · rw [← ev_succ_iff]; simp [impl_SensesOf.l0, ev_some]
  · have hx' := flat_if_le _ (senses_le w) (l.take i)
    rw [List.length_take] at hx'
    rw [← ev_succ_iff]
    simp only [impl_SensesOf.l0, rdt_73 l i hi, w_succ (i := i) (by omega), toList_eq]
    rw [ev_ite_iff, if_pos (by omega), ev_ite_iff, if_pos (by omega), ev_ite_iff, if_pos (by omega), ev_ite_iff]
    unfold sensesB at hr
    split
    · rw [if_pos ‹_›] at hr
      rw [ev_ite_iff, if_pos (by omega)]
      exact hr
    · rw [if_neg ‹_›, List.append_nil] at hr
      exact hr
theorem FnExactSensesOf : laws_FnExactSensesOf.Pure := by
  intro l a1 ⟨h1, h2, h3⟩ hs
  refine Ev.rounds ?_
  unfold laws_FnExactSensesOf.f
  rw [ev_ite_iff]
  split
  · exact ev_some _
  obtain ⟨r, hr, _⟩ := szMeaningS_ev l (by omega) (fun x hx => (h3 x hx).1) 1048576 (by omega) (by omega)
  rw [ev_bind_iff hr, ev_ite_iff]
  split
  · exact ev_some _
  have hto := toMeaningS_ev l (by omega)
  have hl : (l.map toMeaning).length = l.length := List.length_map _
  have s := spec_SensesOf_ev (l.map toMeaning) a1 (by omega)
  have i := impl_SensesOf_ev (l.map toMeaning) a1 (by omega)
  have hz := flat_if_le _ (senses_le a1) (l.map toMeaning)
  have e := eqIntS_ev ((l.map toMeaning).flatMap (sensesB a1)) (by omega)
  have m := markIntS_ev ((l.map toMeaning).flatMap (sensesB a1)) 1 (by omega) (by omega)
  have h := heldIntS_ev ((l.map toMeaning).flatMap (sensesB a1)) 1 (by omega) (by omega)
  have m' := markMeaningS_ex (l.map toMeaning) 1 (by omega) (by omega)
  have e' := eqMeaningS_ev (l.map toMeaning) (by omega)
  simp only [ev_bind_iff hto, ev_bind_iff s, ev_bind_iff i, ev_bind_iff e, ev_bind_iff e', ev_bind_iff m', ev_ite_iff, if_true]
  rw [if_neg (by omega), ← ev_succ_iff]
  simp only [laws_FnExactSensesOf.j0, ev_bind_iff hto, ev_bind_iff s, ev_bind_iff i, ev_bind_iff e, ev_bind_iff m, ev_bind_iff h, ev_ite_iff, if_true]
  simp only [Bool.not_true, Bool.false_eq_true, if_false]
  rw [if_neg (by omega), if_neg (by omega)]
  exact ev_some _
end Go.Proofs.Ytfnpmkmdpbgjkaa.Pure
