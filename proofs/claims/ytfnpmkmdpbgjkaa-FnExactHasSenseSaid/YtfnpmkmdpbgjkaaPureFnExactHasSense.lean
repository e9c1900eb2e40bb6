/- The program's HasSense returns what the reference's returns, for every argument; no further condition. -/
import Derived.Test.YtfnpmkmdpbgjkaaQFnExactHasSense
import Derived.Test.YtfnpmkmdpbgjkaaEv
namespace Go.Proofs.Ytfnpmkmdpbgjkaa.Pure
open Go.RowKit Go.Proofs.Ytfnpmkmdpbgjkaa.PFnExactHasSense Go.Proofs.YtfnpmkmdpbgjkaaW.PrintWords Go.Proofs.YtfnpmkmdpbgjkaaW.PrintLast Go.Proofs.Ytfnpmkmdpbgjkaa.Sem
set_option linter.unusedVariables false
set_option linter.unusedSimpArgs false

theorem rd72 (xs : List S72) (i : Nat) (h : i < xs.length) : rd_T72 xs (i : Int) = xs[i] := by
  simp [rd_T72, List.getD_eq_getElem?_getD, List.getElem?_eq_getElem h]
theorem rd73 (xs : List S73) (i : Nat) (h : i < xs.length) : rd_T73 xs (i : Int) = xs[i] := by
  simp [rd_T73, List.getD_eq_getElem?_getD, List.getElem?_eq_getElem h]
def to73 (x : S72) : S73 := ⟨x.f0, x.f1⟩

theorem szMeaningS_ev (l : List S72) (hl : l.length ≤ 4611686018427387904) (hs : ∀ x ∈ l, x.f0.size ≤ 140737488351232) (a : Int) (ha : 0 ≤ a) (ha' : a ≤ 1048576) : ∃ r, Ev (fun k => laws_szMeaningS.f k l a) r := by
  unfold laws_szMeaningS.f
  have w1 : wrap64 (a - (l.length : Int)) = a - l.length := w_in (by omega) (by omega)
  simp only [ev_ite_iff, ev_some_iff, w1]
  by_cases h : a - (l.length : Int) < 0
  · exact ⟨-1, by simp [h]⟩
  · simp only [h, if_false]
    have key : ∀ (d i : Nat) (b : Int), i + d = l.length → 0 ≤ b → b ≤ 1048576 → ∃ r, Ev (fun k => laws_szMeaningS.l0 k l b (i : Int)) r := by
      intro d
      induction d with
      | zero =>
        intro i b hi _ _
        refine ⟨b, ?_⟩
        rw [← ev_succ_iff]
        simp only [laws_szMeaningS.l0]
        rw [ev_ite_iff, if_neg (by omega)]
        exact ev_some _
      | succ d ih =>
        intro i b hi hb hb'
        have hil : i < l.length := by omega
        have w2 := w_succ (i := i) (by omega)
        have hsz := hs _ (List.getElem_mem hil)
        have w3 : wrap64 (b - (l[i].f0.size : Int)) = b - l[i].f0.size := w_in (by omega) (by omega)
        by_cases h2 : b - (l[i].f0.size : Int) < 0
        · refine ⟨-1, ?_⟩
          rw [← ev_succ_iff]
          simp only [laws_szMeaningS.l0, laws_szMeaning.f, rd72 l i hil, w2, w3, if_pos h2, Option.bind_some]
          simp [ev_ite_iff, ev_some_iff, hil]
        · obtain ⟨r, hr⟩ := ih (i + 1) (b - l[i].f0.size) (by omega) (by omega) (by omega)
          refine ⟨r, ?_⟩
          rw [← ev_succ_iff]
          simp only [laws_szMeaningS.l0, laws_szMeaning.f, rd72 l i hil, w2, w3, if_neg h2, Option.bind_some]
          simp [ev_ite_iff, ev_some_iff, hil]
          exact hr
    simpa using key l.length 0 _ (by omega) (by omega) (by omega)

theorem toMeaningS_ev (l : List S72) (hl : l.length ≤ 11728124029610) : Ev (fun k => laws_toMeaningS.f k l) (l.map to73) := by
  unfold laws_toMeaningS.f
  rw [ev_ite_iff, if_pos (by omega), ev_ite_iff, if_pos (by simpa using hl)]
  refine loop_fill (fun k s i => laws_toMeaningS.l0 k l s i) l to73 z73 (fun s hs => ?_) (fun i hi s hs r hr => ?_)
  · rw [← ev_succ_iff]
    simp [laws_toMeaningS.l0, ev_some]
  · rw [← ev_succ_iff]
    simp only [laws_toMeaningS.l0, laws_toMeaning.f, rd72 l i hi, w_succ (i := i) (by omega), Option.bind_some]
    simp [ev_ite_iff, hi, hs]
    exact hr
def eqp (w : ByteArray) (s : Int) (x : S73) : Bool := decide (x.f0 = w ∧ x.f1 = s)
theorem spec_HasSense_ev (l : List S73) (w : ByteArray) (s : Int) (hl : l.length ≤ 4611686018427387903) : Ev (fun k => spec_HasSense.f k l w s) (l.any (eqp w s)) := by
  refine loop_any (fun k i => spec_HasSense.l0 k l w s i) l _ ?_ (fun i hi hp r hr => ?_) (fun i hi hp => ?_)
  · rw [← ev_succ_iff]; simp [spec_HasSense.l0, ev_some]
  · rw [← ev_succ_iff]
    simp only [spec_HasSense.l0, rd73 l i hi, w_succ (i := i) (by omega), toList_eq]
    simp [eqp] at hp
    simp [ev_ite_iff, hi]
    split
    · rw [if_neg (hp ‹_›)]; exact hr
    · exact hr
  · rw [← ev_succ_iff]
    simp only [spec_HasSense.l0, rd73 l i hi, w_succ (i := i) (by omega), toList_eq]
    simp [eqp] at hp
    simp [ev_ite_iff, hi, hp, ev_some]

theorem index73_ev (l : List S73) (w : ByteArray) (s : Int) (hl : l.length ≤ 4611686018427387903) : Ev (fun k => impl_Meaning_90.f k l w s) (match l.findIdx? (eqp w s) with | some i => (i : Int) | none => -1) := by
  refine loop_find (fun k i => impl_Meaning_90.l0 k l (l.length : Int) i w s) l _ ?_ (fun i hi hp r hr => ?_) (fun i hi hp => ?_)
  · rw [← ev_succ_iff]; simp [impl_Meaning_90.l0, ev_some]
  · rw [← ev_succ_iff]
    simp only [impl_Meaning_90.l0, rd73 l i hi, w_succ (i := i) (by omega), toList_beq]
    simp [eqp] at hp
    simp [ev_ite_iff, hi]
    rw [if_neg (by intro h; exact hp h.1.symm h.2.symm)]
    exact hr
  · rw [← ev_succ_iff]
    simp only [impl_Meaning_90.l0, rd73 l i hi, w_succ (i := i) (by omega), toList_beq]
    simp [eqp] at hp
    simp [ev_ite_iff, hi, hp, ev_some]
theorem impl_HasSense_ev (l : List S73) (w : ByteArray) (s : Int) (hl : l.length ≤ 4611686018427387903) : Ev (fun k => impl_HasSense.f k l w s) (l.any (eqp w s)) := by
  simp only [impl_HasSense.f, impl_Meaning_61.f, Option.bind_assoc, Option.bind_some]
  rw [ev_bind_iff (index73_ev l w s hl)]
  simp only [ev_some_iff]
  cases h : l.findIdx? (eqp w s) with
  | none =>
    have := List.findIdx?_eq_none_iff.1 h
    simp
    intro x hx
    simpa using this x hx
  | some i =>
    obtain ⟨h1, h2, _⟩ := List.findIdx?_eq_some_iff_getElem.1 h
    simp
    exact ⟨l[i], List.getElem_mem h1, h2⟩
theorem eqMeaningS_ev (l : List S73) (hl : l.length ≤ 4611686018427387903) : Ev (fun k => laws_eqMeaningS.f k l l) true := by
  unfold laws_eqMeaningS.f
  rw [ev_ite_iff, if_pos rfl]
  have := loop_all (fun k i => laws_eqMeaningS.l0 k l l i) l (fun _ => true) ?_ (fun i hi hp r hr => ?_) (fun i hi hp => by cases hp)
  · exact ev_as this (by simp)
  · rw [← ev_succ_iff]; simp [laws_eqMeaningS.l0, ev_some]
  · rw [← ev_succ_iff]
    simp only [laws_eqMeaningS.l0, laws_eqMeaning.f, rd73 l i hi, w_succ (i := i) (by omega)]
    simp [ev_ite_iff, hi]
    exact hr
theorem FnExactHasSense : laws_FnExactHasSense.Pure := by
  intro l a1 a2 ⟨h1, h2, h3⟩ hs hw
  refine Ev.rounds ?_
  unfold laws_FnExactHasSense.f
  rw [ev_ite_iff]
  split
  · exact ev_some _
  obtain ⟨r, hr⟩ := szMeaningS_ev l (by omega) (fun x hx => (h3 x hx).1) 1048576 (by omega) (by omega)
  rw [ev_bind_iff hr, ev_ite_iff]
  split
  · exact ev_some _
  have hto := toMeaningS_ev l (by omega)
  have hl : (l.map to73).length ≤ 4611686018427387903 := by rw [List.length_map]; omega
  rw [ev_bind_iff hto, ev_bind_iff (spec_HasSense_ev _ _ _ hl), ev_bind_iff hto, ev_bind_iff (impl_HasSense_ev _ _ _ hl)]
  simp only [bne_self_eq_false, Bool.false_eq_true, if_false]
  rw [ev_bind_iff hto, ev_bind_iff (eqMeaningS_ev _ hl)]
  exact ev_some _
end Go.Proofs.Ytfnpmkmdpbgjkaa.Pure
