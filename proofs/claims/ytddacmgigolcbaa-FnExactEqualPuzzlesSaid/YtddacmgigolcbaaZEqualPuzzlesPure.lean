/- The program's EqualPuzzles returns what the reference's returns, for every argument; no further condition. -/
import Derived.Test.YtddacmgigolcbaaZEqualPuzzlesQ
import Derived.Test.YtddacmgigolcbaaZEqualPuzzlesEv
namespace Go.Proofs.Ytddacmgigolcbaa.Pure
open Go.RowKit Go.Proofs.Ytddacmgigolcbaa.PFnExactEqualPuzzles Go.Proofs.YtddacmgigolcbaaW.PrintWords Go.Proofs.YtddacmgigolcbaaW.PrintLast Go.Proofs.YtddacmgigolcbaaW.PrintMore Go.Proofs.Ytddacmgigolcbaa.Sem
set_option linter.unusedVariables false
set_option linter.unusedSimpArgs false
theorem rdt_144 (xs : List S144) (i : Nat) (h : i < xs.length) : rd_T144 xs (i : Int) = xs[i] := by
  simp [rd_T144, List.getD_eq_getElem?_getD, List.getElem?_eq_getElem h]
theorem rdts_144 (xs : List S144) (i : Nat) (x : S144) (h : i < xs.length) : rd_T144 (xs.set i x) (i : Int) = x := by
  rw [rdt_144 _ i (by rw [List.length_set]; exact h), List.getElem_set_self]
theorem rdt_70 (xs : List S70) (i : Nat) (h : i < xs.length) : rd_T70 xs (i : Int) = xs[i] := by
  simp [rd_T70, List.getD_eq_getElem?_getD, List.getElem?_eq_getElem h]
theorem rdts_70 (xs : List S70) (i : Nat) (x : S70) (h : i < xs.length) : rd_T70 (xs.set i x) (i : Int) = x := by
  rw [rdt_70 _ i (by rw [List.length_set]; exact h), List.getElem_set_self]
theorem rdt_109 (xs : List S109) (i : Nat) (h : i < xs.length) : rd_T109 xs (i : Int) = xs[i] := by
  simp [rd_T109, List.getD_eq_getElem?_getD, List.getElem?_eq_getElem h]
theorem rdts_109 (xs : List S109) (i : Nat) (x : S109) (h : i < xs.length) : rd_T109 (xs.set i x) (i : Int) = x := by
  rw [rdt_109 _ i (by rw [List.length_set]; exact h), List.getElem_set_self]
theorem rdt_74 (xs : List S74) (i : Nat) (h : i < xs.length) : rd_T74 xs (i : Int) = xs[i] := by
  simp [rd_T74, List.getD_eq_getElem?_getD, List.getElem?_eq_getElem h]
theorem rdts_74 (xs : List S74) (i : Nat) (x : S74) (h : i < xs.length) : rd_T74 (xs.set i x) (i : Int) = x := by
  rw [rdt_74 _ i (by rw [List.length_set]; exact h), List.getElem_set_self]
theorem rdl_3 (xs : List (List S144)) (i : Nat) (h : i < xs.length) : rd_L3 xs (i : Int) = xs[i] := by
  simp [rd_L3, List.getD_eq_getElem?_getD, List.getElem?_eq_getElem h]
theorem rdl_6 (xs : List (List S109)) (i : Nat) (h : i < xs.length) : rd_L6 xs (i : Int) = xs[i] := by
  simp [rd_L6, List.getD_eq_getElem?_getD, List.getElem?_eq_getElem h]
theorem eqIntS_ev (l : List Int) (hl : l.length < 4611686018427387904) : Ev (fun k => laws_eqIntS.f k l l) true := by
  unfold laws_eqIntS.f
  rw [ev_ite_iff, if_pos rfl]
  refine ev_as (loop_all (fun k i => laws_eqIntS.l0 k l l i) l (fun _ => true) ?_ (fun i hi hp r hr => ?_) (fun i hi hp => by cases hp)) (by simp)
  · rw [← ev_succ_iff]; simp [laws_eqIntS.l0, ev_some]
  · rw [← ev_succ_iff]
    simp only [laws_eqIntS.l0, w_succ (i := i) (by omega)]
    simp [ev_ite_iff, hi]
    exact hr
theorem toIntS_ev (l : List Int) (hl : l.length ≤ 17592186044416) : Ev (fun k => laws_toIntS.f k l) l := by
  unfold laws_toIntS.f
  rw [ev_ite_iff, if_pos (by omega), ev_ite_iff, if_pos (by omega)]
  refine ev_as (loop_fill (fun k s i => laws_toIntS.l0 k l s i) l id 0 (fun s hs => ?_) (fun i hi s hs r hr => ?_)) (by simp)
  · rw [← ev_succ_iff]
    simp [laws_toIntS.l0, ev_some]
  · rw [← ev_succ_iff]
    simp only [laws_toIntS.l0, rd_nat l i hi, w_succ (i := i) (by omega)]
    simp [ev_ite_iff, hi, hs]
    exact hr
theorem szStepS_ev (l : List S144) (hl : l.length < 4611686018427387904) (hs : ∀ x ∈ l, x.f1.size ≤ 140737488351232) (a : Int) (ha : 0 ≤ a) (ha' : a ≤ 1048576) : ∃ r, Ev (fun k => laws_szStepS.f k l a) r ∧ r ≤ 1048576 := by
  unfold laws_szStepS.f
  have w1 : wrap64 (a - (l.length : Int)) = a - l.length := w_in (by omega) (by omega)
  simp only [ev_ite_iff, ev_some_iff, w1]
  by_cases h : a - (l.length : Int) < 0
  · exact ⟨-1, by simp [h]⟩
  · simp only [h, if_false]
    refine loop_size (fun k b i => laws_szStepS.l0 k l b i) l 1048576 (fun b => ?_) (fun i hi b hb hb' => ?_) _ (by omega) (by omega)
    · rw [← ev_succ_iff]
      simp only [laws_szStepS.l0]
      rw [ev_ite_iff, if_neg (by omega)]
      exact ev_some _
    · have hsz := hs _ (List.getElem_mem hi)
      have w3 : wrap64 (b - (l[i].f1.size : Int)) = b - l[i].f1.size := w_in (by omega) (by omega)
      by_cases h2 : b - (l[i].f1.size : Int) < 0
      · refine .inl ?_
        rw [← ev_succ_iff]
        simp only [laws_szStepS.l0, laws_szStep.f, rdt_144 l i hi, w_succ (i := i) (by omega), w3, if_pos h2, Option.bind_some]
        simp [ev_ite_iff, ev_some_iff, hi]
      · refine .inr ⟨b - l[i].f1.size, by omega, by omega, fun r hr => ?_⟩
        rw [← ev_succ_iff]
        simp only [laws_szStepS.l0, laws_szStep.f, rdt_144 l i hi, w_succ (i := i) (by omega), w3, if_neg h2, Option.bind_some]
        rw [ev_ite_iff, if_pos (by omega), ev_ite_iff, if_pos (by omega)]
        exact hr
def toStep (x : S144) : S109 := ⟨x.f0, x.f1, x.f2, x.f3⟩
theorem toStepS_ev (l : List S144) (hl : l.length ≤ 3518437208883) : Ev (fun k => laws_toStepS.f k l) (l.map toStep) := by
  unfold laws_toStepS.f
  rw [ev_ite_iff, if_pos (by omega), ev_ite_iff, if_pos (by omega)]
  refine loop_fill (fun k s i => laws_toStepS.l0 k l s i) l toStep z109 (fun s hs => ?_) (fun i hi s hs r hr => ?_)
  · rw [← ev_succ_iff]
    simp [laws_toStepS.l0, ev_some]
  · rw [← ev_succ_iff]
    simp only [laws_toStepS.l0, laws_toStep.f, rdt_144 l i hi, w_succ (i := i) (by omega), Option.bind_some]
    simp [ev_ite_iff, hi, hs]
    exact hr
theorem eqStepS_ev (l : List S109) (hl : l.length < 4611686018427387904) : Ev (fun k => laws_eqStepS.f k l l) true := by
  unfold laws_eqStepS.f
  rw [ev_ite_iff, if_pos rfl]
  refine ev_as (loop_all (fun k i => laws_eqStepS.l0 k l l i) l (fun _ => true) ?_ (fun i hi hp r hr => ?_) (fun i hi hp => by cases hp)) (by simp)
  · rw [← ev_succ_iff]; simp [laws_eqStepS.l0, ev_some]
  · rw [← ev_succ_iff]
    simp only [laws_eqStepS.l0, laws_eqStep.f, w_succ (i := i) (by omega)]
    simp [ev_ite_iff, hi]
    exact hr
theorem szClue_ev (a0 : Int) (l : List S144) (hl : l.length < 4611686018427387904) (hs : ∀ x ∈ l, x.f1.size ≤ 140737488351232) (a : Int) (ha : 0 ≤ a) (ha' : a ≤ 1048576) : ∃ r, Ev (fun k => laws_szClue.f k a0 l a) r ∧ r ≤ 1048576 := by
  obtain ⟨r, hr, hb⟩ := szStepS_ev l hl hs a ha ha'
  unfold laws_szClue.f
  by_cases h : r < 0
  · exact ⟨-1, by rw [ev_bind_iff hr, ev_ite_iff, if_pos h]; exact ev_some _, by omega⟩
  · exact ⟨r, by rw [ev_bind_iff hr, ev_ite_iff, if_neg h]; exact ev_some _, hb⟩
theorem toClue_ev (a0 : Int) (l : List S144) (hl : l.length ≤ 3518437208883) : Ev (fun k => laws_toClue.f k a0 l) (a0, l.map toStep) := by
  unfold laws_toClue.f
  rw [ev_bind_iff (toStepS_ev l hl)]
  exact ev_some _
theorem eqClue_ev (a0 : Int) (l : List S109) (hl : l.length < 4611686018427387904) : Ev (fun k => laws_eqClue.f k a0 l a0 l) true := by
  unfold laws_eqClue.f
  rw [ev_ite_iff, if_pos rfl, ev_bind_iff (eqStepS_ev l hl), ev_ite_iff, if_pos rfl]
  exact ev_some _
theorem szGrid_ev (R C : Int) (s : ByteArray) (a : Int) : ∃ r, laws_szGrid.f R C s a = some r := by
  unfold laws_szGrid.f
  split
  · exact ⟨_, rfl⟩
  · exact ⟨_, rfl⟩
theorem szGrid_le (R C : Int) (s : ByteArray) (a : Int) (hs : s.size ≤ 140737488351232) (h0 : 0 ≤ a) (h1 : a ≤ 1048576) : ∃ r, laws_szGrid.f R C s a = some r ∧ r ≤ 1048576 := by
  unfold laws_szGrid.f
  rw [w_in (by omega) (by omega)]
  split
  · exact ⟨_, rfl, by omega⟩
  · exact ⟨_, rfl, by omega⟩
theorem szClueS_ev (l : List S70) (hl : l.length < 4611686018427387904) (hs : ∀ x ∈ l, x.f1.length < 4611686018427387904 ∧ ∀ y ∈ x.f1, y.f1.size ≤ 140737488351232) (a : Int) (ha : 0 ≤ a) (ha' : a ≤ 1048576) : ∃ r, Ev (fun k => laws_szClueS.f k l a) r ∧ r ≤ 1048576 := by
  unfold laws_szClueS.f
  have w1 : wrap64 (a - (l.length : Int)) = a - l.length := w_in (by omega) (by omega)
  simp only [ev_ite_iff, ev_some_iff, w1]
  by_cases h : a - (l.length : Int) < 0
  · exact ⟨-1, by simp [h]⟩
  · simp only [h, if_false]
    refine loop_size (fun k b i => laws_szClueS.l0 k l b i) l 1048576 (fun b => ?_) (fun i hi b hb hb' => ?_) _ (by omega) (by omega)
    · rw [← ev_succ_iff]
      simp only [laws_szClueS.l0]
      rw [ev_ite_iff, if_neg (by omega)]
      exact ev_some _
    · have hsz := hs _ (List.getElem_mem hi)
      obtain ⟨r, hr, hrb⟩ := szClue_ev l[i].f0 l[i].f1 hsz.1 hsz.2 b hb hb'
      by_cases h2 : r < 0
      · refine .inl ?_
        rw [← ev_succ_iff]
        simp only [laws_szClueS.l0, rdt_70 l i hi]
        rw [ev_ite_iff, if_pos (by omega), ev_ite_iff, if_pos (by omega), ev_bind_iff hr, ev_ite_iff, if_pos h2]
        exact ev_some _
      · refine .inr ⟨r, by omega, hrb, fun q hq => ?_⟩
        rw [← ev_succ_iff]
        simp only [laws_szClueS.l0, rdt_70 l i hi, w_succ (i := i) (by omega)]
        rw [ev_ite_iff, if_pos (by omega), ev_ite_iff, if_pos (by omega), ev_bind_iff hr, ev_ite_iff, if_neg h2]
        exact hq
def toClueM (x : S70) : S74 := ⟨x.f0, x.f1.map toStep⟩
theorem toClueS_ev (l : List S70) (hl : l.length ≤ 8796093022208) (hs : ∀ x ∈ l, x.f1.length ≤ 3518437208883) : Ev (fun k => laws_toClueS.f k l) (l.map toClueM) := by
  unfold laws_toClueS.f
  rw [ev_ite_iff, if_pos (by omega), ev_ite_iff, if_pos (by omega)]
  refine loop_fill (fun k s i => laws_toClueS.l0 k l s i) l toClueM z74 (fun s hs => ?_) (fun i hi s hs' r hr => ?_)
  · rw [← ev_succ_iff]
    simp [laws_toClueS.l0, ev_some]
  · rw [← ev_succ_iff]
    simp only [laws_toClueS.l0, rdt_70 l i hi, w_succ (i := i) (by omega)]
    rw [ev_ite_iff, if_pos (by omega), ev_ite_iff, if_pos (by omega), ev_bind_iff (toClue_ev _ _ (hs _ (List.getElem_mem hi))), ev_ite_iff, if_pos (by omega)]
    exact hr
theorem eqClueS_ev (l : List S74) (hl : l.length < 4611686018427387904) (hs : ∀ x ∈ l, x.f1.length < 4611686018427387904) : Ev (fun k => laws_eqClueS.f k l l) true := by
  unfold laws_eqClueS.f
  rw [ev_ite_iff, if_pos rfl]
  refine ev_as (loop_all (fun k i => laws_eqClueS.l0 k l l i) l (fun _ => true) ?_ (fun i hi hp r hr => ?_) (fun i hi hp => by cases hp)) (by simp)
  · rw [← ev_succ_iff]; simp [laws_eqClueS.l0, ev_some]
  · rw [← ev_succ_iff]
    simp only [laws_eqClueS.l0, rdt_74 l i hi, w_succ (i := i) (by omega)]
    rw [ev_ite_iff, if_pos (by omega), ev_ite_iff, if_pos (by omega), ev_ite_iff, if_pos (by omega), ev_bind_iff (eqClue_ev _ _ (hs _ (List.getElem_mem hi))), ev_ite_iff, if_pos rfl]
    exact hr
theorem szIntS_le (l : List Int) (hl : l.length < 4611686018427387904) (a : Int) (h0 : 0 ≤ a) (h1 : a ≤ 1048576) : ∃ r, laws_szIntS.f l a = some r ∧ r ≤ 1048576 := by
  unfold laws_szIntS.f
  rw [w_in (by omega) (by omega)]
  split
  · exact ⟨_, rfl, by omega⟩
  · exact ⟨_, rfl, by omega⟩
theorem szPuzzle_ev (R C : Int) (s : ByteArray) (l : List S70) (q : List Int) (e : Int) (hs : s.size ≤ 140737488351232) (hl : l.length < 4611686018427387904) (hx : ∀ x ∈ l, x.f1.length < 4611686018427387904 ∧ ∀ y ∈ x.f1, y.f1.size ≤ 140737488351232) (hq : q.length < 4611686018427387904) (a : Int) (h0 : 0 ≤ a) (h1 : a ≤ 1048576) : ∃ r, Ev (fun k => laws_szPuzzle.f k R C s l q e a) r ∧ r ≤ 1048576 := by
  unfold laws_szPuzzle.f
  obtain ⟨g, hg, hgb⟩ := szGrid_le R C s a hs h0 h1
  simp only [hg, Option.bind_some]
  by_cases n1 : g < 0
  · exact ⟨-1, by rw [ev_ite_iff, if_pos n1]; exact ev_some _, by omega⟩
  obtain ⟨c, hc, hcb⟩ := szClueS_ev l hl hx g (by omega) hgb
  by_cases n2 : c < 0
  · exact ⟨-1, by rw [ev_ite_iff, if_neg n1, ev_bind_iff hc, ev_ite_iff, if_pos n2]; exact ev_some _, by omega⟩
  obtain ⟨i, hi, hib⟩ := szIntS_le q hq c (by omega) hcb
  by_cases n3 : i < 0
  · exact ⟨-1, by rw [ev_ite_iff, if_neg n1, ev_bind_iff hc, ev_ite_iff, if_neg n2]; simp only [hi, Option.bind_some, if_pos n3]; exact ev_some _, by omega⟩
  · exact ⟨i, by rw [ev_ite_iff, if_neg n1, ev_bind_iff hc, ev_ite_iff, if_neg n2]; simp only [hi, Option.bind_some, if_neg n3]; exact ev_some _, hib⟩
theorem toPuzzle_ev (R C : Int) (s : ByteArray) (l : List S70) (q : List Int) (e : Int) (hl : l.length ≤ 8796093022208) (hs : ∀ x ∈ l, x.f1.length ≤ 3518437208883) (hq : q.length ≤ 17592186044416) : Ev (fun k => laws_toPuzzle.f k R C s l q e) (R, C, s, l.map toClueM, q, e) := by
  unfold laws_toPuzzle.f
  simp only [laws_toGrid.f, Option.bind_some]
  rw [ev_bind_iff (toClueS_ev l hl hs), ev_bind_iff (toIntS_ev q hq)]
  exact ev_some _
theorem eqPuzzle_ev (R C : Int) (s : ByteArray) (l : List S74) (q : List Int) (e : Int) (hl : l.length < 4611686018427387904) (hs : ∀ x ∈ l, x.f1.length < 4611686018427387904) (hq : q.length < 4611686018427387904) : Ev (fun k => laws_eqPuzzle.f k R C s l q e R C s l q e) true := by
  unfold laws_eqPuzzle.f
  simp only [laws_eqGrid.f, if_true, Option.bind_some]
  rw [ev_bind_iff (eqClueS_ev l hl hs), ev_ite_iff, if_pos rfl, ev_bind_iff (eqIntS_ev q hq), ev_ite_iff, if_pos rfl]
  exact ev_some _
def listEqB {α : Type} (q : α → α → Bool) (xs ys : List α) : Bool := decide (xs.length = ys.length) && (xs.zip ys).all fun p => q p.1 p.2
theorem loop_two {α : Type} (L : Nat → Int → Option Bool) (xs ys : List α) (h : xs.length = ys.length) (q : α → α → Bool)
    (hend : Ev (fun k => L k (xs.length : Int)) true)
    (hyes : ∀ i (h1 : i < xs.length) (h2 : i < ys.length), q xs[i] ys[i] = true → ∀ r, Ev (fun k => L k ((i + 1 : Nat) : Int)) r → Ev (fun k => L k (i : Int)) r)
    (hno : ∀ i (h1 : i < xs.length) (h2 : i < ys.length), q xs[i] ys[i] = false → Ev (fun k => L k (i : Int)) false) : Ev (fun k => L k 0) (listEqB q xs ys) := by
  have hz : (xs.zip ys).length = xs.length := by rw [List.length_zip]; omega
  refine ev_as (loop_all L (xs.zip ys) (fun p => q p.1 p.2) (by rw [hz]; exact hend) (fun i hi hp r hr => ?_) (fun i hi hp => ?_)) (by rw [listEqB, decide_eq_true h, Bool.true_and])
  · rw [List.getElem_zip] at hp
    exact hyes i (by omega) (by omega) hp r hr
  · rw [List.getElem_zip] at hp
    exact hno i (by omega) (by omega) hp
theorem listEqB_ne {α : Type} (q : α → α → Bool) (xs ys : List α) (h : ¬ xs.length = ys.length) : listEqB q xs ys = false := by rw [listEqB, decide_eq_false h, Bool.false_and]
theorem spec_EqualInts_ev (l m : List Int) (hl : l.length < 4611686018427387904) : Ev (fun k => spec_EqualInts.f k l m) (listEqB (fun a b => decide (a = b)) l m) := by
  unfold spec_EqualInts.f
  rw [ev_ite_iff]
  split
  · rename_i h
    have h' : l.length = m.length := by omega
    refine loop_two (fun k i => spec_EqualInts.l0 k l m i) l m h' _ ?_ (fun i h1 h2 hp r hr => ?_) (fun i h1 h2 hp => ?_)
    · rw [← ev_succ_iff]; simp [spec_EqualInts.l0, ev_some]
    · rw [← ev_succ_iff]
      simp only [spec_EqualInts.l0, rd_nat l i h1, rd_nat m i h2, w_succ (i := i) (by omega)]
      rw [ev_ite_iff, if_pos (by omega), ev_ite_iff, if_pos (by omega), ev_ite_iff, if_pos (by omega), ev_ite_iff, if_pos (of_decide_eq_true hp)]
      exact hr
    · rw [← ev_succ_iff]
      simp only [spec_EqualInts.l0, rd_nat l i h1, rd_nat m i h2]
      rw [ev_ite_iff, if_pos (by omega), ev_ite_iff, if_pos (by omega), ev_ite_iff, if_pos (by omega), ev_ite_iff, if_neg (of_decide_eq_false hp)]
      exact ev_some _
  · rename_i h
    rw [listEqB_ne _ _ _ (by omega)]
    exact ev_some _
theorem sEqualInts_ev (l m : List Int) (hl : l.length < 4611686018427387904) : Ev (fun k => slices_Equal_int_int.f k l m) (listEqB (fun a b => decide (a = b)) l m) := by
  unfold slices_Equal_int_int.f
  rw [ev_ite_iff]
  split
  · rename_i h
    have h' : l.length = m.length := by omega
    refine loop_two (fun k i => slices_Equal_int_int.l0 k l m (l.length : Int) i) l m h' _ ?_ (fun i h1 h2 hp r hr => ?_) (fun i h1 h2 hp => ?_)
    · rw [← ev_succ_iff]; simp [slices_Equal_int_int.l0, ev_some]
    · rw [← ev_succ_iff]
      simp only [slices_Equal_int_int.l0, rd_nat l i h1, rd_nat m i h2, w_succ (i := i) (by omega)]
      rw [ev_ite_iff, if_pos (by omega), ev_ite_iff, if_pos (by omega), ev_ite_iff, if_pos (by omega), ev_ite_iff, if_pos (by omega), ev_ite_iff, if_pos (of_decide_eq_true hp)]
      exact hr
    · rw [← ev_succ_iff]
      simp only [slices_Equal_int_int.l0, rd_nat l i h1, rd_nat m i h2]
      rw [ev_ite_iff, if_pos (by omega), ev_ite_iff, if_pos (by omega), ev_ite_iff, if_pos (by omega), ev_ite_iff, if_pos (by omega), ev_ite_iff, if_neg (of_decide_eq_false hp)]
      exact ev_some _
  · rename_i h
    rw [listEqB_ne _ _ _ (by omega)]
    exact ev_some _
def stepNe (x y : S109) : Bool := (!(x.f0 == y.f0) || (!(x.f1.toList == y.f1.toList) || (!(x.f2 == y.f2) || (!(x.f3 == y.f3)))))
def stepsEqB (l m : List S109) : Bool := listEqB (fun x y => !stepNe x y) l m
theorem spec_l21SameClue_ev (a b : Int) (l m : List S109) (hl : l.length < 4611686018427387904) : Ev (fun k => spec_l21SameClue.f k a l b m) (decide (a = b) && stepsEqB l m) := by
  have hj : ∀ c : Bool, c = true ∨ l.length = m.length → Ev (fun k => spec_l21SameClue.j0 k c a l b m) (!c && stepsEqB l m) := by
    intro c hc
    rw [← ev_succ_iff]
    simp only [spec_l21SameClue.j0]
    rw [ev_ite_iff]
    split
    · rename_i h
      rw [h]
      exact ev_some _
    · rename_i h
      have h' : l.length = m.length := hc.resolve_left h
      rw [Bool.not_eq_true] at h
      rw [h, Bool.not_false, Bool.true_and]
      refine loop_two (fun k i => spec_l21SameClue.l0 k i a l b m) l m h' _ ?_ (fun i h1 h2 hp r hr => ?_) (fun i h1 h2 hp => ?_)
      · rw [← ev_succ_iff]; simp [spec_l21SameClue.l0, ev_some]
      · have hp' : ¬ stepNe l[i] m[i] = true := by rw [Bool.not_eq_true]; simpa using hp
        unfold stepNe at hp'
        rw [← ev_succ_iff]
        simp only [spec_l21SameClue.l0, rdt_109 l i h1, rdt_109 m i h2, w_succ (i := i) (by omega)]
        rw [ev_ite_iff, if_pos (by omega), ev_ite_iff, if_pos (by omega), ev_ite_iff, if_pos (by omega), ev_ite_iff, if_neg hp']
        exact hr
      · have hp' : stepNe l[i] m[i] = true := by simpa using hp
        unfold stepNe at hp'
        rw [← ev_succ_iff]
        simp only [spec_l21SameClue.l0, rdt_109 l i h1, rdt_109 m i h2]
        rw [ev_ite_iff, if_pos (by omega), ev_ite_iff, if_pos (by omega), ev_ite_iff, if_pos (by omega), ev_ite_iff, if_pos hp']
        exact ev_some _
  unfold spec_l21SameClue.f
  rw [ev_ite_iff]
  split
  · rename_i h
    by_cases h2 : l.length = m.length
    · refine ev_as (hj _ (.inr h2)) ?_
      simp [h, h2]
    · refine ev_as (hj _ (.inl (by simp; omega))) ?_
      rw [stepsEqB, listEqB_ne _ _ _ h2]
      simp
  · rename_i h
    refine ev_as (hj _ (.inl rfl)) ?_
    simp [h]
theorem sEqualSteps_ev (l m : List S109) (hl : l.length < 4611686018427387904) : Ev (fun k => impl_Step.f k l m) (stepsEqB l m) := by
  unfold impl_Step.f
  rw [ev_ite_iff]
  split
  · rename_i h
    have h' : l.length = m.length := by omega
    refine loop_two (fun k i => impl_Step.l0 k l m (l.length : Int) i) l m h' _ ?_ (fun i h1 h2 hp r hr => ?_) (fun i h1 h2 hp => ?_)
    · rw [← ev_succ_iff]; simp [impl_Step.l0, ev_some]
    · have hp' : ¬ stepNe l[i] m[i] = true := by rw [Bool.not_eq_true]; simpa using hp
      unfold stepNe at hp'
      rw [← ev_succ_iff]
      simp only [impl_Step.l0, rdt_109 l i h1, rdt_109 m i h2, w_succ (i := i) (by omega)]
      rw [ev_ite_iff, if_pos (by omega), ev_ite_iff, if_pos (by omega), ev_ite_iff, if_pos (by omega), ev_ite_iff, if_pos (by omega), ev_ite_iff, if_neg hp']
      exact hr
    · have hp' : stepNe l[i] m[i] = true := by simpa using hp
      unfold stepNe at hp'
      rw [← ev_succ_iff]
      simp only [impl_Step.l0, rdt_109 l i h1, rdt_109 m i h2]
      rw [ev_ite_iff, if_pos (by omega), ev_ite_iff, if_pos (by omega), ev_ite_iff, if_pos (by omega), ev_ite_iff, if_pos (by omega), ev_ite_iff, if_pos hp']
      exact ev_some _
  · rename_i h
    rw [stepsEqB, listEqB_ne _ _ _ (by omega)]
    exact ev_some _
theorem impl_sameClue_ev (a b : Int) (l m : List S109) (hl : l.length < 4611686018427387904) : Ev (fun k => impl_sameClue.f k a l b m) (decide (a = b) && stepsEqB l m) := by
  unfold impl_sameClue.f
  rw [ev_ite_iff]
  split
  · rename_i h
    rw [ev_bind_iff (sEqualSteps_ev l m hl), decide_eq_true h, Bool.true_and]
    exact ev_some _
  · rename_i h
    rw [decide_eq_false h, Bool.false_and]
    exact ev_some _
def clueEqB (x y : S74) : Bool := decide (x.f0 = y.f0) && stepsEqB x.f1 y.f1
theorem sEqualClues_ev (l m : List S74) (b : ByteArray) (hl : l.length < 4611686018427387904) (hs : ∀ x ∈ l, x.f1.length < 4611686018427387904) : Ev (fun k => impl_Clue.f k l m b) (listEqB clueEqB l m) := by
  unfold impl_Clue.f
  rw [ev_ite_iff]
  split
  · rename_i h
    have h' : l.length = m.length := by omega
    refine loop_two (fun k i => impl_Clue.l0 k m l (l.length : Int) i) l m h' _ ?_ (fun i h1 h2 hp r hr => ?_) (fun i h1 h2 hp => ?_)
    · rw [← ev_succ_iff]; simp [impl_Clue.l0, ev_some]
    · rw [← ev_succ_iff]
      simp only [impl_Clue.l0, rdt_74 l i h1, rdt_74 m i h2, w_succ (i := i) (by omega)]
      unfold clueEqB at hp
      rw [ev_ite_iff, if_pos (by omega), ev_ite_iff, if_pos (by omega), ev_ite_iff, if_pos (by omega), ev_ite_iff, if_pos (by omega), ev_bind_iff (impl_sameClue_ev _ _ _ _ (hs _ (List.getElem_mem h1))), ev_ite_iff, if_pos hp]
      exact hr
    · rw [← ev_succ_iff]
      simp only [impl_Clue.l0, rdt_74 l i h1, rdt_74 m i h2]
      unfold clueEqB at hp
      rw [ev_ite_iff, if_pos (by omega), ev_ite_iff, if_pos (by omega), ev_ite_iff, if_pos (by omega), ev_ite_iff, if_pos (by omega), ev_bind_iff (impl_sameClue_ev _ _ _ _ (hs _ (List.getElem_mem h1))), ev_ite_iff, if_neg (by rw [Bool.not_eq_true]; exact hp)]
      exact ev_some _
  · rename_i h
    rw [listEqB_ne _ _ _ (by omega)]
    exact ev_some _
def puzzleEqB (R C : Int) (s : ByteArray) (l : List S74) (q : List Int) (e : Int) (R' C' : Int) (s' : ByteArray) (l' : List S74) (q' : List Int) (e' : Int) : Bool :=
  (R == R' && (C == C' && (s.toList == s'.toList))) && (listEqB clueEqB l l' && (listEqB (fun a b => decide (a = b)) q q' && (e == e')))
theorem impl_EqualPuzzles_ev (R C : Int) (s : ByteArray) (l : List S74) (q : List Int) (e : Int) (R' C' : Int) (s' : ByteArray) (l' : List S74) (q' : List Int) (e' : Int) (hl : l.length < 4611686018427387904) (hs : ∀ x ∈ l, x.f1.length < 4611686018427387904) (hq : q.length < 4611686018427387904) : Ev (fun k => impl_EqualPuzzles.f k R C s l q e R' C' s' l' q' e') (puzzleEqB R C s l q e R' C' s' l' q' e') := by
  unfold impl_EqualPuzzles.f puzzleEqB
  rw [ev_ite_iff]
  split
  · rename_i h
    rw [h, Bool.true_and, ev_bind_iff (sEqualClues_ev l l' _ hl hs), ev_ite_iff]
    split
    · rename_i h2
      rw [h2, Bool.true_and, ev_bind_iff (sEqualInts_ev q q' hq), ev_ite_iff]
      split
      · rename_i h3
        rw [h3, Bool.true_and]
        exact ev_some _
      · rename_i h3
        rw [Bool.not_eq_true] at h3
        rw [h3, Bool.false_and]
        exact ev_some _
    · rename_i h2
      rw [Bool.not_eq_true] at h2
      rw [h2, Bool.false_and]
      exact ev_some _
  · rename_i h
    rw [Bool.not_eq_true] at h
    rw [h, Bool.false_and]
    exact ev_some _
theorem spec_EqualPuzzles_ev (R C : Int) (s : ByteArray) (l : List S74) (q : List Int) (e : Int) (R' C' : Int) (s' : ByteArray) (l' : List S74) (q' : List Int) (e' : Int) (hl : l.length < 4611686018427387904) (hs : ∀ x ∈ l, x.f1.length < 4611686018427387904) (hq : q.length < 4611686018427387904) : Ev (fun k => spec_EqualPuzzles.f k R C s l q e R' C' s' l' q' e') (puzzleEqB R C s l q e R' C' s' l' q' e') := by
  have hj : ∀ c : Bool, c = true ∨ l.length = l'.length → Ev (fun k => spec_EqualPuzzles.j0 k c R C s l q e R' C' s' l' q' e') (!c && listEqB clueEqB l l') := by
    intro c hc
    rw [← ev_succ_iff]
    simp only [spec_EqualPuzzles.j0]
    rw [ev_ite_iff]
    split
    · rename_i h
      rw [h]
      exact ev_some _
    · rename_i h
      have h' : l.length = l'.length := hc.resolve_left h
      rw [Bool.not_eq_true] at h
      rw [h, Bool.not_false, Bool.true_and]
      refine loop_two (fun k i => spec_EqualPuzzles.l0 k i R C s l q e R' C' s' l' q' e') l l' h' _ ?_ (fun i h1 h2 hp r hr => ?_) (fun i h1 h2 hp => ?_)
      · rw [← ev_succ_iff]; simp [spec_EqualPuzzles.l0, ev_some]
      · rw [← ev_succ_iff]
        simp only [spec_EqualPuzzles.l0, rdt_74 l i h1, rdt_74 l' i h2, w_succ (i := i) (by omega)]
        unfold clueEqB at hp
        rw [ev_ite_iff, if_pos (by omega), ev_ite_iff, if_pos (by omega), ev_ite_iff, if_pos (by omega), ev_bind_iff (spec_l21SameClue_ev _ _ _ _ (hs _ (List.getElem_mem h1))), ev_ite_iff, if_pos hp]
        exact hr
      · rw [← ev_succ_iff]
        simp only [spec_EqualPuzzles.l0, rdt_74 l i h1, rdt_74 l' i h2]
        unfold clueEqB at hp
        rw [ev_ite_iff, if_pos (by omega), ev_ite_iff, if_pos (by omega), ev_ite_iff, if_pos (by omega), ev_bind_iff (spec_l21SameClue_ev _ _ _ _ (hs _ (List.getElem_mem h1))), ev_ite_iff, if_neg (by rw [Bool.not_eq_true]; exact hp)]
        exact ev_some _
  unfold spec_EqualPuzzles.f
  have hb : (!(R == R') || (!(C == C') || (!(s.toList == s'.toList)))) = !(R == R' && (C == C' && (s.toList == s'.toList))) := by
    cases (R == R') <;> cases (C == C') <;> cases (s.toList == s'.toList) <;> rfl
  rw [hb]
  unfold puzzleEqB
  generalize (R == R' && (C == C' && (s.toList == s'.toList))) = g
  rw [ev_ite_iff]
  split
  · rename_i h
    refine ev_as (hj _ (.inl rfl)) ?_
    have : g = false := by simpa using h
    simp [this]
  · rename_i h
    have hg : g = true := by simpa using h
    rw [ev_ite_iff]
    split
    · rename_i h2
      rw [ev_ite_iff]
      split
      · rename_i h3
        rw [ev_bind_iff (spec_EqualInts_ev q q' hq)]
        refine ev_as (hj _ (.inr (by omega))) ?_
        rw [hg, h2]
        cases listEqB (fun a b => decide (a = b)) q q' <;> simp
      · rename_i h3
        refine ev_as (hj _ (.inl rfl)) ?_
        rw [listEqB_ne clueEqB _ _ (by omega)]
        simp
    · rename_i h2
      refine ev_as (hj _ (.inl rfl)) ?_
      simp [h2]
theorem FnExactEqualPuzzles : laws_FnExactEqualPuzzles.Pure := by
  intro y z ⟨⟨_, _, h0⟩, ⟨h1, h2, h3⟩, ⟨h4, h5, _⟩, _⟩ ⟨⟨_, _, i0⟩, ⟨i1, i2, i3⟩, ⟨i4, i5, _⟩, _⟩
  refine Ev.rounds ?_
  unfold laws_FnExactEqualPuzzles.f
  have hx : ∀ x ∈ y.f1, x.f1.length ≤ 3518437208883 := fun x hx => by have := (h3 x hx).2.1; omega
  have ix : ∀ x ∈ z.f1, x.f1.length ≤ 3518437208883 := fun x hx => by have := (i3 x hx).2.1; omega
  obtain ⟨a, ha, hab⟩ := szPuzzle_ev y.f0.f0 y.f0.f1 y.f0.f2 y.f1 y.f2 y.f3 h0 (by omega) (fun x hx => ⟨by have := (h3 x hx).2.1; omega, fun t ht => ((h3 x hx).2.2.2 t ht).2.1⟩) (by omega) 1048576 (by omega) (by omega)
  rw [ev_bind_iff ha, ev_ite_iff]
  split
  · exact ev_some _
  obtain ⟨b, hb, _⟩ := szPuzzle_ev z.f0.f0 z.f0.f1 z.f0.f2 z.f1 z.f2 z.f3 i0 (by omega) (fun x hx => ⟨by have := (i3 x hx).2.1; omega, fun t ht => ((i3 x hx).2.2.2 t ht).2.1⟩) (by omega) a (by omega) hab
  rw [ev_bind_iff hb, ev_ite_iff]
  split
  · exact ev_some _
  have t1 := toPuzzle_ev y.f0.f0 y.f0.f1 y.f0.f2 y.f1 y.f2 y.f3 (by omega) hx (by omega)
  have t2 := toPuzzle_ev z.f0.f0 z.f0.f1 z.f0.f2 z.f1 z.f2 z.f3 (by omega) ix (by omega)
  have l1 : (y.f1.map toClueM).length = y.f1.length := List.length_map _
  have l2 : (z.f1.map toClueM).length = z.f1.length := List.length_map _
  have hx' : ∀ x ∈ y.f1.map toClueM, x.f1.length < 4611686018427387904 := by
    intro x hm
    obtain ⟨u, hu, rfl⟩ := List.mem_map.1 hm
    have := hx u hu
    simp only [toClueM, List.length_map]
    omega
  have ix' : ∀ x ∈ z.f1.map toClueM, x.f1.length < 4611686018427387904 := by
    intro x hm
    obtain ⟨u, hu, rfl⟩ := List.mem_map.1 hm
    have := ix u hu
    simp only [toClueM, List.length_map]
    omega
  have s := spec_EqualPuzzles_ev y.f0.f0 y.f0.f1 y.f0.f2 (y.f1.map toClueM) y.f2 y.f3 z.f0.f0 z.f0.f1 z.f0.f2 (z.f1.map toClueM) z.f2 z.f3 (by omega) hx' (by omega)
  have i := impl_EqualPuzzles_ev y.f0.f0 y.f0.f1 y.f0.f2 (y.f1.map toClueM) y.f2 y.f3 z.f0.f0 z.f0.f1 z.f0.f2 (z.f1.map toClueM) z.f2 z.f3 (by omega) hx' (by omega)
  have e1 := eqPuzzle_ev y.f0.f0 y.f0.f1 y.f0.f2 (y.f1.map toClueM) y.f2 y.f3 (by omega) hx' (by omega)
  have e2 := eqPuzzle_ev z.f0.f0 z.f0.f1 z.f0.f2 (z.f1.map toClueM) z.f2 z.f3 (by omega) ix' (by omega)
  simp only [ev_bind_iff t1, ev_bind_iff t2, ev_bind_iff s, ev_bind_iff i, ev_bind_iff e1, ev_bind_iff e2, ev_ite_iff, bne_self_eq_false, Bool.false_eq_true, if_false, if_true]
  exact ev_some _
end Go.Proofs.Ytddacmgigolcbaa.Pure
