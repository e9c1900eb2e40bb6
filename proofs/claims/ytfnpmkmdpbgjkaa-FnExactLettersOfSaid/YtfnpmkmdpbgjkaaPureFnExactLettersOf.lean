/- The program's LettersOf returns what the reference's returns, for every argument; no further condition. -/
import Derived.Test.YtfnpmkmdpbgjkaaPFnExactLettersOfx1
import Derived.Test.YtfnpmkmdpbgjkaaEv
namespace Go.Proofs.Ytfnpmkmdpbgjkaa.Pure
open Go.RowKit Go.Proofs.Ytfnpmkmdpbgjkaa.PFnExactLettersOf Go.Proofs.YtfnpmkmdpbgjkaaW.PrintWords Go.Proofs.YtfnpmkmdpbgjkaaW.PrintLast Go.Proofs.YtfnpmkmdpbgjkaaW.PrintMore Go.Proofs.Ytfnpmkmdpbgjkaa.Sem
set_option linter.unusedVariables false
set_option linter.unusedSimpArgs false
theorem eqIntS_ev (l : List Int) (hl : l.length < 4611686018427387904) : Ev (fun k => laws_eqIntS.f k l l) true := by
  unfold laws_eqIntS.f
  rw [ev_ite_iff, if_pos rfl]
  refine ev_as (loop_all (fun k i => laws_eqIntS.l0 k l l i) l (fun _ => true) ?_ (fun i hi hp r hr => ?_) (fun i hi hp => by cases hp)) (by simp)
  · rw [← ev_succ_iff]; simp [laws_eqIntS.l0, ev_some]
  · rw [← ev_succ_iff]
    simp only [laws_eqIntS.l0, w_succ (i := i) (by omega)]
    simp [ev_ite_iff, hi]
    exact hr
theorem markIntS_ev (l : List Int) (c : Int) (h0 : 0 ≤ c) (hc : c + l.length < 4611686018427387904) : Ev (fun k => laws_markIntS.f k l c) (c + l.length, markd (fun _ b => b) (fun _ => 1) l c) := by
  have hw : wsum (fun _ => 1) l = l.length := by rw [wsum_one]; omega
  have := loop_mark (fun k s b i => laws_markIntS.l0 k s b i) l (fun _ => 1) (fun _ b => b) c (fun s b hs => ?_) (fun i hi s b hs hsi hb hb' r hr => ?_)
  · rw [hw] at this
    exact this
  · rw [← ev_succ_iff]
    simp only [laws_markIntS.l0]
    simp [hs, ev_some]
  · rw [← ev_succ_iff]
    rw [hw] at hb'
    have e : wrap64 (b + 1) = b + 1 := w_in (by omega) (by omega)
    simp only [laws_markIntS.l0, w_succ (i := i) (by omega), e]
    simp [ev_ite_iff, hi, hs]
    exact hr
theorem heldIntS_ev (l : List Int) (c : Int) (h0 : 0 ≤ c) (hc : c + l.length < 4611686018427387904) : Ev (fun k => laws_heldIntS.f k (markd (fun _ b => b) (fun _ => 1) l c) c) (c + l.length) := by
  have hw : wsum (fun _ => 1) l = l.length := by rw [wsum_one]; omega
  have := loop_held (fun k b i => laws_heldIntS.l0 k (markd (fun _ b => b) (fun _ => 1) l c) b i) l (fun _ => 1) c (fun b => ?_) (fun i hi b hb hb' r hr => ?_)
  · rw [hw] at this
    exact this
  · rw [← ev_succ_iff]
    simp only [laws_heldIntS.l0]
    simp [markd_length, ev_some]
  · rw [← ev_succ_iff]
    rw [hw] at hb'
    have e : wrap64 (b + 1) = b + 1 := w_in (by omega) (by omega)
    have hr' := rd_nat (markd (fun _ b => b) (fun _ => 1) l c) i (by rw [markd_length]; exact hi)
    rw [markd_get _ _ _ _ _ hi] at hr'
    simp only [laws_heldIntS.l0, w_succ (i := i) (by omega), e, hr', ← hb]
    simp [ev_ite_iff, hi, markd_length]
    exact hr
theorem wrap_byte {c : Int} (h : 0 ≤ c ∧ c ≤ 255) : wrap64 c = c := w_in (by omega) (by omega)
theorem flat_one {α : Type} (l : List α) : l.flatMap (fun c => [c]) = l := by induction l <;> simp_all
theorem flat_take {α : Type} (l : List α) (i : Nat) : ((l.take i).flatMap (fun c => [c])).length ≤ i := by rw [flat_one, List.length_take]; omega
theorem spec_LettersOf_ev (s : ByteArray) (hs : s.size ≤ 17592186044416) : Ev (fun k => spec_LettersOf.f k s) (bytesOf s) := by
  refine ev_as (loop_collect (fun k x i => spec_LettersOf.l0 k s x i) (bytesOf s) (fun c => [c]) 0 (fun x => ?_) (fun i hi x hx r hr => ?_)) (flat_one _)
  · rw [← ev_succ_iff]; simp [spec_LettersOf.l0, bytesOf_length, ev_some]
  · have hi' : i < s.size := by rw [bytesOf_length] at hi; exact hi
    have hx' := flat_take (bytesOf s) i
    have hw := wrap_byte (bytes_range s _ (List.getElem_mem hi))
    rw [← ev_succ_iff]
    simp only [spec_LettersOf.l0, bt_nat s i hi', w_succ (i := i) (by omega), hw]
    rw [ev_ite_iff, if_pos (by omega), ev_ite_iff, if_pos (by omega), ev_ite_iff, if_pos (by omega)]
    exact hr
theorem impl_LettersOf_ev (s : ByteArray) (hs : s.size ≤ 17592186044416) : Ev (fun k => impl_LettersOf.f k s) (bytesOf s) := by
  refine ev_as (loop_collect (fun k x i => impl_LettersOf.l0 k s x (s.size : Int) i) (bytesOf s) (fun c => [c]) 0 (fun x => ?_) (fun i hi x hx r hr => ?_)) (flat_one _)
  · rw [← ev_succ_iff]; simp [impl_LettersOf.l0, bytesOf_length, ev_some]
  · have hi' : i < s.size := by rw [bytesOf_length] at hi; exact hi
    have hx' := flat_take (bytesOf s) i
    have hw := wrap_byte (bytes_range s _ (List.getElem_mem hi))
    rw [← ev_succ_iff]
    simp only [impl_LettersOf.l0, bt_nat s i hi', w_succ (i := i) (by omega), hw]
    rw [ev_ite_iff, if_pos (by omega), ev_ite_iff, if_pos (by omega), ev_ite_iff, if_pos (by omega), ev_ite_iff, if_pos (by omega)]
    exact hr
theorem FnExactLettersOf : laws_FnExactLettersOf.Pure := by
  intro s hs
  refine Ev.rounds ?_
  unfold laws_FnExactLettersOf.f
  rw [ev_ite_iff]
  split
  · exact ev_some _
  have h1 := spec_LettersOf_ev s (by omega)
  have h2 := impl_LettersOf_ev s (by omega)
  have hl := bytesOf_length s
  have h3 := eqIntS_ev (bytesOf s) (by omega)
  have h4 := markIntS_ev (bytesOf s) 1 (by omega) (by omega)
  have h5 := heldIntS_ev (bytesOf s) 1 (by omega) (by omega)
  simp only [ev_bind_iff h1, ev_bind_iff h2, ev_bind_iff h3, ev_bind_iff h4, ev_bind_iff h5, if_true, ev_ite_iff]
  rw [if_neg (by omega), if_neg (by omega)]
  exact ev_some _
end Go.Proofs.Ytfnpmkmdpbgjkaa.Pure
