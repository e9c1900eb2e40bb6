/- The library's sort and reversal of a row of bytes, at this program: what they leave in the row. Plain contracts; of the sort: at twelve bytes or fewer. -/
import Derived.Test.YtdbefmkcondbgaaGreatDoorProg
import Derived.Sort.WalkA
import Derived.Sort.LotA
import Derived.Lib.ConvBytes
import Derived.Laws.BytesArg
import Derived.WalkKit
import Derived.BigGuard
import Derived.BigCall
import Derived.CellFam
import Derived.Deep.Draws
import Derived.Deep.QuietTactic
import Derived.BigQuiet
import Derived.Below
import Derived.Lib.OwnBridge
import Derived.Test.YtdbefmkcondbgaaGreatDoorZHaOnSoShelf
namespace Go.Proofs.YtdbefmkcondbgaaGreatDoor.HandSort
open Go.RowKit Go.Sort Go.Proofs
set_option linter.unusedVariables false
set_option linter.unusedSimpArgs false
set_option maxHeartbeats 1000000 in
theorem IJ (x : Int) (w : World) : Calls Tryz.prog 186 #[.int .u8 x] w fun e w' => e = .returned (.bool false) ∧ w' = w := by
 go_enter Tryz.func186, Tryz.ntmps186
 go_wp2
 go_ret
 exact ⟨by simp, rfl⟩
set_option maxHeartbeats 1000000 in
theorem Gn (x y : Int) (w : World) : Calls Tryz.prog 176 #[.int .u8 x, .int .u8 y] w fun e w' => e = .returned (.bool (Sort.ltInt x y)) ∧ w' = w := by
 go_enter Tryz.func176, Tryz.ntmps176
 go_wp2_with (go_at_call 186; refine (IJ _ _).mono ?_; rintro e w' ⟨rfl, rfl⟩)
 go_ret
 exact ⟨rfl, rfl⟩
set_option maxHeartbeats 4000000 in
set_option maxRecDepth 100000 in
theorem vX (blk off cap a b : Nat) (d : Array Int) (w : World) (hH : Holds (Value.int .u8) w blk off d) (hab : a ≤ b) (hb : b ≤ d.size) (hsz : d.size < 4611686018427387904) :
  Calls Tryz.prog 170 #[.slice (some ⟨blk, off, none⟩) d.size cap, .int .i64 a, .int .i64 b] w fun e w' =>
   e = .returned (.tuple #[]) ∧ ∃ n, w' = putRow (Value.int .u8) (Sort.ahead w n) blk off (Sort.insertionSort ltInt d a b) := by
 go_enter Tryz.func170, Tryz.ntmps170
 go_wp2
 go_loopw [6] (fun vi wr => ∃ (i n : Nat) (dk : Array Int), vi = .int .i64 i ∧ a < i ∧ i ≤ b + 1 ∧ dk.size = d.size ∧ wr = putRow (Value.int .u8) (Sort.ahead w n) blk off dk ∧
   insOuter ltInt a b i dk = insOuter ltInt a b (a + 1) d) (fun vi _ => b + 1 - (intOf vi).toNat)
 case atStart => exact ⟨a + 1, 0, d, by go_num, by omega, by omega, rfl, (putRow_self _ _ _ _ _ hH).symm, rfl⟩
 case round =>
  obtain ⟨i, n, dk, rfl, hai, hib, hsk, hwr, hO⟩ := hrel
  have HO : Hid (insOuter ltInt a b i dk = insOuter ltInt a b (a + 1) d) := hO
  clear hO
  go_wp2
  ·go_loopw [7] (fun vj wr2 => ∃ (j m : Nat) (dj : Array Int), vj = .int .i64 j ∧ a ≤ j ∧ j ≤ i ∧ dj.size = d.size ∧ wr2 = putRow (Value.int .u8) (Sort.ahead w m) blk off dj ∧
     insInner ltInt a j dj = insInner ltInt a i dk) (fun vj _ => (intOf vj).toNat)
   case atStart => exact ⟨i, n, dk, rfl, by omega, Nat.le_refl _, hsk, rfl, rfl⟩
   case round =>
    obtain ⟨j, m, dj, rfl, haj, hji, hsj, hw2, hI⟩ := hrel
    have hlt : i < b := by assumption
    obtain ⟨G, hG⟩ : ∃ G : Nat → Int, ∀ t, G t = dj[t]! := ⟨fun t => dj[t]!, fun _ => rfl⟩
    have hcw : ∀ t, t < d.size → wr.cell? ⟨blk, off + t, none⟩ = some (.int .u8 (G t)) := fun t ht => by
     rw [hw2, hG]; exact cell?_putRow _ _ _ _ d dj (holds_ahead _ _ _ _ _ _ hH) hsj t (by omega)
    have hfw : ∀ t, t < d.size → wr.frozen? ⟨blk, off + t, none⟩ = false := fun t ht => by
     rw [hw2, frozen?_putRow]; exact ((holds_ahead _ _ m _ _ _ hH) t ht).2
    have HW : Hid (wr = putRow (Value.int .u8) (Sort.ahead w m) blk off dj) := hw2
    have HG : Hid (∀ t, G t = dj[t]!) := hG
    have HI : Hid (insInner ltInt a j dj = insInner ltInt a i dk) := hI
    clear hw2 hG hI hH
    have out : (j ≤ a ∨ ltInt dj[j]! dj[j - 1]! = false) → ∀ q, ∃ i' n' dk', Value.int .i64 ((i : Int) + 1) = .int .i64 (i' : Nat) ∧ a < i' ∧ i' ≤ b + 1 ∧ dk'.size = d.size ∧
      wr.drewN q = putRow (Value.int .u8) (Sort.ahead w n') blk off dk' ∧ insOuter ltInt a b i' dk' = insOuter ltInt a b (a + 1) d := fun hs q =>
     ⟨i + 1, m + q, dj, by go_num, by omega, by omega, hsj, by rw [HW.out]; exact putRow_drewN _ _ _ _ _ _ _,
      by rw [← HO.out, insOuter_go _ _ _ _ _ hlt, ← HI.out, insInner_stop _ _ _ _ hs]⟩
    have OUT : Hid _ := out
    clear out
    go_wp2
    by_cases hja : a < j
    ·go_quiet (first | (go_at_call 176; refine Calls.quiet_of_same (Gn _ _ _)))
     go_wp2
     ·have hl : ltInt (G j) (G (j - 1)) = true := by assumption
      go_region
      all_goals go_wp2
      go_roundw
      case rel =>
       refine ⟨j - 1, m + (nq + 1), swp dj j (j - 1), by congr 1; omega, by omega, by omega, by rw [size_swp]; exact hsj, ?_, ?_⟩
       ·rw [HW.out, HG.out, HG.out]
        exact swap_worldA _ w m (nq + 1) blk off dj j (j - 1) (by omega) (by omega)
       ·rw [← HI.out, insInner_go ltInt a j dj hja (by rw [← HG.out, ← HG.out]; exact hl)]
      case measure => simp [intOf]; omega
     ·have hl : ltInt (G j) (G (j - 1)) = false := by assumption
      go_roundw
      case rel => exact OUT.out (Or.inr (by rw [← HG.out, ← HG.out]; exact hl)) nq
      case measure => simp [intOf]; omega
    ·go_quiet (first | (go_at_call 176; refine Calls.quiet_of_same (Gn _ _ _)))
     go_wp2
     go_roundw
     case rel => exact OUT.out (Or.inl (by omega)) nq
     case measure => simp [intOf]; omega
  ·have hge : ¬ i < b := by assumption
   go_end0
   exact ⟨rfl, n, by unfold Sort.insertionSort; rw [← HO.out, insOuter_stop _ _ _ _ _ hge]⟩
set_option maxHeartbeats 4000000 in
set_option maxRecDepth 100000 in
theorem FB (blk off cap : Nat) (lim : Int) (d : Array Int) (w : World) (hH : Holds (Value.int .u8) w blk off d) (hsz : d.size ≤ 12) :
  Calls Tryz.prog 168 #[.slice (some ⟨blk, off, none⟩) d.size cap, .int .i64 0, .int .i64 d.size, .int .i64 lim] w fun e w' =>
   e = .returned (.tuple #[]) ∧ ∃ n, w' = putRow (Value.int .u8) (Sort.ahead w n) blk off (Sort.insertionSort ltInt d 0 d.size) := by
 have hi : Calls Tryz.prog 170 #[.slice (some ⟨blk, off, none⟩) d.size cap, .int .i64 0, .int .i64 d.size] w fun e w' => e = .returned (.tuple #[]) ∧ ∃ n, w' = putRow (Value.int .u8) (Sort.ahead w n) blk off (Sort.insertionSort ltInt d 0 d.size) :=
  vX blk off cap 0 d.size d w hH (Nat.zero_le _) (Nat.le_refl _) (by omega)
 clear hH
 go_enter Tryz.func168, Tryz.ntmps168
 go_wp2
 refine wp_loop_rounds 1 ?_
 rw [rounds_succ]
 go_wp2_with (go_at_call 170; refine hi.mono ?_; rintro e w' ⟨rfl, n, rfl⟩)
 (try simp only [Exit.inBlock, Exit.then]); refine bodyPost_ret (results_none rfl _ _ _) rfl ?_
 exact ⟨rfl, n, rfl⟩
set_option maxHeartbeats 2000000 in
set_option maxRecDepth 100000 in
theorem Kh (blk off cap : Nat) (d : Array Int) (w : World) (hH : Holds (Value.int .u8) w blk off d) (hsz : d.size ≤ 12) :
  Calls Tryz.prog 167 #[.slice (some ⟨blk, off, none⟩) d.size cap] w fun e w' =>
   e = .returned (.tuple #[]) ∧ ∃ n, w' = putRow (Value.int .u8) (Sort.ahead w n) blk off (Sort.insertionSort ltInt d 0 d.size) := by
 have hp := fun lim => FB blk off cap lim d w hH hsz
 have hl := Tryz.bits_Len (d.size : Int) w (by omega) (by omega)
 clear hH
 go_enter Tryz.func167, Tryz.ntmps167
 go_wp2_with (first | (go_at_call 169; refine hl.mono ?_; rintro e w' ⟨rfl, rfl⟩) | (go_at_call 168; refine (hp _).mono ?_; rintro e w' ⟨rfl, n, rfl⟩))
 go_end0
 exact ⟨rfl, n, rfl⟩
def nums (s : ByteArray) : List Int := s.data.toList.map fun b => (b.toNat : Int)
theorem nums_length (s : ByteArray) : (nums s).length = s.size := by unfold nums; rw [List.length_map, Array.length_toList]; rfl
theorem lF (s : ByteArray) : (nums s).toArray.size = s.size := by rw [List.size_toArray, nums_length]
theorem pR (w : World) (e : TypeId) (s : ByteArray) : Holds (Value.int .u8) (Lib.bytesWorld w e s) w.heap.size 0 (nums s).toArray := by
 intro j hj
 rw [lF] at hj
 refine ⟨?_, ?_⟩
 ·rw [Nat.zero_add, Lib.bytesWorld_cell w e s j hj]
  have hj' : j < s.data.toList.length := by rw [Array.length_toList]; exact hj
  rw [getElem!_pos _ j (by rw [lF]; exact hj)]
  simp [nums, List.getD, hj']
  rw [Array.getElem?_eq_getElem (by exact hj)]
  rfl
 ·unfold World.frozen?
  rw [show (⟨w.heap.size, 0 + j, none⟩ : Addr).block = w.heap.size from rfl, Lib.bytesWorld_at_new]
  have hb : s.size ≤ (Lib.bytesCells w e s).size := by
   unfold Lib.bytesCells
   rw [Array.size_append, Array.size_map]
   exact Nat.le_add_right _ _
  simp
  omega
theorem pQ (w : World) (e : TypeId) (s : ByteArray) : Below w.heap.size w (Lib.bytesWorld w e s) :=
 ⟨rfl, rfl, rfl, by rw [Lib.bytesWorld_size]; omega, fun k hk => Lib.bytesWorld_at_old w e s k hk⟩
theorem tK (w : World) (s : ByteArray) (n : Nat) (d : Array Int) (hd : d.size = s.size) (c : Nat) :
  (convert 123 9 (.slice (some ⟨w.heap.size, 0, none⟩) s.size c)).run Tryz.prog (putRow (Value.int .u8) (Sort.ahead (Lib.bytesWorld w 5 s) n) w.heap.size 0 d) = .ok (.string (strOfNums d.toList)) (putRow (Value.int .u8) (Sort.ahead (Lib.bytesWorld w 5 s) n) w.heap.size 0 d) := by
 refine run_convert_bytes_arg _ _ 5 Tryz.underlying123 Tryz.underlying5 w.heap.size 0 s.size c d.toList (by rw [Array.length_toList]; exact hd) (fun i hi => ?_) 9 Tryz.underlying9
 rw [cell?_putRow _ _ _ _ (nums s).toArray d (holds_ahead _ _ _ _ _ _ (pR w 5 s)) (by rw [hd, lF]) i (by omega)]
 rw [getElem!_pos d i (by omega)]
 have hi' : i < d.toList.length := by rw [Array.length_toList]; omega
 rw [List.getD_eq_getElem?_getD, List.getElem?_eq_getElem hi']
 rfl
set_option maxHeartbeats 2000000 in
set_option maxRecDepth 100000 in
theorem Dc (s : ByteArray) (w : World) (h : s.size ≤ 100) :
  Calls Tryz.prog 145 #[.string s] w fun e w' => e = .returned (.string (strOfNums (nums s).reverse)) ∧ Below w.heap.size w w' := by
 have hc := Lib.run_convert_string_bytes w 9 123 5 s Tryz.underlying9 Tryz.underlying123 Tryz.underlying5
 have hr := Tryz.Ht w.heap.size 0 (grownCap w s.size 0 5) (nums s).toArray (Lib.bytesWorld w 5 s) (pR w 5 s) (by rw [lF]; omega)
 have hb := fun n => tK w s n (nums s).toArray.reverse (by rw [Array.size_reverse, lF]) (grownCap w s.size 0 5)
 have hw := fun n => Lib.below_putRow (enc := Value.int .u8) (q := n) (d := (nums s).toArray.reverse) (pQ w 5 s) (Nat.le_refl w.heap.size)
 rw [lF] at hr
 have e : (nums s).toArray.reverse.toList = (nums s).reverse := by simp
 rw [e] at hb
 generalize (nums s).toArray.reverse = d at *
 generalize grownCap w s.size 0 5 = c at *
 generalize Lib.bytesWorld w 5 s = w1 at *
 have hsz : decide ((s.size : Int) > 100) = false := decide_eq_false (by omega)
 go_enter Tryz.func145, Tryz.ntmps145
 go_wp2_with (go_at_call 161; refine hr.mono ?_; rintro e w' ⟨rfl, n, rfl⟩; have hbn := hb n; have hwn := hw n; clear hb hw)
 go_ret
 exact ⟨rfl, hwn⟩
def sorted (s : ByteArray) : List Int := (Sort.insertionSort ltInt (nums s).toArray 0 (nums s).toArray.size).toList
theorem Hw (s : ByteArray) : sorted s = (nums s).mergeSort (fun x y => decide (x ≤ y)) := by
 obtain ⟨hP, hSo⟩ := insertionSort_holds (lt := ltInt) swo_ltInt (nums s).toArray 0 (nums s).toArray.size (Nat.zero_le _) (Nat.le_refl _)
 have h := sorted_unique_holds swo_ltInt (fun x y h1 h2 => by simp only [ltInt, decide_eq_false_iff_not] at h1 h2; omega) (nums s).toArray _ hP hSo
 unfold sorted
 rw [h]
 congr 1
 funext x y
 show (!decide (y < x)) = decide (x ≤ y)
 by_cases h : x ≤ y
 ·rw [decide_eq_true h, decide_eq_false (by omega)]; rfl
 ·rw [decide_eq_false h, decide_eq_true (by omega)]; rfl
theorem EK (s : ByteArray) : (Sort.insertionSort ltInt (nums s).toArray 0 (nums s).toArray.size).size = s.size := by
 obtain ⟨hP, _⟩ := insertionSort_holds (lt := ltInt) swo_ltInt (nums s).toArray 0 (nums s).toArray.size (Nat.zero_le _) (Nat.le_refl _)
 rw [hP.1, lF]
set_option maxHeartbeats 2000000 in
set_option maxRecDepth 100000 in
theorem BD (s : ByteArray) (w : World) (h : s.size ≤ 12) (hword : Calls Tryz.prog 101 #[.string s] w fun e w' => e = .returned (.bool true) ∧ ∃ q, w' = w.drewN q) :
  Calls Tryz.prog 163 #[.string s] w fun e w' => e = .returned (.string (strOfNums (sorted s))) ∧ Below w.heap.size w w' := by
 have key : ∀ W : World, Below w.heap.size w W → W.heap.size = w.heap.size → ∃ (w1 : World) (c : Nat) (d : Array Int), (convert 9 123 (.string s)).run Tryz.prog W = .ok (.slice (some ⟨W.heap.size, 0, none⟩) s.size c) w1 ∧
   (Calls Tryz.prog 167 #[.slice (some ⟨W.heap.size, 0, none⟩) s.size c] w1 fun e w' => e = .returned (.tuple #[]) ∧ ∃ n, w' = putRow (Value.int .u8) (Sort.ahead w1 n) W.heap.size 0 d) ∧
   (∀ n, (convert 123 9 (.slice (some ⟨W.heap.size, 0, none⟩) s.size c)).run Tryz.prog (putRow (Value.int .u8) (Sort.ahead w1 n) W.heap.size 0 d) = .ok (.string (strOfNums (sorted s))) (putRow (Value.int .u8) (Sort.ahead w1 n) W.heap.size 0 d)) ∧
   (∀ n, Below w.heap.size w (putRow (Value.int .u8) (Sort.ahead w1 n) W.heap.size 0 d)) := by
  intro W hB hsz
  refine ⟨Lib.bytesWorld W 5 s, grownCap W s.size 0 5, Sort.insertionSort ltInt (nums s).toArray 0 (nums s).toArray.size, Lib.run_convert_string_bytes W 9 123 5 s Tryz.underlying9 Tryz.underlying123 Tryz.underlying5, ?_, fun n => ?_, fun n => ?_⟩
  ·have := Kh W.heap.size 0 (grownCap W s.size 0 5) (nums s).toArray (Lib.bytesWorld W 5 s) (pR W 5 s) (by rw [lF]; exact h)
   rw [show (nums s).toArray.size = s.size from lF s] at this ⊢
   exact this
  ·exact tK W s n _ (EK s) _
  ·refine Lib.below_putRow (hB.trans ((pQ W 5 s).mono (by omega))) (by omega)
 have hd : ∀ q, Below w.heap.size w (w.drewN q) ∧ (w.drewN q).heap.size = w.heap.size := fun q => ⟨⟨rfl, rfl, rfl, Nat.le_refl _, fun _ _ => rfl⟩, rfl⟩
 go_enter Tryz.func163, Tryz.ntmps163
 go_wp2_with (first | (go_at_call 101; refine hword.mono ?_; rintro e w' ⟨rfl, q, rfl⟩; have hdq := hd q; generalize w.drewN q = W at *; obtain ⟨w1, c, d, hc, hs, hb, hw⟩ := key W hdq.1 hdq.2; clear key hd hdq) | (go_at_call 167; refine hs.mono ?_; rintro e w' ⟨rfl, n, rfl⟩; have hbn := hb n; have hwn := hw n; clear hb hw))
 go_ret
 exact ⟨rfl, hwn⟩
end Go.Proofs.YtdbefmkcondbgaaGreatDoor.HandSort
