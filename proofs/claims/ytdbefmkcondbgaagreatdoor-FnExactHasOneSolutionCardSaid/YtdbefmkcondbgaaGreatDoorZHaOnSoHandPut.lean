/- What writeCells makes of a text: the cells of a list, each with the letter of its place. Plain contracts. -/
import Derived.Test.YtdbefmkcondbgaaGreatDoorZHaOnSoHandSort
import Derived.Test.YtdbefmkcondbgaaGreatDoorZHaOnSoW
namespace Go.Proofs.YtdbefmkcondbgaaGreatDoor.HandPut
open Go.RowKit Go.Sort Go.Proofs Go.Proofs.Yw.PrintWords Go.Proofs.Yw.PrintLast Go.Proofs.Yw.PrintMore Go.Proofs.YtdbefmkcondbgaaGreatDoor.HandSort
set_option linter.unusedVariables false
set_option linter.unusedSimpArgs false
def wrA (l : List Int) (wd : aj) (d : Array Int) : Nat → Array Int
 | 0 => d
 | i + 1 => (wrA l wd d i).setIfInBounds (rd l (i : Int)).toNat (bt wd (i : Int))
theorem ER (l : List Int) (wd : aj) (d : Array Int) : ∀ i, (wrA l wd d i).size = d.size
 | 0 => rfl
 | i + 1 => by rw [wrA, Array.size_setIfInBounds, ER l wd d i]
set_option maxHeartbeats 4000000 in
set_option maxRecDepth 100000 in
theorem DZ (s wd : aj) (A : Option Addr) (c : Nat) (l : List Int) (w : World) (hC : Kd.C (Kd.int .i64) w A l.length l) (hcap : l.length ≤ c) (hs : s.size ≤ 1000) (hl : l.length ≤ wd.size) (hw : wd.size ≤ 1000) (hcell : ∀ x ∈ l, 0 ≤ x ∧ x < s.size) :
  Calls Tryz.prog 69 #[.string s, .slice A l.length c, .string wd] w fun e w' => e = .returned (.string (strOfNums (wrA l wd (nums s).toArray l.length).toList)) ∧ Below w.heap.size w w' := by
 have hc := Lib.run_convert_string_bytes w 9 123 5 s Tryz.underlying9 Tryz.underlying123 Tryz.underlying5
 have hb := fun (d : Array Int) (hd : d.size = s.size) => tK w s 0 d hd (grownCap w s.size 0 5)
 have hwn := fun d : Array Int => Lib.below_putRow (enc := Value.int .u8) (q := 0) (d := d) (pQ w 5 s) (Nat.le_refl w.heap.size)
 have hH := pR w 5 s
 have hsz := lF s
 have hA0 : ∀ W : World, Sort.ahead W 0 = W := fun W => rfl
 simp only [hA0] at hb hwn
 generalize (nums s).toArray = d0 at *
 generalize grownCap w s.size 0 5 = cp at *
 generalize Lib.bytesWorld w 5 s = w1 at *
 obtain ⟨B, hB⟩ : ∃ B, B = w.heap.size := ⟨_, rfl⟩
 rw [← hB] at hc hb hwn hH
 have HB := ah.mk hb
 have HW := ah.mk hwn
 have HH := ah.mk hH
 have HC := ah.mk hC
 have HCELL := ah.mk hcell
 have HEQ := ah.mk hB
 clear hb hwn hH hC hcell hA0 hB
 go_enter Tryz.func69, Tryz.ntmps69
 go_wp2
 clear hc
 go_loopw [14] (fun v14 wr => ∃ i : Nat, v14 = .int .i64 i ∧ i ≤ l.length ∧ ah (wr = putRow (Value.int .u8) w1 B 0 (wrA l wd d0 i))) (fun v14 _ => l.length + 1 - (intOf v14).toNat)
 case atStart => exact ⟨0, rfl, Nat.zero_le _, ⟨(putRow_self _ _ _ _ _ HH.out).symm⟩⟩
 case round =>
  obtain ⟨i, rfl, hile, HR⟩ := hrel
  have hsd := ER l wd d0 i
  by_cases c1 : i < l.length
  ·have c1b : decide ((i : Int) < (l.length : Int)) = true := decide_eq_true (by omega)
   have p1 : 0 ≤ (i : Int) := by omega
   have q1 : (i : Int) < (l.length : Int) := by omega
   have q2 : (i : Int) < (wd.size : Int) := by omega
   obtain ⟨ad, e1, hx⟩ := Kd.nI HC.out (i : Int) p1 q1
   cases e1
   have hr : rd l (i : Int) ∈ l := by
    have : rd l (i : Int) = l[i] := by simp [rd, List.getD_eq_getElem?_getD, List.getElem?_eq_getElem c1]
    rw [this]
    exact List.getElem_mem c1
   obtain ⟨r0, r1⟩ := HCELL.out _ hr
   have hcell2 : wr.cell? (ad.add (i : Int).toNat) = some (.int .i64 (rd l (i : Int))) := by
    rw [HR.out]
    have hbel := HW.out (wrA l wd d0 i)
    exact (hbel.cell (by rw [HEQ.out]; exact World.block_lt_of_cell? w _ hx)).trans hx
   have hput := putRow_set (Value.int .u8) w1 B 0 (wrA l wd d0 i) (rd l (i : Int)).toNat (bt wd (i : Int)) (by omega)
   have hbc := cell?_putRow (Value.int .u8) w1 B 0 d0 (wrA l wd d0 i) HH.out hsd (rd l (i : Int)).toNat (by omega)
   have hbf : wr.frozen? ⟨B, 0 + (rd l (i : Int)).toNat, none⟩ = false := by
    rw [HR.out, frozen?_putRow]
    exact (HH.out _ (by omega)).2
   rw [← HR.out] at hbc hput
   rw [Nat.zero_add] at hbc hbf hput
   have HP := ah.mk hput
   clear hput hx
   obtain ⟨n, hn⟩ : ∃ n : Nat, rd l (i : Int) = (n : Int) := ⟨(rd l (i : Int)).toNat, by omega⟩
   rw [hn] at hcell2 hbc hbf r0 r1
   rw [Int.toNat_natCast] at hcell2
   rw [Int.toNat_natCast] at hbc hbf
   have z1 : decide ((n : Int) < (s.size : Int)) = true := decide_eq_true r1
   replace p1 := eq_true p1
   replace q1 := eq_true q1
   replace q2 := eq_true q2
   go_wp2
   have hbw : ((wd[i]'(by omega)).toNat : Int) = bt wd (i : Int) := by
    have := gN wd (i : Int) (by omega)
    simpa using this
   go_roundw
   case rel =>
    refine ⟨i + 1, rfl, by omega, ⟨?_⟩⟩
    rw [hbw, wrA, hn, Int.toNat_natCast]
    have := HP.out
    rw [hn, Int.toNat_natCast] at this
    exact this
   case measure => simp [intOf]; omega
  ·have c1b : decide ((i : Int) < (l.length : Int)) = false := decide_eq_false (by omega)
   have e1 : i = l.length := by omega
   subst e1
   have hbn := HB.out (wrA l wd d0 l.length) (by rw [hsd]; exact hsz)
   have hwn := HW.out (wrA l wd d0 l.length)
   rw [← HR.out] at hbn hwn
   rw [HEQ.out] at hwn
   clear hsd
   go_wp2
   go_ret
   exact ⟨rfl, hwn⟩
end Go.Proofs.YtdbefmkcondbgaaGreatDoor.HandPut
