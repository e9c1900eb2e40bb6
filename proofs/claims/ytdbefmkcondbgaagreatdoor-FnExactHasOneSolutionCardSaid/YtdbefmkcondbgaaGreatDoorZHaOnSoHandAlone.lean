/- alone: a local map as a set of cells; what the function comes to. Plain contracts. -/
import Derived.Test.YtdbefmkcondbgaaGreatDoorProg
import Derived.WalkKit
import Derived.BigGuard
import Derived.BigCall
import Derived.Below
import Derived.Maps.Own
import Derived.Maps.OwnOps
import Derived.Maps.Views
import Derived.Test.YtdbefmkcondbgaaGreatDoorZHaOnSoW
namespace Go.Proofs.YtdbefmkcondbgaaGreatDoor.HandAlone
open Go.RowKit Go.Proofs.Yw.PrintWords Go.Proofs.Yw.PrintLast Go.Proofs.Yw.PrintMore
set_option linter.unusedVariables false
set_option linter.unusedSimpArgs false
open Go.Maps
def pq (il : Int → Option Bool) (S : List Int) (s fill : aj) : Nat → Int → Option Bool
 | 0, _ => none
 | k + 1, c => if c < (s.size : Int) then (if bt s c = 46 then (if c ∈ S then pq il S s fill k (c + 1) else (if c < (fill.size : Int) then ((il (bt fill c)).bind fun b => if b = true then pq il S s fill k (c + 1) else some true) else none)) else pq il S s fill k (c + 1)) else some false
def Db (il : Int → Option Bool) (k : Nat) (rows : List (List Int)) (s fill : aj) : Option Bool :=
 if rows.flatten.length < 1000000 ∧ s.size < 1000000 ∧ rows.length < 1000000 ∧ (∀ c ∈ rows.flatten, 0 ≤ c ∧ c < 1000000) then pq il rows.flatten s fill k 0 else none
def nE (W : World) (B n : Nat) (S : List Int) : Prop :=
 ∃ D : DataW Unit, W.ownsMap Tryz.prog 3 (plainElem Tryz.prog 3) B n D ∧ ∀ c : Int, 0 ≤ c → c < 1000000 → D.atKey (.int .i64 c) (.lit (.int .i64 0)) = .lit (.int .i64 (if c ∈ S then 1 else 0))
theorem BJ {c : Int} (h0 : 0 ≤ c) (h1 : c < 1000000) : (Lit.int .i64 c).wf = true := WalkArith.wf_i64 (by constructor <;> omega)
theorem nE.kept {W W' : World} {B n : Nat} {S : List Int} {row : Option Nat} (h : nE W B n S) (hg : W.grownBy W' row) (hne : some B ≠ row) : nE W' B n S := by
 obtain ⟨D, h1, h2⟩ := h
 exact ⟨D, h1.kept hg hne, h2⟩
theorem nE.below {W W' : World} {B n : Nat} {S : List Int} (h : nE W B n S) (hb : Below W.heap.size W W') : nE W' B n S := h.kept (rG hb none) (by simp)
theorem nE.lt {W : World} {B n : Nat} {S : List Int} (h : nE W B n S) : B < W.heap.size := by
 obtain ⟨D, h1, h2⟩ := h
 exact h1.lt
theorem LU (w : World) : (zeroValue 3).run Tryz.prog w = .ok (.int .i64 0) w := by kernel_rfl
theorem nE.look {W : World} {B n : Nat} {S : List Int} (h : nE W B n S) (c : Int) (h0 : 0 ≤ c) (h1 : c < 1000000) : (Instr.lookup 144 (.map (some B)) (.int .i64 c) false).run Tryz.prog W = .ok (.int .i64 (if c ∈ S then 1 else 0)) W := by
 obtain ⟨D, hown, hat⟩ := h
 obtain ⟨x, hr, hx, _⟩ := hown.lookup_int (t := 144) (int_keyed Tryz.underlying3) Tryz.underlying144 Tryz.underlying3 (LU W) (keyOf_int_mk Tryz.underlying3 (BJ h0 h1))
 rw [hat c h0 h1] at hx
 have e : (if c ∈ S then (1 : Int) else 0) = x := by
  have e1 := DataW.lit.inj hx
  exact (Lit.int.inj e1).2
 rw [e]
 exact hr
theorem nE.made {W : World} : nE (W.alloc (.map #[] 0)) W.heap.size 0 [] :=
 ⟨_, World.ownsMap_made _ _ _ _, fun c _ _ => by simp [DataW.atKey]⟩
theorem nE.put {W : World} {B n : Nat} {S : List Int} {D : DataW Unit} (c : Int) (h0 : 0 ≤ c) (h1 : c < 1000000) (hm : IsMap D) (hat : ∀ c : Int, 0 ≤ c → c < 1000000 → D.atKey (.int .i64 c) (.lit (.int .i64 0)) = .lit (.int .i64 (if c ∈ S then 1 else 0)))
  (hown : W.ownsMap Tryz.prog 3 (plainElem Tryz.prog 3) B n (D.put (.int .i64 c) (.lit (.int .i64 1)))) : nE W B n (S ++ [c]) := by
 refine ⟨_, hown, fun x hx0 hx1 => ?_⟩
 by_cases e : x = c
 ·subst e
  rw [atKey_put_same hm (by trivial)]
  simp
 ·rw [atKey_put_other (by intro h; injection h with _ h; exact e h), hat x hx0 hx1]
  simp [e]
theorem LV {w : World} {A : Option Addr} {n : Nat} {xs : List (List Int)} (h : Kd.C (Kd.slice 3 (Kd.int .i64)) w A n xs) (i : Int) (h0 : 0 ≤ i) (h1 : i < n) : ∃ ad A0 c0, A = some ad ∧ w.cell? (ad.add i.toNat) = some (.slice A0 (xs.getD i.toNat []).length c0) ∧ (xs.getD i.toNat []).length ≤ c0 ∧ (Kd.int .i64).C w A0 (xs.getD i.toNat []).length (xs.getD i.toNat []) := by
 obtain ⟨ad, c, e, _, hK, hc0⟩ := Kd.pK h ([] : List Int) i h0 h1
 have hc : ∀ j u, c[j]? = some u → w.cell? (ad.add (i.toNat * 1 + j)) = some u := hc0
 obtain ⟨A0, c0, rfl, l0, g0⟩ := hK
 exact ⟨ad, A0, c0, e, by have hq := hc 0 _ rfl; rwa [Nat.mul_one, Nat.add_zero] at hq, l0, g0⟩
theorem GN (rows : List (List Int)) (i : Nat) (h : i < rows.length) : (rows.take (i + 1)).flatten = (rows.take i).flatten ++ rows.getD i [] := by
 rw [List.take_add_one, List.flatten_append]
 simp [List.getElem?_eq_getElem h]
theorem JK (rows : List (List Int)) (i : Nat) : (rows.take i).flatten.length ≤ rows.flatten.length := by
 conv => rhs; rw [← List.take_append_drop i rows, List.flatten_append, List.length_append]
 omega
set_option maxHeartbeats 4000000 in
set_option maxRecDepth 100000 in
theorem JE (k : Nat) (Mc : Int) (Md : Int) (Me a1 : aj) (il : Int → Option Bool) (rows : List (List Int)) (r : Bool) (w : World)
  (hil : ∀ x b, il x = some b → ∀ V : World, Calls Tryz.prog 61 #[.int .u8 x] V fun e w' => e = .returned (.bool b) ∧ dQ V w')
  (hl : ∀ V : World, Calls Tryz.prog 40 #[.agg #[.int .i64 Mc, .int .i64 Md, .string Me]] V fun e w' => ∃ v0_ : Value, e = .returned (v0_) ∧ Kd.S (Kd.slice 3 (Kd.int .i64)) 25 w' V.heap.size (fun _ => True) v0_ rows ∧ Below V.heap.size V w')
  (h : Db il k rows Me a1 = some r) :
  Calls Tryz.prog 89 #[.agg #[.int .i64 Mc, .int .i64 Md, .string Me], .string a1] w fun e w' => e = .returned (.bool r) ∧ Below w.heap.size w w' := by
 have huG := Tryz.underlying34
 have HB := ah.mk (Below.refl w.heap.size w)
 unfold Db at h
 by_cases hcnd : rows.flatten.length < 1000000 ∧ Me.size < 1000000 ∧ rows.length < 1000000 ∧ (∀ c ∈ rows.flatten, 0 ≤ c ∧ c < 1000000)
 ·rw [if_pos hcnd] at h
  obtain ⟨hlen, hsz, hlr, hrng⟩ := hcnd
  have H := ah.mk h
  have HL := ah.mk hl
  have HIL := ah.mk hil
  have HLEN := ah.mk hlen
  have HLR := ah.mk hlr
  have HRNG := ah.mk hrng
  clear h hl hil hlen hrng hlr
  have hmm := @run_makeMap Tryz.prog
  go_enter Tryz.func89, Tryz.ntmps89
  go_upto_region 2 with (first | ((with_reducible refine aI (N := 2) rfl ?_); refine nV ?hg (N := 2) ?hd (cs := #[.int .i64 Mc, .int .i64 Md, .string Me]) (t := 34) ?hr ?_; (case hd => rfl); (case hg => rfl); (case hr => first | (go_simp; done) | (go_simp; rfl)); intro g2 hg w2 hbox hb; have n0_ := ah.mk (fZ HB.out hb); have n1_ := ah.mk (show w.heap.size ≤ g2 from by rw [hg]; exact aH HB.out); clear HB; have HB := n0_; have G2 := n1_; clear n0_ n1_; have BK2 := ah.mk hbox; clear hbox hb hg))
  clear hmm
  have m0_ := ah.mk (nE.made (W := w2))
  have m1_ := ah.mk (gZ HB.out (.map #[] 0))
  have m2_ := ah.mk (aV BK2.out (.map #[] 0))
  have m3_ := ah.mk (show w.heap.size ≤ w2.heap.size from aH HB.out)
  have m4_ := ah.mk (show g2 ≠ w2.heap.size from Nat.ne_of_lt (mV BK2.out))
  clear HB BK2
  generalize World.alloc w2 (.map #[] 0) = w3 at m0_ m1_ m2_ ⊢
  generalize w2.heap.size = B at m0_ m3_ m4_ ⊢
  have HM := m0_
  have HB := m1_
  have BK2 := m2_
  have GB := m3_
  have N2B := m4_
  clear m0_ m1_ m2_ m3_ m4_
  have hz0 : w3.cell? ⟨g2, 0, none⟩ = some (.int .i64 Mc) := (ak BK2.out 0).trans rfl
  have hz1 : w3.cell? ⟨g2, 1, none⟩ = some (.int .i64 Md) := (ak BK2.out 1).trans rfl
  have hz2 : w3.cell? ⟨g2, 2, none⟩ = some (.string Me) := (ak BK2.out 2).trans rfl
  go_wp2_with ((with_reducible refine aA (f := 40) rfl ?_); refine Dp _ rfl rfl Tryz.func40 (by kernel_rfl) rfl #[.agg #[.int .i64 Mc, .int .i64 Md, .string Me]] rfl (by (try simp only [List.map_toArray, List.map_cons, List.map_nil]); first | done | rfl) ?_; refine (HL.out _).mono ?_; rintro e w4 ⟨vl, rfl, ho, hb⟩; refine ⟨_, rfl, ?_⟩; obtain ⟨Al, cl, rfl⟩ := Kd.dI (Kd.S_R ho); have n0_ := ah.mk (fZ HB.out hb); have n1_ := ah.mk (bT BK2.out hb); have n2_ := ah.mk (HM.out.below hb); have n3_ := ah.mk (Kd.kE (Kd.CY ho) (ok' := fun k_ => k_ ≠ B) (fun k_ hk_ e_ => by have h1_ := HM.out.lt; have h2_ := hk_.2.1; omega)); clear HB BK2 HM hz0 hz1 hz2; have HB := n0_; have BK2 := n1_; have HM := n2_; have HS := n3_; clear n0_ n1_ n2_ n3_ ho hb)
  go_loopw [15] (fun v15 wr => ∃ i : Nat, v15 = .int .i64 i ∧ i ≤ rows.length ∧ ah (nE wr B (rows.take i).flatten.length (rows.take i).flatten) ∧ ah (Kd.S (Kd.slice 3 (Kd.int .i64)) 25 wr w3.heap.size (fun k_ => k_ ≠ B) (.slice Al rows.length cl) rows) ∧ ah (wr.heap[g2]? = some (.cells #[.int .i64 Mc, .int .i64 Md, .string Me] 34 (0, 0))) ∧ ah (Below w.heap.size w wr)) (fun v15 _ => rows.length + 1 - (intOf v15).toNat)
  case atStart => exact ⟨0, rfl, Nat.zero_le _, HM, HS, BK2, HB⟩
  case round =>
   clear HM HS BK2 HB
   obtain ⟨i, rfl, hile, HM, HS, BK2, HB⟩ := hrel
   by_cases c1 : i < rows.length
   ·have c1b : decide ((i : Int) < (rows.length : Int)) = true := decide_eq_true (by omega)
    have p1 : 0 ≤ (i : Int) := by omega
    have q1 : (i : Int) < (rows.length : Int) := by omega
    obtain ⟨ad, A0, c0, e1, hx, hl1, hi1⟩ := LV (Kd.iY HS.out).2.2 (i : Int) p1 (by omega)
    cases e1
    obtain ⟨ce, hce, hMe, hcc⟩ := Kd.FY HS.out [] (i : Int) p1 (by omega)
    obtain ⟨ve, rfl, ge⟩ := hMe
    have hv := hcc 0 _ rfl
    rw [Nat.add_zero, show ((Kd.slice 3 (Kd.int .i64))).sz = 1 from rfl, Nat.mul_one] at hv
    replace hv := Option.some.inj (hv.symm.trans hx)
    rw [hv] at ge
    rw [Int.toNat_natCast] at ge hx hl1 hi1
    have HI := ah.mk (Kd.dN (ok' := fun k_ => k_ ≠ B) (show Kd.R (Kd.int .i64) 3 _ _ _ _ (rows.getD i []) from ge) (fun _ hk => hk.1))
    clear hv ge hcc hce hi1 hl1
    obtain ⟨row, hrow⟩ : ∃ row, row = rows.getD i [] := ⟨_, rfl⟩
    rw [← hrow] at HI hx
    have hflat : (rows.take (i + 1)).flatten = (rows.take i).flatten ++ row := by rw [hrow]; exact GN rows i c1
    have hlen1 : (rows.take i).flatten.length + row.length ≤ rows.flatten.length := by rw [← List.length_append, ← hflat]; exact JK _ _
    have hmem : ∀ c ∈ row, c ∈ rows.flatten := fun c hc => by rw [List.mem_flatten]; exact ⟨row, by rw [hrow, List.getD_eq_getElem?_getD, List.getElem?_eq_getElem c1]; exact List.getElem_mem c1, hc⟩
    have HFL := ah.mk hflat
    have HL1 := ah.mk hlen1
    have HME := ah.mk hmem
    clear hrow hflat hlen1 hmem
    have p1' := eq_true p1
    go_wp2
    clear p1' hx c1b
    go_loopw [21] (fun v21 wq => ∃ j : Nat, v21 = .int .i64 j ∧ j ≤ row.length ∧ ah (nE wq B ((rows.take i).flatten.length + j) ((rows.take i).flatten ++ row.take j)) ∧ ah (Kd.S (Kd.slice 3 (Kd.int .i64)) 25 wq w3.heap.size (fun k_ => k_ ≠ B) (.slice (some ad) rows.length cl) rows) ∧ ah ((Kd.int .i64).R 3 wq w3.heap.size (fun k_ => k_ ≠ B) (.slice A0 row.length c0) row) ∧ ah (wq.heap[g2]? = some (.cells #[.int .i64 Mc, .int .i64 Md, .string Me] 34 (0, 0))) ∧ ah (Below w.heap.size w wq)) (fun v21 _ => row.length + 1 - (intOf v21).toNat)
    case atStart => exact ⟨0, rfl, Nat.zero_le _, ⟨by simpa using HM.out⟩, HS, HI, BK2, HB⟩
    case round =>
     clear HM HS BK2 HB HI
     obtain ⟨j, rfl, hjle, HM, HS, HI, BK2, HB⟩ := hrel
     by_cases c2 : j < row.length
     ·have c2b : decide ((j : Int) < (row.length : Int)) = true := decide_eq_true (by omega)
      have p2 : 0 ≤ (j : Int) := by omega
      have q2 : (j : Int) < (row.length : Int) := by omega
      obtain ⟨ad2, e2, hx2⟩ := Kd.nI (Kd.bY HI.out).2.2 (j : Int) p2 (by omega)
      cases e2
      rw [Int.toNat_natCast] at hx2
      obtain ⟨x, hxx⟩ : ∃ x, x = rd row (j : Int) := ⟨_, rfl⟩
      rw [← hxx] at hx2
      have hxm : x ∈ row := by
       rw [hxx]; unfold rd
       rw [Int.toNat_natCast, List.getD_eq_getElem?_getD, List.getElem?_eq_getElem c2]
       exact List.getElem_mem c2
      obtain ⟨hx0, hx1⟩ := HRNG.out x (HME.out x hxm)
      have htk : row.take (j + 1) = row.take j ++ [x] := by
       rw [List.take_add_one, hxx]; unfold rd
       simp [List.getD_eq_getElem?_getD, List.getElem?_eq_getElem c2]
      have HTK := ah.mk htk
      have hkey := keyOf_int_mk Tryz.underlying3 (BJ hx0 hx1)
      have hbnd : (rows.take i).flatten.length + j < maxLen := by have := HL1.out; have := HLEN.out; unfold maxLen; omega
      obtain ⟨D, hown, hat⟩ := HM.out
      have HAT := ah.mk hat
      have HIM := ah.mk (show IsMap D from by obtain ⟨es_, cl_, _, _, _, hD_⟩ := hown; exact ⟨_, hD_⟩)
      clear hxx hxm htk HM hat
      have p2' := eq_true p2
      go_wp2_with (at_mapUpdate; refine wpList_mapUpdate_own _ rfl _ _ _ 144 rfl 3 3 (int_keyed Tryz.underlying3) Tryz.underlying144 _ B _ D rfl hown hbnd _ _ _ rfl rfl hkey _ [] (plainElem_int Tryz.underlying3 (BJ (c := 1) (by omega) (by omega))) ?_; intro w5 hown1 hgrow1)
      have hst : ∀ k_ : Nat, k_ ≠ B → k_ < wr.heap.size → w5.heap[k_]? = wr.heap[k_]? := fun k_ hk_ hl_ => hgrow1.block k_ hl_ (by simpa using hk_)
      have hbl : Below w.heap.size w w5 := HB.out.grown hgrow1 HB.out.size (fun j_ hj_ => by cases hj_; exact GB.out)
      have hmp := nE.put x hx0 hx1 HIM.out HAT.out hown1
      rw [List.append_assoc, ← HTK.out] at hmp
      have hw : wrap64 ((j : Int) + 1) = ((j + 1 : Nat) : Int) := by have := HL1.out; have := HLEN.out; unfold wrap64; omega
      go_roundw
      case rel => exact ⟨j + 1, by rw [hw], by omega, ⟨hmp⟩, ⟨Kd.Da HS.out hst⟩, ⟨Kd.CX HI.out hst⟩, ⟨dZ BK2.out hgrow1 (by simpa using N2B.out)⟩, ⟨hbl⟩⟩
      case measure => rw [hw]; simp [intOf]; omega
     ·have hj : j = row.length := by omega
      have c2b : decide ((j : Int) < (row.length : Int)) = false := decide_eq_false (by omega)
      have hw : wrap64 ((i : Int) + 1) = ((i + 1 : Nat) : Int) := by have := HLR.out; unfold wrap64; omega
      go_wp2
      go_roundw
      case rel => exact ⟨i + 1, by rw [hw], by omega, ⟨by rw [HFL.out, List.length_append, ← hj]; have := HM.out; rw [hj, List.take_length] at this; rw [hj]; exact this⟩, HS, BK2, HB⟩
      case measure => rw [hw]; simp [intOf]; omega
   ·have hi : i = rows.length := by omega
    have c1b : decide ((i : Int) < (rows.length : Int)) = false := decide_eq_false (by omega)
    have hm := HM.out
    rw [hi, List.take_length] at hm
    clear HM HS
    have HM := ah.mk hm
    clear hm
    have hz0 : wr.cell? ⟨g2, 0, none⟩ = some (.int .i64 Mc) := (ak BK2.out 0).trans rfl
    have hz1 : wr.cell? ⟨g2, 1, none⟩ = some (.int .i64 Md) := (ak BK2.out 1).trans rfl
    have hz2 : wr.cell? ⟨g2, 2, none⟩ = some (.string Me) := (ak BK2.out 2).trans rfl
    have hsz0 : (Me.size : Int) < 1000000 := by omega
    subst hi
    clear hile c1 HLR HLEN
    go_wp2
    go_loopg [32] k (fun kq v32 w' => ∃ (c : Int), v32 = .int .i64 c ∧ ah (pq il rows.flatten Me a1 kq c = some r) ∧ ah (kq ≤ k) ∧ 0 ≤ c ∧ ah (nE w' B rows.flatten.length rows.flatten) ∧ ah (w'.heap[g2]? = some (.cells #[.int .i64 Mc, .int .i64 Md, .string Me] 34 (0, 0))) ∧ ah (Below w.heap.size w w'))
    case atStart => exact ⟨0, rfl, H, ⟨Nat.le_refl _⟩, by omega, HM, BK2, HB⟩
    case round =>
     clear hz0 hz1 hz2 HM BK2 HB H c1b
     obtain ⟨c, rfl, HA, HK1, hc0, HM, BK2, HB⟩ := hrel
     have hz0 : wr.cell? ⟨g2, 0, none⟩ = some (.int .i64 Mc) := (ak BK2.out 0).trans rfl
     have hz1 : wr.cell? ⟨g2, 1, none⟩ = some (.int .i64 Md) := (ak BK2.out 1).trans rfl
     have hz2 : wr.cell? ⟨g2, 2, none⟩ = some (.string Me) := (ak BK2.out 2).trans rfl
     cases gk with
     | zero => exact absurd HA.out (by simp [pq])
     | succ k1 =>
      have H := HA.out
      simp only [pq] at H
      clear HA
      by_cases c2 : c < (Me.size : Int)
      ·rw [if_pos c2] at H
       have hb0 := gN Me c
       have p7 := eq_true hc0
       have c2b : decide (c < (Me.size : Int)) = true := decide_eq_true c2
       have hlook := HM.out.look c hc0 (by omega)
       by_cases c3 : bt Me c = 46
       ·rw [if_pos c3] at H
        have c3b : (bt Me c == 46) = true := beq_iff_eq.mpr c3
        by_cases c4 : c ∈ rows.flatten
        ·rw [if_pos c4] at H
         rw [if_pos c4] at hlook
         have H' := ah.mk H
         clear H c3 c4
         go_wp2
         go_roundg k1
         case measure => have := HK1.out; omega
         case rel => exact ⟨c + 1, rfl, H', ⟨by have := HK1.out; omega⟩, by omega, HM, BK2, HB⟩
        ·rw [if_neg c4] at H
         rw [if_neg c4] at hlook
         by_cases c5 : c < (a1.size : Int)
         ·rw [if_pos c5] at H
          obtain ⟨bb, hbb, H⟩ := Option.bind_eq_some_iff.mp H
          have hb1 := gN a1 c
          have HBB := ah.mk (HIL.out _ _ hbb)
          have q7 := eq_true c5
          clear c3 c4 hbb
          cases bb with
          | true =>
           rw [if_pos rfl] at H
           have H' := ah.mk H
           clear H
           go_wp2_with (go_at_call 61; (with_reducible refine (HBB.out _).mono ?_); rintro e w' ⟨rfl, ⟨nd, rfl⟩⟩)
           go_roundg k1
           case measure => have := HK1.out; omega
           case rel => exact ⟨c + 1, rfl, H', ⟨by have := HK1.out; omega⟩, by omega, ⟨HM.out.below (gL (Below.refl _ _) nd)⟩, ⟨bf BK2.out nd⟩, ⟨gL HB.out nd⟩⟩
          | false =>
           rw [if_neg (by decide)] at H
           obtain rfl := Option.some.inj H
           clear H
           go_wp2_with (go_at_call 61; (with_reducible refine (HBB.out _).mono ?_); rintro e w' ⟨rfl, ⟨nd, rfl⟩⟩)
           go_ret
           exact ⟨rfl, gL HB.out nd⟩
         ·rw [if_neg c5] at H
          cases H
       ·rw [if_neg c3] at H
        have c3b : (bt Me c == 46) = false := beq_eq_false_iff_ne.mpr c3
        have H' := ah.mk H
        clear H c3
        go_wp2
        go_roundg k1
        case measure => have := HK1.out; omega
        case rel => exact ⟨c + 1, rfl, H', ⟨by have := HK1.out; omega⟩, by omega, HM, BK2, HB⟩
      ·rw [if_neg c2] at H
       have c2b : decide (c < (Me.size : Int)) = false := decide_eq_false c2
       obtain rfl := Option.some.inj H
       clear H
       go_wp2
       go_ret
       exact ⟨rfl, HB.out⟩
 ·rw [if_neg hcnd] at h
  cases h
end Go.Proofs.YtdbefmkcondbgaaGreatDoor.HandAlone
