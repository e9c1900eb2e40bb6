/- alone: a local map as a set of cells; what the function comes to. Plain contracts. -/
import Derived.Test.YthjcicmmbmagbaaProg
import Derived.WalkKit
import Derived.BigGuard
import Derived.BigCall
import Derived.Below
import Derived.Maps.Own
import Derived.Maps.OwnOps
import Derived.Maps.Views
import Derived.Test.YthjcicmmbmagbaaZIsSolvedW
namespace Go.Proofs.Ythjcicmmbmagbaa.HandAlone
open Go.RowKit Go.Proofs.YthjcicmmbmagbaaW.PrintWords Go.Proofs.YthjcicmmbmagbaaW.PrintLast Go.Proofs.YthjcicmmbmagbaaW.PrintMore
set_option linter.unusedVariables false
set_option linter.unusedSimpArgs false
open Go.Maps
def aloneL (il : Int → Option Bool) (S : List Int) (s fill : ByteArray) : Nat → Int → Option Bool
  | 0, _ => none
  | k + 1, c => if c < (s.size : Int) then (if bt s c = 46 then (if c ∈ S then aloneL il S s fill k (c + 1) else (if c < (fill.size : Int) then ((il (bt fill c)).bind fun b => if b = true then aloneL il S s fill k (c + 1) else some true) else none)) else aloneL il S s fill k (c + 1)) else some false
def aloneF (il : Int → Option Bool) (k : Nat) (rows : List (List Int)) (s fill : ByteArray) : Option Bool :=
  if rows.flatten.length < 1000000 ∧ s.size < 1000000 ∧ rows.length < 1000000 ∧ (∀ c ∈ rows.flatten, 0 ≤ c ∧ c < 1000000) then aloneL il rows.flatten s fill k 0 else none
def InMap (W : World) (B n : Nat) (S : List Int) : Prop :=
  ∃ D : DataW Unit, W.ownsMap Try.prog 3 (plainElem Try.prog 3) B n D ∧ ∀ c : Int, 0 ≤ c → c < 1000000 → D.atKey (.int .i64 c) (.lit (.int .i64 0)) = .lit (.int .i64 (if c ∈ S then 1 else 0))
theorem wf_small {c : Int} (h0 : 0 ≤ c) (h1 : c < 1000000) : (Lit.int .i64 c).wf = true := WalkArith.wf_i64 (by constructor <;> omega)
theorem InMap.kept {W W' : World} {B n : Nat} {S : List Int} {row : Option Nat} (h : InMap W B n S) (hg : W.grownBy W' row) (hne : some B ≠ row) : InMap W' B n S := by
  obtain ⟨D, h1, h2⟩ := h
  exact ⟨D, h1.kept hg hne, h2⟩
theorem InMap.below {W W' : World} {B n : Nat} {S : List Int} (h : InMap W B n S) (hb : Below W.heap.size W W') : InMap W' B n S := h.kept (grown_of_below hb none) (by simp)
theorem InMap.lt {W : World} {B n : Nat} {S : List Int} (h : InMap W B n S) : B < W.heap.size := by
  obtain ⟨D, h1, h2⟩ := h
  exact h1.lt
theorem zero3 (w : World) : (zeroValue 3).run Try.prog w = .ok (.int .i64 0) w := by kernel_rfl
theorem InMap.look {W : World} {B n : Nat} {S : List Int} (h : InMap W B n S) (c : Int) (h0 : 0 ≤ c) (h1 : c < 1000000) : (Instr.lookup 175 (.map (some B)) (.int .i64 c) false).run Try.prog W = .ok (.int .i64 (if c ∈ S then 1 else 0)) W := by
  obtain ⟨D, hown, hat⟩ := h
  obtain ⟨x, hr, hx, _⟩ := hown.lookup_int (t := 175) (int_keyed Try.underlying3) Try.underlying175 Try.underlying3 (zero3 W) (keyOf_int_mk Try.underlying3 (wf_small h0 h1))
  rw [hat c h0 h1] at hx
  have e : (if c ∈ S then (1 : Int) else 0) = x := by
    have e1 := DataW.lit.inj hx
    exact (Lit.int.inj e1).2
  rw [e]
  exact hr
theorem InMap.made {W : World} : InMap (W.alloc (.map #[] 0)) W.heap.size 0 [] :=
  ⟨_, World.ownsMap_made _ _ _ _, fun c _ _ => by simp [DataW.atKey]⟩
theorem InMap.put {W : World} {B n : Nat} {S : List Int} {D : DataW Unit} (c : Int) (h0 : 0 ≤ c) (h1 : c < 1000000) (hm : IsMap D) (hat : ∀ c : Int, 0 ≤ c → c < 1000000 → D.atKey (.int .i64 c) (.lit (.int .i64 0)) = .lit (.int .i64 (if c ∈ S then 1 else 0)))
    (hown : W.ownsMap Try.prog 3 (plainElem Try.prog 3) B n (D.put (.int .i64 c) (.lit (.int .i64 1)))) : InMap W B n (S ++ [c]) := by
  refine ⟨_, hown, fun x hx0 hx1 => ?_⟩
  by_cases e : x = c
  · subst e
    rw [atKey_put_same hm (by trivial)]
    simp
  · rw [atKey_put_other (by intro h; injection h with _ h; exact e h), hat x hx0 hx1]
    simp [e]
theorem at_L {w : World} {A : Option Addr} {n : Nat} {xs : List (List Int)} (h : Kd.C (Kd.slice 3 (Kd.int .i64)) w A n xs) (i : Int) (h0 : 0 ≤ i) (h1 : i < n) : ∃ ad A0 c0, A = some ad ∧ w.cell? (ad.add i.toNat) = some (.slice A0 (xs.getD i.toNat []).length c0) ∧ (xs.getD i.toNat []).length ≤ c0 ∧ (Kd.int .i64).C w A0 (xs.getD i.toNat []).length (xs.getD i.toNat []) := by
  obtain ⟨ad, c, e, _, hK, hc0⟩ := Kd.C_get h ([] : List Int) i h0 h1
  have hc : ∀ j u, c[j]? = some u → w.cell? (ad.add (i.toNat * 1 + j)) = some u := hc0
  obtain ⟨A0, c0, rfl, l0, g0⟩ := hK
  exact ⟨ad, A0, c0, e, by have hq := hc 0 _ rfl; rwa [Nat.mul_one, Nat.add_zero] at hq, l0, g0⟩
theorem flat_snoc (rows : List (List Int)) (i : Nat) (h : i < rows.length) : (rows.take (i + 1)).flatten = (rows.take i).flatten ++ rows.getD i [] := by
  rw [List.take_add_one, List.flatten_append]
  simp [List.getElem?_eq_getElem h]
theorem flat_le (rows : List (List Int)) (i : Nat) : (rows.take i).flatten.length ≤ rows.flatten.length := by
  conv => rhs; rw [← List.take_append_drop i rows, List.flatten_append, List.length_append]
  omega
theorem flat_all (rows : List (List Int)) : (rows.take rows.length).flatten = rows.flatten := by rw [List.take_length]
set_option maxHeartbeats 4000000 in
set_option maxRecDepth 100000 in
theorem alone_u (k : Nat) (a0_0 : Int) (a0_1 : Int) (a0_2 a1 : ByteArray) (il : Int → Option Bool) (rows : List (List Int)) (r : Bool) (w : World)
    (hil : ∀ x b, il x = some b → ∀ V : World, Calls Try.prog 122 #[.int .u8 x] V fun e w' => e = .returned (.bool b) ∧ Drawn0 V w')
    (hl : ∀ V : World, Calls Try.prog 178 #[.agg #[.int .i64 a0_0, .int .i64 a0_1, .string a0_2]] V fun e w' => ∃ v0_ : Value, e = .returned (v0_) ∧ Kd.S (Kd.slice 3 (Kd.int .i64)) 45 w' V.heap.size (fun _ => True) v0_ rows ∧ Below V.heap.size V w')
    (h : aloneF il k rows a0_2 a1 = some r) :
    Calls Try.prog 142 #[.agg #[.int .i64 a0_0, .int .i64 a0_1, .string a0_2], .string a1] w fun e w' => e = .returned (.bool r) ∧ Below w.heap.size w w' := by
  have huG := Try.underlying66
  have HB := Aside0.mk (Below.refl w.heap.size w)
  unfold aloneF at h
  by_cases hcnd : rows.flatten.length < 1000000 ∧ a0_2.size < 1000000 ∧ rows.length < 1000000 ∧ (∀ c ∈ rows.flatten, 0 ≤ c ∧ c < 1000000)
  · rw [if_pos hcnd] at h
    obtain ⟨hlen, hsz, hlr, hrng⟩ := hcnd
    have H := Aside0.mk h
    have HL := Aside0.mk hl
    have HIL := Aside0.mk hil
    have HLEN := Aside0.mk hlen
    have HLR := Aside0.mk hlr
    have HRNG := Aside0.mk hrng
    clear h hl hil hlen hrng hlr
    have hmm := @run_makeMap Try.prog
    go_enter Try.func142, Try.ntmps142
    go_upto_region 2 with (first | ((with_reducible refine gate_dst (N := 2) rfl ?_); refine box_event ?hg (N := 2) ?hd (cs := #[.int .i64 a0_0, .int .i64 a0_1, .string a0_2]) (t := 66) ?hr ?_; (case hd => rfl); (case hg => rfl); (case hr => first | (go_simp; done) | (go_simp; rfl)); intro g2 hg w2 hbox hb; have n0_ := Aside0.mk (below_step HB.out hb); have n1_ := Aside0.mk (show w.heap.size ≤ g2 from by rw [hg]; exact below_size HB.out); clear HB; have HB := n0_; have G2 := n1_; clear n0_ n1_; have BK2 := Aside0.mk hbox; clear hbox hb hg))
    clear hmm
    have m0_ := Aside0.mk (InMap.made (W := w2))
    have m1_ := Aside0.mk (below_alloc HB.out (.map #[] 0))
    have m2_ := Aside0.mk (blk_alloc BK2.out (.map #[] 0))
    have m3_ := Aside0.mk (show w.heap.size ≤ w2.heap.size from below_size HB.out)
    have m4_ := Aside0.mk (show g2 ≠ w2.heap.size from Nat.ne_of_lt (blk_lt BK2.out))
    clear HB BK2
    generalize World.alloc w2 (.map #[] 0) = w3 at m0_ m1_ m2_ ⊢
    generalize w2.heap.size = B at m0_ m3_ m4_ ⊢
    have HM := m0_
    have HB := m1_
    have BK2 := m2_
    have GB := m3_
    have N2B := m4_
    clear m0_ m1_ m2_ m3_ m4_
    have hz0 : w3.cell? ⟨g2, 0, none⟩ = some (.int .i64 a0_0) := (blk_cell BK2.out 0).trans rfl
    have hz1 : w3.cell? ⟨g2, 1, none⟩ = some (.int .i64 a0_1) := (blk_cell BK2.out 1).trans rfl
    have hz2 : w3.cell? ⟨g2, 2, none⟩ = some (.string a0_2) := (blk_cell BK2.out 2).trans rfl
    go_wp2_with ((with_reducible refine gate_callee (f := 178) rfl ?_); refine goesL_ _ rfl rfl Try.func178 (by kernel_rfl) rfl #[.agg #[.int .i64 a0_0, .int .i64 a0_1, .string a0_2]] rfl (by (try simp only [List.map_toArray, List.map_cons, List.map_nil]); first | done | rfl) ?_; refine (HL.out _).mono ?_; rintro e w4 ⟨vl, rfl, ho, hb⟩; refine ⟨_, rfl, ?_⟩; obtain ⟨Al, cl, rfl⟩ := Kd.R_slice (Kd.S_R ho); have n0_ := Aside0.mk (below_step HB.out hb); have n1_ := Aside0.mk (blk_below BK2.out hb); have n2_ := Aside0.mk (HM.out.below hb); have n3_ := Aside0.mk (Kd.S_mono (Kd.S_bound ho) (ok' := fun k_ => k_ ≠ B) (fun k_ hk_ e_ => by have h1_ := HM.out.lt; have h2_ := hk_.2.1; omega)); clear HB BK2 HM hz0 hz1 hz2; have HB := n0_; have BK2 := n1_; have HM := n2_; have HS := n3_; clear n0_ n1_ n2_ n3_ ho hb)
    go_loopw [15] (fun v15 wr => ∃ i : Nat, v15 = .int .i64 i ∧ i ≤ rows.length ∧ Aside0 (InMap wr B (rows.take i).flatten.length (rows.take i).flatten) ∧ Aside0 (Kd.S (Kd.slice 3 (Kd.int .i64)) 45 wr w3.heap.size (fun k_ => k_ ≠ B) (.slice Al rows.length cl) rows) ∧ Aside0 (wr.heap[g2]? = some (.cells #[.int .i64 a0_0, .int .i64 a0_1, .string a0_2] 66 (0, 0))) ∧ Aside0 (Below w.heap.size w wr)) (fun v15 _ => rows.length + 1 - (intOf v15).toNat)
    case atStart => exact ⟨0, rfl, Nat.zero_le _, HM, HS, BK2, HB⟩
    case round =>
      clear HM HS BK2 HB
      obtain ⟨i, rfl, hile, HM, HS, BK2, HB⟩ := hrel
      by_cases c1 : i < rows.length
      · have c1b : decide ((i : Int) < (rows.length : Int)) = true := decide_eq_true (by omega)
        have p1 : 0 ≤ (i : Int) := by omega
        have q1 : (i : Int) < (rows.length : Int) := by omega
        obtain ⟨ad, A0, c0, e1, hx, hl1, hi1⟩ := at_L (Kd.S_reads' HS.out).2.2 (i : Int) p1 (by omega)
        cases e1
        obtain ⟨ce, hce, hMe, hcc⟩ := Kd.S_get HS.out [] (i : Int) p1 (by omega)
        obtain ⟨ve, rfl, ge⟩ := hMe
        have hv := hcc 0 _ rfl
        rw [Nat.add_zero, show ((Kd.slice 3 (Kd.int .i64))).sz = 1 from rfl, Nat.mul_one] at hv
        replace hv := Option.some.inj (hv.symm.trans hx)
        rw [hv] at ge
        rw [Int.toNat_natCast] at ge hx hl1 hi1
        have HI := Aside0.mk (Kd.R_mono (ok' := fun k_ => k_ ≠ B) (show Kd.R (Kd.int .i64) 3 _ _ _ _ (rows.getD i []) from ge) (fun _ hk => hk.1))
        clear hv ge hcc hce hi1 hl1
        obtain ⟨row, hrow⟩ : ∃ row, row = rows.getD i [] := ⟨_, rfl⟩
        rw [← hrow] at HI hx
        have hflat : (rows.take (i + 1)).flatten = (rows.take i).flatten ++ row := by rw [hrow]; exact flat_snoc rows i c1
        have hlen1 : (rows.take i).flatten.length + row.length ≤ rows.flatten.length := by rw [← List.length_append, ← hflat]; exact flat_le _ _
        have hmem : ∀ c ∈ row, c ∈ rows.flatten := fun c hc => by rw [List.mem_flatten]; exact ⟨row, by rw [hrow, List.getD_eq_getElem?_getD, List.getElem?_eq_getElem c1]; exact List.getElem_mem c1, hc⟩
        have HFL := Aside0.mk hflat
        have HL1 := Aside0.mk hlen1
        have HME := Aside0.mk hmem
        clear hrow hflat hlen1 hmem
        have p1' := eq_true p1
        go_wp2
        clear p1' hx c1b
        go_loopw [21] (fun v21 wq => ∃ j : Nat, v21 = .int .i64 j ∧ j ≤ row.length ∧ Aside0 (InMap wq B ((rows.take i).flatten.length + j) ((rows.take i).flatten ++ row.take j)) ∧ Aside0 (Kd.S (Kd.slice 3 (Kd.int .i64)) 45 wq w3.heap.size (fun k_ => k_ ≠ B) (.slice (some ad) rows.length cl) rows) ∧ Aside0 ((Kd.int .i64).R 3 wq w3.heap.size (fun k_ => k_ ≠ B) (.slice A0 row.length c0) row) ∧ Aside0 (wq.heap[g2]? = some (.cells #[.int .i64 a0_0, .int .i64 a0_1, .string a0_2] 66 (0, 0))) ∧ Aside0 (Below w.heap.size w wq)) (fun v21 _ => row.length + 1 - (intOf v21).toNat)
        case atStart => exact ⟨0, rfl, Nat.zero_le _, ⟨by simpa using HM.out⟩, HS, HI, BK2, HB⟩
        case round =>
          clear HM HS BK2 HB HI
          obtain ⟨j, rfl, hjle, HM, HS, HI, BK2, HB⟩ := hrel
          by_cases c2 : j < row.length
          · have c2b : decide ((j : Int) < (row.length : Int)) = true := decide_eq_true (by omega)
            have p2 : 0 ≤ (j : Int) := by omega
            have q2 : (j : Int) < (row.length : Int) := by omega
            obtain ⟨ad2, e2, hx2⟩ := Kd.at_int (Kd.R_reads' HI.out).2.2 (j : Int) p2 (by omega)
            cases e2
            rw [Int.toNat_natCast] at hx2
            obtain ⟨x, hxx⟩ : ∃ x, x = rd row (j : Int) := ⟨_, rfl⟩
            rw [← hxx] at hx2
            have hxm : x ∈ row := by
              rw [hxx]; unfold rd
              rw [Int.toNat_natCast, List.getD_eq_getElem?_getD, List.getElem?_eq_getElem c2]
              exact List.getElem_mem c2
            obtain ⟨hx0, hx1⟩ := HRNG.out x (HME.out x hxm)
            have htk : row.take (j + 1) = row.take j ++ [x] := by
              rw [List.take_add_one, hxx]; unfold rd
              simp [List.getD_eq_getElem?_getD, List.getElem?_eq_getElem c2]
            have HTK := Aside0.mk htk
            have hkey := keyOf_int_mk Try.underlying3 (wf_small hx0 hx1)
            have hbnd : (rows.take i).flatten.length + j < maxLen := by have := HL1.out; have := HLEN.out; unfold maxLen; omega
            obtain ⟨D, hown, hat⟩ := HM.out
            have HAT := Aside0.mk hat
            have HIM := Aside0.mk (show IsMap D from by obtain ⟨es_, cl_, _, _, _, hD_⟩ := hown; exact ⟨_, hD_⟩)
            clear hxx hxm htk HM hat
            have p2' := eq_true p2
            go_wp2_with (at_mapUpdate; refine wpList_mapUpdate_own _ rfl _ _ _ 175 rfl 3 3 (int_keyed Try.underlying3) Try.underlying175 _ B _ D rfl hown hbnd _ _ _ rfl rfl hkey _ [] (plainElem_int Try.underlying3 (wf_small (c := 1) (by omega) (by omega))) ?_; intro w5 hown1 hgrow1)
            have hst : ∀ k_ : Nat, k_ ≠ B → k_ < wr.heap.size → w5.heap[k_]? = wr.heap[k_]? := fun k_ hk_ hl_ => hgrow1.block k_ hl_ (by simpa using hk_)
            have hbl : Below w.heap.size w w5 := HB.out.grown hgrow1 HB.out.size (fun j_ hj_ => by cases hj_; exact GB.out)
            have hmp := InMap.put x hx0 hx1 HIM.out HAT.out hown1
            rw [List.append_assoc, ← HTK.out] at hmp
            have hw : wrap64 ((j : Int) + 1) = ((j + 1 : Nat) : Int) := by have := HL1.out; have := HLEN.out; unfold wrap64; omega
            go_roundw
            case rel => exact ⟨j + 1, by rw [hw], by omega, ⟨hmp⟩, ⟨Kd.S_step HS.out hst⟩, ⟨Kd.R_step HI.out hst⟩, ⟨blk_grown BK2.out hgrow1 (by simpa using N2B.out)⟩, ⟨hbl⟩⟩
            case measure => rw [hw]; simp [intOf]; omega
          · have hj : j = row.length := by omega
            have c2b : decide ((j : Int) < (row.length : Int)) = false := decide_eq_false (by omega)
            have hw : wrap64 ((i : Int) + 1) = ((i + 1 : Nat) : Int) := by have := HLR.out; unfold wrap64; omega
            go_wp2
            go_roundw
            case rel => exact ⟨i + 1, by rw [hw], by omega, ⟨by rw [HFL.out, List.length_append, ← hj]; have := HM.out; rw [hj, List.take_length] at this; rw [hj]; exact this⟩, HS, BK2, HB⟩
            case measure => rw [hw]; simp [intOf]; omega
      · have hi : i = rows.length := by omega
        have c1b : decide ((i : Int) < (rows.length : Int)) = false := decide_eq_false (by omega)
        have hm := HM.out
        rw [hi, List.take_length] at hm
        clear HM HS
        have HM := Aside0.mk hm
        clear hm
        have hz0 : wr.cell? ⟨g2, 0, none⟩ = some (.int .i64 a0_0) := (blk_cell BK2.out 0).trans rfl
        have hz1 : wr.cell? ⟨g2, 1, none⟩ = some (.int .i64 a0_1) := (blk_cell BK2.out 1).trans rfl
        have hz2 : wr.cell? ⟨g2, 2, none⟩ = some (.string a0_2) := (blk_cell BK2.out 2).trans rfl
        have hsz0 : (a0_2.size : Int) < 1000000 := by omega
        subst hi
        clear hile c1 HLR HLEN
        go_wp2
        go_loopg [32] k (fun kq v32 w' => ∃ (c : Int), v32 = .int .i64 c ∧ Aside0 (aloneL il rows.flatten a0_2 a1 kq c = some r) ∧ Aside0 (kq ≤ k) ∧ 0 ≤ c ∧ Aside0 (InMap w' B rows.flatten.length rows.flatten) ∧ Aside0 (w'.heap[g2]? = some (.cells #[.int .i64 a0_0, .int .i64 a0_1, .string a0_2] 66 (0, 0))) ∧ Aside0 (Below w.heap.size w w'))
        case atStart => exact ⟨0, rfl, H, ⟨Nat.le_refl _⟩, by omega, HM, BK2, HB⟩
        case round =>
          clear hz0 hz1 hz2 HM BK2 HB H c1b
          obtain ⟨c, rfl, HA, HK1, hc0, HM, BK2, HB⟩ := hrel
          have hz0 : wr.cell? ⟨g2, 0, none⟩ = some (.int .i64 a0_0) := (blk_cell BK2.out 0).trans rfl
          have hz1 : wr.cell? ⟨g2, 1, none⟩ = some (.int .i64 a0_1) := (blk_cell BK2.out 1).trans rfl
          have hz2 : wr.cell? ⟨g2, 2, none⟩ = some (.string a0_2) := (blk_cell BK2.out 2).trans rfl
          cases gk with
          | zero => exact absurd HA.out (by simp [aloneL])
          | succ k1 =>
            have H := HA.out
            simp only [aloneL] at H
            clear HA
            by_cases c2 : c < (a0_2.size : Int)
            · rw [if_pos c2] at H
              have hb0 := bt_at a0_2 c
              have p7 := eq_true hc0
              have c2b : decide (c < (a0_2.size : Int)) = true := decide_eq_true c2
              have hlook := HM.out.look c hc0 (by omega)
              by_cases c3 : bt a0_2 c = 46
              · rw [if_pos c3] at H
                have c3b : (bt a0_2 c == 46) = true := beq_iff_eq.mpr c3
                by_cases c4 : c ∈ rows.flatten
                · rw [if_pos c4] at H
                  rw [if_pos c4] at hlook
                  have H' := Aside0.mk H
                  clear H c3 c4
                  go_wp2
                  go_roundg k1
                  case measure => have := HK1.out; omega
                  case rel => exact ⟨c + 1, rfl, H', ⟨by have := HK1.out; omega⟩, by omega, HM, BK2, HB⟩
                · rw [if_neg c4] at H
                  rw [if_neg c4] at hlook
                  by_cases c5 : c < (a1.size : Int)
                  · rw [if_pos c5] at H
                    obtain ⟨bb, hbb, H⟩ := Option.bind_eq_some_iff.mp H
                    have hb1 := bt_at a1 c
                    have HBB := Aside0.mk (HIL.out _ _ hbb)
                    have q7 := eq_true c5
                    clear c3 c4 hbb
                    cases bb with
                    | true =>
                      rw [if_pos rfl] at H
                      have H' := Aside0.mk H
                      clear H
                      go_wp2_with (go_at_call 122; (with_reducible refine (HBB.out _).mono ?_); rintro e w' ⟨rfl, ⟨nd, rfl⟩⟩)
                      go_roundg k1
                      case measure => have := HK1.out; omega
                      case rel => exact ⟨c + 1, rfl, H', ⟨by have := HK1.out; omega⟩, by omega, ⟨HM.out.below (pw_below_drewN (Below.refl _ _) nd)⟩, ⟨blk_drewN BK2.out nd⟩, ⟨pw_below_drewN HB.out nd⟩⟩
                    | false =>
                      rw [if_neg (by decide)] at H
                      obtain rfl := Option.some.inj H
                      clear H
                      go_wp2_with (go_at_call 122; (with_reducible refine (HBB.out _).mono ?_); rintro e w' ⟨rfl, ⟨nd, rfl⟩⟩)
                      go_ret
                      exact ⟨rfl, pw_below_drewN HB.out nd⟩
                  · rw [if_neg c5] at H
                    cases H
              · rw [if_neg c3] at H
                have c3b : (bt a0_2 c == 46) = false := beq_eq_false_iff_ne.mpr c3
                have H' := Aside0.mk H
                clear H c3
                go_wp2
                go_roundg k1
                case measure => have := HK1.out; omega
                case rel => exact ⟨c + 1, rfl, H', ⟨by have := HK1.out; omega⟩, by omega, HM, BK2, HB⟩
            · rw [if_neg c2] at H
              have c2b : decide (c < (a0_2.size : Int)) = false := decide_eq_false c2
              obtain rfl := Option.some.inj H
              clear H
              go_wp2
              go_ret
              exact ⟨rfl, HB.out⟩
  · rw [if_neg hcnd] at h
    cases h
end Go.Proofs.Ythjcicmmbmagbaa.HandAlone
