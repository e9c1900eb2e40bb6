/- What strings.ReplaceAll makes of a text where one byte stands for another: each byte by itself. No variable of the library is read. -/
import Derived.Shelf.Strings.Replace
import Derived.Shelf.Strings.Search3
import Derived.Shelf.Strings.Count
import Derived.Test.YtdbefmkcondbgaaGreatDoorZHaOnSoShelf
namespace Go.Proofs.YtdbefmkcondbgaaGreatDoor.HandRepl
open Go.Shelf Go.RowKit Go.Lib Go.Proofs
set_option linter.unusedVariables false
set_option linter.unusedSimpArgs false
variable {P : Program} {ρ : Ren}
def Jr (x y c : UInt8) : UInt8 := if c = x then y else c
def qm (x y : UInt8) (l : List UInt8) : List UInt8 := l.map (Jr x y)
theorem wJ (x y : UInt8) : ∀ l : List UInt8, countByte l x = 0 → qm x y l = l
 | [], _ => rfl
 | c :: l, h => by
  unfold countByte at h
  rw [List.count_cons] at h
  by_cases e : (c == x) = true
  ·rw [if_pos e] at h; omega
  ·rw [if_neg e] at h
   have e' : ¬ c = x := fun q => e (by simp [q])
   have ih := wJ x y l (by unfold countByte; omega)
   unfold qm at ih ⊢
   rw [List.map_cons, ih, Jr, if_neg e']
theorem EL (x y : UInt8) : ∀ (l : List UInt8) (g : Nat), countByte l x = g + 1 →
  ∃ j : Nat, indexByte l x = (j : Int) ∧ j < l.length ∧ qm x y (l.take (j + 1)) = l.take j ++ [y] ∧ countByte (l.drop (j + 1)) x = g
 | [], g, h => by simp [countByte] at h
 | c :: l, g, h => by
  unfold countByte at h
  rw [List.count_cons] at h
  by_cases e : (c == x) = true
  ·rw [if_pos e] at h
   have e' : c = x := by simpa using e
   refine ⟨0, ?_, by simp, ?_, ?_⟩
   ·unfold indexByte; rw [if_pos e]; rfl
   ·simp [qm, Jr, e']
   ·simpa [countByte] using h
  ·rw [if_neg e] at h
   have e' : ¬ c = x := fun q => e (by simp [q])
   obtain ⟨j, h1, h2, h3, h4⟩ := EL x y l g (by unfold countByte; omega)
   refine ⟨j + 1, ?_, by simp; omega, ?_, ?_⟩
   ·unfold indexByte
    rw [if_neg e, h1, if_neg (by simp)]
    rfl
   ·rw [List.take_succ_cons, List.take_succ_cons]
    unfold qm at h3 ⊢
    rw [List.map_cons, h3, Jr, if_neg e']
    rfl
   ·rw [List.drop_succ_cons]; exact h4
theorem Jb {x y : UInt8} (h : x ≠ y) : (((⟨#[x]⟩ : ByteArray).toList == (⟨#[y]⟩ : ByteArray).toList)) = false :=
 (Lib.bytes_beq_false_iff _ _).2 fun e => h (by injection e with e; simpa using e)
theorem hid {p : Prop} (h : p) : Hid p := h
set_option maxHeartbeats 16000000 in
set_option maxRecDepth 1000000 in
theorem DK (L : Lays.n154 P ρ) (s : ByteArray) (x y : UInt8) (w : World) (hxy : x ≠ y) (hc : countByte s.data.toList x = 0) :
  Calls P (ρ.f 154) #[.string s, .string ⟨#[x]⟩, .string ⟨#[y]⟩, .int .i64 (-1)] w fun e w' => e = .returned (.string s) ∧ w' = w := by
 have hC := Any.strings_Count_one { L with } s x w
 rw [hc] at hC
 have hbeq := Jb hxy
 have hxb : (x == y) = false := by simpa using hxy
 have t3 := L.t3; have a3 := L.a3; have z3 := L.z3; have v3 := L.v3
 have t9 := L.t9; have a9 := L.a9; have z9 := L.z9; have v9 := L.v9
 have t4 := L.t4; have a4 := L.a4; have z4 := L.z4; have v4 := L.v4
 have e138 : ∀ args w, (callFunc (ρ.f 138) args).run P w = .ok (.enter (ρ.f 138) args) w := enters_of L.f138 (by kernel_rfl) rfl
 go_enter L.f154, Body.n154_ntmps ρ
 go_wp2_with (go_at_fn (ρ.f 138); refine hC.mono ?_; rintro e w' ⟨rfl, hw⟩; rw [hw])
 go_ret
 exact ⟨rfl, rfl⟩
set_option maxHeartbeats 16000000 in
set_option maxRecDepth 1000000 in
theorem DL (L : Lays.n154 P ρ) (X : Builder.Extra P ρ) (s : ByteArray) (x y : UInt8) (w : World) (hs : s.size ≤ 1048576) (hxy : x ≠ y) (K : Nat) (hc : countByte s.data.toList x = K) (hK : 1 ≤ K) :
  Calls P (ρ.f 154) #[.string s, .string ⟨#[x]⟩, .string ⟨#[y]⟩, .int .i64 (-1)] w fun e w' => e = .returned (.string ⟨(qm x y s.data.toList).toArray⟩) ∧ Below w.heap.size w w' := by
 have hC := Any.strings_Count_one { L with } s x w
 rw [hc] at hC
 have hbeq := Jb hxy
 have hxb : (x == y) = false := by simpa using hxy
 have hlen : s.data.toList.length = s.size := (Lib.size_eq s).symm
 have hKs : K ≤ s.size := by rw [← hc, ← hlen]; exact List.count_le_length
 have hK0 : ((K : Int) == 0) = false := beq_eq_false_iff_ne.2 (by omega)
 have ho : (⟨#[x]⟩ : ByteArray).size = 1 := rfl
 have hn : (⟨#[y]⟩ : ByteArray).size = 1 := rfl
 have hga : wrap64 ((s.size : Int) + wrap64 ((K : Int) * wrap64 (((⟨#[y]⟩ : ByteArray).size : Int) - ((⟨#[x]⟩ : ByteArray).size : Int)))) = ((s.size : Nat) : Int) := by
  have z1 : wrap64 0 = 0 := IntWalk.wrap64_in _ ⟨by omega, by omega⟩
  have z0 : wrap64 (1 - 1) = 0 := z1
  rw [ho, hn]
  show wrap64 ((s.size : Int) + wrap64 ((K : Int) * wrap64 (1 - 1))) = _
  rw [z0, Int.mul_zero, z1, Int.add_zero]
  exact IntWalk.wrap64_in _ ⟨by omega, by omega⟩
 have mixed := L.mixed
 have t72 := L.t72; have a72 := L.a72; have z72 := L.z72; have v72 := L.v72; have u72 := run_underlying L.t72
 have t70 := L.t70; have a70 := L.a70; have z70 := L.z70; have v70 := L.v70; have u70 := run_underlying L.t70
 have t37 := L.t37; have a37 := L.a37; have z37 := L.z37; have v37 := L.v37; have u37 := run_underlying L.t37
 have t3 := L.t3; have a3 := L.a3; have z3 := L.z3; have v3 := L.v3; have u3 := run_underlying L.t3
 have t9 := L.t9; have a9 := L.a9; have z9 := L.z9; have v9 := L.v9; have u9 := run_underlying L.t9
 have t4 := L.t4; have a4 := L.a4; have z4 := L.z4; have v4 := L.v4; have u4 := run_underlying L.t4
 have e138 : ∀ args w, (callFunc (ρ.f 138) args).run P w = .ok (.enter (ρ.f 138) args) w := enters_of L.f138 (by kernel_rfl) rfl
 have e143 : ∀ args w, (callFunc (ρ.f 143) args).run P w = .ok (.enter (ρ.f 143) args) w := enters_of L.f143 (by kernel_rfl) rfl
 have e165 : ∀ args w, (callFunc (ρ.f 165) args).run P w = .ok (.enter (ρ.f 165) args) w := enters_of L.f165 (by kernel_rfl) rfl
 have e166 : ∀ args w, (callFunc (ρ.f 166) args).run P w = .ok (.enter (ρ.f 166) args) w := enters_of L.f166 (by kernel_rfl) rfl
 have e169 : ∀ args w, (callFunc (ρ.f 169) args).run P w = .ok (.enter (ρ.f 169) args) w := enters_of L.f169 (by kernel_rfl) rfl
 go_enter L.f154, Body.n154_ntmps ρ
 go_wp2_with (go_at_fn (ρ.f 138); refine hC.mono ?_; rintro e w' ⟨rfl, hw⟩; rw [hw])
 clear hC
 try rw [hga]
 refine (Any.Builder_Grow_fresh { L with } X w.heap.size w.heap.size s.size _ (Nat.le_refl _) (heap_alloc_new w _) (by simp) (by omega)).mono ?_
 rintro e w1 ⟨rfl, hb0, hb1⟩
 have H1 := hid (Or.inr hb0 : Lib.IsBuilder (ρ.t 72) (ρ.t 5) w.heap.size w.heap.size (Lib.byteCells []) w1)
 have Hb1 := hid (((Below.refl w.heap.size w).alloc (Nat.le_refl _) _).trans hb1)
 have Hc := hid hc
 clear hb0 hb1 hga hc
 go_wp2_with fail
 go_loopg [11, 53] K (fun g s11 s53 wx => ∃ (i start : Nat), s53 = .int .i64 i ∧ s11 = .int .i64 start ∧ i + g = K ∧ start ≤ s.size ∧
  Hid (Lib.IsBuilder (ρ.t 72) (ρ.t 5) w.heap.size w.heap.size (Lib.byteCells (qm x y (s.data.toList.take start))) wx) ∧ Hid (Below w.heap.size w wx) ∧ Hid (countByte (s.data.toList.drop start) x = g))
 case atStart => exact ⟨0, 0, rfl, rfl, by omega, Nat.zero_le _, H1, Hb1, Hc⟩
 case round =>
  obtain ⟨i, start, rfl, rfl, hig, hst, HB, HW, HC⟩ := hrel
  have hBw : w.heap.size ≤ wr.heap.size := HW.out.size
  have c1 : (0 : Int) ≤ (start : Int) := by omega
  have c2 : (start : Int) ≤ (s.size : Int) := by omega
  have hal : (qm x y (s.data.toList.take start)).length = start := by simp only [qm, List.length_map, List.length_take]; omega
  cases gk with
  | zero =>
   have hiK : ¬ ((i : Int) < (K : Int)) := by omega
   have hfin := hid (show qm x y (s.data.toList.take start) ++ s.data.toList.drop start = qm x y s.data.toList by
    have h0 := wJ x y _ HC.out
    rw [← h0]
    unfold qm
    rw [← List.map_append, List.take_append_drop])
   go_wp2_with fail
   refine (Any.Builder_WriteString { L with } X w.heap.size w.heap.size _ _ wr HB.out (by rw [Lib.byteCells_length, ByteArray.size_extract]; omega) hBw).mono ?_
   rintro e w3 ⟨rfl, h3, hb3⟩
   rw [Lib.strCells_eq, Lib.extract_to_end, ← Lib.byteCells_append, hfin.out] at h3
   have H3 := hid (Or.inr h3 : Lib.IsBuilder (ρ.t 72) (ρ.t 5) w.heap.size w.heap.size _ w3)
   have Hb3 := hid (HW.out.trans hb3)
   have hBw3 : w.heap.size ≤ w3.heap.size := Hb3.out.size
   clear h3 hb3
   go_wp2_with fail
   refine (Any.Builder_String_any { L with } X w.heap.size w.heap.size _ w3 H3.out hBw3).mono ?_
   rintro e w5 ⟨rfl, hb5⟩
   have Hb5 := hid (Hb3.out.trans hb5)
   clear hb5
   go_wp2
   go_ret
   exact ⟨rfl, Hb5.out⟩
  | succ g =>
   have hiK : (i : Int) < (K : Int) := by omega
   obtain ⟨j, hj, hjl, hsub, hcnt⟩ := EL x y _ g HC.out
   rw [List.length_drop, hlen] at hjl
   have c3 : (start : Int) ≤ (start : Int) + (j : Int) := by omega
   have c4 : (start : Int) + (j : Int) ≤ (s.size : Int) := by omega
   have Hn := hid (show Lib.byteCells (qm x y (s.data.toList.take start)) ++ Lib.strCells (s.extract start (start + j)) ++ Lib.strCells ⟨#[y]⟩ = Lib.byteCells (qm x y (s.data.toList.take (start + j + 1))) by
    rw [Lib.strCells_eq, Lib.strCells_eq, Lib.extract_data, Nat.add_sub_cancel_left, ← Lib.byteCells_append, ← Lib.byteCells_append, List.append_assoc]
    congr 1
    have : s.data.toList.take (start + j + 1) = s.data.toList.take start ++ (s.data.toList.drop start).take (j + 1) := by rw [Nat.add_assoc, List.take_add]
    rw [this]
    unfold qm at hsub ⊢
    rw [List.map_append, hsub]
   )
   have Hcnt := hid (show countByte (s.data.toList.drop (start + j + 1)) x = g by rw [← hcnt, List.drop_drop, Nat.add_assoc])
   clear hsub hcnt
   go_wp2_with (first | (go_at_fn (ρ.f 143); refine (Any.strings_Index_one { L with } _ _ _).mono ?_; rintro e w' ⟨rfl, hw⟩; rw [hw, Lib.extract_to_end, hj]))
   refine (Any.Builder_WriteString { L with } X w.heap.size w.heap.size _ (s.extract start (start + j)) wr HB.out (by rw [Lib.byteCells_length, hal, ByteArray.size_extract]; omega) hBw).mono ?_
   rintro e w3 ⟨rfl, h3, hb3⟩
   have hBw3 : w.heap.size ≤ w3.heap.size := Nat.le_trans hBw hb3.size
   have H3 := hid h3
   have Hb3 := hid hb3
   clear h3 hb3
   go_wp2_with fail
   refine (Any.Builder_WriteString { L with } X w.heap.size w.heap.size _ ⟨#[y]⟩ w3 (Or.inr H3.out) (by rw [List.length_append, Lib.byteCells_length, hal, Lib.strCells_length, ByteArray.size_extract, hn]; omega) hBw3).mono ?_
   rintro e w4 ⟨rfl, h4, hb4⟩
   rw [Hn.out] at h4
   have H4 := hid (Or.inr h4 : Lib.IsBuilder (ρ.t 72) (ρ.t 5) w.heap.size w.heap.size _ w4)
   have Hb4 := hid ((HW.out.trans Hb3.out).trans hb4)
   clear h4 hb4
   go_wp2
   go_roundg g
   case measure => omega
   case rel => exact ⟨i + 1, start + j + 1, by first | rfl | (simp; unfold wrap64; omega), by first | rfl | simp | (simp; unfold wrap64; omega), by omega, by omega, H4, Hb4, Hcnt⟩
set_option maxHeartbeats 1000000 in
theorem replaceAll (L : Lays.n155 P ρ) (X : Builder.Extra P ρ) (s : ByteArray) (x y : UInt8) (w : World) (hs : s.size ≤ 1048576) (hxy : x ≠ y) :
  Calls P (ρ.f 155) #[.string s, .string ⟨#[x]⟩, .string ⟨#[y]⟩] w fun e w' => e = .returned (.string ⟨(qm x y s.data.toList).toArray⟩) ∧ Below w.heap.size w w' := by
 have c : Calls P (ρ.f 154) #[.string s, .string ⟨#[x]⟩, .string ⟨#[y]⟩, .int .i64 (-1)] w fun e w' => e = .returned (.string ⟨(qm x y s.data.toList).toArray⟩) ∧ Below w.heap.size w w' := by
  by_cases h0 : countByte s.data.toList x = 0
  ·refine (DK { L with } s x y w hxy h0).mono fun e w' ⟨h1, h2⟩ => ⟨?_, h2 ▸ Below.refl _ _⟩
   rw [h1, wJ x y _ h0, Lib.mk_data]
  ·exact DL { L with } X s x y w hs hxy _ rfl (by omega)
 have t3 := L.t3; have a3 := L.a3; have z3 := L.z3; have v3 := L.v3
 have t9 := L.t9; have a9 := L.a9; have z9 := L.z9; have v9 := L.v9
 have e154 : ∀ args w, (callFunc (ρ.f 154) args).run P w = .ok (.enter (ρ.f 154) args) w := enters_of L.f154 (by kernel_rfl) rfl
 go_enter L.f155, Body.n155_ntmps ρ
 go_wp2_with (go_at_fn (ρ.f 154); refine c.mono ?_; rintro e w' ⟨rfl, hw⟩)
 go_ret
 exact ⟨rfl, hw⟩
theorem DJ (s : ByteArray) (w : World) (hs : s.size ≤ 1048576) :
  Calls Tryz.prog 44 #[.string s, .string ⟨#[46]⟩, .string ⟨#[63]⟩] w fun e w' => e = .returned (.string ⟨(qm 46 63 s.data.toList).toArray⟩) ∧ Below w.heap.size w w' :=
 replaceAll Tryz.Gm Tryz.pJ s 46 63 w hs (by decide)
end Go.Proofs.YtdbefmkcondbgaaGreatDoor.HandRepl
