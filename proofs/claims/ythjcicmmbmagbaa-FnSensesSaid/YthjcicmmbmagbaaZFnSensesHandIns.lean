/- What slices.Clone and slices.Insert leave of a row of meanings (two cells each): a row of the call's own. Plain contracts. -/
import Derived.Test.YthjcicmmbmagbaaProg
import Derived.Shelf.Spec.SlicesInsertGrow
import Derived.ArgAppend
import Derived.WalkKit
import Derived.Lib.Hide
import Derived.BigGuard
import Derived.BigCall
import Derived.Below
import Derived.Test.YthjcicmmbmagbaaZFnSensesW
namespace Go.Proofs.Ythjcicmmbmagbaa.HandIns
open Go.RowKit Go.Proofs Go.Lib Go.Proofs.YthjcicmmbmagbaaW.PrintWords Go.Proofs.YthjcicmmbmagbaaW.PrintLast Go.Proofs.YthjcicmmbmagbaaW.PrintMore
set_option linter.unusedVariables false
set_option linter.unusedSimpArgs false
def jA (cur : Array Value) : Nat → List Value → Array Value
 | _, [] => cur
 | o, v :: r => jA (cur.setIfInBounds o v) (o + 1) r
theorem iB : ∀ (vs : List Value) (o : Nat) (cur : Array Value), (jA cur o vs).size = cur.size
 | [], _, _ => rfl
 | v :: r, o, cur => by rw [jA, iB r]; simp
theorem iA : ∀ (vs : List Value) (o : Nat) (cur : Array Value), o + vs.length ≤ cur.size → (jA cur o vs).toList = cur.toList.take o ++ vs ++ cur.toList.drop (o + vs.length)
 | [], o, cur, _ => by simp [jA]
 | v :: r, o, cur, h => by
  simp only [List.length_cons] at h
  rw [jA, iA r (o + 1) _ (by simp; omega)]
  simp only [Array.toList_setIfInBounds, List.length_cons]
  have ho : o < cur.toList.length := by simp; omega
  rw [List.take_add_one, List.getElem?_set_self ho, List.take_set_of_le (Nat.le_refl _), List.drop_set_of_lt (by omega)]
  simp [Nat.add_assoc, Nat.add_comm 1]
theorem gV (b : Nat) {e : TypeId} {fz : Nat × Nat} : ∀ (vs : List Value) (o : Nat) (w : World) (cur : Array Value), w.heap[b]? = some (.cells cur e fz) → (w.setCells b o vs).heap[b]? = some (.cells (jA cur o vs) e fz)
 | [], _, _, _, h => h
 | v :: r, o, w, cur, h => by
  rw [World.setCells, jA]
  refine gV b r (o + 1) _ _ ?_
  simp [World.setCell, Array.getElem?_modify, h]
theorem iZ {a w : World} {row : Option Nat} (h : a.grownBy w row) : a.grownBy w.drew row := ⟨h.os, h.tape, h.output, h.size, h.block⟩
theorem iC {a : World} {b : Nat} {row : Option Nat} (hb : row = some b ∨ a.heap.size ≤ b) : ∀ (vs : List Value) (o : Nat) (w : World), a.grownBy w row → a.grownBy (w.setCells b o vs) row
 | [], _, _, h => h
 | v :: r, o, w, h => by
  refine iC hb r (o + 1) _ ⟨h.os, h.tape, h.output, by simpa [World.setCell] using h.size, fun k hk hne => ?_⟩
  rw [← h.block k hk hne]
  have : ¬ b = k := by
   rintro rfl
   rcases hb with hb | hb
   ·exact hne hb.symm
   ·omega
  simp [World.setCell, Array.getElem?_modify, this]
theorem iy {P : Program} (w : World) (dT sT ty elem : TypeId) (k b o dLen dCap : Nat) (a : Addr) (sLen sCap : Nat) (cs : List Value)
  (hu : P.underlying dT = some (.slice elem)) (hs : (P.info? elem).map (·.size) = some k) (hn : cs.length = Nat.min sLen dLen * k)
  (hsrc : ∀ j v, cs[j]? = some v → w.cell? (a.add j) = some v) (hc : ∀ j, j < cs.length → (w.cell? ⟨b, o + j, none⟩).isSome = true) (hf : ∀ j, j < cs.length → w.frozen? ⟨b, o + j, none⟩ = false) (h1 : ∀ v ∈ cs, v.oneCell' = true) :
  (Builtin.copy_ #[dT, sT] ty #[.slice (some ⟨b, o, none⟩) dLen dCap, .slice (some a) sLen sCap]).run P w = .ok (goInt (Nat.min sLen dLen)) (w.setCells b o cs) := by
 have hl := run_loadCells_list (P := P) w a cs hsrc
 have hst := run_storeCells_cells (P := P) b o cs 0 w (by simpa using hc) (by simpa using hf) h1
 cases hq : P.info? elem with
 | none => simp [hq] at hs
 | some i =>
  have hi : i.size = k := by simpa [hq] using hs
  simp [Builtin.copy_, run_underlying hu, Builtin.lenOf, Builtin.firstCells, sizeOf, typeInfo, hq, hi, ← hn, hl, hst]
theorem l6 : (Try.prog.info? 31).map (fun i => (i.zero, i.size, i.bytes)) = some (some (.agg #[.string ⟨#[]⟩, .int .i64 0]), 2, 24) := by kernel_rfl
set_option maxHeartbeats 4000000 in
set_option maxRecDepth 100000 in
theorem qI (A0 : Option Addr) (n c0 : Nat) (cs : List Value) (w : World) (hl : cs.length = n * 2) (hcs : ∀ a, A0 = some a → ∀ j v, cs[j]? = some v → w.cell? (a.add j) = some v)
  (h1 : ∀ u ∈ cs, u.oneCell' = true) (hnil : A0 = none → n = 0) (hbig : n * 24 ≤ 140737488355328) :
  Calls Try.prog 55 #[.slice A0 n c0] w fun e w' => ∃ v : Value, e = .returned v ∧ w'.ownsRow w.heap.size 31 2 v n cs ∧ Below w.heap.size w w' := by
 have huL := Try.underlying27
 obtain ⟨i0, hi0, hz0, hz1, hz2⟩ := info_parts l6
 have q22 : ∀ (w : World) (a : Option Addr) (n c n' c' : Nat), (binOp .eql 27 (.slice a n c) (.slice none n' c')).run Try.prog w = .ok (.bool a.isNone) w := fun w a n c n' c' => Lib.run_eql_slice_nil w _ _ a n c n' c' huL
 cases A0 with
 | none =>
  obtain rfl := hnil rfl
  obtain rfl := List.length_eq_zero_iff.1 (by simpa using hl)
  clear hi0 hz0 hz1 hz2 hl h1 hcs hnil
  go_enter Try.func55, Try.ntmps55
  go_wp2
  go_ret
  exact ⟨_, rfl, World.ownsRow_nil _ _ _ _, Below.refl _ _⟩
 | some a =>
  have A : Aside (∀ j v, cs[j]? = some v → w.cell? (a.add j) = some v) := hcs a rfl
  have H1 : Aside (∀ u ∈ cs, u.oneCell' = true) := h1
  have HL : Aside (cs.length = n * 2) := hl
  clear hcs hnil h1 hl
  go_enter Try.func55, Try.ntmps55
  go_wp2_with (at_builtin; refine wpList_append_own _ rfl _ _ 27 rfl w.heap.size 31 i0 (.agg #[.string ⟨#[]⟩, .int .i64 0]) 2 24 huL hi0 hz0 hz1 hz2 rfl (by decide) _ _ _ rfl (World.ownsRow_made w #[] 0 (Nat.le_refl _) (Nat.zero_le _) rfl) a n c0 cs rfl ?qc1 ?qc2 ?qc3 ?qc4 ?qc5 ?qc6 ?_)
  case qc1 => exact HL.out
  case qc2 =>
   intro j u hj
   refine Lib.cell?_alloc_some _ ?_
   exact A.out j u hj
  case qc3 => exact H1.out
  case qc4 => unfold maxLen; omega
  case qc5 => omega
  case qc6 => simp
  intro v' w1 hown hgrow hnil
  go_wp2
  go_ret
  refine ⟨v', rfl, by simpa using hown, ?_⟩
  exact ((Below.refl _ w).alloc (Nat.le_refl _) _).grown hgrow (by simp) (by intro k hk; simp [Value.ownBlock] at hk; omega)
theorem qP (X : Array Value) (A vs B : List Value) (a b : Nat) (hA : X.toList.take a = A) (ha : A.length = a) (hb : b = a + vs.length) (hs : b + B.length ≤ X.size) :
  (jA (jA X a vs) b B).toList.take (b + B.length) = A ++ vs ++ B := by
 have h1 : (jA X a vs).toList = A ++ vs ++ X.toList.drop b := by rw [iA vs a X (by omega), hA, hb]
 have h2 : (jA X a vs).toList.take b = A ++ vs := by rw [h1, List.take_left' (by simp only [List.length_append, ha, hb])]
 rw [iA B b _ (by rw [iB]; exact hs), h2, List.take_left' (by simp only [List.length_append, ha, hb])]
theorem qH (X : Array Value) (A vs B : List Value) (a b : Nat) (hA : X.toList.take a = A) (ha : A.length = a) (hb : b = a + vs.length) (hs : b + B.length ≤ X.size) :
  (jA (jA X b B) a vs).toList.take (b + B.length) = A ++ vs ++ B := by
 have hX : (jA X b B).toList = X.toList.take b ++ B ++ X.toList.drop (b + B.length) := iA B b X hs
 have hl : (X.toList.take b).length = b := by simp; omega
 have h1 : (jA X b B).toList.take a = A := by rw [hX, List.append_assoc, List.take_append_of_le_length (by omega), List.take_take, Nat.min_eq_left (by omega), hA]
 have h2 : (jA X b B).toList.drop (a + vs.length) = B ++ X.toList.drop (b + B.length) := by rw [hX, ← hb, List.append_assoc, List.drop_left' hl]
 rw [iA vs a _ (by rw [iB]; omega), h1, h2, ← List.append_assoc, List.take_left' (by simp [ha]; omega)]
set_option maxHeartbeats 4000000 in
set_option maxRecDepth 100000 in
theorem oK (b n c vb vc B : Nat) (cs vs : List Value) (cur vcur : Array Value) (w : World) (hb : w.heap[b]? = some (.cells cur 31 (0, 0))) (hcur : cur.size = c * 2) (hnc : n ≤ c) (hcm : c ≤ maxLen) (htk : cur.toList.take (n * 2) = cs)
  (hvb : w.heap[vb]? = some (.cells vcur 31 (0, 0))) (hv1 : 1 ≤ vc) (hvs : vcur.toList.take 2 = vs) (hvl : vs.length = 2) (hB : B ≤ b) (hBw : B ≤ w.heap.size) (hbig : (n + 1) * 24 ≤ 140737488355328) (h1c : ∀ u ∈ cs, u.oneCell' = true) (h1v : ∀ u ∈ vs, u.oneCell' = true) :
  Calls Try.prog 57 #[.slice (some ⟨b, 0, none⟩) n c, .int .i64 n, .slice (some ⟨vb, 0, none⟩) 1 vc] w fun e w' => ∃ v : Value, e = .returned v ∧ w'.ownsRow B 31 2 v (n + 1) (cs ++ vs) ∧ w.grownBy w' (some b) ∧ (v.ownBlock = some b ∨ ∃ g, v.ownBlock = some g ∧ w.heap.size ≤ g) := by
 have huL := Try.underlying27
 obtain ⟨i0, hi0, hz0, hz1, hz2⟩ := info_parts l6
 have hcl : cs.length = n * 2 := by rw [← htk]; simp; omega
 have HC : Aside (∀ j u, cs[j]? = some u → w.cell? ⟨b, j, none⟩ = some u) := fun j u hj => by
  rw [← htk, List.getElem?_take] at hj
  split at hj
  ·simpa [World.cell?, hb] using hj
  ·cases hj
 have HV : Aside (∀ j u, vs[j]? = some u → w.cell? ⟨vb, j, none⟩ = some u) := fun j u hj => by
  rw [← hvs, List.getElem?_take] at hj
  split at hj
  ·simpa [World.cell?, hvb] using hj
  ·cases hj
 have HB : Aside (w.heap[b]? = some (.cells cur 31 (0, 0))) := hb
 have HCUR : Aside (cur.size = c * 2) := hcur
 have HTK : Aside (cur.toList.take (n * 2) = cs) := htk
 have HVL : Aside (vs.length = 2) := hvl
 have HCL : Aside (cs.length = n * 2) := hcl
 have H1C : Aside (∀ u ∈ cs, u.oneCell' = true) := h1c
 have H1V : Aside (∀ u ∈ vs, u.oneCell' = true) := h1v
 clear hb hcur htk hvb hvs hvl hcl h1c h1v
 have hsrc : Src Try.prog i0.size 27 (.slice (some ⟨vb, 0, none⟩) 1 vc) 1 vs w := by
  rw [hz1]
  exact Src.ofSlice w huL ⟨vb, 0, none⟩ 1 vc vs (by rw [HVL.out]) (fun j u hj => by rw [Addr.add_lit, Nat.zero_add]; exact HV.out j u hj) H1V.out
 by_cases hroom : n + 1 ≤ c
 ·go_enter Try.func57, Try.ntmps57
  go_wp2_with (at_builtin; refine wpList_append_room_src _ rfl _ _ 27 27 rfl 31 i0 huL hi0 b 0 n c rfl _ rfl 1 vs hsrc hroom ?c1 ?c2 ?_)
  case c1 =>
   intro j hj
   have hlt : n * 2 + j < cur.size := by rw [HCUR.out]; have := HVL.out; omega
   rw [hz1, Nat.zero_add]; simp [World.cell?, HB.out, hlt]
  case c2 => intro j hj; simp [World.frozen?, HB.out]
  try simp only [hz1, Nat.zero_add]
  go_ret
  refine ⟨_, rfl, ⟨by rw [List.length_append, HCL.out, HVL.out]; omega, .inr ⟨b, c, jA cur (n * 2) vs, rfl, hB, gV b vs (n * 2) w cur HB.out, hroom, hcm, by rw [iB]; exact HCUR.out, ?_⟩⟩, iC (.inl rfl) _ _ _ (World.grownBy.refl w _), .inl rfl⟩
  have hh := HVL.out
  have hcu := HCUR.out
  rw [iA vs (n * 2) cur (by omega), HTK.out, show (n + 1) * 2 = (cs ++ vs).length by rw [List.length_append, HCL.out, hh]; omega, List.take_left' rfl]
 ·have hg : c < n + 1 := by omega
  have hcn : c = n := by omega
  have hold : (Builtin.firstCells i0.size n (.slice (some ⟨b, 0, none⟩) n c)).run Try.prog w.drew = .ok cs.toArray w.drew := by
   rw [hz1]
   exact run_firstCells_some w.drew 2 n ⟨b, 0, none⟩ n c cs HCL.out (fun j v hj => by rw [Addr.add_lit, Nat.zero_add]; exact HC.out j v hj)
  have hrun : ∀ ty, (Builtin.append_ #[27, 27] ty #[.slice (some ⟨b, 0, none⟩) n c, .slice (some ⟨vb, 0, none⟩) 1 vc]).run Try.prog w = _ := fun ty =>
   run_append_grow_src w 27 27 ty 31 i0 _ huL hi0 hz0 (some ⟨b, 0, none⟩) n c cs hold _ 1 vs hsrc hg (by omega) (by rw [hz2]; exact growslice_fits hg hbig)
  have hge := grownCap_ge w (n + 1) c 31
  have hle := grownCap_le_maxLen w (n + 1) c 31 (by unfold maxLen; omega)
  obtain ⟨G, hG⟩ : ∃ G, G = grownCap w (n + 1) c 31 := ⟨_, rfl⟩
  rw [← hG] at hrun hge hle
  obtain ⟨ROW, hROW⟩ : ∃ ROW : Array Value, ROW = (cs ++ vs).toArray ++ Builtin.zeroCells (Value.agg #[.string ⟨#[]⟩, .int .i64 0]).cells (G - (n + 1)) := ⟨_, rfl⟩
  rw [← hROW] at hrun
  have hRs : ROW.size = G * 2 := by
   have h2 := HVL.out
   rw [hROW]
   simp [size_zeroCells, HCL.out, h2, Value.cells]
   omega
  have hRt : ROW.toList.take ((n + 1) * 2) = cs ++ vs := by
   rw [hROW, Array.toList_append, show (n + 1) * 2 = (cs ++ vs).length by rw [List.length_append, HCL.out, HVL.out]; omega]
   exact List.take_left
  have HRUN := Lib.hid hrun
  have HRS := Lib.hid hRs
  have HRT := Lib.hid hRt
  clear hrun hRs hRt hROW hG hsrc hold
  go_enter Try.func57, Try.ntmps57
  go_wp2_with (at_builtin; refine Lib.wpList_append_run _ rfl _ _ _ _ rfl _ _ rfl rfl _ _ (HRUN.out _) ?_)
  go_ret
  refine ⟨_, rfl, ⟨by rw [List.length_append, HCL.out, HVL.out]; omega, .inr ⟨w.heap.size, G, ROW, rfl, hBw, heap_alloc_new w.drew _, hge, hle, HRS.out, HRT.out⟩⟩, iZ (World.grownBy_alloc w _ _), .inr ⟨_, rfl, Nat.le_refl _⟩⟩
set_option maxHeartbeats 4000000 in
set_option maxRecDepth 100000 in
theorem mY (b n c i vb vc B : Nat) (cs vs : List Value) (cur vcur : Array Value) (w : World) (hi : i < n) (hb : w.heap[b]? = some (.cells cur 31 (0, 0))) (hcur : cur.size = c * 2) (hnc : n ≤ c) (hcm : c ≤ maxLen) (htk : cur.toList.take (n * 2) = cs)
  (hvb : w.heap[vb]? = some (.cells vcur 31 (0, 0))) (hv1 : 1 ≤ vc) (hvz : vcur.size ≠ 0) (hne : vb ≠ b) (hvs : vcur.toList.take 2 = vs) (hvl : vs.length = 2) (hB : B ≤ b) (hBw : B ≤ w.heap.size) (hbig : (n + 1) * 24 ≤ 140737488355328) (h1c : ∀ u ∈ cs, u.oneCell' = true) (h1v : ∀ u ∈ vs, u.oneCell' = true) (hroom : n + 1 ≤ c) :
  Calls Try.prog 57 #[.slice (some ⟨b, 0, none⟩) n c, .int .i64 i, .slice (some ⟨vb, 0, none⟩) 1 vc] w fun e w' => ∃ v : Value, e = .returned v ∧ w'.ownsRow B 31 2 v (n + 1) (cs.take (i * 2) ++ vs ++ cs.drop (i * 2)) ∧ w.grownBy w' (some b) ∧ (v.ownBlock = some b ∨ ∃ g, v.ownBlock = some g ∧ w.heap.size ≤ g) := by
 have huL := Try.underlying27
 obtain ⟨i0, hi0, hz0, hz1, hz2⟩ := info_parts l6
 have hsz : (Try.prog.info? 31).map (·.size) = some 2 := by rw [hi0]; simp [hz1]
 have hsz2 : ∀ w, (Go.sizeOf 31).run Try.prog w = .ok 2 w := fun w => by simp [sizeOf, typeInfo, hi0, hz1]
 have hcl : cs.length = n * 2 := by rw [← htk]; simp; omega
 have hC : ∀ j u, cs[j]? = some u → w.cell? ⟨b, j, none⟩ = some u := fun j u hj => by
  rw [← htk, List.getElem?_take] at hj
  split at hj
  ·simpa [World.cell?, hb] using hj
  ·cases hj
 have hV : ∀ j u, vs[j]? = some u → w.cell? ⟨vb, j, none⟩ = some u := fun j u hj => by
  rw [← hvs, List.getElem?_take] at hj
  split at hj
  ·simpa [World.cell?, hvb] using hj
  ·cases hj
 have hbs : ∀ k, k < c * 2 → (w.cell? ⟨b, k, none⟩).isSome = true := fun k hk => by simp [World.cell?, hb, hcur, hk]
 have hbf : ∀ k, w.frozen? ⟨b, k, none⟩ = false := fun k => by simp [World.frozen?, hb]
 have hz2' : ¬ ((i : Int) = (n : Int)) := by omega
 have hw1 : IntKind.i64.wrap ((i : Int) + 1) = (i : Int) + 1 := by rw [IntKind.wrap_i64]; unfold maxLen at hcm; omega
 have hb1 : (0 : Int) ≤ (i : Int) + 1 := by omega
 have hin : i ≤ n := by omega
 have htn : ((i : Int) + 1).toNat = i + 1 := by omega
 have hb2 : ¬ (c = i + 1) := by omega
 have hb3 : (i : Int) ≤ (n : Int) + 1 := by omega
 have hb4 : ¬ (c = i) := by omega
 have hc63 : c ≤ 9223372036854775807 := by unfold maxLen at hcm; omega
 have hov : ∀ lb cb, (callFunc 115 #[.slice (some ⟨vb, 0, none⟩) 1 vc, .slice (some ⟨b, (i + 1) * 2, none⟩) lb cb]).run Try.prog w = .ok (.value (.bool false)) w := fun lb cb => by
  rw [run_callFunc_extern Try.func115 (by kernel_rfl) (by kernel_rfl) (by kernel_rfl) (e := Extern.SlicesOverlaps.overlaps #[27, 27] #[4]) (by kernel_rfl),
   Lib.run_overlaps_apart w 27 4 31 huL 2 hsz2 ⟨vb, 0, none⟩ ⟨b, (i + 1) * 2, none⟩ 1 vc lb cb hne 31 31 vcur.size cur.size (by simp [World.shape?, hvb]) (by simp [World.shape?, hb]) (by omega) (by simp [World.frozen?, hvb]) (by simp [World.frozen?, hvb])]
  rfl
 have hdl : (cs.drop (i * 2)).length = (n - i) * 2 := by rw [List.length_drop, hcl]; omega
 have hcp1 : ∀ ty dc sc, (Builtin.copy_ #[27, 27] ty #[.slice (some ⟨b, (i + 1) * 2, none⟩) (n - i) dc, .slice (some ⟨b, i * 2, none⟩) (n + 1 - i) sc]).run Try.prog w.drew = .ok (goInt (Nat.min (n + 1 - i) (n - i))) (w.drew.setCells b ((i + 1) * 2) (cs.drop (i * 2))) := fun ty dc sc =>
  iy w.drew _ _ ty 31 2 b ((i + 1) * 2) (n - i) dc ⟨b, i * 2, none⟩ (n + 1 - i) sc (cs.drop (i * 2)) huL hsz (by rw [hdl]; simp only [Nat.min_def]; split <;> omega)
   (fun j v hj => by rw [Addr.add_lit]; exact hC _ v (by rwa [List.getElem?_drop] at hj))
   (fun j hj => hbs _ (by omega)) (fun j hj => hbf _) (fun v hv => h1c v (List.mem_of_mem_drop hv))
 obtain ⟨W1, hW1⟩ : ∃ W1, W1 = w.drew.setCells b ((i + 1) * 2) (cs.drop (i * 2)) := ⟨_, rfl⟩
 have hsp1 : ∀ k, k < c * 2 → (W1.cell? ⟨b, k, none⟩).isSome = true := fun k hk => by
  rw [hW1]
  exact isSome_setCells b (cs.drop (i * 2)) ((i + 1) * 2) w.drew (fun j hj => hbs _ (by omega)) _ (hbs _ hk)
 have hcp2 : ∀ (W : World), (∀ x, W.cell? x = W1.cell? x) → (∀ x, W.frozen? x = W1.frozen? x) → ∀ ty dc, (Builtin.copy_ #[27, 27] ty #[.slice (some ⟨b, i * 2, none⟩) (n + 1 - i) dc, .slice (some ⟨vb, 0, none⟩) 1 vc]).run Try.prog W = .ok (goInt (Nat.min 1 (n + 1 - i))) (W.setCells b (i * 2) vs) := fun W hWc hWf ty dc =>
  iy W _ _ ty 31 2 b (i * 2) (n + 1 - i) dc ⟨vb, 0, none⟩ 1 vc vs huL hsz (by rw [hvl]; simp only [Nat.min_def]; split <;> omega)
   (fun j v hj => by
    rw [Addr.add_lit, Nat.zero_add, hWc, hW1, World.cell?_setCells_out b _ _ _ _ (fun h _ => absurd h hne)]
    exact hV j v hj)
   (fun j hj => by rw [hWc]; exact hsp1 _ (by omega)) (fun j hj => by rw [hWf, hW1, World.frozen?_setCells]; exact hbf _) h1v
 rw [← hW1] at hcp1
 have hend : (W1.setCells b (i * 2) vs).ownsRow B 31 2 (.slice (some ⟨b, 0, none⟩) (n + 1) c) (n + 1) (cs.take (i * 2) ++ vs ++ cs.drop (i * 2)) ∧ w.grownBy (W1.setCells b (i * 2) vs) (some b) := by
  have hA : cur.toList.take (i * 2) = cs.take (i * 2) := by rw [← htk, List.take_take, Nat.min_eq_left (by omega)]
  have hp := qH cur (cs.take (i * 2)) vs (cs.drop (i * 2)) (i * 2) ((i + 1) * 2) hA (by rw [List.length_take]; omega) (by omega) (by rw [hcur]; omega)
  rw [show (i + 1) * 2 + (cs.drop (i * 2)).length = (n + 1) * 2 by omega] at hp
  have h1 : W1.heap[b]? = some (.cells (jA cur ((i + 1) * 2) (cs.drop (i * 2))) 31 (0, 0)) := by rw [hW1]; exact gV b _ _ w.drew cur hb
  refine ⟨⟨by simp only [List.length_append, List.length_take]; omega, .inr ⟨b, c, _, rfl, hB, gV b vs (i * 2) W1 _ h1, hroom, hcm, by rw [iB, iB]; exact hcur, hp⟩⟩, ?_⟩
  refine iC (.inl rfl) _ _ _ ?_
  rw [hW1]
  exact iC (.inl rfl) _ _ _ (iZ (World.grownBy.refl w _))
 have HEND := Lib.hid hend
 have HOV := Lib.hid hov
 have HC1 := Lib.hid hcp1
 have HC2 := Lib.hid hcp2
 have HW1 := Lib.hid hW1
 clear hend hov hcp1 hcp2 hsp1 hW1 hC hV hb hcur htk hvb hvs hvl hcl hdl h1c h1v hbs hbf
 have mixed : Try.prog.follows .mixedOrders = true := by kernel_rfl
 go_enter Try.func57, Try.ntmps57
 go_wp2_with (simp only [HOV.out])
 go_region_law_o (refine step_copy_runI rfl _ _ 27 27 rfl (.slice (some ⟨b, (i + 1) * 2, none⟩) (n - i) (c - (i + 1))) (.slice (some ⟨b, i * 2, none⟩) (n + 1 - i) (c - i)) (by simp [Act.eval, Act.put]) (by simp [Act.eval, Act.put]) (HC1.out 3 (c - (i + 1)) (c - i)) ?_)
 go_wp2_with (refine wpList_copy_runI (o := ⟨some 82, _, _, _, _, _⟩) _ rfl (.tmp 80) (.tmp 81) 27 27 rfl _ _ rfl rfl (HC2.out _ (fun _ => rfl) (fun _ => rfl) 3 (c - i)) ?_)
 go_ret
 exact ⟨_, rfl, HEND.out.1, HEND.out.2, .inl rfl⟩
set_option maxHeartbeats 4000000 in
set_option maxRecDepth 100000 in
theorem nK (b n c i vb vc B : Nat) (cs vs : List Value) (cur vcur : Array Value) (w : World) (hi : i < n) (hb : w.heap[b]? = some (.cells cur 31 (0, 0))) (hcur : cur.size = c * 2) (hnc : n ≤ c) (hcm : c ≤ maxLen) (htk : cur.toList.take (n * 2) = cs)
  (hvb : w.heap[vb]? = some (.cells vcur 31 (0, 0))) (hv1 : 1 ≤ vc) (hvz : vcur.size ≠ 0) (hne : vb ≠ b) (hvs : vcur.toList.take 2 = vs) (hvl : vs.length = 2) (hB : B ≤ b) (hBw : B ≤ w.heap.size) (hbig : (n + 1) * 24 ≤ 140737488355328) (h1c : ∀ u ∈ cs, u.oneCell' = true) (h1v : ∀ u ∈ vs, u.oneCell' = true) (hroom : c < n + 1) :
  Calls Try.prog 57 #[.slice (some ⟨b, 0, none⟩) n c, .int .i64 i, .slice (some ⟨vb, 0, none⟩) 1 vc] w fun e w' => ∃ v : Value, e = .returned v ∧ w'.ownsRow B 31 2 v (n + 1) (cs.take (i * 2) ++ vs ++ cs.drop (i * 2)) ∧ w.grownBy w' (some b) ∧ (v.ownBlock = some b ∨ ∃ g, v.ownBlock = some g ∧ w.heap.size ≤ g) := by
 have huL := Try.underlying27
 obtain ⟨i0, hi0, hz0, hz1, hz2⟩ := info_parts l6
 have hsz : (Try.prog.info? 31).map (·.size) = some 2 := by rw [hi0]; simp [hz1]
 have hsz2 : ∀ w, (Go.sizeOf 31).run Try.prog w = .ok 2 w := fun w => by simp [sizeOf, typeInfo, hi0, hz1]
 have hcl : cs.length = n * 2 := by rw [← htk]; simp; omega
 have hC : ∀ j u, cs[j]? = some u → w.cell? ⟨b, j, none⟩ = some u := fun j u hj => by
  rw [← htk, List.getElem?_take] at hj
  split at hj
  ·simpa [World.cell?, hb] using hj
  ·cases hj
 have hV : ∀ j u, vs[j]? = some u → w.cell? ⟨vb, j, none⟩ = some u := fun j u hj => by
  rw [← hvs, List.getElem?_take] at hj
  split at hj
  ·simpa [World.cell?, hvb] using hj
  ·cases hj
 have hbw : b < w.heap.size := (Array.getElem?_eq_some_iff.1 hb).1
 have hvw : vb < w.heap.size := (Array.getElem?_eq_some_iff.1 hvb).1
 have hz2' : ¬ ((i : Int) = (n : Int)) := by omega
 have hz3 : (c : Int) < (n : Int) + 1 := by omega
 have hkk : (n : Int) + 1 - (i : Int) = ((n + 1 - i : Nat) : Int) := by omega
 have hik : i + (n + 1 - i) = n + 1 := by omega
 have hold : (Builtin.firstCells i0.size i (.slice (some ⟨b, 0, none⟩) i c)).run Try.prog w.drew = .ok (cs.take (i * 2)).toArray w.drew := by
  rw [hz1]
  exact run_firstCells_some w.drew 2 i ⟨b, 0, none⟩ i c (cs.take (i * 2)) (by rw [List.length_take]; omega) (fun j v hj => by
   rw [Addr.add_lit, Nat.zero_add]
   rw [List.getElem?_take] at hj
   split at hj
   ·exact hC j v hj
   ·cases hj)
 have hrz : ∀ ty, (Builtin.append_ #[27, 3] ty #[.slice (some ⟨b, 0, none⟩) i c, .int .i64 ((n : Int) + 1 - (i : Int))]).run Try.prog w =
   .ok (.slice (some ⟨w.heap.size, 0, none⟩) (n + 1) (grownCap w (n + 1) c 31)) (w.drew.alloc (.cells ((cs.take (i * 2)).toArray ++ Builtin.zeroCells (Value.agg #[.string ⟨#[]⟩, .int .i64 0]).cells (n + 1 - i) ++ Builtin.zeroCells (Value.agg #[.string ⟨#[]⟩, .int .i64 0]).cells (grownCap w (n + 1) c 31 - (n + 1))) 31)) := fun ty => by
  have h := Lib.run_append_grow_zeros w 27 3 ty 31 i0 _ .i64 .i64 huL Try.underlying3 hi0 hz0 (some ⟨b, 0, none⟩) i c (cs.take (i * 2)) hold (n + 1 - i) (by omega) (by omega) (by omega) (by omega) (by rw [hz2]; omega) (by rw [hz2, hik]; exact growslice_fits hroom hbig)
  rw [hik] at h
  rw [hkk]
  exact h
 have hGn := grownCap_ge w (n + 1) c 31
 have hGm := grownCap_le_maxLen w (n + 1) c 31 (by unfold maxLen; omega)
 obtain ⟨G, hG⟩ : ∃ G, G = grownCap w (n + 1) c 31 := ⟨_, rfl⟩
 obtain ⟨ROW, hROW⟩ : ∃ ROW : Array Value, ROW = (cs.take (i * 2)).toArray ++ Builtin.zeroCells (Value.agg #[.string ⟨#[]⟩, .int .i64 0]).cells (n + 1 - i) ++ Builtin.zeroCells (Value.agg #[.string ⟨#[]⟩, .int .i64 0]).cells (G - (n + 1)) := ⟨_, rfl⟩
 rw [← hG] at hrz hGn hGm
 rw [← hROW] at hrz
 have hRs : ROW.size = G * 2 := by
  rw [hROW]
  simp only [Array.size_append, size_zeroCells, List.size_toArray, List.length_take, Value.cells]
  simp
  omega
 have hRt : ROW.toList.take (i * 2) = cs.take (i * 2) := by
  rw [hROW, Array.toList_append, Array.toList_append, List.append_assoc, List.take_append_of_le_length (by simp; omega)]
  simp [List.take_take]
 obtain ⟨W1, hW1⟩ : ∃ W1, W1 = w.drew.alloc (.cells ROW 31) := ⟨_, rfl⟩
 rw [← hW1] at hrz
 have hN : ∀ j, j < (n + 1) * 2 → (W1.cell? ⟨w.heap.size, j, none⟩).isSome = true := fun j hj => by
  rw [hW1, World.cell?_alloc_at (w := w.drew) ROW _ w.heap.size j rfl, Array.getElem?_eq_getElem (by omega)]; rfl
 have hNf : ∀ j, W1.frozen? ⟨w.heap.size, j, none⟩ = false := fun j => by rw [hW1]; exact World.frozen?_alloc_at (w := w.drew) ROW _ w.heap.size j rfl
 have hOb : ∀ j v, w.cell? ⟨b, j, none⟩ = some v → W1.cell? ⟨b, j, none⟩ = some v := fun j v h => by rw [hW1, World.cell?_alloc_past (w := w.drew) _ b j hbw]; exact h
 have hOv : ∀ j v, w.cell? ⟨vb, j, none⟩ = some v → W1.cell? ⟨vb, j, none⟩ = some v := fun j v h => by rw [hW1, World.cell?_alloc_past (w := w.drew) _ vb j hvw]; exact h
 have hcpA : ∀ (W : World), (∀ x, W.cell? x = W1.cell? x) → (∀ x, W.frozen? x = W1.frozen? x) → ∀ ty dc, (Builtin.copy_ #[27, 27] ty #[.slice (some ⟨w.heap.size, i * 2, none⟩) (n + 1 - i) dc, .slice (some ⟨vb, 0, none⟩) 1 vc]).run Try.prog W = .ok (goInt (Nat.min 1 (n + 1 - i))) (W.setCells w.heap.size (i * 2) vs) := fun W hWc hWf ty dc =>
  iy W _ _ ty 31 2 w.heap.size (i * 2) (n + 1 - i) dc ⟨vb, 0, none⟩ 1 vc vs huL hsz (by rw [hvl]; simp only [Nat.min_def]; split <;> omega)
   (fun j v hj => by rw [Addr.add_lit, Nat.zero_add, hWc]; exact hOv _ v (hV j v hj))
   (fun j hj => by rw [hWc]; exact hN _ (by omega)) (fun j hj => by rw [hWf]; exact hNf _) h1v
 have hG63 : G ≤ 9223372036854775807 := by unfold maxLen at hGm; omega
 have hbN : b ≠ w.heap.size := by omega
 have hdl : (cs.drop (i * 2)).length = (n - i) * 2 := by rw [List.length_drop, hcl]; omega
 have hcpB : ∀ (W : World), (∀ x, W.cell? x = (W1.setCells w.heap.size (i * 2) vs).cell? x) → (∀ x, W.frozen? x = (W1.setCells w.heap.size (i * 2) vs).frozen? x) → ∀ ty dc sc, (Builtin.copy_ #[27, 27] ty #[.slice (some ⟨w.heap.size, (i + 1) * 2, none⟩) (n - i) dc, .slice (some ⟨b, i * 2, none⟩) (n - i) sc]).run Try.prog W = .ok (goInt (Nat.min (n - i) (n - i))) (W.setCells w.heap.size ((i + 1) * 2) (cs.drop (i * 2))) := fun W hWc hWf ty dc sc =>
  iy W _ _ ty 31 2 w.heap.size ((i + 1) * 2) (n - i) dc ⟨b, i * 2, none⟩ (n - i) sc (cs.drop (i * 2)) huL hsz (by rw [hdl]; simp only [Nat.min_def]; split <;> omega)
   (fun j v hj => by
    rw [Addr.add_lit, hWc, World.cell?_setCells_out _ _ _ _ _ (fun h _ => absurd h hbN)]
    exact hOb _ v (hC (i * 2 + j) v (by rwa [List.getElem?_drop] at hj)))
   (fun j hj => by rw [hWc]; exact isSome_setCells w.heap.size vs (i * 2) W1 (fun t ht => hN _ (by omega)) _ (hN _ (by omega)))
   (fun j hj => by rw [hWf, World.frozen?_setCells]; exact hNf _) (fun v hv => h1c v (List.mem_of_mem_drop hv))
 subst hW1
 have hE1 : ∀ x, ((w.alloc (.cells ROW 31)).drew).cell? x = (w.drew.alloc (.cells ROW 31)).cell? x := fun x => rfl
 have hE2 : ∀ x, ((w.alloc (.cells ROW 31)).drew).frozen? x = (w.drew.alloc (.cells ROW 31)).frozen? x := fun x => rfl
 have hF1 : ∀ x, (((w.alloc (.cells ROW 31)).drew.setCells w.heap.size (i * 2) vs).drew).cell? x = ((w.drew.alloc (.cells ROW 31)).setCells w.heap.size (i * 2) vs).cell? x := fun x => rfl
 have hF2 : ∀ x, (((w.alloc (.cells ROW 31)).drew.setCells w.heap.size (i * 2) vs).drew).frozen? x = ((w.drew.alloc (.cells ROW 31)).setCells w.heap.size (i * 2) vs).frozen? x := fun x => rfl
 have hend : ∀ W : World, W = (((w.alloc (.cells ROW 31)).drew.setCells w.heap.size (i * 2) vs).drew).setCells w.heap.size ((i + 1) * 2) (cs.drop (i * 2)) →
   W.ownsRow B 31 2 (.slice (some ⟨w.heap.size, 0, none⟩) (n + 1) G) (n + 1) (cs.take (i * 2) ++ vs ++ cs.drop (i * 2)) ∧ w.grownBy W (some b) := by
  rintro W rfl
  have hp := qP ROW (cs.take (i * 2)) vs (cs.drop (i * 2)) (i * 2) ((i + 1) * 2) hRt (by rw [List.length_take]; omega) (by omega) (by omega)
  rw [show (i + 1) * 2 + (cs.drop (i * 2)).length = (n + 1) * 2 by omega] at hp
  have h0 : ((w.alloc (.cells ROW 31)).drew).heap[w.heap.size]? = some (.cells ROW 31 (0, 0)) := heap_alloc_new w.drew _
  have h1 := gV w.heap.size vs (i * 2) _ _ h0
  have h2 := gV w.heap.size (cs.drop (i * 2)) ((i + 1) * 2) (((w.alloc (.cells ROW 31)).drew.setCells w.heap.size (i * 2) vs).drew) _ h1
  refine ⟨⟨by simp only [List.length_append, List.length_take]; omega, .inr ⟨w.heap.size, G, _, rfl, hBw, h2, hGn, hGm, by rw [iB, iB]; exact hRs, hp⟩⟩, ?_⟩
  refine iC (.inr (Nat.le_refl _)) _ _ _ ?_
  exact iZ (iC (.inr (Nat.le_refl _)) _ _ _ (iZ (World.grownBy_alloc w _ _)))
 have hGi : ¬ (G = i) := by omega
 have hGim : ¬ (G = i + 1) := by omega
 have hci : ¬ (c = i) := by omega
 have hw1 : IntKind.i64.wrap ((i : Int) + 1) = (i : Int) + 1 := by rw [IntKind.wrap_i64]; unfold maxLen at hcm; omega
 have hb1 : (0 : Int) ≤ (i : Int) + 1 := by omega
 have hin : i ≤ n := by omega
 have htn : ((i : Int) + 1).toNat = i + 1 := by omega
 have hb3 : (i : Int) ≤ (n : Int) := by omega
 have HEND := Lib.hid hend
 have HRZ := Lib.hid hrz
 have HA := Lib.hid hcpA
 have HB := Lib.hid hcpB
 have mixed : Try.prog.follows .mixedOrders = true := by kernel_rfl
 clear hend hrz hcpA hcpB hkk hik hold hROW hG hRs hRt hN hNf hOb hOv hC hV hb hcur htk hvb hvs hvl hcl hdl h1c h1v
 go_enter Try.func57, Try.ntmps57
 go_wp2_with (first
  | (at_builtin; refine Lib.wpList_append_run _ rfl _ _ _ _ rfl _ _ rfl rfl _ _ (HRZ.out _) ?_)
  | (refine wpList_copy_runI (o := ⟨some 45, _, _, _, _, _⟩) _ rfl (.tmp 43) (.tmp 44) 27 27 rfl _ _ rfl rfl (HA.out _ hE1 hE2 3 (G - i)) ?_))
 go_region_law_o (refine step_copy_runI rfl _ _ 27 27 rfl (.slice (some ⟨w.heap.size, (i + 1) * 2, none⟩) (n - i) (G - (i + 1))) (.slice (some ⟨b, i * 2, none⟩) (n - i) (c - i)) (by simp [Act.eval, Act.put]) (by simp [Act.eval, Act.put]) (HB.out _ hF1 hF2 3 (G - (i + 1)) (c - i)) ?_)
 go_wp2
 go_ret
 exact ⟨_, rfl, (HEND.out _ rfl).1, (HEND.out _ rfl).2, .inr ⟨_, rfl, Nat.le_refl _⟩⟩
set_option maxHeartbeats 4000000 in
set_option maxRecDepth 100000 in
theorem insert_nil (vb vc B : Nat) (vs : List Value) (vcur : Array Value) (w : World) (hvb : w.heap[vb]? = some (.cells vcur 31 (0, 0))) (hv1 : 1 ≤ vc) (hvs : vcur.toList.take 2 = vs) (hvl : vs.length = 2) (hBw : B ≤ w.heap.size) (h1v : ∀ u ∈ vs, u.oneCell' = true) :
  Calls Try.prog 57 #[.slice none 0 0, .int .i64 0, .slice (some ⟨vb, 0, none⟩) 1 vc] w fun e w' => ∃ v : Value, e = .returned v ∧ w'.ownsRow B 31 2 v 1 vs ∧ w.grownBy w' none ∧ ∃ g, v.ownBlock = some g ∧ w.heap.size ≤ g := by
 have huL := Try.underlying27
 obtain ⟨i0, hi0, hz0, hz1, hz2⟩ := info_parts l6
 have hV : ∀ j u, vs[j]? = some u → w.cell? ⟨vb, j, none⟩ = some u := fun j u hj => by
  rw [← hvs, List.getElem?_take] at hj
  split at hj
  ·simpa [World.cell?, hvb] using hj
  ·cases hj
 have hsrc : Src Try.prog i0.size 27 (.slice (some ⟨vb, 0, none⟩) 1 vc) 1 vs w := by
  rw [hz1]
  exact Src.ofSlice w huL ⟨vb, 0, none⟩ 1 vc vs (by rw [hvl]) (fun j u hj => by rw [Addr.add_lit, Nat.zero_add]; exact hV j u hj) h1v
 have hold : (Builtin.firstCells i0.size 0 (.slice none 0 0)).run Try.prog w.drew = .ok ([] : List Value).toArray w.drew := run_firstCells_none w.drew _ 0 0 0
 have hrun : ∀ ty, (Builtin.append_ #[27, 27] ty #[.slice none 0 0, .slice (some ⟨vb, 0, none⟩) 1 vc]).run Try.prog w = _ := fun ty =>
  run_append_grow_src w 27 27 ty 31 i0 _ huL hi0 hz0 none 0 0 [] hold _ 1 vs hsrc (by omega) (by omega) (by rw [hz2]; exact growslice_fits (by omega) (by omega))
 have hge := grownCap_ge w (0 + 1) 0 31
 have hle := grownCap_le_maxLen w (0 + 1) 0 31 (by unfold maxLen; omega)
 obtain ⟨G, hG⟩ : ∃ G, G = grownCap w (0 + 1) 0 31 := ⟨_, rfl⟩
 rw [← hG] at hrun hge hle
 obtain ⟨ROW, hROW⟩ : ∃ ROW : Array Value, ROW = (([] : List Value) ++ vs).toArray ++ Builtin.zeroCells (Value.agg #[.string ⟨#[]⟩, .int .i64 0]).cells (G - (0 + 1)) := ⟨_, rfl⟩
 rw [← hROW] at hrun
 have hRs : ROW.size = G * 2 := by
  rw [hROW]
  simp [size_zeroCells, hvl, Value.cells]
  omega
 have hRt : ROW.toList.take (1 * 2) = vs := by
  rw [hROW, Array.toList_append, show 1 * 2 = vs.length by rw [hvl]]
  exact List.take_left
 have HRUN := Lib.hid hrun
 have HRS := Lib.hid hRs
 have HRT := Lib.hid hRt
 have HVL := Lib.hid hvl
 clear hrun hRs hRt hROW hG hsrc hold hV hvb hvs hvl h1v
 go_enter Try.func57, Try.ntmps57
 go_wp2_with (at_builtin; refine Lib.wpList_append_run _ rfl _ _ _ _ rfl _ _ rfl rfl _ _ (HRUN.out _) ?_)
 go_ret
 exact ⟨_, rfl, ⟨by rw [HVL.out], .inr ⟨w.heap.size, G, ROW, rfl, hBw, heap_alloc_new w.drew _, hge, hle, HRS.out, HRT.out⟩⟩, iZ (World.grownBy_alloc w _ _), _, rfl, Nat.le_refl _⟩
end Go.Proofs.Ythjcicmmbmagbaa.HandIns
