/- Walks of functions: what each computes. -/
import Derived.Test.YtnfiedfaaaphoaaGreatZOneRoundG0
import Derived.Test.YtnfiedfaaaphoaaGreatZOneRoundG4
import Derived.Test.YtnfiedfaaaphoaaGreatZOneRoundG6
import Derived.Test.YtnfiedfaaaphoaaGreatZOneRoundW
import Derived.Test.YtnfiedfaaaphoaaGreatZOneRoundShelf
import Derived.Test.YtnfiedfaaaphoaaGreatZOneRoundHandSort
import Derived.Test.YtnfiedfaaaphoaaGreatZOneRoundHandForm
import Derived.Test.YtnfiedfaaaphoaaGreatZOneRoundHandAlone
import Derived.Test.YtnfiedfaaaphoaaGreatZOneRoundHandReach
import Derived.Test.YtnfiedfaaaphoaaGreatZOneRoundHandPut
namespace Go.Proofs.YtnfiedfaaaphoaaGreat.PFnExactOneRound
open Go.RowKit Go.Proofs.YtnfiedfaaaphoaaGreatW.PrintWords Go.Proofs.YtnfiedfaaaphoaaGreatW.PrintLast Go.Proofs.YtnfiedfaaaphoaaGreatW.PrintMore Go.Proofs.YtnfiedfaaaphoaaGreat.Sq
attribute [local go_sem] lK lG ng mY kD kE lJ lF
set_option maxHeartbeats 8000000
set_option maxRecDepth 100000
set_option linter.unusedVariables false
set_option linter.unusedSimpArgs false
mutual
def bn.l0 : Nat → List (dB) → ByteArray → Int → Int → ByteArray → Int → Int → Option (Bool)
 | 0, _, _, _, _, _, _, _ => none
 | k + 1, a, b, c, d, e, f, g => if c < (b.size : Int) then (if 0 ≤ c then (if c ≤ (b.size : Int) then ((bn.f k a f (b.extract 0 (c : Int).toNat)).bind fun h => (if h = true then ((bn.f k a g (b.extract (c : Int).toNat b.size)).bind fun i => (if i = true then (some true) else (bn.l0 k a b (wrap64 (c + 1)) d e f g))) else (bn.l0 k a b (wrap64 (c + 1)) d e f g))) else (none)) else (none)) else (some false)
def bn.l1 : Nat → List (dB) → ByteArray → Int → Int → ByteArray → Int → Int → Option (Bool)
 | 0, _, _, _, _, _, _, _ => none
 | k + 1, a, b, c, d, e, f, g => if c < (b.size : Int) then (bn.l2 k a b c (wrap64 (c + 1)) d e f g) else (some false)
def bn.l2 : Nat → List (dB) → ByteArray → Int → Int → Int → ByteArray → Int → Int → Option (Bool)
 | 0, _, _, _, _, _, _, _, _ => none
 | k + 1, a, b, c, d, e, f, g, h => if d < (b.size : Int) then (if 0 ≤ c then (if c ≤ d then (if d ≤ (b.size : Int) then ((bn.f k a h (b.extract (c : Int).toNat (d : Int).toNat)).bind fun i => (if i = true then (if c ≤ (b.size : Int) then (if 0 ≤ d then (if (b.extract 0 (c : Int).toNat).size + (b.extract (d : Int).toNat b.size).size ≤ 9223372036854775807 then ((bn.f k a g ((b.extract 0 (c : Int).toNat) ++ (b.extract (d : Int).toNat b.size))).bind fun j => (if j = true then (some true) else (bn.l2 k a b c (wrap64 (d + 1)) e f g h))) else (none)) else (none)) else (none)) else (bn.l2 k a b c (wrap64 (d + 1)) e f g h))) else (none)) else (none)) else (none)) else (bn.l1 k a b (wrap64 (c + 1)) e f g h)
def bn.f : Nat → List (dB) → Int → ByteArray → Option (Bool)
 | 0, _, _, _ => none
 | k + 1, a, b, c => if 0 ≤ b then (if b < (a.length : Int) then (if c.toList = ([] : List UInt8) then (some false) else (if 0 ≤ ((aj a b).f2) then (if ((aj a b).f2) < (a.length : Int) then (if ((aj a b).f0) = 1 then (some (c.toList == ((aj a b).f1).toList)) else (if ((aj a b).f0) = 2 then ((gQ.f c).bind fun d => ((bn.f k a ((aj a b).f2) d).bind fun e => (some e))) else (if ((aj a b).f0) = 3 then ((iy.f k ((aj a ((aj a b).f2)).f1) c).bind fun f => (some f)) else (if ((aj a b).f0) = 4 then (bn.l0 k a c 1 ((aj a b).f0) ((aj a b).f1) ((aj a b).f2) ((aj a b).f3)) else (if ((aj a b).f0) = 5 then (bn.l1 k a c 1 ((aj a b).f0) ((aj a b).f1) ((aj a b).f2) ((aj a b).f3)) else (if ((aj a b).f0) = 6 then ((jS.f k ((aj a ((aj a b).f2)).f1)).bind fun g => (some (c.toList == g.toList))) else (if ((aj a b).f0) = 7 then ((iH.f k ((aj a ((aj a b).f2)).f1)).bind fun h => (some (c.toList == h.toList))) else (if ((aj a b).f0) = 8 then ((iF.f k ((aj a ((aj a b).f2)).f1)).bind fun i => (some (c.toList == i.toList))) else (if ((aj a b).f0) = 9 then ((dn.f k c ((aj a ((aj a b).f2)).f1)).bind fun j => (some j)) else (some false)))))))))) else (none)) else (none))) else (none)) else (none)
end
def bn.T16 : Bool × List (List Nat × List Nat) := (true, [([], []), ([], []), ([1], [1]), ([], []), ([], []), ([3, 4], [3, 4]), ([0, 2, 5], [0, 2, 5]), ([6, 6], [6]), ([7], [7]), ([7], [7]), ([9, 7], [7, 9]), ([7], [7]), ([7], [7]), ([11, 12, 7], [7, 11, 12]), ([8, 10, 13, 7, 7], [7, 8, 10, 13]), ([7, 14], [7, 14])])
def bn.B16 : List Nat := [0, 0, 2, 0, 0, 24, 63, 127, 255, 255, 767, 255, 255, 6399, 16383, 32767]
theorem bn.EW : kG .any (opsOf Tryz.f170 16) = bn.T16 := by kernel_rfl
theorem bn.Ey : iW bn.T16.2 bn.B16 = true := by kernel_rfl
def bn.T25 : Bool × List (List Nat × List Nat) := (true, [([], []), ([], []), ([1], [1]), ([], []), ([], []), ([], []), ([3, 4, 5], [3, 4, 5]), ([0, 2, 6], [0, 2, 6]), ([7, 7], [7]), ([8], [8]), ([8], [8]), ([10, 8], [8, 10]), ([8], [8]), ([8], [8]), ([12, 13, 8], [8, 12, 13]), ([8], [8]), ([8], [8]), ([15, 16, 8], [8, 15, 16]), ([14, 17, 8], [8, 14, 17]), ([9, 11, 18, 8, 8], [8, 9, 11, 18]), ([8, 19], [8, 19])])
def bn.B25 : List Nat := [0, 0, 2, 0, 0, 0, 56, 127, 255, 511, 511, 1535, 511, 511, 12799, 511, 511, 98815, 258559, 524287, 1048575]
theorem bn.FM : kG .any (opsOf Tryz.f170 25) = bn.T25 := by kernel_rfl
theorem bn.ER : iW bn.T25.2 bn.B25 = true := by kernel_rfl
theorem bn.calls (k : Nat) : ∀ (A0 : Option Addr) (c0 : Nat) (l0 : List (dB)) (a1 : Int) (a2 : ByteArray) (r : Bool) (w : World) (hr0 : Kd.C jw w A0 l0.length l0) (hc0 : l0.length ≤ c0) (h : bn.f k l0 a1 a2 = some r),
  Calls Tryz.prog 170 #[.slice A0 l0.length c0, .int .i64 a1, .string a2] w fun e w' => e = .returned (.bool r) ∧ Below w.heap.size w w' := by
 induction k using Nat.strongRecOn with
 | _ k ih =>
 intro A0 c0 l0 a1 a2 r w hr0 hc0 h
 cases k with
 | zero => exact absurd h (by simp [bn.f])
 | succ k =>
 simp only [bn.f] at h
 have hu141 := Tryz.underlying141
 have HR0 := ah.mk hr0
 have HC0 := ah.mk hc0
 clear hr0 hc0
 have HB := ah.mk (Below.refl w.heap.size w)
 have H : (if 0 ≤ a1 then (if a1 < (l0.length : Int) then (if a2.toList = ([] : List UInt8) then (some false) else (if 0 ≤ ((aj l0 a1).f2) then (if ((aj l0 a1).f2) < (l0.length : Int) then (if ((aj l0 a1).f0) = 1 then (some (a2.toList == ((aj l0 a1).f1).toList)) else (if ((aj l0 a1).f0) = 2 then ((gQ.f a2).bind fun t611 => ((bn.f k l0 ((aj l0 a1).f2) t611).bind fun t612 => (some t612))) else (if ((aj l0 a1).f0) = 3 then ((iy.f k ((aj l0 ((aj l0 a1).f2)).f1) a2).bind fun t613 => (some t613)) else (if ((aj l0 a1).f0) = 4 then (bn.l0 k l0 a2 1 ((aj l0 a1).f0) ((aj l0 a1).f1) ((aj l0 a1).f2) ((aj l0 a1).f3)) else (if ((aj l0 a1).f0) = 5 then (bn.l1 k l0 a2 1 ((aj l0 a1).f0) ((aj l0 a1).f1) ((aj l0 a1).f2) ((aj l0 a1).f3)) else (if ((aj l0 a1).f0) = 6 then ((jS.f k ((aj l0 ((aj l0 a1).f2)).f1)).bind fun t618 => (some (a2.toList == t618.toList))) else (if ((aj l0 a1).f0) = 7 then ((iH.f k ((aj l0 ((aj l0 a1).f2)).f1)).bind fun t619 => (some (a2.toList == t619.toList))) else (if ((aj l0 a1).f0) = 8 then ((iF.f k ((aj l0 ((aj l0 a1).f2)).f1)).bind fun t620 => (some (a2.toList == t620.toList))) else (if ((aj l0 a1).f0) = 9 then ((dn.f k a2 ((aj l0 ((aj l0 a1).f2)).f1)).bind fun t621 => (some t621)) else (some false)))))))))) else (none)) else (none))) else (none)) else (none)) = some r := h
 clear h
 replace H := ifN H; obtain ⟨c4b0, H⟩ := H
 replace H := ifN H; obtain ⟨c5b0, H⟩ := H
 have p608 : 0 ≤ (a1 : Int) := OD
 have q608 : a1 < (l0.length : Int) := OD
 obtain ⟨ad608, e608, hx608_0, hx608_1, hx608_2, hx608_3⟩ := jN HR0.out a1 p608 q608
 cases e608
 replace p608 := eq_true p608
 replace q608 := eq_true q608
 replace H := ah.mk H
 go_enter Tryz.func170, Tryz.ntmps170
 go_wp2_with (first | ((with_reducible refine aJ (N := 7) rfl ?_); refine bg (N := 7) (cs := #[.int .i64 0, .string (⟨#[]⟩ : ByteArray), .int .i64 0, .int .i64 0]) (t := 141) ?_; intro gb609 hg w9000 hbox hb; have BK609 := ah.mk hbox; have GW609 := SZ (w := w) hg; have GE609 := GW609; replace HB := BS (w := w) hb; clear hb hbox hg; obtain ⟨hcz9001_0, hcz9001_1, hcz9001_2, hcz9001_3, hfz9001_0, hfz9001_1, hfz9001_2, hfz9001_3⟩ := cz4 BK609.out; refine bU ?_))
 refine Hide.mk ?_
 replace H := H.out
 replace H := ifE H; rcases H with ⟨c6b0, c6b1, H⟩ | ⟨c6, c6b0, c6b1, H⟩
 ·obtain rfl := Option.some.inj H
  try go_wp2
  go_ret
  exact ⟨EWW, BL⟩
 ·replace H := ifN H; obtain ⟨c9b0, H⟩ := H
  replace H := ifN H; obtain ⟨c10b0, H⟩ := H
  replace H := ah.mk H
  have p610 : 0 ≤ (((aj l0 a1).f2) : Int) := OD
  have q610 : ((aj l0 a1).f2) < (l0.length : Int) := OD
  obtain ⟨ad610, e610, hx610_0, hx610_1, hx610_2, hx610_3⟩ := jN HR0.out ((aj l0 a1).f2) p610 q610
  obtain rfl : ad608 = ad610 := (by injection e610)
  have hn610_0 : ad608.block ≠ gb609 := Nat.ne_of_lt (Nat.lt_of_lt_of_le (by have := World.block_lt_of_cell? _ _ hx610_0; first | rwa [add_block] at this | exact this) GW609.out)
  have hn610_1 : ad608.block ≠ gb609 := Nat.ne_of_lt (Nat.lt_of_lt_of_le (by have := World.block_lt_of_cell? _ _ hx610_0; first | rwa [add_block] at this | exact this) GW609.out)
  have hn610_2 : ad608.block ≠ gb609 := Nat.ne_of_lt (Nat.lt_of_lt_of_le (by have := World.block_lt_of_cell? _ _ hx610_0; first | rwa [add_block] at this | exact this) GW609.out)
  have hn610_3 : ad608.block ≠ gb609 := Nat.ne_of_lt (Nat.lt_of_lt_of_le (by have := World.block_lt_of_cell? _ _ hx610_0; first | rwa [add_block] at this | exact this) GW609.out)
  replace hx610_0 := (HB.out.cell (World.block_lt_of_cell? w _ hx610_0)).trans hx610_0
  replace hx610_1 := (HB.out.cell (World.block_lt_of_cell? w _ hx610_1)).trans hx610_1
  replace hx610_2 := (HB.out.cell (World.block_lt_of_cell? w _ hx610_2)).trans hx610_2
  replace hx610_3 := (HB.out.cell (World.block_lt_of_cell? w _ hx610_3)).trans hx610_3
  replace hx610_0 := (cell_far (p := ⟨gb609, 0, none⟩) AB (.int .i64 ((aj l0 a1).f0))).trans hx610_0
  replace hx610_1 := (cell_far (p := ⟨gb609, 0, none⟩) AB (.int .i64 ((aj l0 a1).f0))).trans hx610_1
  replace hx610_2 := (cell_far (p := ⟨gb609, 0, none⟩) AB (.int .i64 ((aj l0 a1).f0))).trans hx610_2
  replace hx610_3 := (cell_far (p := ⟨gb609, 0, none⟩) AB (.int .i64 ((aj l0 a1).f0))).trans hx610_3
  replace hx610_0 := (cell_far (p := ⟨gb609, 1, none⟩) AB (.string ((aj l0 a1).f1))).trans hx610_0
  replace hx610_1 := (cell_far (p := ⟨gb609, 1, none⟩) AB (.string ((aj l0 a1).f1))).trans hx610_1
  replace hx610_2 := (cell_far (p := ⟨gb609, 1, none⟩) AB (.string ((aj l0 a1).f1))).trans hx610_2
  replace hx610_3 := (cell_far (p := ⟨gb609, 1, none⟩) AB (.string ((aj l0 a1).f1))).trans hx610_3
  replace hx610_0 := (cell_far (p := ⟨gb609, 2, none⟩) AB (.int .i64 ((aj l0 a1).f2))).trans hx610_0
  replace hx610_1 := (cell_far (p := ⟨gb609, 2, none⟩) AB (.int .i64 ((aj l0 a1).f2))).trans hx610_1
  replace hx610_2 := (cell_far (p := ⟨gb609, 2, none⟩) AB (.int .i64 ((aj l0 a1).f2))).trans hx610_2
  replace hx610_3 := (cell_far (p := ⟨gb609, 2, none⟩) AB (.int .i64 ((aj l0 a1).f2))).trans hx610_3
  replace hx610_0 := (cell_far (p := ⟨gb609, 3, none⟩) AB (.int .i64 ((aj l0 a1).f3))).trans hx610_0
  replace hx610_1 := (cell_far (p := ⟨gb609, 3, none⟩) AB (.int .i64 ((aj l0 a1).f3))).trans hx610_1
  replace hx610_2 := (cell_far (p := ⟨gb609, 3, none⟩) AB (.int .i64 ((aj l0 a1).f3))).trans hx610_2
  replace hx610_3 := (cell_far (p := ⟨gb609, 3, none⟩) AB (.int .i64 ((aj l0 a1).f3))).trans hx610_3
  clear hn610_0 hn610_1 hn610_2 hn610_3
  replace p610 := eq_true p610
  replace q610 := eq_true q610
  replace H := H.out
  replace H := ifE H; rcases H with ⟨c11b0, c11b1, H⟩ | ⟨c11, c11b0, c11b1, H⟩
  ·obtain rfl := Option.some.inj H
   try go_wp2
   go_ret
   exact ⟨EWW, BL⟩
  ·replace H := ifE H; rcases H with ⟨c14b0, c14b1, H⟩ | ⟨c14, c14b0, c14b1, H⟩
   ·replace H := be H; obtain ⟨t611, A15, H⟩ := H
    replace H := be H; obtain ⟨t612, A16, H⟩ := H
    obtain rfl := Option.some.inj H
    try go_wp2
    have n0_ : ah (((((w9000.setCell ⟨gb609, 0, none⟩ (.int .i64 ((aj l0 a1).f0))).setCell ⟨gb609, 1, none⟩ (.string ((aj l0 a1).f1))).setCell ⟨gb609, 2, none⟩ (.int .i64 ((aj l0 a1).f2))).setCell ⟨gb609, 3, none⟩ (.int .i64 ((aj l0 a1).f3))).heap[gb609]? = some (.cells #[.int .i64 ((aj l0 a1).f0), .string ((aj l0 a1).f1), .int .i64 ((aj l0 a1).f2), .int .i64 ((aj l0 a1).f3)] 141 (0, 0))) := ⟨by (with_reducible repeat (first | refine aG ?_ _ | refine aH ?_ | refine aD ?_ _)); refine aY (cs := #[.int .i64 ((aj l0 a1).f0), .string ((aj l0 a1).f1), .int .i64 ((aj l0 a1).f2), .int .i64 0]) ?_ 3 _ rfl; (with_reducible repeat (first | refine aG ?_ _ | refine aH ?_ | refine aD ?_ _)); refine aY (cs := #[.int .i64 ((aj l0 a1).f0), .string ((aj l0 a1).f1), .int .i64 0, .int .i64 0]) ?_ 2 _ rfl; (with_reducible repeat (first | refine aG ?_ _ | refine aH ?_ | refine aD ?_ _)); refine aY (cs := #[.int .i64 ((aj l0 a1).f0), .string (⟨#[]⟩ : ByteArray), .int .i64 0, .int .i64 0]) ?_ 1 _ rfl; (with_reducible repeat (first | refine aG ?_ _ | refine aH ?_ | refine aD ?_ _)); refine aY (cs := #[.int .i64 0, .string (⟨#[]⟩ : ByteArray), .int .i64 0, .int .i64 0]) ?_ 0 _ rfl; (with_reducible repeat (first | refine aG ?_ _ | refine aH ?_ | refine aD ?_ _)); exact BK609.out⟩
    have n1_ : ah (Below w.heap.size w ((((w9000.setCell ⟨gb609, 0, none⟩ (.int .i64 ((aj l0 a1).f0))).setCell ⟨gb609, 1, none⟩ (.string ((aj l0 a1).f1))).setCell ⟨gb609, 2, none⟩ (.int .i64 ((aj l0 a1).f2))).setCell ⟨gb609, 3, none⟩ (.int .i64 ((aj l0 a1).f3)))) := ⟨BL⟩
    (try clear BK609)
    (try clear HB)
    generalize ((((w9000.setCell ⟨gb609, 0, none⟩ (.int .i64 ((aj l0 a1).f0))).setCell ⟨gb609, 1, none⟩ (.string ((aj l0 a1).f1))).setCell ⟨gb609, 2, none⟩ (.int .i64 ((aj l0 a1).f2))).setCell ⟨gb609, 3, none⟩ (.int .i64 ((aj l0 a1).f3))) = w9002 at n0_ n1_ ⊢
    have BK609 := n0_
    have HB := n1_
    clear n0_ n1_
    replace BK609 := ah.mk (aH BK609.out)
    replace HB := ah.mk (dH HB.out)
    refine ji (n := 7) (S := fun w' => w'.cell? ⟨gb609, 0, none⟩ = some (.int .i64 ((aj l0 a1).f0)) ∧ w'.cell? ⟨gb609, 1, none⟩ = some (.string ((aj l0 a1).f1)) ∧ w'.cell? ⟨gb609, 2, none⟩ = some (.int .i64 ((aj l0 a1).f2)) ∧ w'.cell? ⟨gb609, 3, none⟩ = some (.int .i64 ((aj l0 a1).f3))) (ds := []) #[F,F,F,F,F,F,F] (by kernel_rfl) rfl rfl ⟨(ak BK609.out 0).trans rfl, (ak BK609.out 1).trans rfl, (ak BK609.out 2).trans rfl, (ak BK609.out 3).trans rfl⟩ (fun hHeld => ?_)
    generalize w9002.drew = w9003 at BK609 HB hHeld ⊢
    refine puS (i := 0) (N := some 34) #[T,F,F,F,F,F,F] (by kernel_rfl) ?_
    refine puS (i := 1) (N := some 35) #[T,T,F,F,F,F,F] (by kernel_rfl) ?_
    refine puS (i := 3) (N := some 37) #[T,T,F,T,F,F,F] (by kernel_rfl) ?_
    refine taS (i := 2) (N := some 36) #[T,T,T,T,F,F,F] (by kernel_rfl) hHeld ?_
    refine kW (i := 4) (N := some 38) #[T,T,T,T,T,F,F] rfl rfl (by kernel_rfl) (by decide) (fun K hK => ?_)
    refine iZ Tryz.func200 #[.string a2] ?_
    with_reducible refine (gQ.calls a2 t611 _ A15.out).mono ?_
    rintro e w9004 ⟨rfl, hb⟩
    refine ⟨_, rfl, ?_⟩
    replace BK609 := KB BK609 hb
    replace HB := BS (w := w) hb
    (try clear hb)
    refine hK.out _ _ ⟨(ak BK609.out 0).trans rfl, (ak BK609.out 1).trans rfl, (ak BK609.out 2).trans rfl, (ak BK609.out 3).trans rfl⟩ (fun hHeld => ?_)
    clear hK K
    refine nrm (some 38) ?_
    refine kW (i := 5) (N := some 39) #[T,T,T,T,T,T,F] rfl rfl (by kernel_rfl) (by decide) (fun K hK => ?_)
    refine iZ Tryz.func170 #[.slice (some ad608) l0.length c0, .int .i64 ((aj l0 a1).f2), .string t611] ?_
    with_reducible refine (ih k (by omega) _ _ l0 ((aj l0 a1).f2) t611 t612 _ ?side1 ?side2 A16.out).mono ?_
    (case side1 => exact CB HR0)
    (case side2 => exact HC0.out)
    rintro e w9005 ⟨rfl, hb⟩
    refine ⟨_, rfl, ?_⟩
    replace BK609 := KB BK609 hb
    replace HB := BS (w := w) hb
    (try clear hb)
    refine hK.out _ _ ⟨(ak BK609.out 0).trans rfl, (ak BK609.out 1).trans rfl, (ak BK609.out 2).trans rfl, (ak BK609.out 3).trans rfl⟩ (fun hHeld => ?_)
    clear hK K
    refine nrm (some 39) ?_
    refine puS (i := 6) (N := some 6) #[T,T,T,T,T,T,T] (by kernel_rfl) ?_
    refine iD (by kernel_rfl) ?_
    try go_wp2
    go_ret
    exact ⟨EWW, BL⟩
   ·replace H := ifE H; rcases H with ⟨c23b0, c23b1, H⟩ | ⟨c23, c23b0, c23b1, H⟩
    ·replace H := be H; obtain ⟨t613, A24, H⟩ := H
     obtain rfl := Option.some.inj H
     try go_wp2_with (first | ((with_reducible refine ay (f := 206) rfl ?_); refine bE (some 44) Tryz.func206 #[.string ((aj l0 ((aj l0 a1).f2)).f1), .string a2] ?_; (with_reducible refine (iy.calls k ((aj l0 ((aj l0 a1).f2)).f1) a2 t613 _ A24.out).mono ?_); rintro e w9002 ⟨rfl, hb⟩; refine ⟨_, rfl, ?_⟩; have n0_ := ah.mk (aR (g := gb609) (o := .cells #[.int .i64 ((aj l0 a1).f0), .string ((aj l0 a1).f1), .int .i64 ((aj l0 a1).f2), .int .i64 ((aj l0 a1).f3)] 141 (0, 0)) (by (with_reducible repeat (first | refine aG ?_ _ | refine aH ?_ | refine aD ?_ _)); refine aY (cs := #[.int .i64 ((aj l0 a1).f0), .string ((aj l0 a1).f1), .int .i64 ((aj l0 a1).f2), .int .i64 0]) ?_ 3 _ rfl; (with_reducible repeat (first | refine aG ?_ _ | refine aH ?_ | refine aD ?_ _)); refine aY (cs := #[.int .i64 ((aj l0 a1).f0), .string ((aj l0 a1).f1), .int .i64 0, .int .i64 0]) ?_ 2 _ rfl; (with_reducible repeat (first | refine aG ?_ _ | refine aH ?_ | refine aD ?_ _)); refine aY (cs := #[.int .i64 ((aj l0 a1).f0), .string (⟨#[]⟩ : ByteArray), .int .i64 0, .int .i64 0]) ?_ 1 _ rfl; (with_reducible repeat (first | refine aG ?_ _ | refine aH ?_ | refine aD ?_ _)); refine aY (cs := #[.int .i64 0, .string (⟨#[]⟩ : ByteArray), .int .i64 0, .int .i64 0]) ?_ 0 _ rfl; (with_reducible repeat (first | refine aG ?_ _ | refine aH ?_ | refine aD ?_ _)); exact BK609.out) hb); replace HB := BS (w := w) hb; clear BK609; have BK609 := n0_; clear n0_; (try clear hb)))
     go_ret
     exact ⟨EWW, BL⟩
    ·replace H := ifE H; rcases H with ⟨c28b0, c28b1, H⟩ | ⟨c28, c28b0, c28b1, H⟩
     ·have H' := ah.mk H
      clear H
      try go_wp2
      go_loopg [9] k (fun kq v9 w' => ∃ (x9_1 : Int), v9 = .int .i64 x9_1 ∧ ah (bn.l0 kq l0 a2 x9_1 ((aj l0 a1).f0) ((aj l0 a1).f1) ((aj l0 a1).f2) ((aj l0 a1).f3) = some r) ∧ ah (kq ≤ k) ∧ ah (w'.heap[gb609]? = some (.cells #[.int .i64 ((aj l0 a1).f0), .string ((aj l0 a1).f1), .int .i64 ((aj l0 a1).f2), .int .i64 ((aj l0 a1).f3)] 141 (0, 0))) ∧ ah (Below w.heap.size w w'))
      case atStart => exact ⟨(1), EQ, H', ⟨Nat.le_refl _⟩, ⟨by (with_reducible repeat (first | refine aG ?_ _ | refine aH ?_ | refine aD ?_ _)); refine aY (cs := #[.int .i64 ((aj l0 a1).f0), .string ((aj l0 a1).f1), .int .i64 ((aj l0 a1).f2), .int .i64 0]) ?_ 3 _ rfl; (with_reducible repeat (first | refine aG ?_ _ | refine aH ?_ | refine aD ?_ _)); refine aY (cs := #[.int .i64 ((aj l0 a1).f0), .string ((aj l0 a1).f1), .int .i64 0, .int .i64 0]) ?_ 2 _ rfl; (with_reducible repeat (first | refine aG ?_ _ | refine aH ?_ | refine aD ?_ _)); refine aY (cs := #[.int .i64 ((aj l0 a1).f0), .string (⟨#[]⟩ : ByteArray), .int .i64 0, .int .i64 0]) ?_ 1 _ rfl; (with_reducible repeat (first | refine aG ?_ _ | refine aH ?_ | refine aD ?_ _)); refine aY (cs := #[.int .i64 0, .string (⟨#[]⟩ : ByteArray), .int .i64 0, .int .i64 0]) ?_ 0 _ rfl; (with_reducible repeat (first | refine aG ?_ _ | refine aH ?_ | refine aD ?_ _)); exact BK609.out⟩, ⟨BL⟩⟩
      case round =>
       clear H'
       try clear c4
       try clear c4b0
       try clear c5
       try clear c5b0
       try clear c6
       try clear c6b0
       try clear c6b1
       try clear c9
       try clear c9b0
       try clear c10
       try clear c10b0
       try clear c11
       try clear c11b0
       try clear c11b1
       try clear c14
       try clear c14b0
       try clear c14b1
       try clear c23
       try clear c23b0
       try clear c23b1
       try clear c28
       try clear c28b0
       try clear c28b1
       try clear hcz9001_0
       try clear hcz9001_1
       try clear hcz9001_2
       try clear hcz9001_3
       try clear hfz9001_0
       try clear hfz9001_1
       try clear hfz9001_2
       try clear hfz9001_3
       try clear hx608_0
       try clear hx608_1
       try clear hx608_2
       try clear hx608_3
       try clear hx610_0
       try clear hx610_1
       try clear hx610_2
       try clear hx610_3
       try clear p608
       try clear p610
       try clear q608
       try clear q610
       obtain ⟨x9_1, rfl, HA, HK1, BK609, HB⟩ := hrel
       cases gk with
       | zero => exact absurd HA.out (by simp [bn.l0])
       | succ k1 =>
        have H := HA.out
        clear HA
        simp only [bn.l0] at H
        replace H := ifD H; rcases H with ⟨c31b0, H⟩ | ⟨c31b0, H⟩
        ·replace H := ifP H; obtain ⟨c32, H⟩ := H
         have c32b0 := eq_true c32
         have c32b1 : decide (0 ≤ x9_1) = true := decide_eq_true c32
         clear c32
         replace H := ifP H; obtain ⟨c33, H⟩ := H
         have c33b0 := eq_true c33
         have c33b1 : decide (x9_1 ≤ (a2.size : Int)) = true := decide_eq_true c33
         clear c33
         replace H := be H; obtain ⟨t614, A34, H⟩ := H
         replace H := ah.mk H
         try go_wp2
         replace BK609 := ah.mk (aH BK609.out)
         replace HB := ah.mk (dH HB.out)
         refine ji (n := 16) (S := fun w' => w'.cell? ⟨gb609, 0, none⟩ = some (.int .i64 ((aj l0 a1).f0)) ∧ w'.cell? ⟨gb609, 1, none⟩ = some (.string ((aj l0 a1).f1)) ∧ w'.cell? ⟨gb609, 2, none⟩ = some (.int .i64 ((aj l0 a1).f2)) ∧ w'.cell? ⟨gb609, 3, none⟩ = some (.int .i64 ((aj l0 a1).f3))) (ds := []) #[F,F,F,F,F,F,F,F,F,F,F,F,F,F,F,F] (by kernel_rfl) rfl rfl ⟨(ak BK609.out 0).trans rfl, (ak BK609.out 1).trans rfl, (ak BK609.out 2).trans rfl, (ak BK609.out 3).trans rfl⟩ (fun hHeld => ?_); refine iI bn.EW bn.Ey (fun HT_ HW_ => ?_)
         generalize wr.drew = w9002 at BK609 HB hHeld ⊢
         refine puS (i := 0) (N := some 53) #[T,F,F,F,F,F,F,F,F,F,F,F,F,F,F,F] (aK HT_.out (by kernel_rfl)) ?_
         refine puS (i := 1) (N := some 54) #[T,T,F,F,F,F,F,F,F,F,F,F,F,F,F,F] (aK HT_.out (by kernel_rfl)) ?_
         refine puS (i := 3) (N := some 56) #[T,T,F,T,F,F,F,F,F,F,F,F,F,F,F,F] (aK HT_.out (by kernel_rfl)) ?_
         refine puS (i := 4) (N := some 57) #[T,T,F,T,T,F,F,F,F,F,F,F,F,F,F,F] (aK HT_.out (by kernel_rfl)) ?_
         refine puS (i := 5) (N := some 58) #[T,T,F,T,T,T,F,F,F,F,F,F,F,F,F,F] (aK HT_.out (by kernel_rfl)) ?_
         refine taS (i := 2) (N := some 55) #[T,T,T,T,T,T,F,F,F,F,F,F,F,F,F,F] (eF HT_.out HW_.out (by kernel_rfl)) hHeld ?_
         refine kW (i := 6) (N := some 59) #[T,T,T,T,T,T,T,F,F,F,F,F,F,F,F,F] rfl rfl (jf HT_.out (by kernel_rfl)) (by decide) (fun K hK => ?_)
         refine iZ Tryz.func170 #[.slice (some ad608) l0.length c0, .int .i64 ((aj l0 a1).f2), .string (a2.extract 0 (x9_1 : Int).toNat)] ?_
         replace H := H.out
         replace H := ifB H; rcases H with ⟨rfl, H⟩ | ⟨rfl, H⟩
         ·have c36b0 := eq_true (OD : 0 ≤ x9_1)
          have c37b0 := eq_true (OD : x9_1 ≤ (a2.size : Int))
          replace H := be H; obtain ⟨t615, A38, H⟩ := H
          replace H := ah.mk H
          with_reducible refine (ih k1 (by have := HK1.out; omega) _ _ l0 ((aj l0 a1).f2) (a2.extract 0 (x9_1 : Int).toNat) true _ ?side1 ?side2 A34.out).mono ?_
          (case side1 => exact CB HR0)
          (case side2 => exact HC0.out)
          rintro e w9003 ⟨rfl, hb⟩
          refine ⟨_, rfl, ?_⟩
          replace BK609 := KB BK609 hb
          replace HB := BS (w := w) hb
          (try clear hb)
          refine hK.out _ _ ⟨(ak BK609.out 0).trans rfl, (ak BK609.out 1).trans rfl, (ak BK609.out 2).trans rfl, (ak BK609.out 3).trans rfl⟩ (fun hHeld => ?_)
          clear hK K
          refine nrm (some 59) ?_
          refine puS (i := 7) (N := some 60) #[T,T,T,T,T,T,T,T,F,F,F,F,F,F,F,F] (aK HT_.out (by kernel_rfl)) ?_
          refine puS (i := 8) (N := some 61) #[T,T,T,T,T,T,T,T,T,F,F,F,F,F,F,F] (aK HT_.out (by kernel_rfl)) ?_
          refine puS (i := 9) (N := some 62) #[T,T,T,T,T,T,T,T,T,T,F,F,F,F,F,F] (aK HT_.out (by kernel_rfl)) ?_
          refine puS (i := 11) (N := some 64) #[T,T,T,T,T,T,T,T,T,T,F,T,F,F,F,F] (aK HT_.out (by kernel_rfl)) ?_
          refine puS (i := 12) (N := some 65) #[T,T,T,T,T,T,T,T,T,T,F,T,T,F,F,F] (aK HT_.out (by kernel_rfl)) ?_
          refine puS (i := 13) (N := some 66) #[T,T,T,T,T,T,T,T,T,T,F,T,T,T,F,F] (aK HT_.out (by kernel_rfl)) ?_
          refine taS (i := 10) (N := some 63) #[T,T,T,T,T,T,T,T,T,T,T,T,T,T,F,F] (eF HT_.out HW_.out (by kernel_rfl)) hHeld ?_
          refine kW (i := 14) (N := some 67) #[T,T,T,T,T,T,T,T,T,T,T,T,T,T,T,F] rfl rfl (jf HT_.out (by kernel_rfl)) (by decide) (fun K hK => ?_)
          refine iZ Tryz.func170 #[.slice (some ad608) l0.length c0, .int .i64 ((aj l0 a1).f3), .string (a2.extract (x9_1 : Int).toNat a2.size)] ?_
          replace H := H.out
          replace H := ifB H; rcases H with ⟨rfl, H⟩ | ⟨rfl, H⟩
          ·obtain rfl := Option.some.inj H
           with_reducible refine (ih k1 (by have := HK1.out; omega) _ _ l0 ((aj l0 a1).f3) (a2.extract (x9_1 : Int).toNat a2.size) true _ ?side1 ?side2 A38.out).mono ?_
           (case side1 => exact CB HR0)
           (case side2 => exact HC0.out)
           rintro e w9004 ⟨rfl, hb⟩
           refine ⟨_, rfl, ?_⟩
           replace BK609 := KB BK609 hb
           replace HB := BS (w := w) hb
           (try clear hb)
           refine hK.out _ _ ⟨(ak BK609.out 0).trans rfl, (ak BK609.out 1).trans rfl, (ak BK609.out 2).trans rfl, (ak BK609.out 3).trans rfl⟩ (fun hHeld => ?_)
           clear hK K
           refine nrm (some 67) ?_
           refine puS (i := 15) (N := some 68) #[T,T,T,T,T,T,T,T,T,T,T,T,T,T,T,T] (aK HT_.out (by kernel_rfl)) ?_
           refine iD (gG HT_.out (by kernel_rfl)) ?_
           try go_wp2
           go_ret
           exact ⟨EWW, BL⟩
          ·have H' := ah.mk H
           clear H
           with_reducible refine (ih k1 (by have := HK1.out; omega) _ _ l0 ((aj l0 a1).f3) (a2.extract (x9_1 : Int).toNat a2.size) false _ ?side1 ?side2 A38.out).mono ?_
           (case side1 => exact CB HR0)
           (case side2 => exact HC0.out)
           rintro e w9004 ⟨rfl, hb⟩
           refine ⟨_, rfl, ?_⟩
           replace BK609 := KB BK609 hb
           replace HB := BS (w := w) hb
           (try clear hb)
           refine hK.out _ _ ⟨(ak BK609.out 0).trans rfl, (ak BK609.out 1).trans rfl, (ak BK609.out 2).trans rfl, (ak BK609.out 3).trans rfl⟩ (fun hHeld => ?_)
           clear hK K
           refine nrm (some 67) ?_
           refine puS (i := 15) (N := some 68) #[T,T,T,T,T,T,T,T,T,T,T,T,T,T,T,T] (aK HT_.out (by kernel_rfl)) ?_
           refine iD (gG HT_.out (by kernel_rfl)) ?_
           try go_wp2
           go_roundg k1
           case measure => have := HK1.out; omega
           case rel => exact ⟨(wrap64 (x9_1 + 1)), EQ, H', ⟨by have := HK1.out; omega⟩, ⟨BK⟩, ⟨BL⟩⟩
         ·have H' := ah.mk H
          clear H
          with_reducible refine (ih k1 (by have := HK1.out; omega) _ _ l0 ((aj l0 a1).f2) (a2.extract 0 (x9_1 : Int).toNat) false _ ?side1 ?side2 A34.out).mono ?_
          (case side1 => exact CB HR0)
          (case side2 => exact HC0.out)
          rintro e w9003 ⟨rfl, hb⟩
          refine ⟨_, rfl, ?_⟩
          replace BK609 := KB BK609 hb
          replace HB := BS (w := w) hb
          (try clear hb)
          refine hK.out _ _ ⟨(ak BK609.out 0).trans rfl, (ak BK609.out 1).trans rfl, (ak BK609.out 2).trans rfl, (ak BK609.out 3).trans rfl⟩ (fun hHeld => ?_)
          clear hK K
          refine nrm (some 59) ?_
          refine puS (i := 7) (N := some 60) #[T,T,T,T,T,T,T,T,F,F,F,F,F,F,F,F] (aK HT_.out (by kernel_rfl)) ?_
          refine puU (i := 8) (N := some 61) #[T,T,T,T,T,T,T,T,T,F,F,F,F,F,F,F] (aK HT_.out (by kernel_rfl)) ?_
          refine puU (i := 9) (N := some 62) #[T,T,T,T,T,T,T,T,T,T,F,F,F,F,F,F] (aK HT_.out (by kernel_rfl)) ?_
          refine puU (i := 10) (N := some 63) #[T,T,T,T,T,T,T,T,T,T,T,F,F,F,F,F] (aK HT_.out (by kernel_rfl)) ?_
          refine puU (i := 11) (N := some 64) #[T,T,T,T,T,T,T,T,T,T,T,T,F,F,F,F] (aK HT_.out (by kernel_rfl)) ?_
          refine puU (i := 12) (N := some 65) #[T,T,T,T,T,T,T,T,T,T,T,T,T,F,F,F] (aK HT_.out (by kernel_rfl)) ?_
          refine puU (i := 13) (N := some 66) #[T,T,T,T,T,T,T,T,T,T,T,T,T,T,F,F] (aK HT_.out (by kernel_rfl)) ?_
          refine puU (i := 14) (N := some 67) #[T,T,T,T,T,T,T,T,T,T,T,T,T,T,T,F] (aK HT_.out (by kernel_rfl)) ?_
          refine puS (i := 15) (N := some 68) #[T,T,T,T,T,T,T,T,T,T,T,T,T,T,T,T] (aK HT_.out (by kernel_rfl)) ?_
          refine iD (gG HT_.out (by kernel_rfl)) ?_
          try go_wp2
          go_roundg k1
          case measure => have := HK1.out; omega
          case rel => exact ⟨(wrap64 (x9_1 + 1)), EQ, H', ⟨by have := HK1.out; omega⟩, ⟨BK⟩, ⟨BL⟩⟩
        ·obtain rfl := Option.some.inj H
         go_wp2
         go_ret
         exact ⟨EWW, BL⟩
     ·replace H := ifE H; rcases H with ⟨c48b0, c48b1, H⟩ | ⟨c48, c48b0, c48b1, H⟩
      ·have H' := ah.mk H
       clear H
       try go_wp2
       go_loopg [10] k (fun kq v10 w' => ∃ (x10_1 : Int), v10 = .int .i64 x10_1 ∧ ah (bn.l1 kq l0 a2 x10_1 ((aj l0 a1).f0) ((aj l0 a1).f1) ((aj l0 a1).f2) ((aj l0 a1).f3) = some r) ∧ ah (kq ≤ k) ∧ ah (w'.heap[gb609]? = some (.cells #[.int .i64 ((aj l0 a1).f0), .string ((aj l0 a1).f1), .int .i64 ((aj l0 a1).f2), .int .i64 ((aj l0 a1).f3)] 141 (0, 0))) ∧ ah (Below w.heap.size w w'))
       case atStart => exact ⟨(1), EQ, H', ⟨Nat.le_refl _⟩, ⟨by (with_reducible repeat (first | refine aG ?_ _ | refine aH ?_ | refine aD ?_ _)); refine aY (cs := #[.int .i64 ((aj l0 a1).f0), .string ((aj l0 a1).f1), .int .i64 ((aj l0 a1).f2), .int .i64 0]) ?_ 3 _ rfl; (with_reducible repeat (first | refine aG ?_ _ | refine aH ?_ | refine aD ?_ _)); refine aY (cs := #[.int .i64 ((aj l0 a1).f0), .string ((aj l0 a1).f1), .int .i64 0, .int .i64 0]) ?_ 2 _ rfl; (with_reducible repeat (first | refine aG ?_ _ | refine aH ?_ | refine aD ?_ _)); refine aY (cs := #[.int .i64 ((aj l0 a1).f0), .string (⟨#[]⟩ : ByteArray), .int .i64 0, .int .i64 0]) ?_ 1 _ rfl; (with_reducible repeat (first | refine aG ?_ _ | refine aH ?_ | refine aD ?_ _)); refine aY (cs := #[.int .i64 0, .string (⟨#[]⟩ : ByteArray), .int .i64 0, .int .i64 0]) ?_ 0 _ rfl; (with_reducible repeat (first | refine aG ?_ _ | refine aH ?_ | refine aD ?_ _)); exact BK609.out⟩, ⟨BL⟩⟩
       case round =>
        clear H'
        try clear c4
        try clear c28
        try clear c28b0
        try clear c28b1
        try clear c48
        try clear c48b0
        try clear c48b1
        try clear hcz9001_0
        try clear hcz9001_1
        try clear hcz9001_2
        try clear hcz9001_3
        try clear hfz9001_0
        try clear hfz9001_1
        try clear hfz9001_2
        try clear hfz9001_3
        try clear hx608_0
        try clear hx608_1
        try clear hx608_2
        try clear hx608_3
        try clear hx610_0
        try clear hx610_1
        try clear hx610_2
        try clear hx610_3
        try clear p608
        try clear p610
        try clear q608
        try clear q610
        obtain ⟨x10_1, rfl, HA, HK1, BK609, HB⟩ := hrel
        cases gk with
        | zero => exact absurd HA.out (by simp [bn.l1])
        | succ k1 =>
         have H := HA.out
         clear HA
         simp only [bn.l1] at H
         replace H := ifD H; rcases H with ⟨c51b0, H⟩ | ⟨c51b0, H⟩
         ·have H' := ah.mk H
          clear H
          go_wp2
          go_loopg [11] k1 (fun kq v11 w' => ∃ (x11_2 : Int), v11 = .int .i64 x11_2 ∧ ah (bn.l2 kq l0 a2 x10_1 x11_2 ((aj l0 a1).f0) ((aj l0 a1).f1) ((aj l0 a1).f2) ((aj l0 a1).f3) = some r) ∧ ah (kq ≤ k1) ∧ ah (w'.heap[gb609]? = some (.cells #[.int .i64 ((aj l0 a1).f0), .string ((aj l0 a1).f1), .int .i64 ((aj l0 a1).f2), .int .i64 ((aj l0 a1).f3)] 141 (0, 0))) ∧ ah (Below w.heap.size w w'))
          case atStart => exact ⟨(wrap64 (x10_1 + 1)), EQ, H', ⟨Nat.le_refl _⟩, ⟨BK⟩, ⟨BL⟩⟩
          case round =>
           clear H'
           try clear c4
           try clear c5
           try clear c28
           try clear c28b0
           try clear c28b1
           try clear c48
           try clear c48b0
           try clear c48b1
           try clear c51
           try clear c51b0
           try clear hcz9001_0
           try clear hcz9001_1
           try clear hcz9001_2
           try clear hcz9001_3
           try clear hfz9001_0
           try clear hfz9001_1
           try clear hfz9001_2
           try clear hfz9001_3
           try clear hx608_0
           try clear hx608_1
           try clear hx608_2
           try clear hx608_3
           try clear hx610_0
           try clear hx610_1
           try clear hx610_2
           try clear hx610_3
           try clear p608
           try clear p610
           try clear q608
           try clear q610
           obtain ⟨x11_2, rfl, HA, HK2, BK609, HB⟩ := hrel
           cases gk with
           | zero => exact absurd HA.out (by simp [bn.l2])
           | succ k2 =>
            have H := HA.out
            clear HA
            simp only [bn.l2] at H
            replace H := ifD H; rcases H with ⟨c52b0, H⟩ | ⟨c52b0, H⟩
            ·replace H := ifP H; obtain ⟨c53, H⟩ := H
             have c53b0 := eq_true c53
             have c53b1 : decide (0 ≤ x10_1) = true := decide_eq_true c53
             clear c53
             replace H := ifP H; obtain ⟨c54, H⟩ := H
             have c54b0 := eq_true c54
             have c54b1 : decide (x10_1 ≤ x11_2) = true := decide_eq_true c54
             clear c54
             replace H := ifP H; obtain ⟨c55, H⟩ := H
             have c55b0 := eq_true c55
             have c55b1 : decide (x11_2 ≤ (a2.size : Int)) = true := decide_eq_true c55
             clear c55
             replace H := be H; obtain ⟨t616, A56, H⟩ := H
             replace H := ah.mk H
             try go_wp2
             replace BK609 := ah.mk (aH BK609.out)
             replace HB := ah.mk (dH HB.out)
             refine ji (n := 21) (S := fun w' => w'.cell? ⟨gb609, 0, none⟩ = some (.int .i64 ((aj l0 a1).f0)) ∧ w'.cell? ⟨gb609, 1, none⟩ = some (.string ((aj l0 a1).f1)) ∧ w'.cell? ⟨gb609, 2, none⟩ = some (.int .i64 ((aj l0 a1).f2)) ∧ w'.cell? ⟨gb609, 3, none⟩ = some (.int .i64 ((aj l0 a1).f3))) (ds := []) #[F,F,F,F,F,F,F,F,F,F,F,F,F,F,F,F,F,F,F,F,F] (by kernel_rfl) rfl rfl ⟨(ak BK609.out 0).trans rfl, (ak BK609.out 1).trans rfl, (ak BK609.out 2).trans rfl, (ak BK609.out 3).trans rfl⟩ (fun hHeld => ?_); refine iI bn.FM bn.ER (fun HT_ HW_ => ?_)
             generalize wr.drew = w9002 at BK609 HB hHeld ⊢
             refine puS (i := 0) (N := some 85) #[T,F,F,F,F,F,F,F,F,F,F,F,F,F,F,F,F,F,F,F,F] (aK HT_.out (by kernel_rfl)) ?_
             refine puS (i := 1) (N := some 86) #[T,T,F,F,F,F,F,F,F,F,F,F,F,F,F,F,F,F,F,F,F] (aK HT_.out (by kernel_rfl)) ?_
             refine puS (i := 3) (N := some 88) #[T,T,F,T,F,F,F,F,F,F,F,F,F,F,F,F,F,F,F,F,F] (aK HT_.out (by kernel_rfl)) ?_
             refine puS (i := 4) (N := some 89) #[T,T,F,T,T,F,F,F,F,F,F,F,F,F,F,F,F,F,F,F,F] (aK HT_.out (by kernel_rfl)) ?_
             refine puS (i := 5) (N := some 90) #[T,T,F,T,T,T,F,F,F,F,F,F,F,F,F,F,F,F,F,F,F] (aK HT_.out (by kernel_rfl)) ?_
             refine puS (i := 6) (N := some 91) #[T,T,F,T,T,T,T,F,F,F,F,F,F,F,F,F,F,F,F,F,F] (aK HT_.out (by kernel_rfl)) ?_
             refine taS (i := 2) (N := some 87) #[T,T,T,T,T,T,T,F,F,F,F,F,F,F,F,F,F,F,F,F,F] (eF HT_.out HW_.out (by kernel_rfl)) hHeld ?_
             refine kW (i := 7) (N := some 92) #[T,T,T,T,T,T,T,T,F,F,F,F,F,F,F,F,F,F,F,F,F] rfl rfl (jf HT_.out (by kernel_rfl)) (by decide) (fun K hK => ?_)
             refine iZ Tryz.func170 #[.slice (some ad608) l0.length c0, .int .i64 ((aj l0 a1).f3), .string (a2.extract (x10_1 : Int).toNat (x11_2 : Int).toNat)] ?_
             replace H := H.out
             replace H := ifB H; rcases H with ⟨rfl, H⟩ | ⟨rfl, H⟩
             ·have c58b0 := eq_true (OD : 0 ≤ x10_1)
              replace H := ifP H; obtain ⟨c59, H⟩ := H
              have c59b0 := eq_true c59
              have c59b1 : decide (x10_1 ≤ (a2.size : Int)) = true := decide_eq_true c59
              clear c59
              replace H := ifP H; obtain ⟨c60, H⟩ := H
              have c60b0 := eq_true c60
              have c60b1 : decide (0 ≤ x11_2) = true := decide_eq_true c60
              clear c60
              have c61b0 := eq_true (OD : x11_2 ≤ (a2.size : Int))
              by_cases c62 : (a2.extract 0 (x10_1 : Int).toNat).size + (a2.extract (x11_2 : Int).toNat a2.size).size ≤ 9223372036854775807
              ·rw [if_pos c62] at H
               have c62b0 := eq_true c62
               have c62b1 : decide ((a2.extract 0 (x10_1 : Int).toNat).size + (a2.extract (x11_2 : Int).toNat a2.size).size ≤ 9223372036854775807) = true := decide_eq_true c62
               try have c62b2 : (9223372036854775807 < (a2.extract 0 (x10_1 : Int).toNat).size + (a2.extract (x11_2 : Int).toNat a2.size).size) = False := eq_false (Nat.not_lt.2 c62)
               have c62b3d : (9223372036854775807 < x10_1.toNat + (a2.size - x11_2.toNat)) = False := by
                have hx_ : x10_1 ≤ (a2.size : Int) := OD
                have h_ := of_decide_eq_true c62b1
                simp only [ByteArray.size_extract] at h_
                exact eq_false (by omega)
               replace H := be H; obtain ⟨t617, A63, H⟩ := H
               replace H := ah.mk H
               with_reducible refine (ih k2 (by have := HK1.out; have := HK2.out; omega) _ _ l0 ((aj l0 a1).f3) (a2.extract (x10_1 : Int).toNat (x11_2 : Int).toNat) true _ ?side1 ?side2 A56.out).mono ?_
               (case side1 => exact CB HR0)
               (case side2 => exact HC0.out)
               rintro e w9003 ⟨rfl, hb⟩
               refine ⟨_, rfl, ?_⟩
               replace BK609 := KB BK609 hb
               replace HB := BS (w := w) hb
               (try clear hb)
               refine hK.out _ _ ⟨(ak BK609.out 0).trans rfl, (ak BK609.out 1).trans rfl, (ak BK609.out 2).trans rfl, (ak BK609.out 3).trans rfl⟩ (fun hHeld => ?_)
               clear hK K
               refine nrm (some 92) ?_
               refine puS (i := 8) (N := some 93) #[T,T,T,T,T,T,T,T,T,F,F,F,F,F,F,F,F,F,F,F,F] (aK HT_.out (by kernel_rfl)) ?_
               refine puS (i := 9) (N := some 94) #[T,T,T,T,T,T,T,T,T,T,F,F,F,F,F,F,F,F,F,F,F] (aK HT_.out (by kernel_rfl)) ?_
               refine puS (i := 10) (N := some 95) #[T,T,T,T,T,T,T,T,T,T,T,F,F,F,F,F,F,F,F,F,F] (aK HT_.out (by kernel_rfl)) ?_
               refine puS (i := 12) (N := some 97) #[T,T,T,T,T,T,T,T,T,T,T,F,T,F,F,F,F,F,F,F,F] (aK HT_.out (by kernel_rfl)) ?_
               refine puS (i := 13) (N := some 98) #[T,T,T,T,T,T,T,T,T,T,T,F,T,T,F,F,F,F,F,F,F] (aK HT_.out (by kernel_rfl)) ?_
               refine puS (i := 14) (N := some 99) #[T,T,T,T,T,T,T,T,T,T,T,F,T,T,T,F,F,F,F,F,F] (aK HT_.out (by kernel_rfl)) ?_
               refine puS (i := 15) (N := some 100) #[T,T,T,T,T,T,T,T,T,T,T,F,T,T,T,T,F,F,F,F,F] (aK HT_.out (by kernel_rfl)) ?_
               refine puS (i := 16) (N := some 101) #[T,T,T,T,T,T,T,T,T,T,T,F,T,T,T,T,T,F,F,F,F] (aK HT_.out (by kernel_rfl)) ?_
               refine puS (i := 17) (N := some 102) #[T,T,T,T,T,T,T,T,T,T,T,F,T,T,T,T,T,T,F,F,F] (aK HT_.out (by kernel_rfl)) ?_
               refine puS (i := 18) (N := some 103) #[T,T,T,T,T,T,T,T,T,T,T,F,T,T,T,T,T,T,T,F,F] (aK HT_.out (by kernel_rfl)) ?_
               refine taS (i := 11) (N := some 96) #[T,T,T,T,T,T,T,T,T,T,T,T,T,T,T,T,T,T,T,F,F] (eF HT_.out HW_.out (by kernel_rfl)) hHeld ?_
               refine kW (i := 19) (N := some 104) #[T,T,T,T,T,T,T,T,T,T,T,T,T,T,T,T,T,T,T,T,F] rfl rfl (jf HT_.out (by kernel_rfl)) (by decide) (fun K hK => ?_)
               refine iZ Tryz.func170 #[.slice (some ad608) l0.length c0, .int .i64 ((aj l0 a1).f2), .string ((a2.extract 0 (x10_1 : Int).toNat) ++ (a2.extract (x11_2 : Int).toNat a2.size))] ?_
               replace H := H.out
               replace H := ifB H; rcases H with ⟨rfl, H⟩ | ⟨rfl, H⟩
               ·obtain rfl := Option.some.inj H
                with_reducible refine (ih k2 (by have := HK1.out; have := HK2.out; omega) _ _ l0 ((aj l0 a1).f2) ((a2.extract 0 (x10_1 : Int).toNat) ++ (a2.extract (x11_2 : Int).toNat a2.size)) true _ ?side1 ?side2 A63.out).mono ?_
                (case side1 => exact CB HR0)
                (case side2 => exact HC0.out)
                rintro e w9004 ⟨rfl, hb⟩
                refine ⟨_, rfl, ?_⟩
                replace BK609 := KB BK609 hb
                replace HB := BS (w := w) hb
                (try clear hb)
                refine hK.out _ _ ⟨(ak BK609.out 0).trans rfl, (ak BK609.out 1).trans rfl, (ak BK609.out 2).trans rfl, (ak BK609.out 3).trans rfl⟩ (fun hHeld => ?_)
                clear hK K
                refine nrm (some 104) ?_
                refine puS (i := 20) (N := some 105) #[T,T,T,T,T,T,T,T,T,T,T,T,T,T,T,T,T,T,T,T,T] (aK HT_.out (by kernel_rfl)) ?_
                refine iD (gG HT_.out (by kernel_rfl)) ?_
                try go_wp2
                go_ret
                exact ⟨EWW, BL⟩
               ·have H' := ah.mk H
                clear H
                with_reducible refine (ih k2 (by have := HK1.out; have := HK2.out; omega) _ _ l0 ((aj l0 a1).f2) ((a2.extract 0 (x10_1 : Int).toNat) ++ (a2.extract (x11_2 : Int).toNat a2.size)) false _ ?side1 ?side2 A63.out).mono ?_
                (case side1 => exact CB HR0)
                (case side2 => exact HC0.out)
                rintro e w9004 ⟨rfl, hb⟩
                refine ⟨_, rfl, ?_⟩
                replace BK609 := KB BK609 hb
                replace HB := BS (w := w) hb
                (try clear hb)
                refine hK.out _ _ ⟨(ak BK609.out 0).trans rfl, (ak BK609.out 1).trans rfl, (ak BK609.out 2).trans rfl, (ak BK609.out 3).trans rfl⟩ (fun hHeld => ?_)
                clear hK K
                refine nrm (some 104) ?_
                refine puS (i := 20) (N := some 105) #[T,T,T,T,T,T,T,T,T,T,T,T,T,T,T,T,T,T,T,T,T] (aK HT_.out (by kernel_rfl)) ?_
                refine iD (gG HT_.out (by kernel_rfl)) ?_
                try go_wp2
                go_roundg k2
                case measure => have := HK1.out; have := HK2.out; omega
                case rel => exact ⟨(wrap64 (x11_2 + 1)), EQ, H', ⟨by have := HK1.out; have := HK2.out; omega⟩, ⟨BK⟩, ⟨BL⟩⟩
              ·rw [if_neg c62] at H
               exact absurd H (by simp)
             ·have H' := ah.mk H
              clear H
              with_reducible refine (ih k2 (by have := HK1.out; have := HK2.out; omega) _ _ l0 ((aj l0 a1).f3) (a2.extract (x10_1 : Int).toNat (x11_2 : Int).toNat) false _ ?side1 ?side2 A56.out).mono ?_
              (case side1 => exact CB HR0)
              (case side2 => exact HC0.out)
              rintro e w9003 ⟨rfl, hb⟩
              refine ⟨_, rfl, ?_⟩
              replace BK609 := KB BK609 hb
              replace HB := BS (w := w) hb
              (try clear hb)
              refine hK.out _ _ ⟨(ak BK609.out 0).trans rfl, (ak BK609.out 1).trans rfl, (ak BK609.out 2).trans rfl, (ak BK609.out 3).trans rfl⟩ (fun hHeld => ?_)
              clear hK K
              refine nrm (some 92) ?_
              refine puS (i := 8) (N := some 93) #[T,T,T,T,T,T,T,T,T,F,F,F,F,F,F,F,F,F,F,F,F] (aK HT_.out (by kernel_rfl)) ?_
              refine puU (i := 9) (N := some 94) #[T,T,T,T,T,T,T,T,T,T,F,F,F,F,F,F,F,F,F,F,F] (aK HT_.out (by kernel_rfl)) ?_
              refine puU (i := 10) (N := some 95) #[T,T,T,T,T,T,T,T,T,T,T,F,F,F,F,F,F,F,F,F,F] (aK HT_.out (by kernel_rfl)) ?_
              refine puU (i := 11) (N := some 96) #[T,T,T,T,T,T,T,T,T,T,T,T,F,F,F,F,F,F,F,F,F] (aK HT_.out (by kernel_rfl)) ?_
              refine puU (i := 12) (N := some 97) #[T,T,T,T,T,T,T,T,T,T,T,T,T,F,F,F,F,F,F,F,F] (aK HT_.out (by kernel_rfl)) ?_
              refine puU (i := 13) (N := some 98) #[T,T,T,T,T,T,T,T,T,T,T,T,T,T,F,F,F,F,F,F,F] (aK HT_.out (by kernel_rfl)) ?_
              refine puU (i := 14) (N := some 99) #[T,T,T,T,T,T,T,T,T,T,T,T,T,T,T,F,F,F,F,F,F] (aK HT_.out (by kernel_rfl)) ?_
              refine puU (i := 15) (N := some 100) #[T,T,T,T,T,T,T,T,T,T,T,T,T,T,T,T,F,F,F,F,F] (aK HT_.out (by kernel_rfl)) ?_
              refine puU (i := 16) (N := some 101) #[T,T,T,T,T,T,T,T,T,T,T,T,T,T,T,T,T,F,F,F,F] (aK HT_.out (by kernel_rfl)) ?_
              refine puU (i := 17) (N := some 102) #[T,T,T,T,T,T,T,T,T,T,T,T,T,T,T,T,T,T,F,F,F] (aK HT_.out (by kernel_rfl)) ?_
              refine puU (i := 18) (N := some 103) #[T,T,T,T,T,T,T,T,T,T,T,T,T,T,T,T,T,T,T,F,F] (aK HT_.out (by kernel_rfl)) ?_
              refine puU (i := 19) (N := some 104) #[T,T,T,T,T,T,T,T,T,T,T,T,T,T,T,T,T,T,T,T,F] (aK HT_.out (by kernel_rfl)) ?_
              refine puS (i := 20) (N := some 105) #[T,T,T,T,T,T,T,T,T,T,T,T,T,T,T,T,T,T,T,T,T] (aK HT_.out (by kernel_rfl)) ?_
              refine iD (gG HT_.out (by kernel_rfl)) ?_
              try go_wp2
              go_roundg k2
              case measure => have := HK1.out; have := HK2.out; omega
              case rel => exact ⟨(wrap64 (x11_2 + 1)), EQ, H', ⟨by have := HK1.out; have := HK2.out; omega⟩, ⟨BK⟩, ⟨BL⟩⟩
            ·have H' := ah.mk H
             clear H
             go_wp2
             go_roundg k2
             case measure => have := HK1.out; have := HK2.out; omega
             case rel => exact ⟨(wrap64 (x10_1 + 1)), EQ, H', ⟨by have := HK1.out; have := HK2.out; omega⟩, ⟨BK⟩, ⟨BL⟩⟩
         ·obtain rfl := Option.some.inj H
          go_wp2
          go_ret
          exact ⟨EWW, BL⟩
      ·replace H := ifE H; rcases H with ⟨c73b0, c73b1, H⟩ | ⟨c73, c73b0, c73b1, H⟩
       ·replace H := be H; obtain ⟨t618, A74, H⟩ := H
        obtain rfl := Option.some.inj H
        try go_wp2_with (first | ((with_reducible refine ay (f := 207) rfl ?_); refine bE (some 110) Tryz.func207 #[.string ((aj l0 ((aj l0 a1).f2)).f1)] ?_; (with_reducible refine (jS.calls k ((aj l0 ((aj l0 a1).f2)).f1) t618 _ A74.out).mono ?_); rintro e w' ⟨rfl, ⟨nd, rfl⟩⟩; refine ⟨_, rfl, ?_⟩))
        go_ret
        exact ⟨EWW, BL⟩
       ·replace H := ifE H; rcases H with ⟨c77b0, c77b1, H⟩ | ⟨c77, c77b0, c77b1, H⟩
        ·replace H := be H; obtain ⟨t619, A78, H⟩ := H
         obtain rfl := Option.some.inj H
         try go_wp2_with (first | ((with_reducible refine ay (f := 208) rfl ?_); refine bE (some 116) Tryz.func208 #[.string ((aj l0 ((aj l0 a1).f2)).f1)] ?_; (with_reducible refine (iH.calls k ((aj l0 ((aj l0 a1).f2)).f1) t619 _ A78.out).mono ?_); rintro e w' ⟨rfl, ⟨nd, rfl⟩⟩; refine ⟨_, rfl, ?_⟩))
         go_ret
         exact ⟨EWW, BL⟩
        ·replace H := ifE H; rcases H with ⟨c81b0, c81b1, H⟩ | ⟨c81, c81b0, c81b1, H⟩
         ·replace H := be H; obtain ⟨t620, A82, H⟩ := H
          obtain rfl := Option.some.inj H
          try go_wp2_with (first | ((with_reducible refine ay (f := 209) rfl ?_); refine bE (some 122) Tryz.func209 #[.string ((aj l0 ((aj l0 a1).f2)).f1)] ?_; (with_reducible refine (iF.calls k ((aj l0 ((aj l0 a1).f2)).f1) t620 _ A82.out).mono ?_); rintro e w' ⟨rfl, ⟨nd, rfl⟩⟩; refine ⟨_, rfl, ?_⟩))
          go_ret
          exact ⟨EWW, BL⟩
         ·replace H := ifE H; rcases H with ⟨c85b0, c85b1, H⟩ | ⟨c85, c85b0, c85b1, H⟩
          ·replace H := be H; obtain ⟨t621, A86, H⟩ := H
           obtain rfl := Option.some.inj H
           try go_wp2_with (first | ((with_reducible refine ay (f := 210) rfl ?_); refine bE (some 128) Tryz.func210 #[.string a2, .string ((aj l0 ((aj l0 a1).f2)).f1)] ?_; (with_reducible refine (dn.calls k a2 ((aj l0 ((aj l0 a1).f2)).f1) t621 _ A86.out).mono ?_); rintro e w' ⟨rfl, ⟨nd, rfl⟩⟩; refine ⟨_, rfl, ?_⟩))
           go_ret
           exact ⟨EWW, BL⟩
          ·obtain rfl := Option.some.inj H
           try go_wp2
           go_ret
           exact ⟨EWW, BL⟩
end Go.Proofs.YtnfiedfaaaphoaaGreat.PFnExactOneRound
