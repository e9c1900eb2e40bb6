/- Walks of functions: what each computes. -/
import Derived.Test.YtnfiedfaaaphoaaGreatZPuzzleCodeG0
import Derived.Test.YtnfiedfaaaphoaaGreatZPuzzleCodeG1
import Derived.Test.YtnfiedfaaaphoaaGreatZPuzzleCodeG2
import Derived.Test.YtnfiedfaaaphoaaGreatZPuzzleCodeW
import Derived.Test.YtnfiedfaaaphoaaGreatZPuzzleCodeShelf
import Derived.Test.YtnfiedfaaaphoaaGreatZPuzzleCodeHandSort
import Derived.Test.YtnfiedfaaaphoaaGreatZPuzzleCodeHandForm
import Derived.Test.YtnfiedfaaaphoaaGreatZPuzzleCodeHandAlone
import Derived.Test.YtnfiedfaaaphoaaGreatZPuzzleCodeHandReach
import Derived.Test.YtnfiedfaaaphoaaGreatZPuzzleCodeHandPut
namespace Go.Proofs.YtnfiedfaaaphoaaGreat.PFnExactPuzzleCode
open Go.RowKit Go.Proofs.YtnfiedfaaaphoaaGreatW.PrintWords Go.Proofs.YtnfiedfaaaphoaaGreatW.PrintLast Go.Proofs.YtnfiedfaaaphoaaGreatW.PrintMore Go.Proofs.YtnfiedfaaaphoaaGreat.Sq
attribute [local go_sem] iH iJ jD jC gV gU iK iG
set_option maxHeartbeats 8000000
set_option maxRecDepth 100000
set_option linter.unusedVariables false
set_option linter.unusedSimpArgs false
attribute [local go_sem high] Dm
mutual
def bW.l0 : Nat → ByteArray → List ByteArray → List (dI) → Int → Int → Int → ByteArray → Option (List ByteArray)
 | 0, _, _, _, _, _, _, _ => none
 | k + 1, a, b, c, d, e, f, g => if d < (c.length : Int) then ((bK.f k e f g a).bind fun h => (bW.j1 k a b c d h e f g)) else (bW.j1 k a b c d false e f g)
def bW.j1 : Nat → ByteArray → List ByteArray → List (dI) → Int → Bool → Int → Int → ByteArray → Option (List ByteArray)
 | 0, _, _, _, _, _, _, _, _ => none
 | k + 1, a, b, c, d, e, f, g, h => if e = true then ((bg.f k f g h a d).bind fun i => ((fD.f k i).bind fun j => (if j = true then (bW.l0 k a b c (wrap64 (d + 1)) f g h) else (if b.length < 8796093022208 then (bW.l0 k a (b ++ [i]) c (wrap64 (d + 1)) f g h) else (none))))) else (some b)
end
def bW.f (k : Nat) (EU EW : Int) (EX a1 : ByteArray) : Option (List ByteArray) := (aR.f k EU EW EX).bind fun t166 => (bW.l0 k a1 (([] : List ByteArray)) t166 0 EU EW EX)
theorem bW.calls (k : Nat) (EU EW : Int) (EX a1 : ByteArray) (r : List ByteArray) (w : World) (h : bW.f k EU EW EX a1 = some r) :
  Calls Tryz.prog 46 #[.agg #[.int .i64 EU, .int .i64 EW, .string EX], .string a1] w fun e w' => ∃ v0_ : Value, e = .returned (v0_) ∧ Kd.R Kd.string 9 w' w.heap.size (fun _ => True) v0_ r ∧ Below w.heap.size w w' := by
 have hu32 := Tryz.underlying32
 have HB := ah.mk (Below.refl w.heap.size w)
 unfold bW.f at h
 have H := h
 clear h
 obtain ⟨y163, hy163⟩ : ∃ y_ : List ByteArray, y_ = (([] : List ByteArray)) := ⟨_, rfl⟩
 replace H : ((aR.f k EU EW EX).bind fun t166 => (bW.l0 k a1 y163 t166 0 EU EW EX)) = some r := by first | (rw [hy163]; with_reducible exact H) | (have H2_ := (Option.bind_some _ _).symm.trans H; rw [hy163]; with_reducible exact H2_) | (have H2_ := (Option.bind_some _ _).symm.trans H; with_reducible exact H2_) | with_reducible exact H | (rw [hy163]; exact H) | exact H
 have Ny163 := ah.mk hy163
 clear hy163
 replace H := be H; obtain ⟨t166, A3, H⟩ := H
 have H' := ah.mk H
 clear H
 go_enter Tryz.func46, Tryz.ntmps46
 go_wp2_with (first | ((with_reducible refine aN (N := 2) rfl ?_); refine bC (N := 2) (cs := #[.int .i64 EU, .int .i64 EW, .string EX]) (t := 32) ?_; intro gb162 hg w4 hbox hb; have BK162 := ah.mk hbox; have GW162 := SZ (w := w) hg; have GE162 := GW162; replace HB := BS (w := w) hb; clear hb hbox hg) | ((with_reducible refine aN (N := 9) rfl ?_); refine Kd.oq Kd.string _ 9 ?hg (N := 9) ?hd (xs := ([] : List ByteArray)) (inner := []) (ok := fun _ => True) (okp := fun _ => True) ?hr ?hp (fun _ hk => hk) trivial (Below.refl _ _) (Nat.le_refl _) (by simp) ?_; (case hd => rfl); (case hg => rfl); (case hr => first | (go_simp; done) | (go_simp; rfl)); (case hp => exact (gD.none _ _)); intro v164 w5 ho6 hb hg_ hnew_; clear hg_ hnew_; (first | rw [← Ny163.out] at ho6 | (simp only [Int.reduceToNat] at ho6; rw [← Ny163.out] at ho6)); have n0_ := ah.mk (Kd.cO ho6 (aQ BL)); replace BK162 := KB BK162 hb; replace HB := BS (w := w) hb; have HO165 := n0_; clear n0_; clear hb ho6; obtain ⟨hcz7_0, hcz7_1, hcz7_2, hfz7_0, hfz7_1, hfz7_2⟩ := cz3 BK162.out) | ((with_reducible refine ay (f := 49) rfl ?_); refine bq (some 11) Tryz.func49 #[.agg #[.int .i64 EU, .int .i64 EW, .string EX]] ?_; (with_reducible refine (aR.calls k EU EW EX t166 _ A3.out).mono ?_); rintro e w8 ⟨v167, rfl, ho0, hb⟩; refine ⟨_, rfl, ?_⟩; have n1_ := ah.mk (Kd.cO ho0 (aQ BL)); replace HO165 := RB HO165 hb; replace BK162 := KB BK162 hb; replace HB := BS (w := w) hb; have HO168 := n1_; clear n1_; (try clear hb); (try clear ho0)))
 go_loopg [5, 7] k (fun kq v5 v7 w' => ∃ (x5_1 : List ByteArray) (x7_1 : Int), v7 = .int .i64 x7_1 ∧ ah (bW.l0 kq a1 x5_1 t166 x7_1 EU EW EX = some r) ∧ ah (kq ≤ k) ∧ ah (Kd.R Kd.string 9 w' w.heap.size (fun _ => True) v5 x5_1) ∧ ah (Kd.R kX 115 w' w.heap.size (fun _ => True) v167 t166) ∧ ah (w'.heap[gb162]? = some (.cells #[.int .i64 EU, .int .i64 EW, .string EX] 32 (0, 0))) ∧ ah (Below w.heap.size w w'))
 case atStart => exact ⟨(y163), (0), EQ, H', ⟨Nat.le_refl _⟩, ⟨(RR HO165)⟩, ⟨(RR HO168)⟩, ⟨BK⟩, ⟨BL⟩⟩
 case round =>
  clear H'
  try clear hcz7_0
  try clear hcz7_1
  try clear hcz7_2
  try clear hfz7_0
  try clear hfz7_1
  try clear hfz7_2
  obtain ⟨x5_1, x7_1, rfl, HA, HK1, HO_5, HO_6, BK162, HB⟩ := hrel
  cases gk with
  | zero => exact absurd HA.out (by simp [bW.l0])
  | succ k1 =>
   have H := HA.out
   clear HA
   simp only [bW.l0] at H
   have HC9 := ah.mk H
   clear H
   go_upto_region 4 with (fail)
   go_cut [20] (fun v20 wc => ∃ (kq : Nat) (x20_8 : Bool), v20 = .bool x20_8 ∧ ah (bW.j1 kq a1 x5_1 t166 x7_1 x20_8 EU EW EX = some r) ∧ ah (kq ≤ k1) ∧ ah (Kd.R Kd.string 9 wc w.heap.size (fun _ => True) u5 x5_1) ∧ ah (Kd.R kX 115 wc w.heap.size (fun _ => True) v167 t166) ∧ ah (wc.heap[gb162]? = some (.cells #[.int .i64 EU, .int .i64 EW, .string EX] 32 (0, 0))) ∧ ah (Below w.heap.size w wc))
   case first =>
    have H := HC9.out
    clear HC9
    replace H := ifD H; rcases H with ⟨c10b0, H⟩ | ⟨c10b0, H⟩
    ·(first | rw [c10b0] | (simp only [iV, jQ]; rw [c10b0]) | skip)
     replace H := be H; obtain ⟨t169, A11, H⟩ := H
     have H' := ah.mk H
     clear H
     obtain ⟨Ao6000, co6000, eo6000⟩ := Kd.dH HO_6.out
     subst eo6000
     obtain ⟨hcz6001_0, hcz6001_1, hcz6001_2, hfz6001_0, hfz6001_1, hfz6001_2⟩ := cz3 BK162.out
     go_wp2_with (first | (go_at_call 65; (with_reducible refine (bK.calls k1 EU EW EX a1 t169 _ A11.out).mono ?_); rintro e w6002 ⟨rfl, hb⟩; replace HO_5 := RB HO_5 hb; replace HO_6 := RB HO_6 hb; replace BK162 := KB BK162 hb; replace HB := BS (w := w) hb; (try clear hb); (try clear hb2); (try clear hk); (try clear hi)))
     go_meet
     case rel => exact ⟨_, (t169), EQ, H', ⟨by have := HK1.out; first | omega | exact Nat.le_refl _⟩, ⟨(RR HO_5)⟩, ⟨(RR HO_6)⟩, ⟨BK⟩, ⟨BL⟩⟩
    ·(first | rw [c10b0] | (simp only [iV, jQ]; rw [c10b0]) | skip)
     have H' := ah.mk H
     clear H
     obtain ⟨Ao6000, co6000, eo6000⟩ := Kd.dH HO_6.out
     subst eo6000
     go_wp2
     go_meet
     case rel => exact ⟨_, (false), EQ, H', ⟨by have := HK1.out; first | omega | exact Nat.le_refl _⟩, ⟨(RR HO_5)⟩, ⟨(RR HO_6)⟩, ⟨BK⟩, ⟨BL⟩⟩
   case rest =>
    clear HC9
    try clear hcz7_0
    try clear hcz7_1
    try clear hcz7_2
    try clear hfz7_0
    try clear hfz7_1
    try clear hfz7_2
    obtain ⟨kq, x20_8, rfl, HA, HJ8, HO_5, HO_6, BK162, HB⟩ := hcut
    cases kq with
    | zero => exact absurd HA.out (by simp [bW.j1])
    | succ kj8 =>
     have H := HA.out
     clear HA
     simp only [bW.j1] at H
     replace H := ifB H; rcases H with ⟨rfl, H⟩ | ⟨rfl, H⟩
     ·replace H := be H; obtain ⟨t170, A17, H⟩ := H
      replace H := be H; obtain ⟨t171, A18, H⟩ := H
      obtain ⟨hcz5000_0, hcz5000_1, hcz5000_2, hfz5000_0, hfz5000_1, hfz5000_2⟩ := cz3 BK162.out
      replace H := ah.mk H
      go_wp2_with (first | ((with_reducible refine ay (f := 66) rfl ?_); refine bq (some 26) Tryz.func66 #[.agg #[.int .i64 EU, .int .i64 EW, .string EX], .string a1, .int .i64 x7_1] ?_; (with_reducible refine (bg.calls kj8 EU EW EX a1 x7_1 t170 _ A17.out).mono ?_); rintro e w5001 ⟨rfl, hb⟩; refine ⟨_, rfl, ?_⟩; replace HO_5 := RB HO_5 hb; replace HO_6 := RB HO_6 hb; replace BK162 := KB BK162 hb; replace HB := BS (w := w) hb; (try clear hb)) | ((with_reducible refine ay (f := 68) rfl ?_); refine bq (some 28) Tryz.func68 #[.string t170] ?_; (with_reducible refine (fD.calls kj8 t170 _ _ A18.out).mono ?_); rintro e w' ⟨rfl, ⟨nd, rfl⟩⟩; refine ⟨_, rfl, ?_⟩; refine bP ?_))
      refine Hide.mk ?_
      replace H := H.out
      replace H := ifB H; rcases H with ⟨rfl, H⟩ | ⟨rfl, H⟩
      ·have H' := ah.mk H
       clear H
       try go_wp2
       go_roundg kj8
       case measure => have := HK1.out; have := HJ8.out; omega
       case rel => exact ⟨(x5_1), (wrap64 (x7_1 + 1)), EQ, H', ⟨by have := HK1.out; have := HJ8.out; omega⟩, ⟨(RR HO_5)⟩, ⟨(RR HO_6)⟩, ⟨BK⟩, ⟨BL⟩⟩
      ·replace H := ifP H; obtain ⟨c22, H⟩ := H
       have LMc22 := ah.mk c22
       clear c22
       obtain ⟨y172, hy172⟩ : ∃ y_ : List ByteArray, y_ = (x5_1 ++ [t170]) := ⟨_, rfl⟩
       replace H : (bW.l0 kj8 a1 y172 t166 (wrap64 (x7_1 + 1)) EU EW EX) = some r := by first | (rw [hy172]; with_reducible exact H) | (have H2_ := (Option.bind_some _ _).symm.trans H; rw [hy172]; with_reducible exact H2_) | (have H2_ := (Option.bind_some _ _).symm.trans H; with_reducible exact H2_) | with_reducible exact H | (rw [hy172]; exact H) | exact H
       have Ny172 := ah.mk hy172
       clear hy172
       have H' := ah.mk H
       clear H
       try go_wp2_with (first | ((with_reducible refine dn (b := .append) (xs := #[.tmp 30, .tmp 32]) rfl ?_); at_builtin; refine Kd.fT Kd.string (w0 := w) w.heap.size rfl (.tmp 30) (.tmp 32) 26 9 (.string ⟨#[]⟩) 16 rfl Tryz.underlying26 qX rfl (by decide) (by omega) u5 x5_1 t170 [.string t170] (fun _ => True) (fun _ => False) rfl rfl ?aP (fun _ hk => hk.elim) ?aF ?aO ?aB ?aS ?aL ?_; (case aP => exact rfl); (case aB => exact BL); (case aF => exact (fun _ _ => trivial)); (case aO => exact (RR HO_5)); (case aS => exact (aQ BL)); (case aL => have := LMc22.out; omega); intro v173 w5002 ho hb hg hat; rw [← Ny172.out] at ho; have n0_ := ah.mk (Kd.lU (RR HO_6) (Kd.lX (RR HO_5)) (by decide) hg); have n1_ := ah.mk (dK (g := gb162) (o := .cells #[.int .i64 EU, .int .i64 EW, .string EX] 32 (0, 0)) BK hg (Kd.lq HO_5.out BK162.out (by decide))); have n2_ := ah.mk (hb); have n3_ := ah.mk (ho); clear HO_6 BK162 HB HO_5; have HO_6 := n0_; have BK162 := n1_; have HB := n2_; have HO174 := n3_; clear n0_ n1_ n2_ n3_; clear ho hb hg hat))
       go_roundg kj8
       case measure => have := HK1.out; have := HJ8.out; omega
       case rel => exact ⟨(y172), (wrap64 (x7_1 + 1)), EQ, H', ⟨by have := HK1.out; have := HJ8.out; omega⟩, ⟨(RR HO174)⟩, ⟨(RR HO_6)⟩, ⟨BK⟩, ⟨BL⟩⟩
     ·obtain rfl := Option.some.inj H
      go_wp2
      go_ret
      exact ⟨_, EWW, (RR HO_5), BL⟩
def dM.l0 : Nat → ByteArray → ByteArray → Int → Option (ByteArray)
 | 0, _, _, _ => none
 | k + 1, a, b, c => if c < (a.size : Int) then (if (a.size : Int) ≤ 100 then (if 0 ≤ c then (if c ≤ (wrap64 (c + 1)) then (if (wrap64 (c + 1)) ≤ (a.size : Int) then (if (a.extract (c : Int).toNat ((wrap64 (c + 1)) : Int).toNat).size + b.size ≤ 9223372036854775807 then (dM.l0 k a ((a.extract (c : Int).toNat ((wrap64 (c + 1)) : Int).toNat) ++ b) (wrap64 (c + 1))) else (none)) else (none)) else (none)) else (none)) else (some b)) else (some b)
def dM.f (k : Nat) (a0 : ByteArray) : Option (ByteArray) := dM.l0 k a0 (⟨#[]⟩ : ByteArray) 0
theorem dM.calls (k : Nat) (a0 r : ByteArray) (w : World) (h : dM.f k a0 = some r) :
  Calls Tryz.prog 188 #[.string a0] w fun e w' => e = .returned (.string r) ∧ aC w w' := by
 unfold dM.f at h
 have H := h
 clear h
 have H' := ah.mk H
 clear H
 go_enter Tryz.func188, Tryz.ntmps188
 go_wp2
 go_loopg [3, 4] k (fun kq v3 v4 w' => ∃ (x3_1 : ByteArray) (x4_1 : Int), v3 = .string x3_1 ∧ v4 = .int .i64 x4_1 ∧ ah (dM.l0 kq a0 x3_1 x4_1 = some r) ∧ ah (kq ≤ k) ∧ aC w w')
 case atStart => exact ⟨((⟨#[]⟩ : ByteArray)), (0), EQ, EQ, H', ⟨Nat.le_refl _⟩, by repeat (first | exact aC.refl _ | apply aC.step)⟩
 case round =>
  clear H'
  obtain ⟨x3_1, x4_1, rfl, rfl, HA, HK1, ⟨m1, rfl⟩⟩ := hrel
  cases gk with
  | zero => exact absurd HA.out (by simp [dM.l0])
  | succ k1 =>
   have H := HA.out
   clear HA
   simp only [dM.l0] at H
   replace H := ifD H; rcases H with ⟨c2b0, H⟩ | ⟨c2b0, H⟩
   ·by_cases c3 : (a0.size : Int) ≤ 100
    ·rw [if_pos c3] at H
     have c3b0 : decide ((a0.size : Int) ≤ 100) = true := decide_eq_true c3
     have c3b1 : decide (a0.size ≤ 100) = true := decide_eq_true (by omega)
     clear c3
     replace H := ifP H; obtain ⟨c4, H⟩ := H
     have c4b0 := eq_true c4
     have c4b1 : decide (0 ≤ x4_1) = true := decide_eq_true c4
     clear c4
     replace H := ifP H; obtain ⟨c5, H⟩ := H
     have c5b0 := eq_true c5
     have c5b1 : decide (x4_1 ≤ (wrap64 (x4_1 + 1))) = true := decide_eq_true c5
     replace H := ifP H; obtain ⟨c6, H⟩ := H
     have c6b0 := eq_true c6
     have c6b1 : decide ((wrap64 (x4_1 + 1)) ≤ (a0.size : Int)) = true := decide_eq_true c6
     replace H := ifP H; obtain ⟨c7, H⟩ := H
     have c7b0 := eq_true c7
     have c7b1 : decide ((a0.extract (x4_1 : Int).toNat ((wrap64 (x4_1 + 1)) : Int).toNat).size + x3_1.size ≤ 9223372036854775807) = true := decide_eq_true c7
     try have c7b2 : (9223372036854775807 < (a0.extract (x4_1 : Int).toNat ((wrap64 (x4_1 + 1)) : Int).toNat).size + x3_1.size) = False := eq_false (Nat.not_lt.2 c7)
     have H' := ah.mk H
     clear H
     go_wp2
     go_roundg k1
     case measure => have := HK1.out; omega
     case rel => exact ⟨((a0.extract (x4_1 : Int).toNat ((wrap64 (x4_1 + 1)) : Int).toNat) ++ x3_1), (wrap64 (x4_1 + 1)), EQ, EQ, H', ⟨by have := HK1.out; omega⟩, by repeat (first | exact aC.refl _ | apply aC.step)⟩
    ·rw [if_neg c3] at H
     have c3b0 : decide ((a0.size : Int) ≤ 100) = false := decide_eq_false c3
     have c3b1 : decide (a0.size ≤ 100) = false := decide_eq_false (by omega)
     clear c3
     obtain rfl := Option.some.inj H
     go_wp2
     go_ret
     exact ⟨by first | rfl | (simp; done) | (simp [*]; done), by repeat (first | exact aC.refl _ | apply aC.step)⟩
   ·obtain rfl := Option.some.inj H
    go_wp2
    go_ret
    exact ⟨by first | rfl | (simp; done) | (simp [*]; done), by repeat (first | exact aC.refl _ | apply aC.step)⟩
def jJ.f (k : Nat) (EU EW : Int) (EX : ByteArray) : Option (Int × Int × ByteArray) := (bI.f k EU EW EX).bind fun t177 => (if t177 = true then ((dM.f k EX).bind fun t178 => (some (EU, EW, t178))) else (some (0, 0, (⟨#[]⟩ : ByteArray))))
theorem jJ.calls (k : Nat) (EU EW : Int) (EX : ByteArray) (r1 r2 : Int) (r3 : ByteArray) (w : World) (h : jJ.f k EU EW EX = some (r1, r2, r3)) :
  Calls Tryz.prog 153 #[.agg #[.int .i64 EU, .int .i64 EW, .string EX]] w fun e w' => e = .returned (.agg #[.int .i64 r1, .int .i64 r2, .string r3]) ∧ Below w.heap.size w w' := by
 have hu32 := Tryz.underlying32
 have HB := ah.mk (Below.refl w.heap.size w)
 unfold jJ.f at h
 have H := h
 clear h
 replace H := be H; obtain ⟨t177, A2, H⟩ := H
 replace H := ah.mk H
 go_enter Tryz.func153, Tryz.ntmps153
 go_wp2_with (first | ((with_reducible refine aN (N := 1) rfl ?_); refine bC (N := 1) (cs := #[.int .i64 EU, .int .i64 EW, .string EX]) (t := 32) ?_; intro gb175 hg w9000 hbox hb; have BK175 := ah.mk hbox; have GW175 := SZ (w := w) hg; have GE175 := GW175; replace HB := BS (w := w) hb; clear hb hbox hg) | ((with_reducible refine aN (N := 2) rfl ?_); refine bC (N := 2) (cs := #[.int .i64 0, .int .i64 0, .string (⟨#[]⟩ : ByteArray)]) (t := 32) ?_; intro gb176 hg w9001 hbox hb; have n0_ := KB BK175 hb; have n1_ := BS (w := w) hb; have n2_ := ah.mk (hbox); have n3_ := SZ (w := w) hg; have n4_ := SZ (w := w) hg; have n5_ := NL BK175 hg; have n6_ := NG BK175 hg; clear BK175 HB; have BK175 := n0_; have HB := n1_; have BK176 := n2_; have GW176 := n3_; have GE176 := n4_; have NB175_176 := n5_; have NB176_175 := n6_; clear n0_ n1_ n2_ n3_ n4_ n5_ n6_; clear hb hbox hg; have hnb9002 := NB175_176.out; have hnc9002 := NB176_175.out; obtain ⟨hcz9003_0, hcz9003_1, hcz9003_2, hfz9003_0, hfz9003_1, hfz9003_2⟩ := cz3 BK175.out; refine bP ?_))
 refine Hide.mk ?_
 replace H := H.out
 replace H := ifB H; rcases H with ⟨rfl, H⟩ | ⟨rfl, H⟩
 ·replace H := be H; obtain ⟨t178, A4, H⟩ := H
  simp only [Option.some.injEq, Prod.mk.injEq] at H
  obtain ⟨rfl, rfl, rfl⟩ := H
  try go_wp2_with (first | ((with_reducible refine ay (f := 96) rfl ?_); refine bq (some 4) Tryz.func96 #[.agg #[.int .i64 EU, .int .i64 EW, .string EX]] ?_; (with_reducible refine (bI.calls k EU EW EX _ _ A2.out).mono ?_); rintro e w9004 ⟨rfl, hb⟩; refine ⟨_, rfl, ?_⟩; replace BK175 := KB BK175 hb; replace BK176 := KB BK176 hb; replace HB := BS (w := w) hb; (try clear hb); obtain ⟨hcz9005_0, hcz9005_1, hcz9005_2, hfz9005_0, hfz9005_1, hfz9005_2⟩ := cz3 BK175.out) | ((with_reducible refine ay (f := 188) rfl ?_); refine bq (some 9) Tryz.func188 #[.string EX] ?_; (with_reducible refine (dM.calls k EX t178 _ A4.out).mono ?_); rintro e w' ⟨rfl, ⟨nd, rfl⟩⟩; refine ⟨_, rfl, ?_⟩; (try (rw [vV w9004]; generalize hq_ : World.drewN w9004 _ = w9004; have n0_ : ah (w9004.heap[gb175]? = some (.cells #[.int .i64 EU, .int .i64 EW, .string EX] 32 (0, 0))) := ⟨by rw [← hq_]; exact BK⟩; have n1_ : ah (w9004.heap[gb176]? = some (.cells #[.int .i64 0, .int .i64 0, .string (⟨#[]⟩ : ByteArray)] 32 (0, 0))) := ⟨by rw [← hq_]; exact BK⟩; have n2_ : ah (Below w.heap.size w w9004) := ⟨by rw [← hq_]; exact BL⟩; clear BK175 BK176 HB hq_; have BK175 := n0_; have BK176 := n1_; have HB := n2_; clear n0_ n1_ n2_)); have hcz9005_0 : w9004.cell? ⟨gb175, 0, none⟩ = some (.int .i64 EU) := (av BK175.out 0).trans rfl; have hcz9005_1 : w9004.cell? ⟨gb175, 1, none⟩ = some (.int .i64 EW) := (av BK175.out 1).trans rfl; have hcz9005_2 : w9004.cell? ⟨gb175, 2, none⟩ = some (.string EX) := (av BK175.out 2).trans rfl; have hfz9003_0 := eX BK175.out 0; have hfz9003_1 := eX BK175.out 1; have hfz9003_2 := eX BK175.out 2; have hfz9005_0 := eX BK175.out 0; have hfz9005_1 := eX BK175.out 1; have hfz9005_2 := eX BK175.out 2; obtain ⟨hcz9006_0, hcz9006_1, hcz9006_2, hfz9006_0, hfz9006_1, hfz9006_2⟩ := cz3 BK176.out))
  refine bodyPost_ret (results_cell_row rfl _ _ gb176 32 #[.int .i64 EU, .int .i64 EW, .string t178] (0, 0) _ rfl (by (with_reducible repeat (first | refine aG ?_ _ | refine aI ?_ | refine aD ?_ _)); refine aX (cs := #[.int .i64 EU, .int .i64 EW, .string (⟨#[]⟩ : ByteArray)]) ?_ 2 _ rfl; (with_reducible repeat (first | refine aG ?_ _ | refine aI ?_ | refine aD ?_ _)); refine aX (cs := #[.int .i64 EU, .int .i64 0, .string (⟨#[]⟩ : ByteArray)]) ?_ 1 _ rfl; (with_reducible repeat (first | refine aG ?_ _ | refine aI ?_ | refine aD ?_ _)); refine aX (cs := #[.int .i64 0, .int .i64 0, .string (⟨#[]⟩ : ByteArray)]) ?_ 0 _ rfl; (with_reducible repeat (first | refine aG ?_ _ | refine aI ?_ | refine aD ?_ _)); refine fI ?_ NB176_175.out _; (with_reducible repeat (first | refine aG ?_ _ | refine aI ?_ | refine aD ?_ _)); exact BK176.out) Tryz.underlying32 rfl (by kernel_rfl)) rfl ?_
  exact ⟨EWW, BL⟩
 ·simp only [Option.some.injEq, Prod.mk.injEq] at H
  obtain ⟨rfl, rfl, rfl⟩ := H
  try go_wp2_with (first | ((with_reducible refine ay (f := 96) rfl ?_); refine bq (some 4) Tryz.func96 #[.agg #[.int .i64 EU, .int .i64 EW, .string EX]] ?_; (with_reducible refine (bI.calls k EU EW EX _ _ A2.out).mono ?_); rintro e w9004 ⟨rfl, hb⟩; refine ⟨_, rfl, ?_⟩; replace BK175 := KB BK175 hb; replace BK176 := KB BK176 hb; replace HB := BS (w := w) hb; (try clear hb); obtain ⟨hcz9005_0, hcz9005_1, hcz9005_2, hfz9005_0, hfz9005_1, hfz9005_2⟩ := cz3 BK176.out))
  refine bodyPost_ret (results_cell_row rfl _ _ gb176 32 #[.int .i64 0, .int .i64 0, .string (⟨#[]⟩ : ByteArray)] (0, 0) _ rfl (by (with_reducible repeat (first | refine aG ?_ _ | refine aI ?_ | refine aD ?_ _)); refine aX (cs := #[.int .i64 0, .int .i64 0, .string (⟨#[]⟩ : ByteArray)]) ?_ 2 _ rfl; (with_reducible repeat (first | refine aG ?_ _ | refine aI ?_ | refine aD ?_ _)); refine aX (cs := #[.int .i64 0, .int .i64 0, .string (⟨#[]⟩ : ByteArray)]) ?_ 1 _ rfl; (with_reducible repeat (first | refine aG ?_ _ | refine aI ?_ | refine aD ?_ _)); refine aX (cs := #[.int .i64 0, .int .i64 0, .string (⟨#[]⟩ : ByteArray)]) ?_ 0 _ rfl; (with_reducible repeat (first | refine aG ?_ _ | refine aI ?_ | refine aD ?_ _)); exact BK176.out) Tryz.underlying32 rfl (by kernel_rfl)) rfl ?_
  exact ⟨EWW, BL⟩
def dN.f (k : Nat) (EU EW : Int) (EX : ByteArray) : Option (Bool) := (bI.f k EU EW EX).bind fun t180 => (if t180 = true then ((jJ.f k EU EW EX).bind fun bt181 => (some (bt181.1 == EU && (bt181.2.1 == EW && (bt181.2.2.toList == EX.toList))))) else (some false))
def dN.T1 : Bool × List (List Nat × List Nat) := (true, [([], []), ([0], [0]), ([1, 1], [1]), ([2], [2]), ([3, 2, 2], [2, 3]), ([2], [2]), ([4, 5, 2], [2, 4, 5]), ([2, 6], [2, 6]), ([7, 4, 0, 1, 2, 3, 4, 5, 6, 7], [7])])
def dN.B1 : List Nat := [0, 1, 3, 7, 15, 7, 63, 127, 255]
theorem dN.D7 : kD .any (opsOf Tryz.f97 1) = dN.T1 := by kernel_rfl
theorem dN.BM : iZ dN.T1.2 dN.B1 = true := by kernel_rfl
theorem dN.calls (k : Nat) (EU EW : Int) (EX : ByteArray) (r : Bool) (w : World) (h : dN.f k EU EW EX = some r) :
  Calls Tryz.prog 97 #[.agg #[.int .i64 EU, .int .i64 EW, .string EX]] w fun e w' => e = .returned (.bool r) ∧ Below w.heap.size w w' := by
 have hu32 := Tryz.underlying32
 have HB := ah.mk (Below.refl w.heap.size w)
 unfold dN.f at h
 have H := h
 clear h
 replace H := be H; obtain ⟨t180, A2, H⟩ := H
 replace H := ah.mk H
 go_enter Tryz.func97, Tryz.ntmps97
 try go_wp2_with (first | ((with_reducible refine aN (N := 1) rfl ?_); refine bC (N := 1) (cs := #[.int .i64 EU, .int .i64 EW, .string EX]) (t := 32) ?_; intro gb179 hg w9000 hbox hb; have BK179 := ah.mk hbox; have GW179 := SZ (w := w) hg; have GE179 := GW179; replace HB := BS (w := w) hb; clear hb hbox hg))
 replace BK179 := ah.mk (aI BK179.out)
 replace HB := ah.mk (dL HB.out)
 refine ji (n := 9) (S := fun w' => w'.cell? ⟨gb179, 0, none⟩ = some (.int .i64 EU) ∧ w'.cell? ⟨gb179, 1, none⟩ = some (.int .i64 EW) ∧ w'.cell? ⟨gb179, 2, none⟩ = some (.string EX)) (ds := []) #[F,F,F,F,F,F,F,F,F] (by kernel_rfl) rfl rfl ⟨(av BK179.out 0).trans rfl, (av BK179.out 1).trans rfl, (av BK179.out 2).trans rfl⟩ (fun hHeld => ?_); refine gT dN.D7 dN.BM (fun HT_ HW_ => ?_)
 generalize w9000.drew = w9001 at BK179 HB hHeld ⊢
 refine taS (i := 0) (N := some 3) #[T,F,F,F,F,F,F,F,F] (dJ HT_.out HW_.out (by kernel_rfl)) hHeld ?_
 refine kH (i := 1) (N := some 4) #[T,T,F,F,F,F,F,F,F] rfl rfl (iO HT_.out (by kernel_rfl)) (by decide) (fun K hK => ?_)
 refine iU Tryz.func96 #[.agg #[.int .i64 EU, .int .i64 EW, .string EX]] ?_
 with_reducible refine (bI.calls k EU EW EX _ _ A2.out).mono ?_
 rintro e w9002 ⟨rfl, hb⟩
 refine ⟨_, rfl, ?_⟩
 replace BK179 := KB BK179 hb
 replace HB := BS (w := w) hb
 (try clear hb)
 refine hK.out _ _ ⟨(av BK179.out 0).trans rfl, (av BK179.out 1).trans rfl, (av BK179.out 2).trans rfl⟩ (fun hHeld => ?_)
 clear hK K
 refine nrm (some 4) ?_
 replace H := H.out
 replace H := ifB H; rcases H with ⟨rfl, H⟩ | ⟨rfl, H⟩
 ·replace H := be H; obtain ⟨⟨t181, t182, t183⟩, A4, H⟩ := H
  dsimp only at H
  obtain rfl := Option.some.inj H
  refine puS (i := 2) (N := some 5) #[T,T,T,F,F,F,F,F,F] (aJ HT_.out (by kernel_rfl)) ?_
  refine taS (i := 3) (N := some 6) #[T,T,T,T,F,F,F,F,F] (dJ HT_.out HW_.out (by kernel_rfl)) hHeld ?_
  refine taS (i := 5) (N := some 8) #[T,T,T,T,F,T,F,F,F] (dJ HT_.out HW_.out (by kernel_rfl)) hHeld ?_
  refine kH (i := 4) (N := some 7) #[T,T,T,T,T,T,F,F,F] rfl rfl (iO HT_.out (by kernel_rfl)) (by decide) (fun K hK => ?_)
  refine iU Tryz.func153 #[.agg #[.int .i64 EU, .int .i64 EW, .string EX]] ?_
  with_reducible refine (jJ.calls k EU EW EX t181 t182 t183 _ A4.out).mono ?_
  rintro e w9003 ⟨rfl, hb⟩
  refine ⟨_, rfl, ?_⟩
  replace BK179 := KB BK179 hb
  replace HB := BS (w := w) hb
  (try clear hb)
  refine hK.out _ _ ⟨(av BK179.out 0).trans rfl, (av BK179.out 1).trans rfl, (av BK179.out 2).trans rfl⟩ (fun hHeld => ?_)
  clear hK K
  refine nrm (some 7) ?_
  refine puS (i := 6) (N := some 9) #[T,T,T,T,T,T,T,F,F] (aJ HT_.out (by kernel_rfl)) ?_
  refine puS (i := 7) (N := some 10) #[T,T,T,T,T,T,T,T,F] (aJ HT_.out (by kernel_rfl)) ?_
  refine puS (i := 8) (N := some 2) #[T,T,T,T,T,T,T,T,T] (aJ HT_.out (by kernel_rfl)) ?_
  refine gX (fH HT_.out (by kernel_rfl)) ?_
  try go_wp2
  go_ret
  exact ⟨EWW, BL⟩
 ·obtain rfl := Option.some.inj H
  refine puS (i := 2) (N := some 5) #[T,T,T,F,F,F,F,F,F] (aJ HT_.out (by kernel_rfl)) ?_
  refine puU (i := 3) (N := some 6) #[T,T,T,T,F,F,F,F,F] (aJ HT_.out (by kernel_rfl)) ?_
  refine puU (i := 4) (N := some 7) #[T,T,T,T,T,F,F,F,F] (aJ HT_.out (by kernel_rfl)) ?_
  refine puU (i := 5) (N := some 8) #[T,T,T,T,T,T,F,F,F] (aJ HT_.out (by kernel_rfl)) ?_
  refine puU (i := 6) (N := some 9) #[T,T,T,T,T,T,T,F,F] (aJ HT_.out (by kernel_rfl)) ?_
  refine puS (i := 7) (N := some 10) #[T,T,T,T,T,T,T,T,F] (aJ HT_.out (by kernel_rfl)) ?_
  refine puS (i := 8) (N := some 2) #[T,T,T,T,T,T,T,T,T] (aJ HT_.out (by kernel_rfl)) ?_
  refine gX (fH HT_.out (by kernel_rfl)) ?_
  try go_wp2
  go_ret
  exact ⟨EWW, BL⟩
def jK.f (k : Nat) (EU EW : Int) (EX : ByteArray) (l1 : List Bool) (a2 : Int) : Option (List Bool) := HandReach.yG k EU EW EX l1 a2
theorem jK.calls (k : Nat) (EU EW : Int) (EX : ByteArray) (P1_ : Nat → Prop) (u9000_ : Value) (l1 : List Bool) (a2 : Int) (r : List Bool) (w0 w : World) (hB : Below w0.heap.size w0 w) (ho1 : Kd.R Kd.bool 4 w w0.heap.size P1_ u9000_ l1) (h : jK.f k EU EW EX l1 a2 = some r) :
  Calls Tryz.prog 189 #[.agg #[.int .i64 EU, .int .i64 EW, .string EX], u9000_, .int .i64 a2] w fun e w' => ∃ v0_ : Value, e = .returned (v0_) ∧ Kd.R Kd.bool 4 w' w0.heap.size (fun k_ => (P1_ k_ ∨ w.heap.size ≤ k_)) v0_ r ∧ Below w0.heap.size w0 w' ∧ Kept w w' (fun k_ => P1_ k_) :=
 HandReach.CK k EU EW EX P1_ u9000_ l1 a2 r w0 w hB ho1 h
mutual
def aK.l0 : Nat → Int → List Bool → Int → Int → Int → ByteArray → Option (Int)
 | 0, _, _, _, _, _, _ => none
 | k + 1, a, b, c, d, e, f => if c < (f.size : Int) then (if b.length < 140737488355328 then (aK.l0 k a (b ++ [false]) (wrap64 (c + 1)) d e f) else (none)) else (aK.l1 k a b 0 d e f)
def aK.l1 : Nat → Int → List Bool → Int → Int → Int → ByteArray → Option (Int)
 | 0, _, _, _, _, _, _ => none
 | k + 1, a, b, c, d, e, f => if c < (f.size : Int) then ((bI.f k d e f).bind fun g => (aK.j2 k a b c g d e f)) else (aK.j2 k a b c false d e f)
def aK.j2 : Nat → Int → List Bool → Int → Bool → Int → Int → ByteArray → Option (Int)
 | 0, _, _, _, _, _, _, _ => none
 | k + 1, a, b, c, d, e, f, g => if d = true then (if 0 ≤ c then (if c < (g.size : Int) then (if (bt g c) = 46 then (if c < (b.length : Int) then (aK.j3 k a b c (!(dD false b c)) e f g) else (none)) else (aK.j3 k a b c false e f g)) else (none)) else (none)) else (some a)
def aK.j3 : Nat → Int → List Bool → Int → Bool → Int → Int → ByteArray → Option (Int)
 | 0, _, _, _, _, _, _, _ => none
 | k + 1, a, b, c, d, e, f, g => if d = true then (aK.l2 k (wrap64 (a + 1)) b c (([] : List Bool)) 0 e f g) else (aK.l1 k a b (wrap64 (c + 1)) e f g)
def aK.l2 : Nat → Int → List Bool → Int → List Bool → Int → Int → Int → ByteArray → Option (Int)
 | 0, _, _, _, _, _, _, _, _ => none
 | k + 1, a, b, c, d, e, f, g, h => if e < (b.length : Int) then (if d.length < 140737488355328 then (aK.l2 k a b c (d ++ [false]) (wrap64 (e + 1)) f g h) else (none)) else ((jK.f k f g h d c).bind fun i => (aK.l3 k a b c i 0 f g h))
def aK.l3 : Nat → Int → List Bool → Int → List Bool → Int → Int → Int → ByteArray → Option (Int)
 | 0, _, _, _, _, _, _, _, _ => none
 | k + 1, a, b, c, d, e, f, g, h => if e < (b.length : Int) then (if 0 ≤ e then (if dD false b e = true then (aK.l3 k a (b.set (e : Int).toNat true) c d (wrap64 (e + 1)) f g h) else (if e < (d.length : Int) then (aK.l3 k a (b.set (e : Int).toNat (dD false d e)) c d (wrap64 (e + 1)) f g h) else (none))) else (none)) else (aK.l1 k a b (wrap64 (c + 1)) f g h)
end
def aK.f (k : Nat) (EU EW : Int) (EX : ByteArray) : Option (Int) := aK.l0 k 0 (([] : List Bool)) 0 EU EW EX
theorem aK.calls (k : Nat) (EU EW : Int) (EX : ByteArray) (r : Int) (w : World) (h : aK.f k EU EW EX = some r) :
  Calls Tryz.prog 154 #[.agg #[.int .i64 EU, .int .i64 EW, .string EX]] w fun e w' => e = .returned (.int .i64 r) ∧ Below w.heap.size w w' := by
 have hu32 := Tryz.underlying32
 have HB := ah.mk (Below.refl w.heap.size w)
 unfold aK.f at h
 have H := h
 clear h
 obtain ⟨y218, hy218⟩ : ∃ y_ : List Bool, y_ = (([] : List Bool)) := ⟨_, rfl⟩
 replace H : (aK.l0 k 0 y218 0 EU EW EX) = some r := by first | (rw [hy218]; with_reducible exact H) | (have H2_ := (Option.bind_some _ _).symm.trans H; rw [hy218]; with_reducible exact H2_) | (have H2_ := (Option.bind_some _ _).symm.trans H; with_reducible exact H2_) | with_reducible exact H | (rw [hy218]; exact H) | exact H
 have Ny218 := ah.mk hy218
 clear hy218
 have H' := ah.mk H
 clear H
 go_enter Tryz.func154, Tryz.ntmps154
 go_wp2_with (first | ((with_reducible refine aN (N := 1) rfl ?_); refine bC (N := 1) (cs := #[.int .i64 EU, .int .i64 EW, .string EX]) (t := 32) ?_; intro gb217 hg w2 hbox hb; have BK217 := ah.mk hbox; have GW217 := SZ (w := w) hg; have GE217 := GW217; replace HB := BS (w := w) hb; clear hb hbox hg) | ((with_reducible refine aN (N := 10) rfl ?_); refine Kd.oq Kd.bool _ 4 ?hg (N := 10) ?hd (xs := ([] : List Bool)) (inner := []) (ok := fun _ => True) (okp := fun _ => True) ?hr ?hp (fun _ hk => hk) trivial (Below.refl _ _) (Nat.le_refl _) (by simp) ?_; (case hd => rfl); (case hg => rfl); (case hr => first | (go_simp; done) | (go_simp; rfl)); (case hp => exact (gD.none _ _)); intro v219 w3 ho4 hb hg_ hnew_; clear hg_ hnew_; (first | rw [← Ny218.out] at ho4 | (simp only [Int.reduceToNat] at ho4; rw [← Ny218.out] at ho4)); have n0_ := ah.mk (Kd.cO ho4 (aQ BL)); replace BK217 := KB BK217 hb; replace HB := BS (w := w) hb; have HO220 := n0_; clear n0_; clear hb ho4))
 go_loopg [4, 5] k (fun kq v4 v5 w' => ∃ (x4_1 : List Bool) (x5_1 : Int), v5 = .int .i64 x5_1 ∧ ah (aK.l0 kq 0 x4_1 x5_1 EU EW EX = some r) ∧ ah (kq ≤ k) ∧ ah (Kd.R Kd.bool 4 w' w.heap.size (fun _ => True) v4 x4_1) ∧ ah (w'.heap[gb217]? = some (.cells #[.int .i64 EU, .int .i64 EW, .string EX] 32 (0, 0))) ∧ ah (Below w.heap.size w w'))
 case atStart => exact ⟨(y218), (0), EQ, H', ⟨Nat.le_refl _⟩, ⟨(RR HO220)⟩, ⟨BK⟩, ⟨BL⟩⟩
 case round =>
  clear H'
  obtain ⟨x4_1, x5_1, rfl, HA, HK1, HO_4, BK217, HB⟩ := hrel
  cases gk with
  | zero => exact absurd HA.out (by simp [aK.l0])
  | succ k1 =>
   have H := HA.out
   clear HA
   simp only [aK.l0] at H
   obtain ⟨hcz7000_0, hcz7000_1, hcz7000_2, hfz7000_0, hfz7000_1, hfz7000_2⟩ := cz3 BK217.out
   replace H := ifD H; rcases H with ⟨c5b0, H⟩ | ⟨c5b0, H⟩
   ·replace H := ifP H; obtain ⟨c6, H⟩ := H
    have LMc6 := ah.mk c6
    clear c6
    obtain ⟨y221, hy221⟩ : ∃ y_ : List Bool, y_ = (x4_1 ++ [false]) := ⟨_, rfl⟩
    replace H : (aK.l0 k1 0 y221 (wrap64 (x5_1 + 1)) EU EW EX) = some r := by first | (rw [hy221]; with_reducible exact H) | (have H2_ := (Option.bind_some _ _).symm.trans H; rw [hy221]; with_reducible exact H2_) | (have H2_ := (Option.bind_some _ _).symm.trans H; with_reducible exact H2_) | with_reducible exact H | (rw [hy221]; exact H) | exact H
    have Ny221 := ah.mk hy221
    clear hy221
    have H' := ah.mk H
    clear H
    go_wp2_with (first | ((with_reducible refine dn (b := .append) (xs := #[.tmp 18, .tmp 19]) rfl ?_); at_builtin; refine Kd.fT Kd.bool (w0 := w) w.heap.size rfl (.tmp 18) (.tmp 19) 165 4 (.bool false) 1 rfl Tryz.underlying165 Dl rfl (by decide) (by omega) u4 x4_1 false [.bool false] (fun _ => True) (fun _ => False) rfl rfl ?aP (fun _ hk => hk.elim) ?aF ?aO ?aB ?aS ?aL ?_; (case aP => exact rfl); (case aB => exact BL); (case aF => exact (fun _ _ => trivial)); (case aO => exact (RR HO_4)); (case aS => exact (aQ BL)); (case aL => have := LMc6.out; omega); intro v222 w7001 ho hb hg hat; rw [← Ny221.out] at ho; have n0_ := ah.mk (dK (g := gb217) (o := .cells #[.int .i64 EU, .int .i64 EW, .string EX] 32 (0, 0)) BK hg (Kd.lq HO_4.out BK217.out (by decide))); have n1_ := ah.mk (hb); have n2_ := ah.mk (ho); clear BK217 HB HO_4; have BK217 := n0_; have HB := n1_; have HO223 := n2_; clear n0_ n1_ n2_; clear ho hb hg hat))
    go_roundg k1
    case measure => have := HK1.out; omega
    case rel => exact ⟨(y221), (wrap64 (x5_1 + 1)), EQ, H', ⟨by have := HK1.out; omega⟩, ⟨(RR HO223)⟩, ⟨BK⟩, ⟨BL⟩⟩
   ·have H' := ah.mk H
    clear H
    go_wp2
    go_loopg [3, 6] k1 (fun kq v3 v6 w' => ∃ (x3_2 : Int) (x4_2 : List Bool) (x6_2 : Int), v3 = .int .i64 x3_2 ∧ v6 = .int .i64 x6_2 ∧ ah (aK.l1 kq x3_2 x4_2 x6_2 EU EW EX = some r) ∧ ah (kq ≤ k1) ∧ ah (Kd.R Kd.bool 4 w' w.heap.size (fun _ => True) u4 x4_2) ∧ ah (w'.heap[gb217]? = some (.cells #[.int .i64 EU, .int .i64 EW, .string EX] 32 (0, 0))) ∧ ah (Below w.heap.size w w'))
    case atStart => exact ⟨(0), (x4_1), (0), EQ, EQ, H', ⟨Nat.le_refl _⟩, ⟨(RR HO_4)⟩, ⟨BK⟩, ⟨BL⟩⟩
    case round =>
     clear H'
     try clear c5
     try clear c5b0
     try clear hcz7000_0
     try clear hcz7000_1
     try clear hcz7000_2
     try clear hfz7000_0
     try clear hfz7000_1
     try clear hfz7000_2
     obtain ⟨x3_2, x4_2, x6_2, rfl, rfl, HA, HK2, HO_4, BK217, HB⟩ := hrel
     cases gk with
     | zero => exact absurd HA.out (by simp [aK.l1])
     | succ k2 =>
      have H := HA.out
      clear HA
      simp only [aK.l1] at H
      have HC10 := ah.mk H
      clear H
      go_upto_region 8 with (fail)
      go_cut [29] (fun v29 wc => ∃ (kq : Nat) (x29_9 : Bool), v29 = .bool x29_9 ∧ ah (aK.j2 kq x3_2 x4_2 x6_2 x29_9 EU EW EX = some r) ∧ ah (kq ≤ k2) ∧ ah (Kd.R Kd.bool 4 wc w.heap.size (fun _ => True) u4 x4_2) ∧ ah (wc.heap[gb217]? = some (.cells #[.int .i64 EU, .int .i64 EW, .string EX] 32 (0, 0))) ∧ ah (Below w.heap.size w wc))
      case first =>
       have H := HC10.out
       clear HC10
       obtain ⟨hcz7001_0, hcz7001_1, hcz7001_2, hfz7001_0, hfz7001_1, hfz7001_2⟩ := cz3 BK217.out
       replace H := ifD H; rcases H with ⟨c11b0, H⟩ | ⟨c11b0, H⟩
       ·(first | rw [c11b0] | (simp only [iV, jQ]; rw [c11b0]) | skip)
        replace H := be H; obtain ⟨t224, A12, H⟩ := H
        have H' := ah.mk H
        clear H
        go_wp2_with (first | (go_at_call 96; (with_reducible refine (bI.calls k2 EU EW EX t224 _ A12.out).mono ?_); rintro e w7002 ⟨rfl, hb⟩; replace HO_4 := RB HO_4 hb; replace BK217 := KB BK217 hb; replace HB := BS (w := w) hb; (try clear hb); (try clear hb2); (try clear hk); (try clear hi)))
        go_meet
        case rel => exact ⟨_, (t224), EQ, H', ⟨by have := HK1.out; have := HK2.out; first | omega | exact Nat.le_refl _⟩, ⟨(RR HO_4)⟩, ⟨BK⟩, ⟨BL⟩⟩
       ·(first | rw [c11b0] | (simp only [iV, jQ]; rw [c11b0]) | skip)
        have H' := ah.mk H
        clear H
        go_wp2
        go_meet
        case rel => exact ⟨_, (false), EQ, H', ⟨by have := HK1.out; have := HK2.out; first | omega | exact Nat.le_refl _⟩, ⟨(RR HO_4)⟩, ⟨BK⟩, ⟨BL⟩⟩
      case rest =>
       clear HC10
       try clear c5
       try clear c5b0
       try clear hcz7000_0
       try clear hcz7000_1
       try clear hcz7000_2
       try clear hfz7000_0
       try clear hfz7000_1
       try clear hfz7000_2
       obtain ⟨kq, x29_9, rfl, HA, HJ9, HO_4, BK217, HB⟩ := hcut
       cases kq with
       | zero => exact absurd HA.out (by simp [aK.j2])
       | succ kj9 =>
        have H := HA.out
        clear HA
        simp only [aK.j2] at H
        replace H := ifB H; rcases H with ⟨rfl, H⟩ | ⟨rfl, H⟩
        ·have HC17 := ah.mk H
         clear H
         go_upto_region 10 with (fail)
         go_cut [43] (fun v43 wc => ∃ (kq : Nat) (x43_16 : Bool), v43 = .bool x43_16 ∧ ah (aK.j3 kq x3_2 x4_2 x6_2 x43_16 EU EW EX = some r) ∧ ah (kq ≤ kj9) ∧ ah (Kd.R Kd.bool 4 wc w.heap.size (fun _ => True) u4 x4_2) ∧ ah (wc.heap[gb217]? = some (.cells #[.int .i64 EU, .int .i64 EW, .string EX] 32 (0, 0))) ∧ ah (Below w.heap.size w wc))
         case first =>
          have H := HC17.out
          clear HC17
          replace H := ifN H; obtain ⟨c18b0, H⟩ := H
          (first | rw [c18b0] | (simp only [iV, jQ]; rw [c18b0]) | skip)
          replace H := ifN H; obtain ⟨c19b0, H⟩ := H
          obtain ⟨hcz7003_0, hcz7003_1, hcz7003_2, hfz7003_0, hfz7003_1, hfz7003_2⟩ := cz3 BK217.out
          replace H := ifE H; rcases H with ⟨c21b0, c21b1, H⟩ | ⟨c21, c21b0, c21b1, H⟩
          ·replace H := ifN H; obtain ⟨c22b0, H⟩ := H
           have H' := ah.mk H
           clear H
           have p20 : (0 ≤ (x6_2 : Int)) = True := OT
           have q20 : (x6_2 < (EX.size : Int)) = True := OT
           have hx20 := gI EX x6_2
           obtain ⟨Ao7004, co7004, eo7004⟩ := Kd.dH HO_4.out
           subst eo7004
           have p225 : 0 ≤ (x6_2 : Int) := OD
           have q225 : x6_2 < (x4_2.length : Int) := OD
           obtain ⟨ad225, e225, hx225_0⟩ := Kd.uX (Kd.bN HO_4.out).2.2 x6_2 p225 q225
           cases e225
           replace p225 := eq_true p225
           replace q225 := eq_true q225
           go_wp2
           go_meet
           case rel => exact ⟨_, (!(dD false x4_2 x6_2)), EQ, H', ⟨by have := HK1.out; have := HK2.out; have := HJ9.out; first | omega | exact Nat.le_refl _⟩, ⟨(RR HO_4)⟩, ⟨BK⟩, ⟨BL⟩⟩
          ·have H' := ah.mk H
           clear H
           have p20 : (0 ≤ (x6_2 : Int)) = True := OT
           have q20 : (x6_2 < (EX.size : Int)) = True := OT
           have hx20 := gI EX x6_2
           go_wp2
           go_meet
           case rel => exact ⟨_, (false), EQ, H', ⟨by have := HK1.out; have := HK2.out; have := HJ9.out; first | omega | exact Nat.le_refl _⟩, ⟨(RR HO_4)⟩, ⟨BK⟩, ⟨BL⟩⟩
         case rest =>
          clear HC17
          try clear c5
          try clear c5b0
          try clear c16
          try clear hcz7000_0
          try clear hcz7000_1
          try clear hcz7000_2
          try clear hfz7000_0
          try clear hfz7000_1
          try clear hfz7000_2
          obtain ⟨kq, x43_16, rfl, HA, HJ16, HO_4, BK217, HB⟩ := hcut
          cases kq with
          | zero => exact absurd HA.out (by simp [aK.j3])
          | succ kj16 =>
           have H := HA.out
           clear HA
           simp only [aK.j3] at H
           replace H := ifB H; rcases H with ⟨rfl, H⟩ | ⟨rfl, H⟩
           ·obtain ⟨y226, hy226⟩ : ∃ y_ : List Bool, y_ = (([] : List Bool)) := ⟨_, rfl⟩
            replace H : (aK.l2 kj16 (wrap64 (x3_2 + 1)) x4_2 x6_2 y226 0 EU EW EX) = some r := by first | (rw [hy226]; with_reducible exact H) | (have H2_ := (Option.bind_some _ _).symm.trans H; rw [hy226]; with_reducible exact H2_) | (have H2_ := (Option.bind_some _ _).symm.trans H; with_reducible exact H2_) | with_reducible exact H | (rw [hy226]; exact H) | exact H
            have Ny226 := ah.mk hy226
            clear hy226
            have H' := ah.mk H
            clear H
            go_wp2_with (first | ((with_reducible refine aN (N := 46) rfl ?_); refine Kd.oq Kd.bool _ 4 ?hg (N := 46) ?hd (xs := ([] : List Bool)) (inner := []) (ok := fun _ => True) (okp := fun _ => True) ?hr ?hp (fun _ hk => hk) trivial (Below.refl _ _) (Nat.le_refl _) (by simp) ?_; (case hd => rfl); (case hg => rfl); (case hr => first | (go_simp; done) | (go_simp; rfl)); (case hp => exact (gD.none _ _)); intro v227 w7005 ho28 hb hg_ hnew_; clear hg_ hnew_; (first | rw [← Ny226.out] at ho28 | (simp only [Int.reduceToNat] at ho28; rw [← Ny226.out] at ho28)); have n0_ := ah.mk (Kd.jB (RR HO_4) (Kd.kK ho28) hb); have n1_ := ah.mk (Kd.cO (Kd.lG ho28 (Kd.oI (RR HO_4))) (aQ BL)); replace BK217 := KB BK217 hb; replace HB := BS (w := w) hb; clear HO_4; have HO_4 := n0_; have HO228 := n1_; clear n0_ n1_; clear hb ho28))
            go_loopg [7, 8] kj16 (fun kq v7 v8 w' => ∃ (x7_5 : List Bool) (x8_5 : Int), v8 = .int .i64 x8_5 ∧ ah (aK.l2 kq (wrap64 (x3_2 + 1)) x4_2 x6_2 x7_5 x8_5 EU EW EX = some r) ∧ ah (kq ≤ kj16) ∧ ah (Kd.R Kd.bool 4 w' w.heap.size (fun k_ => some k_ ≠ (v7 : Value).ownBlock) u4 x4_2) ∧ ah (Kd.R Kd.bool 4 w' w.heap.size (fun k_ => some k_ ≠ (u4 : Value).ownBlock) v7 x7_5) ∧ ah (w'.heap[gb217]? = some (.cells #[.int .i64 EU, .int .i64 EW, .string EX] 32 (0, 0))) ∧ ah (Below w.heap.size w w'))
            case atStart => exact ⟨(y226), (0), EQ, H', ⟨Nat.le_refl _⟩, ⟨by (with_reducible repeat (first | apply Kd.gy | apply Kd.gu | apply Kd.fM)); exact Kd.eF HO_4.out (fun _ hk => hk.2)⟩, ⟨by (with_reducible repeat (first | apply Kd.gy | apply Kd.gu | apply Kd.fM)); exact Kd.eF HO228.out (fun _ hk => hk.2)⟩, ⟨BK⟩, ⟨BL⟩⟩
            case round =>
             clear H'
             try clear c5
             try clear c5b0
             try clear c16
             try clear c26
             try clear hcz7000_0
             try clear hcz7000_1
             try clear hcz7000_2
             try clear hfz7000_0
             try clear hfz7000_1
             try clear hfz7000_2
             obtain ⟨x7_5, x8_5, rfl, HA, HK5, HO_4, HO_7, BK217, HB⟩ := hrel
             cases gk with
             | zero => exact absurd HA.out (by simp [aK.l2])
             | succ k5 =>
              have H := HA.out
              clear HA
              simp only [aK.l2] at H
              replace H := ifD H; rcases H with ⟨c29b0, H⟩ | ⟨c29b0, H⟩
              ·replace H := ifP H; obtain ⟨c30, H⟩ := H
               have LMc30 := ah.mk c30
               clear c30
               obtain ⟨y229, hy229⟩ : ∃ y_ : List Bool, y_ = (x7_5 ++ [false]) := ⟨_, rfl⟩
               replace H : (aK.l2 k5 (wrap64 (x3_2 + 1)) x4_2 x6_2 y229 (wrap64 (x8_5 + 1)) EU EW EX) = some r := by first | (rw [hy229]; with_reducible exact H) | (have H2_ := (Option.bind_some _ _).symm.trans H; rw [hy229]; with_reducible exact H2_) | (have H2_ := (Option.bind_some _ _).symm.trans H; with_reducible exact H2_) | with_reducible exact H | (rw [hy229]; exact H) | exact H
               have Ny229 := ah.mk hy229
               clear hy229
               have H' := ah.mk H
               clear H
               obtain ⟨Ao7006, co7006, eo7006⟩ := Kd.dH HO_4.out
               subst eo7006
               go_wp2_with (first | ((with_reducible refine dn (b := .append) (xs := #[.tmp 53, .tmp 54]) rfl ?_); at_builtin; refine Kd.fT Kd.bool (w0 := w) w.heap.size rfl (.tmp 53) (.tmp 54) 165 4 (.bool false) 1 rfl Tryz.underlying165 Dl rfl (by decide) (by omega) u7 x7_5 false [.bool false] (fun k_ => some k_ ≠ (.slice Ao7006 x4_2.length co7006 : Value).ownBlock) (fun _ => False) rfl rfl ?aP (fun _ hk => hk.elim) ?aF ?aO ?aB ?aS ?aL ?_; (case aP => exact rfl); (case aB => exact BL); (case aF => exact (fun k_ hk => Kd.fresh' (Kd.oI (RR HO_4)) k_ hk)); (case aO => exact (RR HO_7)); (case aS => exact (aQ BL)); (case aL => have := LMc30.out; omega); intro v230 w7007 ho hb hg hat; rw [← Ny229.out] at ho; have n0_ := ah.mk (Kd.qF (ok := (fun _ => True)) (by (with_reducible repeat (first | apply Kd.gy | apply Kd.gu | apply Kd.fM)); exact Kd.eF HO_4.out (fun _ hk => ⟨trivial, hk⟩)) hg hat); have n1_ := ah.mk (dK (g := gb217) (o := .cells #[.int .i64 EU, .int .i64 EW, .string EX] 32 (0, 0)) BK hg (Kd.lq HO_7.out BK217.out (by decide))); have n2_ := ah.mk (hb); have n3_ := ah.mk (ho); clear HO_4 BK217 HB HO_7; have HO_4 := n0_; have BK217 := n1_; have HB := n2_; have HO231 := n3_; clear n0_ n1_ n2_ n3_; clear ho hb hg hat))
               go_roundg k5
               case measure => have := HK1.out; have := HK2.out; have := HJ9.out; have := HJ16.out; have := HK5.out; omega
               case rel => exact ⟨(y229), (wrap64 (x8_5 + 1)), EQ, H', ⟨by have := HK1.out; have := HK2.out; have := HJ9.out; have := HJ16.out; have := HK5.out; omega⟩, ⟨by (with_reducible repeat (first | apply Kd.gy | apply Kd.gu | apply Kd.fM)); exact Kd.eF HO_4.out (fun _ hk => hk.2)⟩, ⟨(RR HO231)⟩, ⟨BK⟩, ⟨BL⟩⟩
              ·replace H := be H; obtain ⟨t232, A33, H⟩ := H
               have H' := ah.mk H
               clear H
               obtain ⟨Ao7006, co7006, eo7006⟩ := Kd.dH HO_4.out
               subst eo7006
               obtain ⟨hcz7007_0, hcz7007_1, hcz7007_2, hfz7007_0, hfz7007_1, hfz7007_2⟩ := cz3 BK217.out
               obtain ⟨Ao7008, co7008, eo7008⟩ := Kd.dH HO_7.out
               subst eo7008
               go_wp2_with (first | ((with_reducible refine ay (f := 189) rfl ?_); refine bq (some 59) Tryz.func189 #[.agg #[.int .i64 EU, .int .i64 EW, .string EX], .slice Ao7008 x7_5.length co7008, .int .i64 x6_2] ?_; (with_reducible refine (jK.calls k5 EU EW EX (fun k_ => some k_ = (.slice Ao7008 x7_5.length co7008 : Value).ownBlock) (.slice Ao7008 x7_5.length co7008) x7_5 x6_2 t232 w _ ?side1 ?side2 A33.out).mono ?_); (case side1 => exact BL); (case side2 => exact Kd.yu rfl HO_7.out); rintro e w7009 ⟨v233, rfl, ho0, hb, hkp⟩; refine ⟨_, rfl, ?_⟩; have n0_ := ah.mk (Kd.eF (ok' := fun k_ => some k_ ≠ (v233 : Value).ownBlock) (Kd.C8 (HO_4.out) hkp (fun k_ hk_ hs_ => (hk_) hs_)) (fun k_ hk_ => fun e_ => Or.elim (ho0.1 k_ e_.symm) (fun hs_ => hk_.2.1 hs_) (fun hn_ => Nat.not_le.2 hk_.2.2 hn_))); have n1_ := ah.mk (BR BK hkp (fun hs_ => (fun e_ => (Kd.lq HO_7.out BK217.out (by decide)) e_) hs_)); have n2_ := ah.mk (Kd.eF (ok' := fun k_ => some k_ ≠ (.slice Ao7006 x4_2.length co7006 : Value).ownBlock) ho0 (fun k_ hk_ => Or.elim hk_ (fun hs_ => fun e_ => (((HO_4.out).1 k_ e_.symm)) hs_) (fun hn_ => (Kd.fresh' (Kd.oI (RR HO_4)) k_ hn_)))); have n3_ := ah.mk (hb); clear HO_4 BK217 HB HO_7; have HO_4 := n0_; have BK217 := n1_; have HO234 := n2_; have HB := n3_; clear n0_ n1_ n2_ n3_; (try clear hb); (try clear hkp); (try clear ho0)))
               go_loopg [9] k5 (fun kq v9 w' => ∃ (x4_6 : List Bool) (x9_6 : Int), v9 = .int .i64 x9_6 ∧ ah (aK.l3 kq (wrap64 (x3_2 + 1)) x4_6 x6_2 t232 x9_6 EU EW EX = some r) ∧ ah (kq ≤ k5) ∧ ah (Kd.R Kd.bool 4 w' w.heap.size (fun k_ => some k_ ≠ (v233 : Value).ownBlock) (.slice Ao7006 x4_2.length co7006) x4_6) ∧ ah (Kd.R Kd.bool 4 w' w.heap.size (fun k_ => some k_ ≠ ((.slice Ao7006 x4_2.length co7006) : Value).ownBlock) v233 t232) ∧ ah (w'.heap[gb217]? = some (.cells #[.int .i64 EU, .int .i64 EW, .string EX] 32 (0, 0))) ∧ ah (Below w.heap.size w w'))
               case atStart => exact ⟨(x4_2), (0), EQ, H', ⟨Nat.le_refl _⟩, ⟨(RR HO_4)⟩, ⟨(RR HO234)⟩, ⟨BK⟩, ⟨BL⟩⟩
               case round =>
                clear H'
                try clear c5
                try clear c5b0
                try clear c16
                try clear c26
                try clear c29
                try clear c29b0
                try clear hcz7007_0
                try clear hcz7007_1
                try clear hcz7007_2
                try clear hcz7000_0
                try clear hcz7000_1
                try clear hcz7000_2
                try clear hfz7007_0
                try clear hfz7007_1
                try clear hfz7007_2
                try clear hfz7000_0
                try clear hfz7000_1
                try clear hfz7000_2
                obtain ⟨x4_6, x9_6, rfl, HA, HK6, HO_4, HO_7, BK217, HB⟩ := hrel
                have hl4_6 := (Kd.bN HO_4.out).1
                rw [hl4_6] at HO_4
                (try simp only [hl4_6])
                (try simp only [hl4_6] at BK217)
                (try simp only [hl4_6] at HO_7)
                cases gk with
                | zero => exact absurd HA.out (by simp [aK.l3])
                | succ k6 =>
                 have H := HA.out
                 clear HA
                 simp only [aK.l3] at H
                 replace H := ifD H; rcases H with ⟨c38b0, H⟩ | ⟨c38b0, H⟩
                 ·replace H := ifN H; obtain ⟨c39b0, H⟩ := H
                  obtain ⟨bq40, hbq40⟩ : ∃ b_ : Bool, b_ = (dD false x4_6 x9_6) := ⟨_, rfl⟩
                  replace H : (if bq40 = true then (aK.l3 k6 (wrap64 (x3_2 + 1)) (x4_6.set (x9_6 : Int).toNat true) x6_2 t232 (wrap64 (x9_6 + 1)) EU EW EX) else (if x9_6 < (t232.length : Int) then (aK.l3 k6 (wrap64 (x3_2 + 1)) (x4_6.set (x9_6 : Int).toNat (dD false t232 x9_6)) x6_2 t232 (wrap64 (x9_6 + 1)) EU EW EX) else (none))) = some r := by rw [← hbq40] at H; exact H
                  have Nbq40 := ah.mk hbq40
                  clear hbq40
                  by_cases c41 : bq40 = true
                  ·subst c41
                   rw [if_pos rfl] at H
                   obtain ⟨y236, hy236⟩ : ∃ y_ : List Bool, y_ = (x4_6.set (x9_6 : Int).toNat true) := ⟨_, rfl⟩
                   replace H : (aK.l3 k6 (wrap64 (x3_2 + 1)) y236 x6_2 t232 (wrap64 (x9_6 + 1)) EU EW EX) = some r := by first | (rw [hy236]; with_reducible exact H) | (have H2_ := (Option.bind_some _ _).symm.trans H; rw [hy236]; with_reducible exact H2_) | (have H2_ := (Option.bind_some _ _).symm.trans H; with_reducible exact H2_) | with_reducible exact H | (rw [hy236]; exact H) | exact H
                   have Ny236 := ah.mk hy236
                   clear hy236
                   have H' := ah.mk H
                   clear H
                   have p235 : 0 ≤ (x9_6 : Int) := OD
                   have q235 : x9_6 < (x4_6.length : Int) := OD
                   obtain ⟨ad235, e235, hx235_0⟩ := Kd.uX (Kd.bN HO_4.out).2.2 x9_6 p235 q235
                   (try rw [← Nbq40.out] at hx235_0)
                   cases e235
                   replace p235 := eq_true p235
                   replace q235 := eq_true q235
                   have p42 : 0 ≤ (x9_6 : Int) := OD
                   have q42 : (x9_6 : Int) < ((x4_6.length : Int) : Int) := OD
                   obtain ⟨go42, co7010, eo7010, gb42, gl42, cl42, HG42⟩ := Kd.rG HO_4.out (by omega)
                   (first | cases eo7010 | (injection eo7010 with ea_ en_ ec_; (first | subst ea_ | (injection ea_ with ea_; subst ea_)); subst ec_; clear en_))
                   have GB42 := ah.mk gb42
                   have GG42 := ah.mk HG42
                   clear gb42 gl42 HG42
                   (first | simp only [add_plain] at hx235_0 | skip)
                   obtain ⟨hx42_0, hf42_0⟩ := Kd.mE false HO_4.out (x9_6 : Int) p42 q42
                   replace p42 := eq_true p42
                   replace q42 := eq_true q42
                   have HP43 := Kd.vP HO_4.out (x9_6 : Int) true
                   go_wp2_with (first | ((with_reducible refine kI (t := 4) (p := 78) rfl ?_); refine jW (t := 4) (p := 78) (v := ?vo_w44) (w1 := (wr.setCell ⟨go42, (x9_6 : Int).toNat, none⟩ (.bool true))) ?hg ?ho ?hn ?hr ?_; (case ho => rfl); (case hg => rfl); (case hn => rfl); (case hr => first | (go_simp; done) | (go_simp; rfl)); intro w7011 hw; have hg : wr.grownBy w7011 (some go42) := (by rw [hw]; exact HP43.2); have hp_ : Kd.R Kd.bool 4 w7011 w.heap.size (fun k_ => some k_ ≠ (v233 : Value).ownBlock) (.slice (some ⟨go42, 0, none⟩) x4_6.length co7006) y236 := (by rw [hw, Ny236.out]; exact HP43.1); clear HP43; have n0_ := ah.mk (hp_); have n1_ := ah.mk (Kd.qF (v := (.slice (some ⟨go42, 0, none⟩) x4_6.length co7006)) (v1 := (.slice (some ⟨go42, 0, none⟩) x4_6.length co7006)) (ok := (fun _ => True)) (by (with_reducible repeat (first | apply Kd.gy | apply Kd.gu | apply Kd.fM)); exact Kd.eF HO_7.out (fun _ hk => ⟨trivial, hk⟩)) hg (.inl rfl)); have n2_ := ah.mk (dK (g := gb217) (o := .cells #[.int .i64 EU, .int .i64 EW, .string EX] 32 (0, 0)) BK hg (Kd.lq HO_4.out BK217.out (by decide))); have n3_ := ah.mk ((by rw [hw]; exact gQ (HB.out) GB42.out : Below w.heap.size w w7011)); clear HO_4 HO_7 BK217 HB; have HO_4 := n0_; have HO_7 := n1_; have BK217 := n2_; have HB := n3_; clear n0_ n1_ n2_ n3_; clear hg hw hp_))
                   (try simp only [← hl4_6])
                   go_roundg k6
                   case measure => have := HK1.out; have := HK2.out; have := HJ9.out; have := HJ16.out; have := HK5.out; have := HK6.out; omega
                   case rel => exact ⟨(y236), (wrap64 (x9_6 + 1)), EQ, H', ⟨by have := HK1.out; have := HK2.out; have := HJ9.out; have := HJ16.out; have := HK5.out; have := HK6.out; omega⟩, ⟨by (try simp only [hl4_6]); (with_reducible repeat (first | apply Kd.gy | apply Kd.gu | apply Kd.fM)); exact HO_4.out⟩, ⟨by (try simp only [hl4_6]); (with_reducible repeat (first | apply Kd.gy | apply Kd.gu | apply Kd.fM)); exact Kd.eF HO_7.out (fun _ hk => hk.2)⟩, ⟨by (try simp only [hl4_6]); (with_reducible repeat (first | refine aG ?_ _ | refine aI ?_ | refine aD ?_ _)); exact BK217.out⟩, ⟨BL⟩⟩
                  ·replace c41 := Bool.eq_false_iff.mpr c41
                   subst c41
                   rw [if_neg Bool.false_ne_true] at H
                   replace H := ifN H; obtain ⟨c45b0, H⟩ := H
                   obtain ⟨y238, hy238⟩ : ∃ y_ : List Bool, y_ = (x4_6.set (x9_6 : Int).toNat (dD false t232 x9_6)) := ⟨_, rfl⟩
                   replace H : (aK.l3 k6 (wrap64 (x3_2 + 1)) y238 x6_2 t232 (wrap64 (x9_6 + 1)) EU EW EX) = some r := by first | (rw [hy238]; with_reducible exact H) | (have H2_ := (Option.bind_some _ _).symm.trans H; rw [hy238]; with_reducible exact H2_) | (have H2_ := (Option.bind_some _ _).symm.trans H; with_reducible exact H2_) | with_reducible exact H | (rw [hy238]; exact H) | exact H
                   have Ny238 := ah.mk hy238
                   clear hy238
                   have H' := ah.mk H
                   clear H
                   have p235 : 0 ≤ (x9_6 : Int) := OD
                   have q235 : x9_6 < (x4_6.length : Int) := OD
                   obtain ⟨ad235, e235, hx235_0⟩ := Kd.uX (Kd.bN HO_4.out).2.2 x9_6 p235 q235
                   (try rw [← Nbq40.out] at hx235_0)
                   cases e235
                   replace p235 := eq_true p235
                   replace q235 := eq_true q235
                   obtain ⟨Ao7010, co7010, eo7010⟩ := Kd.dH HO_7.out
                   subst eo7010
                   have p237 : 0 ≤ (x9_6 : Int) := OD
                   have q237 : x9_6 < (t232.length : Int) := OD
                   obtain ⟨ad237, e237, hx237_0⟩ := Kd.uX (Kd.bN HO_7.out).2.2 x9_6 p237 q237
                   (try rw [← Nbq40.out] at hx237_0)
                   cases e237
                   replace p237 := eq_true p237
                   replace q237 := eq_true q237
                   have p46 : 0 ≤ (x9_6 : Int) := OD
                   have q46 : (x9_6 : Int) < ((x4_6.length : Int) : Int) := OD
                   obtain ⟨go46, co7011, eo7011, gb46, gl46, cl46, HG46⟩ := Kd.rG HO_4.out (by omega)
                   (first | cases eo7011 | (injection eo7011 with ea_ en_ ec_; (first | subst ea_ | (injection ea_ with ea_; subst ea_)); subst ec_; clear en_))
                   have GB46 := ah.mk gb46
                   have GG46 := ah.mk HG46
                   clear gb46 gl46 HG46
                   (first | simp only [add_plain] at hx235_0 | skip)
                   obtain ⟨hx46_0, hf46_0⟩ := Kd.mE false HO_4.out (x9_6 : Int) p46 q46
                   replace p46 := eq_true p46
                   replace q46 := eq_true q46
                   have HP48 := Kd.vP HO_4.out (x9_6 : Int) (dD false t232 x9_6)
                   go_wp2_with (first | ((with_reducible refine kI (t := 4) (p := 78) rfl ?_); refine jW (t := 4) (p := 78) (v := ?vo_w49) (w1 := (wr.setCell ⟨go46, (x9_6 : Int).toNat, none⟩ (.bool (dD false t232 x9_6)))) ?hg ?ho ?hn ?hr ?_; (case ho => rfl); (case hg => rfl); (case hn => rfl); (case hr => first | (go_simp; done) | (go_simp; rfl)); intro w7012 hw; have hg : wr.grownBy w7012 (some go46) := (by rw [hw]; exact HP48.2); have hp_ : Kd.R Kd.bool 4 w7012 w.heap.size (fun k_ => some k_ ≠ (.slice (some ad237) t232.length co7010 : Value).ownBlock) (.slice (some ⟨go46, 0, none⟩) x4_6.length co7006) y238 := (by rw [hw, Ny238.out]; exact HP48.1); clear HP48; have n0_ := ah.mk (hp_); have n1_ := ah.mk (Kd.qF (v := (.slice (some ⟨go46, 0, none⟩) x4_6.length co7006)) (v1 := (.slice (some ⟨go46, 0, none⟩) x4_6.length co7006)) (ok := (fun _ => True)) (by (with_reducible repeat (first | apply Kd.gy | apply Kd.gu | apply Kd.fM)); exact Kd.eF HO_7.out (fun _ hk => ⟨trivial, hk⟩)) hg (.inl rfl)); have n2_ := ah.mk (dK (g := gb217) (o := .cells #[.int .i64 EU, .int .i64 EW, .string EX] 32 (0, 0)) BK hg (Kd.lq HO_4.out BK217.out (by decide))); have n3_ := ah.mk ((by rw [hw]; exact gQ (HB.out) GB46.out : Below w.heap.size w w7012)); clear HO_4 HO_7 BK217 HB; have HO_4 := n0_; have HO_7 := n1_; have BK217 := n2_; have HB := n3_; clear n0_ n1_ n2_ n3_; clear hg hw hp_))
                   (try simp only [← hl4_6])
                   go_roundg k6
                   case measure => have := HK1.out; have := HK2.out; have := HJ9.out; have := HJ16.out; have := HK5.out; have := HK6.out; omega
                   case rel => exact ⟨(y238), (wrap64 (x9_6 + 1)), EQ, H', ⟨by have := HK1.out; have := HK2.out; have := HJ9.out; have := HJ16.out; have := HK5.out; have := HK6.out; omega⟩, ⟨by (try simp only [hl4_6]); (with_reducible repeat (first | apply Kd.gy | apply Kd.gu | apply Kd.fM)); exact HO_4.out⟩, ⟨by (try simp only [hl4_6]); (with_reducible repeat (first | apply Kd.gy | apply Kd.gu | apply Kd.fM)); exact Kd.eF HO_7.out (fun _ hk => hk.2)⟩, ⟨by (try simp only [hl4_6]); (with_reducible repeat (first | refine aG ?_ _ | refine aI ?_ | refine aD ?_ _)); exact BK217.out⟩, ⟨BL⟩⟩
                 ·have H' := ah.mk H
                  clear H
                  go_wp2
                  (try simp only [← hl4_6])
                  go_roundg k6
                  case measure => have := HK1.out; have := HK2.out; have := HJ9.out; have := HJ16.out; have := HK5.out; have := HK6.out; omega
                  case rel => exact ⟨((wrap64 (x3_2 + 1))), (x4_6), (wrap64 (x6_2 + 1)), EQ, EQ, H', ⟨by have := HK1.out; have := HK2.out; have := HJ9.out; have := HJ16.out; have := HK5.out; have := HK6.out; omega⟩, ⟨by (try simp only [hl4_6]); (with_reducible repeat (first | apply Kd.gy | apply Kd.gu | apply Kd.fM)); exact Kd.eF HO_4.out (fun _ hk => trivial)⟩, ⟨by (try simp only [hl4_6]); (with_reducible repeat (first | refine aG ?_ _ | refine aI ?_ | refine aD ?_ _)); exact BK217.out⟩, ⟨BL⟩⟩
           ·have H' := ah.mk H
            clear H
            go_wp2
            go_roundg kj16
            case measure => have := HK1.out; have := HK2.out; have := HJ9.out; have := HJ16.out; omega
            case rel => exact ⟨(x3_2), (x4_2), (wrap64 (x6_2 + 1)), EQ, EQ, H', ⟨by have := HK1.out; have := HK2.out; have := HJ9.out; have := HJ16.out; omega⟩, ⟨(RR HO_4)⟩, ⟨BK⟩, ⟨BL⟩⟩
        ·obtain rfl := Option.some.inj H
         go_wp2
         go_ret
         exact ⟨EWW, BL⟩
def iM.f (k : Nat) (EU EW : Int) (EX : ByteArray) : Option (Bool) := (aK.f k EU EW EX).bind fun t240 => (some (t240 == 1))
theorem iM.calls (k : Nat) (EU EW : Int) (EX : ByteArray) (r : Bool) (w : World) (h : iM.f k EU EW EX = some r) :
  Calls Tryz.prog 98 #[.agg #[.int .i64 EU, .int .i64 EW, .string EX]] w fun e w' => e = .returned (.bool r) ∧ Below w.heap.size w w' := by
 have hu32 := Tryz.underlying32
 have HB := ah.mk (Below.refl w.heap.size w)
 unfold iM.f at h
 have H := h
 clear h
 replace H := be H; obtain ⟨t240, A2, H⟩ := H
 obtain rfl := Option.some.inj H
 go_enter Tryz.func98, Tryz.ntmps98
 go_wp2_with (first | ((with_reducible refine aN (N := 1) rfl ?_); refine bC (N := 1) (cs := #[.int .i64 EU, .int .i64 EW, .string EX]) (t := 32) ?_; intro gb239 hg w3 hbox hb; have BK239 := ah.mk hbox; have GW239 := SZ (w := w) hg; have GE239 := GW239; replace HB := BS (w := w) hb; clear hb hbox hg; obtain ⟨hcz4_0, hcz4_1, hcz4_2, hfz4_0, hfz4_1, hfz4_2⟩ := cz3 BK239.out) | ((with_reducible refine ay (f := 154) rfl ?_); refine bq (some 4) Tryz.func154 #[.agg #[.int .i64 EU, .int .i64 EW, .string EX]] ?_; (with_reducible refine (aK.calls k EU EW EX t240 _ A2.out).mono ?_); rintro e w5 ⟨rfl, hb⟩; refine ⟨_, rfl, ?_⟩; replace BK239 := KB BK239 hb; replace HB := BS (w := w) hb; (try clear hb)))
 go_ret
 exact ⟨EWW, BL⟩
def fu.l0 : Nat → List (dI) → Int → Option (Bool)
 | 0, _, _ => none
 | k + 1, a, b => if b < (a.length : Int) then (if 0 ≤ b then (if ((aM a b).f3) < 3 then (some true) else (fu.l0 k a (wrap64 (b + 1)))) else (none)) else (some false)
def fu.f (k : Nat) (EU EW : Int) (EX : ByteArray) : Option (Bool) := (aR.f k EU EW EX).bind fun t242 => (fu.l0 k t242 0)
theorem fu.calls (k : Nat) (EU EW : Int) (EX : ByteArray) (r : Bool) (w : World) (h : fu.f k EU EW EX = some r) :
  Calls Tryz.prog 99 #[.agg #[.int .i64 EU, .int .i64 EW, .string EX]] w fun e w' => e = .returned (.bool r) ∧ Below w.heap.size w w' := by
 have hu32 := Tryz.underlying32
 have HB := ah.mk (Below.refl w.heap.size w)
 unfold fu.f at h
 have H := h
 clear h
 replace H := be H; obtain ⟨t242, A2, H⟩ := H
 have H' := ah.mk H
 clear H
 go_enter Tryz.func99, Tryz.ntmps99
 go_wp2_with (first | ((with_reducible refine aN (N := 1) rfl ?_); refine bC (N := 1) (cs := #[.int .i64 EU, .int .i64 EW, .string EX]) (t := 32) ?_; intro gb241 hg w3 hbox hb; have BK241 := ah.mk hbox; have GW241 := SZ (w := w) hg; have GE241 := GW241; replace HB := BS (w := w) hb; clear hb hbox hg; obtain ⟨hcz4_0, hcz4_1, hcz4_2, hfz4_0, hfz4_1, hfz4_2⟩ := cz3 BK241.out) | ((with_reducible refine ay (f := 49) rfl ?_); refine bq (some 6) Tryz.func49 #[.agg #[.int .i64 EU, .int .i64 EW, .string EX]] ?_; (with_reducible refine (aR.calls k EU EW EX t242 _ A2.out).mono ?_); rintro e w5 ⟨v243, rfl, ho0, hb⟩; refine ⟨_, rfl, ?_⟩; have n0_ := ah.mk (Kd.cO ho0 (aQ BL)); replace BK241 := KB BK241 hb; replace HB := BS (w := w) hb; have HO244 := n0_; clear n0_; (try clear hb); (try clear ho0)))
 go_loopg [4] k (fun kq v4 w' => ∃ (x4_1 : Int), v4 = .int .i64 x4_1 ∧ ah (fu.l0 kq t242 x4_1 = some r) ∧ ah (kq ≤ k) ∧ ah (Kd.R kX 115 w' w.heap.size (fun _ => True) v243 t242) ∧ ah (w'.heap[gb241]? = some (.cells #[.int .i64 EU, .int .i64 EW, .string EX] 32 (0, 0))) ∧ ah (Below w.heap.size w w'))
 case atStart => exact ⟨(0), EQ, H', ⟨Nat.le_refl _⟩, ⟨(RR HO244)⟩, ⟨BK⟩, ⟨BL⟩⟩
 case round =>
  clear H'
  try clear hcz4_0
  try clear hcz4_1
  try clear hcz4_2
  try clear hfz4_0
  try clear hfz4_1
  try clear hfz4_2
  obtain ⟨x4_1, rfl, HA, HK1, HO_3, BK241, HB⟩ := hrel
  cases gk with
  | zero => exact absurd HA.out (by simp [fu.l0])
  | succ k1 =>
   have H := HA.out
   clear HA
   simp only [fu.l0] at H
   obtain ⟨Ao7000, co7000, eo7000⟩ := Kd.dH HO_3.out
   subst eo7000
   replace H := ifD H; rcases H with ⟨c6b0, H⟩ | ⟨c6b0, H⟩
   ·replace H := ifN H; obtain ⟨c7b0, H⟩ := H
    have p245 : 0 ≤ (x4_1 : Int) := OD
    have q245 : x4_1 < (t242.length : Int) := OD
    obtain ⟨ad245, e245, hx245_0, hx245_1, hx245_2, hx245_3⟩ := mX (Kd.bN HO_3.out).2.2 x4_1 p245 q245
    cases e245
    replace p245 := eq_true p245
    replace q245 := eq_true q245
    replace H := ifD H; rcases H with ⟨c8b0, H⟩ | ⟨c8b0, H⟩
    ·obtain rfl := Option.some.inj H
     go_wp2
     go_ret
     exact ⟨EWW, BL⟩
    ·have H' := ah.mk H
     clear H
     go_wp2
     go_roundg k1
     case measure => have := HK1.out; omega
     case rel => exact ⟨(wrap64 (x4_1 + 1)), EQ, H', ⟨by have := HK1.out; omega⟩, ⟨(RR HO_3)⟩, ⟨BK⟩, ⟨BL⟩⟩
   ·obtain rfl := Option.some.inj H
    go_wp2
    go_ret
    exact ⟨EWW, BL⟩
end Go.Proofs.YtnfiedfaaaphoaaGreat.PFnExactPuzzleCode
