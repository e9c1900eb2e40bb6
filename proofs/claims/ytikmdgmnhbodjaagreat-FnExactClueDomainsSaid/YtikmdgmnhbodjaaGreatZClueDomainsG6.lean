/- Walks of functions: what each computes. -/
import Derived.Test.YtikmdgmnhbodjaaGreatZClueDomainsG0
import Derived.Test.YtikmdgmnhbodjaaGreatZClueDomainsG5
import Derived.Test.YtikmdgmnhbodjaaGreatZClueDomainsW
import Derived.Test.YtikmdgmnhbodjaaGreatZClueDomainsShelf
import Derived.Test.YtikmdgmnhbodjaaGreatZClueDomainsHandSort
import Derived.Test.YtikmdgmnhbodjaaGreatZClueDomainsHandForm
import Derived.Test.YtikmdgmnhbodjaaGreatZClueDomainsHandAlone
import Derived.Test.YtikmdgmnhbodjaaGreatZClueDomainsHandReach
namespace Go.Proofs.YtikmdgmnhbodjaaGreat.PFnExactClueDomains
open Go.RowKit Go.Proofs.YtikmdgmnhbodjaaGreatW.PrintWords Go.Proofs.YtikmdgmnhbodjaaGreatW.PrintLast Go.Proofs.YtikmdgmnhbodjaaGreatW.PrintMore Go.Proofs.YtikmdgmnhbodjaaGreat.Sq
attribute [local go_sem] kW kY mH mI jU jV kX kZ
set_option maxHeartbeats 8000000
set_option maxRecDepth 100000
set_option linter.unusedVariables false
set_option linter.unusedSimpArgs false
mutual
def fI.j0 : Nat → Int → Int → Int → Int → Int → Int → ByteArray → Option (Int)
 | 0, _, _, _, _, _, _, _ => none
 | k + 1, a, b, c, d, e, f, g => if 0 ≤ a then (if a < (g.size : Int) then (if (bt g a) = 46 then (if c > 0 then (if 0 ≤ (wrap64 (a - b)) then (if (wrap64 (a - b)) < (g.size : Int) then (fI.j1 k a b c d ((bt g (wrap64 (a - b))) == 46) e f g) else (none)) else (none)) else (fI.j1 k a b c d false e f g)) else (fI.j1 k a b c d true e f g)) else (none)) else (none)
def fI.j1 : Nat → Int → Int → Int → Int → Bool → Int → Int → ByteArray → Option (Int)
 | 0, _, _, _, _, _, _, _, _ => none
 | k + 1, a, b, c, d, e, f, g, h => if e = true then (some 0) else (fI.l0 k a b c d 0 f g h)
def fI.l0 : Nat → Int → Int → Int → Int → Int → Int → Int → ByteArray → Option (Int)
 | 0, _, _, _, _, _, _, _, _ => none
 | k + 1, a, b, c, d, e, f, g, h => if (wrap64 (c + e)) < d then (if 0 ≤ (wrap64 (a + (wrap64 (e * b)))) then (if (wrap64 (a + (wrap64 (e * b)))) < (h.size : Int) then (if (bt h (wrap64 (a + (wrap64 (e * b))))) = 46 then (fI.l0 k a b c d (wrap64 (e + 1)) f g h) else (some e)) else (none)) else (none)) else (some e)
end
def fI.f (k : Nat) (JW JX : Int) (JY : ByteArray) (a1 : Int) (a2 : Bool) : Option (Int) := if JX = 0 then (none) else (if a2 = true then (fI.j0 k a1 JX (wrap64 (Int.tdiv a1 JX)) JW JW JX JY) else (fI.j0 k a1 1 (Int.tmod a1 JX) JX JW JX JY))
theorem fI.calls (k : Nat) (JW JX : Int) (JY : ByteArray) (a1 : Int) (a2 : Bool) (r : Int) (w : World) (h : fI.f k JW JX JY a1 a2 = some r) :
  Calls Tryz.prog 141 #[.agg #[.int .i64 JW, .int .i64 JX, .string JY], .int .i64 a1, .bool a2] w fun e w' => e = .returned (.int .i64 r) ∧ Below w.heap.size w w' := by
 have xK := Tryz.underlying35;have HB := ah.mk (Below.refl w.heap.size w);unfold fI.f at h;have H := h;clear h;by_cases c4 : JX = 0
 ·rw [if_pos c4] at H;exact absurd H (by simp)
 ·rw [if_neg c4] at H;have L : (JX == 0) = false := beq_eq_false_iff_ne.mpr c4;have M : (JX != 0) = true := bne_iff_ne.mpr c4;have Z := ah.mk H;clear H;go_enter Tryz.func141, Tryz.ntmps141;go_upto_if 17 with (first | ((with_reducible refine aK (N := 3) rfl ?_); refine bA (N := 3) (cs := #[.int .i64 JW, .int .i64 JX, .string JY]) (t := 35) ?_; intro E hg O hbox hb; have a := ah.mk hbox; have G := SZ (w := w) hg; have P := G; replace HB := BS (w := w) hb; clear hb hbox hg; obtain ⟨l, m, o, u, x, y⟩ := cz3 a.out))
  repeat (go_quiet (first | ((with_reducible refine aK (N := 3) rfl ?_); refine bA (N := 3) (cs := #[.int .i64 JW, .int .i64 JX, .string JY]) (t := 35) ?_; intro E hg O hbox hb; have a := ah.mk hbox; have G := SZ (w := w) hg; have P := G; replace HB := BS (w := w) hb; clear hb hbox hg; obtain ⟨l, m, o, u, x, y⟩ := cz3 a.out)); go_upto_if 17 with (first | ((with_reducible refine aK (N := 3) rfl ?_); refine bA (N := 3) (cs := #[.int .i64 JW, .int .i64 JX, .string JY]) (t := 35) ?_; intro E hg O hbox hb; have a := ah.mk hbox; have G := SZ (w := w) hg; have P := G; replace HB := BS (w := w) hb; clear hb hbox hg; obtain ⟨l, m, o, u, x, y⟩ := cz3 a.out)))
  (try simp only [Act.put, List.setIfInBounds_toArray, List.set_cons_zero, List.set_cons_succ])
  go_cut [7, 8, 9] (fun v7 v8 v9 wc => ∃ (kq : Nat) (z : Int) (A : Int) (I : Int), v7 = .int .i64 z ∧ v8 = .int .i64 A ∧ v9 = .int .i64 I ∧ ah (fI.j0 kq a1 z A I JW JX JY = some r) ∧ ah (kq ≤ k) ∧ ah (wc.heap[E]? = some (.cells #[.int .i64 JW, .int .i64 JX, .string JY] 35 (0, 0))) ∧ ah (Below w.heap.size w wc))
  case first =>
   have H := Z.out;clear Z;by_cases c8 : a2 = true
   ·subst c8;rw [if_pos rfl] at H;have H' := ah.mk H;clear H;obtain ⟨xa, xb, xc, xd, xe, xf⟩ := cz3 a.out;go_wp2
    repeat (go_quiet (fail); try go_wp2)
    go_meet;case rel => exact ⟨_, _, _, _, EQ, EQ, EQ, H', ⟨by first | omega | exact Nat.le_refl _⟩, ⟨BK⟩, ⟨BL⟩⟩
   ·replace c8 := Bool.eq_false_iff.mpr c8;subst c8;rw [if_neg Bool.false_ne_true] at H;have H' := ah.mk H;clear H;go_wp2
    repeat (go_quiet (fail); try go_wp2)
    go_meet;case rel => exact ⟨_, _, _, _, EQ, EQ, EQ, H', ⟨by first | omega | exact Nat.le_refl _⟩, ⟨BK⟩, ⟨BL⟩⟩
  case rest =>
   clear Z;(try clear c4);(try clear L);(try clear M);(try clear l m o u x y);obtain ⟨kq, z, A, I, rfl, rfl, rfl, HA, U, a, HB⟩ := hcut
   cases kq with
   | zero => exact absurd HA.out (by simp [fI.j0])
   | succ xy =>
    have H := HA.out;clear HA;simp only [fI.j0] at H;have X := ah.mk H;clear H;go_upto_region 4 with (fail)
    repeat (go_quiet (fail); go_upto_region 4 with (fail))
    go_cut [43] (fun xD wc => ∃ (kq : Nat) (J : Bool), xD = .bool J ∧ ah (fI.j1 kq a1 z A I J JW JX JY = some r) ∧ ah (kq ≤ xy) ∧ ah (wc.heap[E]? = some (.cells #[.int .i64 JW, .int .i64 JX, .string JY] 35 (0, 0))) ∧ ah (Below w.heap.size w wc))
    case first =>
     have H := X.out;clear X;replace H := ifN H; obtain ⟨Y, H⟩ := H;(first | rw [Y] | (simp only [iQ, jv]; rw [Y]) | skip);replace H := ifN H; obtain ⟨xE, H⟩ := H;obtain ⟨xg, xh, xi, xj, xk, xl⟩ := cz3 a.out;have xO : (0 ≤ (a1 : Int)) = True := OT;have xP : (a1 < (JY.size : Int)) = True := OT;have hx13 := gX JY a1;replace H := ifE H; rcases H with ⟨xm, xn, H⟩ | ⟨xQ, xm, xn, H⟩
     ·by_cases K : A > 0
      ·rw [if_pos K] at H;have xo : decide (0 < A) = true := decide_eq_true K;clear K;obtain ⟨ji16, hji16⟩ : ∃ j_ : Int, (wrap64 (a1 - z)) = j_ := ⟨_, rfl⟩;replace H : (if 0 ≤ (ji16) then (if (ji16) < (JY.size : Int) then (fI.j1 xy a1 z A I ((bt JY (ji16)) == 46) JW JX JY) else (none)) else (none)) = some r := by first | (rw [hji16] at H; exact H) | (simp only [hji16] at H ⊢; exact H)
       have hji16w : (IntKind.i64.wrap (a1 - z)) = ji16 := (iQ _).trans hji16;replace H := ifN H; obtain ⟨xF, H⟩ := H;replace H := ifN H; obtain ⟨xG, H⟩ := H;have H' := ah.mk H;clear H;have xR : (0 ≤ ((ji16) : Int)) = True := OT;have xS : ((ji16) < (JY.size : Int)) = True := OT;have hx19 := gX JY (ji16);go_wp2
       repeat (go_quiet (fail); try go_wp2)
       go_meet;case rel => exact ⟨_, (((bt JY (ji16)) == 46)), (by first | rfl | (simp; done) | (simp only [← hji16] <;> (first | rfl | simp)) | (simp [*]; done)), H', ⟨by have := U.out; first | omega | exact Nat.le_refl _⟩, ⟨BK⟩, ⟨BL⟩⟩
      ·rw [if_neg K] at H;have xo : decide (0 < A) = false := decide_eq_false K;clear K;have H' := ah.mk H;clear H;go_wp2
       repeat (go_quiet (fail); try go_wp2)
       go_meet;case rel => exact ⟨_, _, EQ, H', ⟨by have := U.out; first | omega | exact Nat.le_refl _⟩, ⟨BK⟩, ⟨BL⟩⟩
     ·have H' := ah.mk H;clear H;go_wp2
      repeat (go_quiet (fail); try go_wp2)
      go_meet;case rel => exact ⟨_, _, EQ, H', ⟨by have := U.out; first | omega | exact Nat.le_refl _⟩, ⟨BK⟩, ⟨BL⟩⟩
    case rest =>
     clear X;(try clear c4);(try clear L);(try clear M);(try clear l m o u x y);obtain ⟨kq, J, rfl, HA, xz, a, HB⟩ := hcut
     cases kq with
     | zero => exact absurd HA.out (by simp [fI.j1])
     | succ xA =>
      have H := HA.out;clear HA;simp only [fI.j1] at H;replace H := ifB H; rcases H with ⟨rfl, H⟩ | ⟨rfl, H⟩
      ·obtain rfl := Option.some.inj H;go_wp2
       repeat (go_quiet (fail); try go_wp2)
       go_ret;exact ⟨EWW, BL⟩
      ·have H' := ah.mk H;clear H;go_wp2
       repeat (go_quiet (fail); try go_wp2)
       go_loopg [10] xA (fun kq xH w' => ∃ (D : Int), xH = .int .i64 D ∧ ah (fI.l0 kq a1 z A I D JW JX JY = some r) ∧ ah (kq ≤ xA) ∧ ah (w'.heap[E]? = some (.cells #[.int .i64 JW, .int .i64 JX, .string JY] 35 (0, 0))) ∧ ah (Below w.heap.size w w'))
       case atStart => exact ⟨_, EQ, H', ⟨Nat.le_refl _⟩, ⟨BK⟩, ⟨BL⟩⟩
       case round =>
        clear H';(try clear c4);(try clear L);(try clear M);(try clear xT);(try clear l m o u x y);obtain ⟨D, rfl, HA, xB, a, HB⟩ := hrel
        cases gk with
        | zero => exact absurd HA.out (by simp [fI.l0])
        | succ k3 =>
         have H := HA.out;clear HA;simp only [fI.l0] at H;replace H := ifD H; rcases H with ⟨xp, H⟩ | ⟨xp, H⟩
         ·obtain ⟨ji25, hji25⟩ : ∃ j_ : Int, (wrap64 (a1 + (wrap64 (D * z)))) = j_ := ⟨_, rfl⟩;replace H : (if 0 ≤ (ji25) then (if (ji25) < (JY.size : Int) then (if (bt JY (ji25)) = 46 then (fI.l0 k3 a1 z A I (wrap64 (D + 1)) JW JX JY) else (some D)) else (none)) else (none)) = some r := by first | (rw [hji25] at H; exact H) | (simp only [hji25] at H ⊢; exact H)
          have hji25w : (IntKind.i64.wrap (a1 + (wrap64 (D * z)))) = ji25 := (iQ _).trans hji25;replace H := ifN H; obtain ⟨xI, H⟩ := H;replace H := ifN H; obtain ⟨xJ, H⟩ := H;obtain ⟨xq, xr, xs, xt, xu, xv⟩ := cz3 a.out;have xU : (0 ≤ ((ji25) : Int)) = True := OT;have xV : ((ji25) < (JY.size : Int)) = True := OT;have hx28 := gX JY (ji25);replace H := ifE H; rcases H with ⟨xw, xx, H⟩ | ⟨xW, xw, xx, H⟩
          ·have H' := ah.mk H;clear H;go_wp2
           repeat (go_quiet (fail); try go_wp2)
           go_roundg k3;case measure => have := U.out; have := xz.out; have := xB.out; omega
           case rel => exact ⟨_, EQ, H', ⟨by have := U.out; have := xz.out; have := xB.out; omega⟩, ⟨BK⟩, ⟨BL⟩⟩
          ·obtain rfl := Option.some.inj H;go_wp2
           repeat (go_quiet (fail); try go_wp2)
           go_ret;exact ⟨by first | rfl | (simp [nu, ny] <;> rfl) | (simp only [← hji25]; first | rfl | (simp [nu, ny] <;> rfl)) | (simp [*, nu, ny] <;> rfl), BL⟩
         ·obtain rfl := Option.some.inj H;go_wp2
          repeat (go_quiet (fail); try go_wp2)
          go_ret;exact ⟨EWW, BL⟩
mutual
def bf.l0 : Nat → List (eZ) → Int → Int → Int → Int → Int → ByteArray → Option ((List (eZ)))
 | 0, _, _, _, _, _, _, _ => none
 | k + 1, a, b, c, d, e, f, g => if d < c then ((fI.f k e f g d false).bind fun h => ((fI.f k e f g d true).bind fun i => (if h ≥ 2 then (bf.j1 k a b d h i c d true e f g) else (bf.j1 k a b d h i c d (decide (i ≥ 2)) e f g)))) else (some a)
def bf.j1 : Nat → List (eZ) → Int → Int → Int → Int → Int → Int → Bool → Int → Int → ByteArray → Option ((List (eZ)))
 | 0, _, _, _, _, _, _, _, _, _, _, _ => none
 | k + 1, a, b, c, d, e, f, g, h, i, j, l => if h = true then (bf.j2 k a (wrap64 (b + 1)) c d e f g i j l) else (bf.j2 k a b c d e f g i j l)
def bf.j2 : Nat → List (eZ) → Int → Int → Int → Int → Int → Int → Int → Int → ByteArray → Option ((List (eZ)))
 | 0, _, _, _, _, _, _, _, _, _, _ => none
 | k + 1, a, b, c, d, e, f, g, h, i, j => if d ≥ 2 then (if a.length < 4398046511104 then ((some (a ++ [(⟨b, false, c, d⟩ : eZ)] : List (eZ))).bind fun l => (if e ≥ 2 then (if l.length < 4398046511104 then (bf.l0 k (l ++ [(⟨b, true, c, e⟩ : eZ)]) b f (wrap64 (g + 1)) h i j) else (none)) else (bf.l0 k l b f (wrap64 (g + 1)) h i j))) else (none)) else (if e ≥ 2 then (if a.length < 4398046511104 then (bf.l0 k (a ++ [(⟨b, true, c, e⟩ : eZ)]) b f (wrap64 (g + 1)) h i j) else (none)) else (bf.l0 k a b f (wrap64 (g + 1)) h i j))
end
def bf.f (k : Nat) (JW JX : Int) (JY : ByteArray) : Option ((List (eZ))) := (bG.f k JW JX JY).bind fun t443 => (if t443 = true then (bf.l0 k ([] : List (eZ)) 0 (JY.size : Int) 0 JW JX JY) else (some ([] : List (eZ))))
def bf.T8 : Bool × List (List Nat × List Nat) := (true, [([], []), ([], []), ([0, 1], [0, 1]), ([], []), ([], []), ([3, 4, 2], [3, 4]), ([2, 5, 0, 1, 2], [2]), ([5, 6, 0, 1, 2, 3, 4, 5, 6], [5])])
def bf.B8 : List Nat := [0, 0, 3, 0, 0, 31, 63, 127]
theorem bf.JQ : mO .any (opsOf Tryz.f84 8) = bf.T8 := by kernel_rfl
theorem bf.Jz : kC bf.T8.2 bf.B8 = true := by kernel_rfl
theorem bf.calls (k : Nat) (JW JX : Int) (JY : ByteArray) (r : List (eZ)) (w : World) (h : bf.f k JW JX JY = some r) :
  Calls Tryz.prog 84 #[.agg #[.int .i64 JW, .int .i64 JX, .string JY]] w fun e w' => ∃ v0_ : Value, e = .returned (v0_) ∧ Kd.R mZ 109 w' w.heap.size (fun _ => True) v0_ r ∧ Below w.heap.size w w' := by
 have xZ := Tryz.underlying35;have xN := Tryz.underlying109;have HB := ah.mk (Below.refl w.heap.size w);unfold bf.f at h;have H := h;clear h;replace H := be H; obtain ⟨ya, A2, H⟩ := H;replace H := ah.mk H;go_enter Tryz.func84, Tryz.ntmps84;go_wp2_with (first | ((with_reducible refine aK (N := 1) rfl ?_); refine bA (N := 1) (cs := #[.int .i64 JW, .int .i64 JX, .string JY]) (t := 35) ?_; intro z hg xO hbox hb; have a := ah.mk hbox; have xt := SZ (w := w) hg; have xP := xt; replace HB := BS (w := w) hb; clear hb hbox hg; obtain ⟨E, G, I, J, L, M⟩ := cz3 a.out) | ((with_reducible refine aA (f := 122) rfl ?_); refine aY (some 9) Tryz.func122 #[.agg #[.int .i64 JW, .int .i64 JX, .string JY]] ?_; (with_reducible refine (bG.calls k JW JX JY _ _ A2.out).mono ?_); rintro e xQ ⟨rfl, hb⟩; refine ⟨_, rfl, ?_⟩; replace a := KB a hb; replace HB := BS (w := w) hb; (try clear hb); obtain ⟨O, P, U, X, Y, Z⟩ := cz3 a.out; refine dF ?_));refine Hide.mk ?_;replace H := H.out;replace H := ifB H; rcases H with ⟨rfl, H⟩ | ⟨rfl, H⟩
 ·have H' := ah.mk H;clear H;try go_wp2
  go_loopg [3, 4, 14] k (fun kq v3 v4 xS w' => ∃ (A : List (eZ)) (xk : Int) (l : Int), v4 = .int .i64 xk ∧ xS = .int .i64 l ∧ ah (bf.l0 kq A xk (JY.size : Int) l JW JX JY = some r) ∧ ah (kq ≤ k) ∧ ah (Kd.R mZ 109 w' w.heap.size (fun _ => True) v3 A) ∧ ah (w'.heap[z]? = some (.cells #[.int .i64 JW, .int .i64 JX, .string JY] 35 (0, 0))) ∧ ah (Below w.heap.size w w'))
  case atStart => exact ⟨_, _, _, EQ, EQ, H', ⟨Nat.le_refl _⟩, ⟨by first | exact Kd.nY _ _ _ _ _ | exact Kd.qD _ _ _ _ _ | exact Kd.qG _ _ _ _ _ | exact Kd.qE _ _ _ _ _ | exact Kd.qF _ _ _ _ _⟩, ⟨BK⟩, ⟨BL⟩⟩
  case round =>
   clear H';(try clear c3);(try clear E G I);(try clear O P U);(try clear J L M);(try clear X Y Z);obtain ⟨A, xk, l, rfl, rfl, HA, xc, u, a, HB⟩ := hrel
   cases gk with
   | zero => exact absurd HA.out (by simp [bf.l0])
   | succ k1 =>
    have H := HA.out;clear HA;simp only [bf.l0] at H;replace H := ifD H; rcases H with ⟨xp, H⟩ | ⟨xp, H⟩
    ·replace H := be H; obtain ⟨y, A9, H⟩ := H;replace H := be H; obtain ⟨x, xT, H⟩ := H;have xq := ah.mk H;clear H;(try go_wp2);replace u := ah.mk (Kd.bR u.out);replace a := ah.mk (aD a.out);replace HB := ah.mk (dO HB.out);refine jJ (n := 8) (S := fun w' => w'.cell? ⟨z, 0, none⟩ = some (.int .i64 JW) ∧ w'.cell? ⟨z, 1, none⟩ = some (.int .i64 JX) ∧ w'.cell? ⟨z, 2, none⟩ = some (.string JY)) (ds := []) #[F,F,F,F,F,F,F,F] (by kernel_rfl) rfl rfl ⟨(ak a.out 0).trans rfl, (ak a.out 1).trans rfl, (ak a.out 2).trans rfl⟩ (fun hHeld => ?_); refine jF bf.JQ bf.Jz (fun HT_ HW_ => ?_);generalize wr.drew = xU at u a HB hHeld ⊢;refine pS 1 (some 18) #[F,T,F,F,F,F,F,F] ?_;refine pS 4 (some 21) #[F,T,F,F,T,F,F,F] ?_;refine tS 0 (some 17) #[T,T,F,F,T,F,F,F] ?_;refine tS 3 (some 20) #[T,T,F,T,T,F,F,F] ?_;refine lg (i := 2) (N := some 19) #[T,T,T,T,T,F,F,F] rfl rfl (jO HT_.out (by kernel_rfl)) (by decide) (fun K hK => ?_);refine jq Tryz.func141 #[.agg #[.int .i64 JW, .int .i64 JX, .string JY], .int .i64 l, .bool false] ?_;(with_reducible refine (fI.calls k1 JW JX JY l false y _ A9.out).mono ?_);rintro e xV ⟨rfl, hb⟩;refine ⟨_, rfl, ?_⟩;replace u := RB u hb;replace a := KB a hb;replace HB := BS (w := w) hb;(try clear hb);refine hK.out _ _ ⟨(ak a.out 0).trans rfl, (ak a.out 1).trans rfl, (ak a.out 2).trans rfl⟩ (fun hHeld => ?_);clear hK K;refine nrm (some 19) ?_;refine lg (i := 5) (N := some 22) #[T,T,T,T,T,T,F,F] rfl rfl (jO HT_.out (by kernel_rfl)) (by decide) (fun K hK => ?_);refine jq Tryz.func141 #[.agg #[.int .i64 JW, .int .i64 JX, .string JY], .int .i64 l, .bool true] ?_;(with_reducible refine (fI.calls k1 JW JX JY l true x _ xT.out).mono ?_);rintro e xW ⟨rfl, hb⟩;refine ⟨_, rfl, ?_⟩;replace u := RB u hb;replace a := KB a hb;replace HB := BS (w := w) hb;(try clear hb);refine hK.out _ _ ⟨(ak a.out 0).trans rfl, (ak a.out 1).trans rfl, (ak a.out 2).trans rfl⟩ (fun hHeld => ?_);clear hK K;refine nrm (some 22) ?_;refine pS 6 (some 6) #[T,T,T,T,T,T,T,F] ?_;refine pS 7 (some 7) #[T,T,T,T,T,T,T,T] ?_;refine je (iJ HT_.out (by kernel_rfl)) ?_;go_upto_region 9 with (fail)
     go_cut [28] (fun xX wc => ∃ (kq : Nat) (xh : Bool), xX = .bool xh ∧ ah (bf.j1 kq A xk l y x (JY.size : Int) l xh JW JX JY = some r) ∧ ah (kq ≤ k1) ∧ ah (Kd.R mZ 109 wc w.heap.size (fun _ => True) u3 A) ∧ ah (wc.heap[z]? = some (.cells #[.int .i64 JW, .int .i64 JX, .string JY] 35 (0, 0))) ∧ ah (Below w.heap.size w wc))
     case first =>
      have H := xq.out;clear xq;by_cases xl : y ≥ 2
      ·rw [if_pos xl] at H;have xd : decide (2 ≤ y) = true := decide_eq_true xl;clear xl;(first | rw [xd] | (simp only [iQ, jv]; rw [xd]) | skip);have H' := ah.mk H;clear H;go_wp2;go_meet;case rel => exact ⟨_, _, EQ, H', ⟨by have := xc.out; first | omega | exact Nat.le_refl _⟩, ⟨(RR u)⟩, ⟨BK⟩, ⟨BL⟩⟩
      ·rw [if_neg xl] at H;have xd : decide (2 ≤ y) = false := decide_eq_false xl;clear xl;(first | rw [xd] | (simp only [iQ, jv]; rw [xd]) | skip);have H' := ah.mk H;clear H;go_wp2;go_meet;case rel => exact ⟨_, _, EQ, H', ⟨by have := xc.out; first | omega | exact Nat.le_refl _⟩, ⟨(RR u)⟩, ⟨BK⟩, ⟨BL⟩⟩
     case rest =>
      clear xq;(try clear c3);(try clear c8);(try clear xp);(try clear E G I);(try clear O P U);(try clear J L M);(try clear X Y Z);obtain ⟨kq, xh, rfl, HA, D, u, a, HB⟩ := hcut
      cases kq with
      | zero => exact absurd HA.out (by simp [bf.j1])
      | succ xG =>
       have H := HA.out;clear HA;simp only [bf.j1] at H;have xr := ah.mk H;clear H;go_upto_if 28 with (fail)
       go_cut [4] (fun v4 wc => ∃ (kq : Nat) (m : Int), v4 = .int .i64 m ∧ ah (bf.j2 kq A m l y x (JY.size : Int) l JW JX JY = some r) ∧ ah (kq ≤ xG) ∧ ah (Kd.R mZ 109 wc w.heap.size (fun _ => True) u3 A) ∧ ah (wc.heap[z]? = some (.cells #[.int .i64 JW, .int .i64 JX, .string JY] 35 (0, 0))) ∧ ah (Below w.heap.size w wc))
       case first =>
        have H := xr.out;clear xr;replace H := ifB H; rcases H with ⟨rfl, H⟩ | ⟨rfl, H⟩
        ·have H' := ah.mk H;clear H;go_wp2;go_meet;case rel => exact ⟨_, _, EQ, H', ⟨by have := xc.out; have := D.out; first | omega | exact Nat.le_refl _⟩, ⟨(RR u)⟩, ⟨BK⟩, ⟨BL⟩⟩
        ·have H' := ah.mk H;clear H;go_wp2;go_meet;case rel => exact ⟨_, _, EQ, H', ⟨by have := xc.out; have := D.out; first | omega | exact Nat.le_refl _⟩, ⟨(RR u)⟩, ⟨BK⟩, ⟨BL⟩⟩
       case rest =>
        clear xr;(try clear c3);(try clear c8);(try clear xp);(try clear E G I);(try clear O P U);(try clear J L M);(try clear X Y Z);obtain ⟨kq, m, rfl, HA, xa, u, a, HB⟩ := hcut
        cases kq with
        | zero => exact absurd HA.out (by simp [bf.j2])
        | succ xb =>
         have H := HA.out;clear HA;simp only [bf.j2] at H;by_cases xm : y ≥ 2
         ·rw [if_pos xm] at H;have xu : decide (2 ≤ y) = true := decide_eq_true xm;clear xm;replace H := ifP H; obtain ⟨xH, H⟩ := H;have xv := ah.mk xH;clear xH;obtain ⟨xj, xe⟩ : ∃ y_ : List (eZ), y_ = (A ++ [(⟨m, false, l, y⟩ : eZ)]) := ⟨_, rfl⟩;replace H : (if x ≥ 2 then (if xj.length < 4398046511104 then (bf.l0 xb (xj ++ [(⟨m, true, l, x⟩ : eZ)]) m (JY.size : Int) (wrap64 (l + 1)) JW JX JY) else (none)) else (bf.l0 xb xj m (JY.size : Int) (wrap64 (l + 1)) JW JX JY)) = some r := by first | (rw [xe]; with_reducible exact H) | (have H2_ := (Option.bind_some _ _).symm.trans H; rw [xe]; with_reducible exact H2_) | (have H2_ := (Option.bind_some _ _).symm.trans H; with_reducible exact H2_) | with_reducible exact H | (rw [xe]; exact H) | exact H
          have xw := ah.mk xe;clear xe;replace H := ah.mk H;go_wp2_with (first | ((with_reducible refine eP (b := .append) (xs := #[.tmp 33, .tmp 38]) rfl ?_); at_builtin; refine Kd.iM mZ (w0 := w) w.heap.size rfl (.tmp 33) (.tmp 38) 99 109 (.agg #[(.int .i64 0), (.bool false), (.int .i64 0), (.int .i64 0)]) 32 rfl Tryz.underlying99 rQ rfl (by decide) (by omega) u3 A (⟨m, false, l, y⟩ : eZ) [.int .i64 m, .bool false, .int .i64 l, .int .i64 y] (fun _ => True) (fun _ => False) rfl rfl ?aP (fun _ hk => hk.elim) ?aF ?aO ?aB ?aS ?aL ?_; (case aP => exact qc _ _ _ (⟨m, false, l, y⟩ : eZ)); (case aB => exact BL); (case aF => exact (fun _ _ => trivial)); (case aO => exact (RR u)); (case aS => exact (aJ BL)); (case aL => have := xv.out; omega); intro xI xx ho hb hg hat; rw [← xw.out] at ho; replace a := ah.mk (eX (g := z) (o := .cells #[.int .i64 JW, .int .i64 JX, .string JY] 35 (0, 0)) BK hg (Kd.lM u.out a.out (by decide))); replace HB := ah.mk (hb); have xi := ah.mk (ho); clear u; clear ho hb hg hat; refine dF ?_));refine Hide.mk ?_;replace H := H.out;by_cases xn : x ≥ 2
          ·rw [if_pos xn] at H;have xy : decide (2 ≤ x) = true := decide_eq_true xn;clear xn;replace H := ifP H; obtain ⟨xJ, H⟩ := H;have xz := ah.mk xJ;clear xJ;obtain ⟨xK, xf⟩ : ∃ y_ : List (eZ), y_ = (xj ++ [(⟨m, true, l, x⟩ : eZ)]) := ⟨_, rfl⟩;replace H : (bf.l0 xb xK m (JY.size : Int) (wrap64 (l + 1)) JW JX JY) = some r := by first | (rw [xf]; with_reducible exact H) | (have H2_ := (Option.bind_some _ _).symm.trans H; rw [xf]; with_reducible exact H2_) | (have H2_ := (Option.bind_some _ _).symm.trans H; with_reducible exact H2_) | with_reducible exact H | (rw [xf]; exact H) | exact H
           have xA := ah.mk xf;clear xf;have H' := ah.mk H;clear H;(try go_wp2_with (first | ((with_reducible refine eP (b := .append) (xs := #[.tmp 42, .tmp 47]) rfl ?_); at_builtin; refine Kd.iM mZ (w0 := w) w.heap.size rfl (.tmp 42) (.tmp 47) 99 109 (.agg #[(.int .i64 0), (.bool false), (.int .i64 0), (.int .i64 0)]) 32 rfl Tryz.underlying99 rQ rfl (by decide) (by omega) xI xj (⟨m, true, l, x⟩ : eZ) [.int .i64 m, .bool true, .int .i64 l, .int .i64 x] (fun _ => True) (fun _ => False) rfl rfl ?aP (fun _ hk => hk.elim) ?aF ?aO ?aB ?aS ?aL ?_; (case aP => exact qc _ _ _ (⟨m, true, l, x⟩ : eZ)); (case aB => exact BL); (case aF => exact (fun _ _ => trivial)); (case aO => exact (RR xi)); (case aS => exact (aJ BL)); (case aL => have := xz.out; omega); intro yb xY ho hb hg hat; rw [← xA.out] at ho; replace a := ah.mk (eX (g := z) (o := .cells #[.int .i64 JW, .int .i64 JX, .string JY] 35 (0, 0)) BK hg (Kd.lM xi.out a.out (by decide))); replace HB := ah.mk (hb); have xB := ah.mk (ho); clear xi; clear ho hb hg hat)));go_roundg xb;case measure => have := xc.out; have := D.out; have := xa.out; omega
           case rel => exact ⟨_, _, _, EQ, EQ, H', ⟨by have := xc.out; have := D.out; have := xa.out; omega⟩, ⟨(RR xB)⟩, ⟨BK⟩, ⟨BL⟩⟩
          ·rw [if_neg xn] at H;have xy : decide (2 ≤ x) = false := decide_eq_false xn;clear xn;have H' := ah.mk H;clear H;(try go_wp2);go_roundg xb;case measure => have := xc.out; have := D.out; have := xa.out; omega
           case rel => exact ⟨_, _, _, EQ, EQ, H', ⟨by have := xc.out; have := D.out; have := xa.out; omega⟩, ⟨(RR xi)⟩, ⟨BK⟩, ⟨BL⟩⟩
         ·rw [if_neg xm] at H;have xu : decide (2 ≤ y) = false := decide_eq_false xm;clear xm;by_cases xo : x ≥ 2
          ·rw [if_pos xo] at H;have xC : decide (2 ≤ x) = true := decide_eq_true xo;clear xo;replace H := ifP H; obtain ⟨xL, H⟩ := H;have xD := ah.mk xL;clear xL;obtain ⟨xM, xg⟩ : ∃ y_ : List (eZ), y_ = (A ++ [(⟨m, true, l, x⟩ : eZ)]) := ⟨_, rfl⟩;replace H : (bf.l0 xb xM m (JY.size : Int) (wrap64 (l + 1)) JW JX JY) = some r := by first | (rw [xg]; with_reducible exact H) | (have H2_ := (Option.bind_some _ _).symm.trans H; rw [xg]; with_reducible exact H2_) | (have H2_ := (Option.bind_some _ _).symm.trans H; with_reducible exact H2_) | with_reducible exact H | (rw [xg]; exact H) | exact H
           have xE := ah.mk xg;clear xg;have H' := ah.mk H;clear H;go_wp2_with (first | ((with_reducible refine eP (b := .append) (xs := #[.tmp 42, .tmp 47]) rfl ?_); at_builtin; refine Kd.iM mZ (w0 := w) w.heap.size rfl (.tmp 42) (.tmp 47) 99 109 (.agg #[(.int .i64 0), (.bool false), (.int .i64 0), (.int .i64 0)]) 32 rfl Tryz.underlying99 rQ rfl (by decide) (by omega) u3 A (⟨m, true, l, x⟩ : eZ) [.int .i64 m, .bool true, .int .i64 l, .int .i64 x] (fun _ => True) (fun _ => False) rfl rfl ?aP (fun _ hk => hk.elim) ?aF ?aO ?aB ?aS ?aL ?_; (case aP => exact qc _ _ _ (⟨m, true, l, x⟩ : eZ)); (case aB => exact BL); (case aF => exact (fun _ _ => trivial)); (case aO => exact (RR u)); (case aS => exact (aJ BL)); (case aL => have := xD.out; omega); intro yc xx ho hb hg hat; rw [← xE.out] at ho; replace a := ah.mk (eX (g := z) (o := .cells #[.int .i64 JW, .int .i64 JX, .string JY] 35 (0, 0)) BK hg (Kd.lM u.out a.out (by decide))); replace HB := ah.mk (hb); have xF := ah.mk (ho); clear u; clear ho hb hg hat));go_roundg xb;case measure => have := xc.out; have := D.out; have := xa.out; omega
           case rel => exact ⟨_, _, _, EQ, EQ, H', ⟨by have := xc.out; have := D.out; have := xa.out; omega⟩, ⟨(RR xF)⟩, ⟨BK⟩, ⟨BL⟩⟩
          ·rw [if_neg xo] at H;have xC : decide (2 ≤ x) = false := decide_eq_false xo;clear xo;have H' := ah.mk H;clear H;go_wp2;go_roundg xb;case measure => have := xc.out; have := D.out; have := xa.out; omega
           case rel => exact ⟨_, _, _, EQ, EQ, H', ⟨by have := xc.out; have := D.out; have := xa.out; omega⟩, ⟨(RR u)⟩, ⟨BK⟩, ⟨BL⟩⟩
    ·obtain rfl := Option.some.inj H;go_wp2;go_ret;exact ⟨_, EWW, (RR u), BL⟩
 ·obtain rfl := Option.some.inj H;(try go_wp2);go_ret;exact ⟨_, EWW, by first | exact Kd.nY _ _ _ _ _ | exact Kd.qD _ _ _ _ _ | exact Kd.qG _ _ _ _ _ | exact Kd.qE _ _ _ _ _ | exact Kd.qF _ _ _ _ _, BL⟩
def iN.f (a0 : ByteArray) : Option (ByteArray) := if a0.size ≤ 100 then (some (strOfNums (bytesOf a0).reverse)) else (none)
theorem iN.calls (a r : ByteArray) (w : World) (h : iN.f a = some r) :
  Calls Tryz.prog 191 #[.string a] w fun e w' => e = .returned (.string r) ∧ Below w.heap.size w w' := by
 by_cases h1 : a.size ≤ 100
 ·have hr : r = strOfNums (bytesOf a).reverse := by
   unfold iN.f at h;rw [if_pos h1] at h;exact (Option.some.inj h).symm
  subst hr;exact Go.Proofs.YtikmdgmnhbodjaaGreat.HandSort.Bv a w h1
 ·simp [iN.f, h1] at h
attribute [local go_sem high] Im
def kK.f (k : Nat) (JW JX : Int) (JY : ByteArray) : Option (Int × Int × ByteArray) := (bG.f k JW JX JY).bind fun t457 => (if t457 = true then ((iN.f JY).bind fun t458 => (some (JW, JX, t458))) else (some (0, 0, (⟨#[]⟩ : ByteArray))))
theorem kK.calls (k : Nat) (JW JX : Int) (JY : ByteArray) (r1 r2 : Int) (r3 : ByteArray) (w : World) (h : kK.f k JW JX JY = some (r1, r2, r3)) :
  Calls Tryz.prog 184 #[.agg #[.int .i64 JW, .int .i64 JX, .string JY]] w fun e w' => e = .returned (.agg #[.int .i64 r1, .int .i64 r2, .string r3]) ∧ Below w.heap.size w w' := by
 have xs := Tryz.underlying35;have HB := ah.mk (Below.refl w.heap.size w);unfold kK.f at h;have H := h;clear h;replace H := be H; obtain ⟨xt, A2, H⟩ := H;replace H := ah.mk H;go_enter Tryz.func184, Tryz.ntmps184;go_wp2_with (first | ((with_reducible refine aK (N := 1) rfl ?_); refine bA (N := 1) (cs := #[.int .i64 JW, .int .i64 JX, .string JY]) (t := 35) ?_; intro xm hg xn hbox hb; have a := ah.mk hbox; have I := SZ (w := w) hg; have xo := I; replace HB := BS (w := w) hb; clear hb hbox hg) | ((with_reducible refine aK (N := 2) rfl ?_); refine bA (N := 2) (cs := #[.int .i64 0, .int .i64 0, .string (⟨#[]⟩ : ByteArray)]) (t := 35) ?_; intro E hg xp hbox hb; have l := ah.mk (hbox); have J := SZ (w := w) hg; have xq := J; replace HB := BS (w := w) hb; have o := NL a hg; have m := NG a hg; replace a := KB a hb; clear hb hbox hg; have xk := o.out; have xl := m.out; obtain ⟨K, L, M, O, P, U⟩ := cz3 a.out; refine dF ?_));refine Hide.mk ?_;replace H := H.out;replace H := ifB H; rcases H with ⟨rfl, H⟩ | ⟨rfl, H⟩
 ·replace H := be H; obtain ⟨G, A4, H⟩ := H;simp only [Option.some.injEq, Prod.mk.injEq] at H;obtain ⟨rfl, rfl, rfl⟩ := H;(try go_wp2_with (first | ((with_reducible refine aA (f := 122) rfl ?_); refine aY (some 4) Tryz.func122 #[.agg #[.int .i64 JW, .int .i64 JX, .string JY]] ?_; (with_reducible refine (bG.calls k JW JX JY _ _ A2.out).mono ?_); rintro e X ⟨rfl, hb⟩; refine ⟨_, rfl, ?_⟩; replace a := KB a hb; replace l := KB l hb; replace HB := BS (w := w) hb; (try clear hb); obtain ⟨u, x, y, z, A, D⟩ := cz3 a.out) | ((with_reducible refine aA (f := 191) rfl ?_); refine aY (some 9) Tryz.func191 #[.string JY] ?_; (with_reducible refine (iN.calls JY G _ A4.out).mono ?_); rintro e xr ⟨rfl, hb⟩; refine ⟨_, rfl, ?_⟩; replace a := KB a hb; replace l := KB l hb; replace HB := BS (w := w) hb; (try clear hb); obtain ⟨Y, Z, xa, xb, xc, xd⟩ := cz3 a.out; obtain ⟨xe, xf, xg, xh, xi, xj⟩ := cz3 l.out)));refine bodyPost_ret (results_cell_row rfl _ _ E 35 #[.int .i64 JW, .int .i64 JX, .string G] (0, 0) _ rfl (by (with_reducible repeat (first | refine aC ?_ _ | refine aD ?_ | refine ay ?_ _)); refine aR (cs := #[.int .i64 JW, .int .i64 JX, .string (⟨#[]⟩ : ByteArray)]) ?_ 2 _ rfl; (with_reducible repeat (first | refine aC ?_ _ | refine aD ?_ | refine ay ?_ _)); refine aR (cs := #[.int .i64 JW, .int .i64 0, .string (⟨#[]⟩ : ByteArray)]) ?_ 1 _ rfl; (with_reducible repeat (first | refine aC ?_ _ | refine aD ?_ | refine ay ?_ _)); refine aR (cs := #[.int .i64 0, .int .i64 0, .string (⟨#[]⟩ : ByteArray)]) ?_ 0 _ rfl; (with_reducible repeat (first | refine aC ?_ _ | refine aD ?_ | refine ay ?_ _)); refine bU ?_ m.out _; (with_reducible repeat (first | refine aC ?_ _ | refine aD ?_ | refine ay ?_ _)); exact l.out) Tryz.underlying35 rfl (by kernel_rfl)) rfl ?_;exact ⟨EWW, BL⟩
 ·simp only [Option.some.injEq, Prod.mk.injEq] at H;obtain ⟨rfl, rfl, rfl⟩ := H;(try go_wp2_with (first | ((with_reducible refine aA (f := 122) rfl ?_); refine aY (some 4) Tryz.func122 #[.agg #[.int .i64 JW, .int .i64 JX, .string JY]] ?_; (with_reducible refine (bG.calls k JW JX JY _ _ A2.out).mono ?_); rintro e X ⟨rfl, hb⟩; refine ⟨_, rfl, ?_⟩; replace a := KB a hb; replace l := KB l hb; replace HB := BS (w := w) hb; (try clear hb); obtain ⟨u, x, y, z, A, D⟩ := cz3 l.out)));refine bodyPost_ret (results_cell_row rfl _ _ E 35 #[.int .i64 0, .int .i64 0, .string (⟨#[]⟩ : ByteArray)] (0, 0) _ rfl (by (with_reducible repeat (first | refine aC ?_ _ | refine aD ?_ | refine ay ?_ _)); refine aR (cs := #[.int .i64 0, .int .i64 0, .string (⟨#[]⟩ : ByteArray)]) ?_ 2 _ rfl; (with_reducible repeat (first | refine aC ?_ _ | refine aD ?_ | refine ay ?_ _)); refine aR (cs := #[.int .i64 0, .int .i64 0, .string (⟨#[]⟩ : ByteArray)]) ?_ 1 _ rfl; (with_reducible repeat (first | refine aC ?_ _ | refine aD ?_ | refine ay ?_ _)); refine aR (cs := #[.int .i64 0, .int .i64 0, .string (⟨#[]⟩ : ByteArray)]) ?_ 0 _ rfl; (with_reducible repeat (first | refine aC ?_ _ | refine aD ?_ | refine ay ?_ _)); exact l.out) Tryz.underlying35 rfl (by kernel_rfl)) rfl ?_;exact ⟨EWW, BL⟩
def fA.f (k : Nat) (JW JX : Int) (JY : ByteArray) : Option (Bool) := (bG.f k JW JX JY).bind fun t460 => (if t460 = true then ((kK.f k JW JX JY).bind fun bt461 => (some (JW == bt461.1 && (JX == bt461.2.1 && (JY.toList == bt461.2.2.toList))))) else (some false))
def fA.T1 : Bool × List (List Nat × List Nat) := (true, [([], []), ([0], [0]), ([1, 1], [1]), ([2], [2]), ([2], [2]), ([4, 2, 2], [2, 4]), ([3, 5, 2], [2, 3, 5]), ([2, 6], [2, 6]), ([7, 5, 0, 1, 2, 3, 4, 5, 6, 7], [7])])
def fA.B1 : List Nat := [0, 1, 3, 7, 7, 23, 63, 127, 255]
theorem fA.Jf : mO .any (opsOf Tryz.f137 1) = fA.T1 := by kernel_rfl
theorem fA.FE : kC fA.T1.2 fA.B1 = true := by kernel_rfl
theorem fA.calls (k : Nat) (JW JX : Int) (JY : ByteArray) (r : Bool) (w : World) (h : fA.f k JW JX JY = some r) :
  Calls Tryz.prog 137 #[.agg #[.int .i64 JW, .int .i64 JX, .string JY]] w fun e w' => e = .returned (.bool r) ∧ Below w.heap.size w w' := by
 have G := Tryz.underlying35;have HB := ah.mk (Below.refl w.heap.size w);unfold fA.f at h;have H := h;clear h;replace H := be H; obtain ⟨I, A2, H⟩ := H;replace H := ah.mk H;go_enter Tryz.func137, Tryz.ntmps137;(try go_wp2_with (first | ((with_reducible refine aK (N := 1) rfl ?_); refine bA (N := 1) (cs := #[.int .i64 JW, .int .i64 JX, .string JY]) (t := 35) ?_; intro l hg m hbox hb; have a := ah.mk hbox; have o := SZ (w := w) hg; have z := o; replace HB := BS (w := w) hb; clear hb hbox hg)));replace a := ah.mk (aD a.out);replace HB := ah.mk (dO HB.out);refine jJ (n := 9) (S := fun w' => w'.cell? ⟨l, 0, none⟩ = some (.int .i64 JW) ∧ w'.cell? ⟨l, 1, none⟩ = some (.int .i64 JX) ∧ w'.cell? ⟨l, 2, none⟩ = some (.string JY)) (ds := []) #[F,F,F,F,F,F,F,F,F] (by kernel_rfl) rfl rfl ⟨(ak a.out 0).trans rfl, (ak a.out 1).trans rfl, (ak a.out 2).trans rfl⟩ (fun hHeld => ?_); refine jF fA.Jf fA.FE (fun HT_ HW_ => ?_);generalize m.drew = A at a HB hHeld ⊢;refine tS 0 (some 3) #[T,F,F,F,F,F,F,F,F] ?_;refine lg (i := 1) (N := some 4) #[T,T,F,F,F,F,F,F,F] rfl rfl (jO HT_.out (by kernel_rfl)) (by decide) (fun K hK => ?_);refine jq Tryz.func122 #[.agg #[.int .i64 JW, .int .i64 JX, .string JY]] ?_;(with_reducible refine (bG.calls k JW JX JY _ _ A2.out).mono ?_);rintro e D ⟨rfl, hb⟩;refine ⟨_, rfl, ?_⟩;replace a := KB a hb;replace HB := BS (w := w) hb;(try clear hb);refine hK.out _ _ ⟨(ak a.out 0).trans rfl, (ak a.out 1).trans rfl, (ak a.out 2).trans rfl⟩ (fun hHeld => ?_);clear hK K;refine nrm (some 4) ?_;replace H := H.out;replace H := ifB H; rcases H with ⟨rfl, H⟩ | ⟨rfl, H⟩
 ·replace H := be H; obtain ⟨⟨u, x, y⟩, J, H⟩ := H;dsimp only at H;obtain rfl := Option.some.inj H;refine pS 2 (some 5) #[T,T,T,F,F,F,F,F,F] ?_;refine tS 3 (some 6) #[T,T,T,T,F,F,F,F,F] ?_;refine tS 4 (some 7) #[T,T,T,T,T,F,F,F,F] ?_;refine lg (i := 5) (N := some 8) #[T,T,T,T,T,T,F,F,F] rfl rfl (jO HT_.out (by kernel_rfl)) (by decide) (fun K hK => ?_);refine jq Tryz.func184 #[.agg #[.int .i64 JW, .int .i64 JX, .string JY]] ?_;(with_reducible refine (kK.calls k JW JX JY u x y _ J.out).mono ?_);rintro e E ⟨rfl, hb⟩;refine ⟨_, rfl, ?_⟩;replace a := KB a hb;replace HB := BS (w := w) hb;(try clear hb);refine hK.out _ _ ⟨(ak a.out 0).trans rfl, (ak a.out 1).trans rfl, (ak a.out 2).trans rfl⟩ (fun hHeld => ?_);clear hK K;refine nrm (some 8) ?_;refine pS 6 (some 9) #[T,T,T,T,T,T,T,F,F] ?_;refine pS 7 (some 10) #[T,T,T,T,T,T,T,T,F] ?_;refine pS 8 (some 2) #[T,T,T,T,T,T,T,T,T] ?_;refine je (iJ HT_.out (by kernel_rfl)) ?_;(try go_wp2);go_ret;exact ⟨EWW, BL⟩
 ·obtain rfl := Option.some.inj H;refine pS 2 (some 5) #[T,T,T,F,F,F,F,F,F] ?_;refine pU 3 (some 6) #[T,T,T,T,F,F,F,F,F] ?_;refine pU 4 (some 7) #[T,T,T,T,T,F,F,F,F] ?_;refine pU 5 (some 8) #[T,T,T,T,T,T,F,F,F] ?_;refine pU 6 (some 9) #[T,T,T,T,T,T,T,F,F] ?_;refine pS 7 (some 10) #[T,T,T,T,T,T,T,T,F] ?_;refine pS 8 (some 2) #[T,T,T,T,T,T,T,T,T] ?_;refine je (iJ HT_.out (by kernel_rfl)) ?_;(try go_wp2);go_ret;exact ⟨EWW, BL⟩
def nK.f (a0 a1 : Int) : Option (Bool) := if a0 ≥ 0 then (some (decide (a0 < a1))) else (some false)
theorem nK.calls (a a1 : Int) (r : Bool) (w : World) (h : nK.f a a1 = some r) :
  Calls Tryz.prog 186 #[.int .i64 a, .int .i64 a1] w fun e w' => e = .returned (.bool r) ∧ dM w w' := by
 unfold nK.f at h;have H := h;clear h;replace H := ah.mk H;go_enter Tryz.func186, Tryz.ntmps186;replace H := H.out;by_cases c3 : a ≥ 0
 ·rw [if_pos c3] at H;have l : decide (0 ≤ a) = true := decide_eq_true c3;clear c3;obtain rfl := Option.some.inj H;(try go_wp2);go_ret;exact ⟨EQ, DR⟩
 ·rw [if_neg c3] at H;have l : decide (0 ≤ a) = false := decide_eq_false c3;clear c3;obtain rfl := Option.some.inj H;(try go_wp2);go_ret;exact ⟨EQ, DR⟩
def kF.f (k : Nat) (JW JX : Int) (JY : ByteArray) : Option Int := (bG.f k JW JX JY).bind fun t => if t = true then HandForm.parts JW JX JY k (Array.replicate JY.size false) 0 0 else some 0
theorem kF.grid (k : Nat) (R C : Int) (s : ByteArray) (h : bG.f k R C s = some true) : (2 ≤ R ∧ R ≤ 6) ∧ (2 ≤ C ∧ C ≤ 6) ∧ (s.size : Int) = R * C := by
 unfold bG.f at h;obtain ⟨e, h1, h⟩ := Option.bind_eq_some_iff.mp h
 have j : ∀ x, bG.j0 k x R C s = some true → x = false := by
  intro x hx
  cases k with
  | zero => simp [bG.j0] at hx
  | succ k => cases x with
   | false => rfl
   | true => simp [bG.j0] at hx
 cases e with
 | false =>
  rw [if_neg (by decide)] at h
  cases (j _ h)
 | true =>
  rw [if_pos rfl] at h;obtain ⟨l, h2, h⟩ := Option.bind_eq_some_iff.mp h
  cases l with
  | false =>
   rw [if_neg (by decide)] at h
   cases (j _ h)
  | true =>
   rw [if_pos rfl] at h;have h3 := j _ h
   have ir : ∀ a, dN.f a 2 6 = some true → 2 ≤ a ∧ a ≤ 6 := by
    intro a ha;unfold dN.f at ha;split at ha
    ·rename_i x;exact ⟨x, of_decide_eq_true (Option.some.inj ha)⟩
    ·cases ha
   obtain ⟨r0, r1⟩ := ir _ h1;obtain ⟨m, o⟩ := ir _ h2;have m1 : R * C ≤ 6 * 6 := Int.mul_le_mul (by omega) (by omega) (by omega) (by omega);have m2 : 0 ≤ R * C := Int.mul_nonneg (by omega) (by omega);have hw : wrap64 (R * C) = R * C := by unfold wrap64; omega
   rw [hw] at h3;exact ⟨⟨r0, r1⟩, ⟨m, o⟩, by simpa using h3⟩
theorem kF.calls (k : Nat) (JW JX : Int) (JY : ByteArray) (r : Int) (w : World) (h : kF.f k JW JX JY = some r) :
  Calls Tryz.prog 185 #[.agg #[.int .i64 JW, .int .i64 JX, .string JY]] w fun e w' => e = .returned (.int .i64 r) ∧ Below w.heap.size w w' := by
 obtain ⟨t, h1, h2⟩ := Option.bind_eq_some_iff.mp h;exact HandForm.EZ k JW JX JY t r w (fun V => bG.calls k JW JX JY t V h1) (fun e => kF.grid k _ _ _ (e ▸ h1)) h2
def jy.f (k : Nat) (JW JX : Int) (JY : ByteArray) : Option (Bool) := (kF.f k JW JX JY).bind fun t465 => (some (t465 == 1))
theorem jy.calls (k : Nat) (JW JX : Int) (JY : ByteArray) (r : Bool) (w : World) (h : jy.f k JW JX JY = some r) :
  Calls Tryz.prog 138 #[.agg #[.int .i64 JW, .int .i64 JX, .string JY]] w fun e w' => e = .returned (.bool r) ∧ Below w.heap.size w w' := by
 have G := Tryz.underlying35;have HB := ah.mk (Below.refl w.heap.size w);unfold jy.f at h;have H := h;clear h;replace H := be H; obtain ⟨m, A2, H⟩ := H;obtain rfl := Option.some.inj H;go_enter Tryz.func138, Tryz.ntmps138;go_wp2_with (first | ((with_reducible refine aK (N := 1) rfl ?_); refine bA (N := 1) (cs := #[.int .i64 JW, .int .i64 JX, .string JY]) (t := 35) ?_; intro D hg I hbox hb; have a := ah.mk hbox; have l := SZ (w := w) hg; have E := l; replace HB := BS (w := w) hb; clear hb hbox hg; obtain ⟨o, u, x, y, z, A⟩ := cz3 a.out) | ((with_reducible refine aA (f := 185) rfl ?_); refine aY (some 4) Tryz.func185 #[.agg #[.int .i64 JW, .int .i64 JX, .string JY]] ?_; (with_reducible refine (kF.calls k JW JX JY m _ A2.out).mono ?_); rintro e J ⟨rfl, hb⟩; refine ⟨_, rfl, ?_⟩; replace a := KB a hb; replace HB := BS (w := w) hb; (try clear hb)));go_ret;exact ⟨EWW, BL⟩
mutual
def fV.j0 : Nat → Int → Int → Bool → Int → Int → Option (List Int)
 | 0, _, _, _, _, _ => none
 | k + 1, a, b, c, d, e => fV.l0 k a ([] : List Int) e 0 b c d e
def fV.l0 : Nat → Int → List Int → Int → Int → Int → Bool → Int → Int → Option (List Int)
 | 0, _, _, _, _, _, _, _, _ => none
 | k + 1, a, b, c, d, e, f, g, h => if d < c then (if b.length < 17592186044416 then (fV.l0 k a (b ++ [wrap64 (g + (wrap64 (d * a)))]) c (wrap64 (d + 1)) e f g h) else (none)) else (some b)
end
def fV.f (k : Nat) (JW JX : Int) (JY : ByteArray) (a1_0 : Int) (a1_1 : Bool) (a1_2 a1_3 : Int) : Option (List Int) := if a1_1 = true then (fV.j0 k JX a1_0 a1_1 a1_2 a1_3) else (fV.j0 k 1 a1_0 a1_1 a1_2 a1_3)
theorem fV.calls (k : Nat) (JW JX : Int) (JY : ByteArray) (D : Int) (z : Bool) (u x : Int) (r : List Int) (w : World) (h : fV.f k JW JX JY D z u x = some r) :
  Calls Tryz.prog 124 #[.agg #[.int .i64 JW, .int .i64 JX, .string JY], .agg #[.int .i64 D, .bool z, .int .i64 u, .int .i64 x]] w fun e w' => ∃ v0_ : Value, e = .returned (v0_) ∧ Kd.R (Kd.int .i64) 3 w' w.heap.size (fun _ => True) v0_ r ∧ Below w.heap.size w w' := by
 have xV := Tryz.underlying35;have xO := Tryz.underlying109;have HB := ah.mk (Below.refl w.heap.size w);unfold fV.f at h;have H := h;clear h;have xj := ah.mk H;clear H;go_enter Tryz.func124, Tryz.ntmps124;go_upto_if 9 with (first | ((with_reducible refine aK (N := 2) rfl ?_); refine bA (N := 2) (cs := #[.int .i64 JW, .int .i64 JX, .string JY]) (t := 35) ?_; intro K hg w4 hbox hb; have a := ah.mk hbox; have xk := SZ (w := w) hg; have xP := xk; replace HB := BS (w := w) hb; clear hb hbox hg) | ((with_reducible refine aK (N := 3) rfl ?_); refine bA (N := 3) (cs := #[.int .i64 D, .bool z, .int .i64 u, .int .i64 x]) (t := 109) ?_; intro L hg w5 hbox hb; have y := ah.mk (hbox); have xl := SZ (w := w) hg; have xQ := xl; replace HB := BS (w := w) hb; have l := NL a hg; have m := NG a hg; replace a := KB a hb; clear hb hbox hg; have xW := m.out; have xX := l.out; obtain ⟨M, O, P, U, X, Y, Z, xa⟩ := cz4 y.out));(try simp only [Act.put, List.setIfInBounds_toArray, List.set_cons_zero, List.set_cons_succ])
 go_cut [5] (fun v5 wc => ∃ (kq : Nat) (E : Int), v5 = .int .i64 E ∧ ah (fV.j0 kq E D z u x = some r) ∧ ah (kq ≤ k) ∧ ah (wc.heap[K]? = some (.cells #[.int .i64 JW, .int .i64 JX, .string JY] 35 (0, 0))) ∧ ah (wc.heap[L]? = some (.cells #[.int .i64 D, .bool z, .int .i64 u, .int .i64 x] 109 (0, 0))) ∧ ah (Below w.heap.size w wc))
 case first =>
  have H := xj.out;clear xj;by_cases c8 : z = true
  ·subst c8;rw [if_pos rfl] at H;have H' := ah.mk H;clear H;have xF := l.out;have xG := m.out;obtain ⟨xm, xn, xo, xp, xq, xr⟩ := cz3 a.out;go_wp2;go_meet;case rel => exact ⟨_, _, EQ, H', ⟨by first | omega | exact Nat.le_refl _⟩, ⟨BK⟩, ⟨BK⟩, ⟨BL⟩⟩
  ·replace c8 := Bool.eq_false_iff.mpr c8;subst c8;rw [if_neg Bool.false_ne_true] at H;have H' := ah.mk H;clear H;go_wp2;go_meet;case rel => exact ⟨_, _, EQ, H', ⟨by first | omega | exact Nat.le_refl _⟩, ⟨BK⟩, ⟨BK⟩, ⟨BL⟩⟩
 case rest =>
  clear xj;(try clear M O P U X Y Z xa);obtain ⟨kq, E, rfl, HA, xH, a, y, HB⟩ := hcut
  cases kq with
  | zero => exact absurd HA.out (by simp [fV.j0])
  | succ xI =>
   have H := HA.out;clear HA;simp only [fV.j0] at H;have H' := ah.mk H;clear H;have xR := m.out;have xS := l.out;obtain ⟨xb, xc, xd, xe, xf, xg, xh, xi⟩ := cz4 y.out;go_wp2
   go_loopg [6, 14] xI (fun kq v6 xT w' => ∃ (I : List Int) (A : Int), xT = .int .i64 A ∧ ah (fV.l0 kq E I x A D z u x = some r) ∧ ah (kq ≤ xI) ∧ ah (Kd.R (Kd.int .i64) 3 w' w.heap.size (fun _ => True) v6 I) ∧ ah (w'.heap[K]? = some (.cells #[.int .i64 JW, .int .i64 JX, .string JY] 35 (0, 0))) ∧ ah (w'.heap[L]? = some (.cells #[.int .i64 D, .bool z, .int .i64 u, .int .i64 x] 109 (0, 0))) ∧ ah (Below w.heap.size w w'))
   case atStart => exact ⟨_, _, EQ, H', ⟨Nat.le_refl _⟩, ⟨by first | exact Kd.nY _ _ _ _ _ | exact Kd.qD _ _ _ _ _ | exact Kd.qG _ _ _ _ _ | exact Kd.qE _ _ _ _ _ | exact Kd.qF _ _ _ _ _⟩, ⟨BK⟩, ⟨BK⟩, ⟨BL⟩⟩
   case round =>
    clear H';(try clear xb xc xd xe);(try clear M O P U);(try clear xf xg xh xi);(try clear X Y Z xa);obtain ⟨I, A, rfl, HA, xJ, J, a, y, HB⟩ := hrel
    cases gk with
    | zero => exact absurd HA.out (by simp [fV.l0])
    | succ k2 =>
     have H := HA.out;clear HA;simp only [fV.l0] at H;replace H := ifD H; rcases H with ⟨xt, H⟩ | ⟨xt, H⟩
     ·replace H := ifP H; obtain ⟨xK, H⟩ := H;have xu := ah.mk xK;clear xK;obtain ⟨xL, G⟩ : ∃ y_ : List Int, y_ = (I ++ [wrap64 (u + (wrap64 (A * E)))]) := ⟨_, rfl⟩;replace H : (fV.l0 k2 E xL x (wrap64 (A + 1)) D z u x) = some r := by first | (rw [G]; with_reducible exact H) | (have H2_ := (Option.bind_some _ _).symm.trans H; rw [G]; with_reducible exact H2_) | (have H2_ := (Option.bind_some _ _).symm.trans H; with_reducible exact H2_) | with_reducible exact H | (rw [G]; exact H) | exact H
      have xv := ah.mk G;clear G;have H' := ah.mk H;clear H;have xM := m.out;have xN := l.out;obtain ⟨xw, xx, xy, xz, xA, xB, xC, xD⟩ := cz4 y.out;go_wp2_with (first | ((with_reducible refine eP (b := .append) (xs := #[.tmp 17, .tmp 24]) rfl ?_); at_builtin; refine Kd.iM (Kd.int .i64) (w0 := w) w.heap.size rfl (.tmp 17) (.tmp 24) 25 3 (.int .i64 0) 8 rfl Tryz.underlying25 info3 rfl (by decide) (by omega) u6 I (wrap64 (u + (wrap64 (A * E)))) [.int .i64 (wrap64 (u + (wrap64 (A * E))))] (fun _ => True) (fun _ => False) rfl rfl ?aP (fun _ hk => hk.elim) ?aF ?aO ?aB ?aS ?aL ?_; (case aP => exact rfl); (case aB => exact BL); (case aF => exact (fun _ _ => trivial)); (case aO => exact (RR J)); (case aS => exact (aJ BL)); (case aL => have := xu.out; omega); intro xY xU ho hb hg hat; rw [← xv.out] at ho; have n0_ := ah.mk (eX (g := K) (o := .cells #[.int .i64 JW, .int .i64 JX, .string JY] 35 (0, 0)) BK hg (Kd.lM J.out a.out (by decide))); have n1_ := ah.mk (eX (g := L) (o := .cells #[.int .i64 D, .bool z, .int .i64 u, .int .i64 x] 109 (0, 0)) BK hg (Kd.lM J.out y.out (by decide))); have n2_ := ah.mk (hb); have n3_ := ah.mk (ho); clear a y HB J; have a := n0_; have y := n1_; have HB := n2_; have xE := n3_; clear n0_ n1_ n2_ n3_; clear ho hb hg hat));go_roundg k2;case measure => have := xH.out; have := xJ.out; omega
      case rel => exact ⟨_, _, EQ, H', ⟨by have := xH.out; have := xJ.out; omega⟩, ⟨(RR xE)⟩, ⟨BK⟩, ⟨BK⟩, ⟨BL⟩⟩
     ·obtain rfl := Option.some.inj H;go_wp2;go_ret;exact ⟨_, EWW, (RR J), BL⟩
def fM.l0 : Nat → List (List Int) → List (eZ) → Int → Int → Int → Int → ByteArray → Option ((List (List Int)))
 | 0, _, _, _, _, _, _, _ => none
 | k + 1, a, b, c, d, e, f, g => if d < c then (if 0 ≤ d then (if d < (b.length : Int) then ((fV.f k e f g ((aN b d).f0) ((aN b d).f1) ((aN b d).f2) ((aN b d).f3)).bind fun h => (if a.length < 5864062014805 then (fM.l0 k (a ++ [h]) b c (wrap64 (d + 1)) e f g) else (none))) else (none)) else (none)) else (some a)
def fM.f (k : Nat) (JW JX : Int) (JY : ByteArray) : Option ((List (List Int))) := (bf.f k JW JX JY).bind fun t472 => (fM.l0 k ([] : List (List Int)) t472 (t472.length : Int) 0 JW JX JY)
theorem fM.calls (k : Nat) (JW JX : Int) (JY : ByteArray) (r : List (List Int)) (w : World) (h : fM.f k JW JX JY = some r) :
  Calls Tryz.prog 72 #[.agg #[.int .i64 JW, .int .i64 JX, .string JY]] w fun e w' => ∃ v0_ : Value, e = .returned (v0_) ∧ Kd.S (Kd.slice 3 (Kd.int .i64)) 25 w' w.heap.size (fun _ => True) v0_ r ∧ Below w.heap.size w w' := by
 have xV := Tryz.underlying35;have xK := Tryz.underlying109;have HB := ah.mk (Below.refl w.heap.size w);unfold fM.f at h;have H := h;clear h;replace H := be H; obtain ⟨a, A2, H⟩ := H;have H' := ah.mk H;clear H;go_enter Tryz.func72, Tryz.ntmps72;go_wp2_with (first | ((with_reducible refine aK (N := 1) rfl ?_); refine bA (N := 1) (cs := #[.int .i64 JW, .int .i64 JX, .string JY]) (t := 35) ?_; intro J hg w3 hbox hb; have m := ah.mk hbox; have xf := SZ (w := w) hg; have xL := xf; replace HB := BS (w := w) hb; clear hb hbox hg; obtain ⟨Y, Z, xa, xb, xc, xd⟩ := cz3 m.out) | ((with_reducible refine aA (f := 84) rfl ?_); refine aY (some 7) Tryz.func84 #[.agg #[.int .i64 JW, .int .i64 JX, .string JY]] ?_; (with_reducible refine (bf.calls k JW JX JY a _ A2.out).mono ?_); rintro e w5 ⟨xW, rfl, O, hb⟩; refine ⟨_, rfl, ?_⟩; replace m := KB m hb; have P := ah.mk (Kd.bT O (aJ BL)); replace HB := BS (w := w) hb; (try clear hb); (try clear O); obtain ⟨xM, xN, xO⟩ := Kd.cK P.out; subst xO))
 go_loopg [3, 9] k (fun kq v3 v9 w' => ∃ (G : List (List Int)) (l : Int), v9 = .int .i64 l ∧ ah (fM.l0 kq G a (a.length : Int) l JW JX JY = some r) ∧ ah (kq ≤ k) ∧ ah (Kd.S (Kd.slice 3 (Kd.int .i64)) 25 w' w.heap.size (fun _ => True) v3 G) ∧ ah (Kd.R mZ 109 w' w.heap.size (fun _ => True) (.slice xM a.length xN) a) ∧ ah (w'.heap[J]? = some (.cells #[.int .i64 JW, .int .i64 JX, .string JY] 35 (0, 0))) ∧ ah (Below w.heap.size w w'))
 case atStart => exact ⟨_, _, EQ, H', ⟨Nat.le_refl _⟩, ⟨by first | exact Kd.qF _ _ _ _ _ | exact Kd.qD _ _ _ _ _ | exact Kd.qG _ _ _ _ _ | exact Kd.qE _ _ _ _ _ | exact Kd.nY _ _ _ _ _⟩, ⟨(RR P)⟩, ⟨BK⟩, ⟨BL⟩⟩
 case round =>
  clear H';(try clear Y Z xa xb xc xd);obtain ⟨G, l, rfl, HA, xz, y, A, m, HB⟩ := hrel
  cases gk with
  | zero => exact absurd HA.out (by simp [fM.l0])
  | succ k1 =>
   have H := HA.out;clear HA;simp only [fM.l0] at H;replace H := ifD H; rcases H with ⟨xA, H⟩ | ⟨xA, H⟩
   ·replace H := ifN H; obtain ⟨xX, H⟩ := H;replace H := ifN H; obtain ⟨xY, H⟩ := H;replace H := be H; obtain ⟨I, xP, H⟩ := H;replace H := ifP H; obtain ⟨xB, H⟩ := H;have xg := ah.mk xB;clear xB;obtain ⟨xC, D⟩ : ∃ y_ : List (List Int), y_ = (G ++ [I]) := ⟨_, rfl⟩;replace H : (fM.l0 k1 xC a (a.length : Int) (wrap64 (l + 1)) JW JX JY) = some r := by first | (rw [D]; with_reducible exact H) | (have H2_ := (Option.bind_some _ _).symm.trans H; rw [D]; with_reducible exact H2_) | (have H2_ := (Option.bind_some _ _).symm.trans H; with_reducible exact H2_) | with_reducible exact H | (rw [D]; exact H) | exact H
    have xh := ah.mk D;clear D;have H' := ah.mk H;clear H;have U : 0 ≤ (l : Int) := OD;have X : l < (a.length : Int) := OD;obtain ⟨xQ, xD, xE, xF, xG, xH⟩ := oN (Kd.aZ A.out).2.2 l U X
    cases xD
    replace U := eq_true U;replace X := eq_true X;go_wp2_with (first | ((with_reducible refine aK (N := 5) rfl ?_); refine bA (N := 5) (cs := #[.int .i64 0, .bool false, .int .i64 0, .int .i64 0]) (t := 109) ?_; intro u hg xR hbox hb; replace y := ah.mk (Kd.aV (SR y) hb); replace A := ah.mk (Kd.iR (Kd.tT (RR A) u (Nat.le_of_eq hg.symm)) hb); have z := ah.mk (hbox); have xi := SZ (w := w) hg; have xS := xi; replace HB := BS (w := w) hb; have x := NL m hg; have K := NG m hg; replace m := KB m hb; clear hb hbox hg; have xI := K.out; have xJ := x.out; obtain ⟨xj, xk, xl, xm, xn, xo, xp, xq⟩ := cz4 z.out; obtain ⟨xr, xt, xu, xv, xw, xx⟩ := cz3 m.out) | ((with_reducible refine aA (f := 124) rfl ?_); refine aY (some 16) Tryz.func124 #[.agg #[.int .i64 JW, .int .i64 JX, .string JY], .agg #[.int .i64 ((aN a l).f0), .bool ((aN a l).f1), .int .i64 ((aN a l).f2), .int .i64 ((aN a l).f3)]] ?_; (with_reducible refine (fV.calls k1 JW JX JY ((aN a l).f0) ((aN a l).f1) ((aN a l).f2) ((aN a l).f3) I _ xP.out).mono ?_); rintro e xT ⟨xZ, rfl, O, hb⟩; refine ⟨_, rfl, ?_⟩; have n0_ := ah.mk (Kd.gI (by (with_reducible repeat (first | apply Kd.fG | apply Kd.dL | apply Kd.eT)); exact (Kd.gU (Kd.dD (p := ⟨u, 3, none⟩) (Kd.dD (p := ⟨u, 2, none⟩) (Kd.dD (p := ⟨u, 1, none⟩) (Kd.dD (p := ⟨u, 0, none⟩) (Kd.jN y.out z.out (by decide)) (fun _ hk => hk.2) (.int .i64 ((aN a l).f0))) (fun _ hk => hk.2) (.bool ((aN a l).f1))) (fun _ hk => hk.2) (.int .i64 ((aN a l).f2))) (fun _ hk => hk.2) (.int .i64 ((aN a l).f3))) (fun _ h_ => h_.1))) (Kd.gH O) hb); have n1_ := ah.mk (Kd.iR (by (with_reducible repeat (first | apply Kd.dJ | apply Kd.bS | apply Kd.bR)); exact (Kd.bD (Kd.bq (p := ⟨u, 3, none⟩) (Kd.bq (p := ⟨u, 2, none⟩) (Kd.bq (p := ⟨u, 1, none⟩) (Kd.bq (p := ⟨u, 0, none⟩) (Kd.bD A.out (fun k_ hk => (⟨hk, hk.2⟩ : _ ∧ k_ ≠ u))) (fun _ hk => hk.2) (.int .i64 ((aN a l).f0))) (fun _ hk => hk.2) (.bool ((aN a l).f1))) (fun _ hk => hk.2) (.int .i64 ((aN a l).f2))) (fun _ hk => hk.2) (.int .i64 ((aN a l).f3))) (fun _ h_ => h_.1))) hb); have n2_ := ah.mk (Kd.bT O (aJ BL)); have n3_ := ah.mk (cO (g := J) (o := .cells #[.int .i64 JW, .int .i64 JX, .string JY] 35 (0, 0)) (by (with_reducible repeat (first | refine aC ?_ _ | refine aD ?_ | refine ay ?_ _)); refine bU ?_ x.out _; (with_reducible repeat (first | refine aC ?_ _ | refine aD ?_ | refine ay ?_ _)); refine bU ?_ x.out _; (with_reducible repeat (first | refine aC ?_ _ | refine aD ?_ | refine ay ?_ _)); refine bU ?_ x.out _; (with_reducible repeat (first | refine aC ?_ _ | refine aD ?_ | refine ay ?_ _)); refine bU ?_ x.out _; (with_reducible repeat (first | refine aC ?_ _ | refine aD ?_ | refine ay ?_ _)); exact m.out) hb); have n4_ := ah.mk (cO (g := u) (o := .cells #[.int .i64 ((aN a l).f0), .bool ((aN a l).f1), .int .i64 ((aN a l).f2), .int .i64 ((aN a l).f3)] 109 (0, 0)) (by (with_reducible repeat (first | refine aC ?_ _ | refine aD ?_ | refine ay ?_ _)); refine aR (cs := #[.int .i64 ((aN a l).f0), .bool ((aN a l).f1), .int .i64 ((aN a l).f2), .int .i64 0]) ?_ 3 _ rfl; (with_reducible repeat (first | refine aC ?_ _ | refine aD ?_ | refine ay ?_ _)); refine aR (cs := #[.int .i64 ((aN a l).f0), .bool ((aN a l).f1), .int .i64 0, .int .i64 0]) ?_ 2 _ rfl; (with_reducible repeat (first | refine aC ?_ _ | refine aD ?_ | refine ay ?_ _)); refine aR (cs := #[.int .i64 ((aN a l).f0), .bool false, .int .i64 0, .int .i64 0]) ?_ 1 _ rfl; (with_reducible repeat (first | refine aC ?_ _ | refine aD ?_ | refine ay ?_ _)); refine aR (cs := #[.int .i64 0, .bool false, .int .i64 0, .int .i64 0]) ?_ 0 _ rfl; (with_reducible repeat (first | refine aC ?_ _ | refine aD ?_ | refine ay ?_ _)); exact z.out) hb); replace HB := BS (w := w) hb; clear y A m z; have y := n0_; have A := n1_; have E := n2_; have m := n3_; have z := n4_; clear n0_ n1_ n2_ n3_ n4_; (try clear hb); (try clear hk); (try clear O); obtain ⟨L, M, xe⟩ := Kd.cK E.out; subst xe) | ((with_reducible refine eP (b := .append) (xs := #[.tmp 13, .tmp 17]) rfl ?_); at_builtin; refine Kd.Ci (Kd.slice 3 (Kd.int .i64)) (w0 := w) w.heap.size rfl (.tmp 13) (.tmp 17) 93 25 (.slice none 0 0) 24 rfl Tryz.underlying93 Ja rfl (by decide) (by omega) u3 G I [.slice L I.length M] (fun _ => True) (fun k_ => some k_ = (.slice L I.length M : Value).ownBlock) rfl rfl ?aP (fun k_ hk_ => ((Kd.bD (ok' := fun k_ => ((fun _ => True)) k_ ∧ some k_ ≠ (u3 : Value).ownBlock) (Kd.iq (E.out) (Kd.nW y.out) (by decide)) (fun k_ hk => ⟨trivial, hk.2⟩))).1 k_ hk_.symm) ?aF ?aO ?aB ?aS ?aL ?_; (case aP => exact Kd.Fv (Kd.bD (Kd.mq rfl (Kd.bD (ok' := fun k_ => ((fun _ => True)) k_ ∧ some k_ ≠ (u3 : Value).ownBlock) (Kd.iq (E.out) (Kd.nW y.out) (by decide)) (fun k_ hk => ⟨trivial, hk.2⟩))) (fun _ h_ => h_))); (case aB => exact BL); (case aF => exact (fun _ _ => trivial)); (case aO => exact (by (with_reducible repeat (first | apply Kd.fG | apply Kd.dL | apply Kd.eT)); exact Kd.gU y.out (fun k_ hk => ⟨trivial, fun e_ => hk.2 e_⟩))); (case aS => exact (aJ BL)); (case aL => have := xg.out; omega); intro ya xU ho hb hg hat; rw [← xh.out] at ho; have n0_ := ah.mk (Kd.nI (RR A) (Kd.nW (SR y)) (by decide) hg); have n1_ := ah.mk (eX (g := J) (o := .cells #[.int .i64 JW, .int .i64 JX, .string JY] 35 (0, 0)) BK hg (Kd.GK y.out m.out (by decide))); have n2_ := ah.mk (eX (g := u) (o := .cells #[.int .i64 ((aN a l).f0), .bool ((aN a l).f1), .int .i64 ((aN a l).f2), .int .i64 ((aN a l).f3)] 109 (0, 0)) BK hg (Kd.GK y.out z.out (by decide))); have n3_ := ah.mk (hb); have n4_ := ah.mk (ho); clear A m z HB y E; have A := n0_; have m := n1_; have z := n2_; have HB := n3_; have xy := n4_; clear n0_ n1_ n2_ n3_ n4_; clear ho hb hg hat));go_roundg k1;case measure => have := xz.out; omega
    case rel => exact ⟨_, _, EQ, H', ks xz, ⟨by (with_reducible repeat (first | apply Kd.fG | apply Kd.dL | apply Kd.eT)); exact xy.out⟩, ⟨by (with_reducible repeat (first | apply Kd.dJ | apply Kd.bS | apply Kd.bR)); exact Kd.bD A.out (fun _ hk => trivial)⟩, ⟨BK⟩, ⟨BL⟩⟩
   ·obtain rfl := Option.some.inj H;go_wp2;go_ret;exact ⟨_, EWW, (SR y), BL⟩
def dI.l0 : Nat → List Int → Int → Int → Int → Option (Int)
 | 0, _, _, _, _ => none
 | k + 1, a, b, c, d => if d < c then (if 0 ≤ d then (if d < (a.length : Int) then (if b = (rd a d) then (some d) else (dI.l0 k a b c (wrap64 (d + 1)))) else (none)) else (none)) else (some (-1))
def dI.f (k : Nat) (l0 : List Int) (a1 : Int) : Option (Int) := dI.l0 k l0 a1 (l0.length : Int) 0
theorem dI.calls (k : Nat) (J : Option Addr) (K : Nat) (l0 : List Int) (a1 r : Int) (w : World) (o : Kd.C (Kd.int .i64) w J l0.length l0) (u : l0.length ≤ K) (h : dI.f k l0 a1 = some r) :
  Calls Tryz.prog 150 #[.slice J l0.length K, .int .i64 a1] w fun e w' => e = .returned (.int .i64 r) ∧ dM w w' := by
 have G := ah.mk o;have O := ah.mk u;clear o u;unfold dI.f at h;have H := h;clear h;have H' := ah.mk H;clear H;go_enter Tryz.func150, Tryz.ntmps150;go_wp2
 go_loopg [8] k (fun kq P w' => ∃ (a : Int), P = .int .i64 a ∧ ah (dI.l0 kq l0 a1 (l0.length : Int) a = some r) ∧ ah (kq ≤ k) ∧ dM w w')
 case atStart => exact ⟨_, EQ, H', ⟨Nat.le_refl _⟩, DR⟩
 case round =>
  clear H';obtain ⟨a, rfl, HA, x, ⟨m1, rfl⟩⟩ := hrel
  cases gk with
  | zero => exact absurd HA.out (by simp [dI.l0])
  | succ k1 =>
   have H := HA.out;clear HA;simp only [dI.l0] at H;replace H := ifD H; rcases H with ⟨y, H⟩ | ⟨y, H⟩
   ·replace H := ifN H; obtain ⟨L, H⟩ := H;replace H := ifN H; obtain ⟨M, H⟩ := H;have l : 0 ≤ (a : Int) := OD;have m : a < (l0.length : Int) := OD;obtain ⟨I, z, A⟩ := Kd.oU G.out a l m
    cases z
    replace l := eq_true l;replace m := eq_true m;replace H := ifE H; rcases H with ⟨D, E, H⟩ | ⟨c6, D, E, H⟩
    ·obtain rfl := Option.some.inj H;go_wp2;go_ret;exact ⟨EQ, DR⟩
    ·have H' := ah.mk H;clear H;go_wp2;go_roundg k1;case measure => have := x.out; omega
     case rel => exact ⟨_, EQ, H', ks x, DR⟩
   ·obtain rfl := Option.some.inj H;go_wp2;go_ret;exact ⟨EQ, DR⟩
def iA.f (k : Nat) (l0 : List Int) (a1 : Int) : Option (Bool) := (dI.f k l0 a1).bind fun t484 => (some (decide (t484 ≥ 0)))
theorem iA.calls (k : Nat) (o : Option Addr) (u : Nat) (l0 : List Int) (a1 : Int) (r : Bool) (w : World) (a : Kd.C (Kd.int .i64) w o l0.length l0) (l : l0.length ≤ u) (h : iA.f k l0 a1 = some r) :
  Calls Tryz.prog 211 #[.slice o l0.length u, .int .i64 a1] w fun e w' => e = .returned (.bool r) ∧ dM w w' := by
 have x := ah.mk a;have y := ah.mk l;clear a l;unfold iA.f at h;have H := h;clear h;replace H := be H; obtain ⟨m, A3, H⟩ := H;obtain rfl := Option.some.inj H;go_enter Tryz.func211, Tryz.ntmps211;go_wp2_with (first | ((with_reducible refine aA (f := 150) rfl ?_); refine aY (some 7) Tryz.func150 #[.slice o l0.length u, .int .i64 a1] ?_; (with_reducible refine (dI.calls k _ _ l0 a1 m _ ?side1 ?side2 A3.out).mono ?_); (case side1 => repeat (first | exact x.out | (with_reducible refine Kd.dh ?_ _) | (with_reducible refine Kd.dn ?_ _) | (with_reducible refine Kd.dY ?_))); (case side2 => exact y.out); rintro e w' ⟨rfl, ⟨nd, rfl⟩⟩; refine ⟨_, rfl, ?_⟩));go_ret;exact ⟨EQ, DR⟩
def gJ.l0 : Nat → Int → List Int → List (List Int) → Int → Int → Option (List Int)
 | 0, _, _, _, _, _ => none
 | k + 1, a, b, c, d, e => if e < d then (if 0 ≤ e then (if e < (c.length : Int) then ((iA.f k (jP c e) a).bind fun f => (if f = true then (if b.length < 17592186044416 then (gJ.l0 k a (b ++ [e]) c d (wrap64 (e + 1))) else (none)) else (gJ.l0 k a b c d (wrap64 (e + 1))))) else (none)) else (none)) else (some b)
def gJ.f (k : Nat) (JW JX : Int) (JY : ByteArray) (a1 : Int) : Option (List Int) := (fM.f k JW JX JY).bind fun t486 => (gJ.l0 k a1 ([] : List Int) t486 (t486.length : Int) 0)
theorem gJ.calls (k : Nat) (JW JX : Int) (JY : ByteArray) (a1 : Int) (r : List Int) (w : World) (h : gJ.f k JW JX JY a1 = some r) :
  Calls Tryz.prog 208 #[.agg #[.int .i64 JW, .int .i64 JX, .string JY], .int .i64 a1] w fun e w' => ∃ v0_ : Value, e = .returned (v0_) ∧ Kd.R (Kd.int .i64) 3 w' w.heap.size (fun _ => True) v0_ r ∧ Below w.heap.size w w' := by
 have xu := Tryz.underlying35;have HB := ah.mk (Below.refl w.heap.size w);unfold gJ.f at h;have H := h;clear h;replace H := be H; obtain ⟨l, A3, H⟩ := H;have H' := ah.mk H;clear H;go_enter Tryz.func208, Tryz.ntmps208;go_wp2_with (first | ((with_reducible refine aK (N := 2) rfl ?_); refine bA (N := 2) (cs := #[.int .i64 JW, .int .i64 JX, .string JY]) (t := 35) ?_; intro G hg w4 hbox hb; have m := ah.mk hbox; have xb := SZ (w := w) hg; have xm := xb; replace HB := BS (w := w) hb; clear hb hbox hg; obtain ⟨L, M, O, P, U, X⟩ := cz3 m.out) | ((with_reducible refine aA (f := 72) rfl ?_); refine aY (some 9) Tryz.func72 #[.agg #[.int .i64 JW, .int .i64 JX, .string JY]] ?_; (with_reducible refine (fM.calls k JW JX JY l _ A3.out).mono ?_); rintro e w6 ⟨xv, rfl, xg, hb⟩; refine ⟨_, rfl, ?_⟩; replace m := KB m hb; have I := ah.mk (Kd.jE xg (aJ BL)); replace HB := BS (w := w) hb; (try clear hb); (try clear xg); obtain ⟨xn, xh, xo⟩ := Kd.iT I.out; subst xo))
 go_loopg [5, 11] k (fun kq v5 xp w' => ∃ (y : List Int) (a : Int), xp = .int .i64 a ∧ ah (gJ.l0 kq a1 y l (l.length : Int) a = some r) ∧ ah (kq ≤ k) ∧ ah (Kd.R (Kd.int .i64) 3 w' w.heap.size (fun _ => True) v5 y) ∧ ah (Kd.S (Kd.slice 3 (Kd.int .i64)) 25 w' w.heap.size (fun k_ => some k_ ≠ (v5 : Value).ownBlock) (.slice xn l.length xh) l) ∧ ah (w'.heap[G]? = some (.cells #[.int .i64 JW, .int .i64 JX, .string JY] 35 (0, 0))) ∧ ah (Below w.heap.size w w'))
 case atStart => exact ⟨_, _, EQ, H', ⟨Nat.le_refl _⟩, ⟨by first | exact Kd.nY _ _ _ _ _ | exact Kd.qD _ _ _ _ _ | exact Kd.qG _ _ _ _ _ | exact Kd.qE _ _ _ _ _ | exact Kd.qF _ _ _ _ _⟩, ⟨by (with_reducible repeat (first | apply Kd.fG | apply Kd.dL | apply Kd.eT)); exact Kd.gU I.out (fun _ hk => (by simp [Value.ownBlock]))⟩, ⟨BK⟩, ⟨BL⟩⟩
 case round =>
  clear H';(try clear L M O P U X);obtain ⟨y, a, rfl, HA, Y, z, u, m, HB⟩ := hrel
  cases gk with
  | zero => exact absurd HA.out (by simp [gJ.l0])
  | succ k1 =>
   have H := HA.out;clear HA;simp only [gJ.l0] at H;replace H := ifD H; rcases H with ⟨xi, H⟩ | ⟨xi, H⟩
   ·replace H := ifN H; obtain ⟨xx, H⟩ := H;replace H := ifN H; obtain ⟨xq, H⟩ := H;replace H := be H; obtain ⟨xy, xr, H⟩ := H;have D : 0 ≤ (a : Int) := OD;have E : a < (l.length : Int) := OD;obtain ⟨xc, Z, xa, xj, J, hl489_0, hi489_0⟩ := Dv (Kd.bI u.out).2.2 a D E
    cases xj
    obtain ⟨ce489, hce489, hMe489, hcc489⟩ := Kd.El u.out [] a D (by first | exact E | exact OD | (have e_ := (Kd.bI u.out).1; omega));obtain ⟨ve489_0, rfl, ge489_0⟩ := hMe489;have hv489_0 := hcc489 0 _ rfl;rw [Nat.add_zero, show ((Kd.slice 3 (Kd.int .i64))).sz = 1 from rfl, Nat.mul_one] at hv489_0;replace hv489_0 := Option.some.inj (hv489_0.symm.trans J);rw [hv489_0] at ge489_0;have HL489_0 := ah.mk (show Kd.R (Kd.int .i64) 3 _ _ _ _ (jP l a) from ge489_0);clear hv489_0 ge489_0;clear hcc489 hce489;have A := ah.mk hi489_0;have K := ah.mk hl489_0;clear hi489_0 hl489_0;replace D := eq_true D;replace E := eq_true E;replace H := ah.mk H;go_wp2_with (first | ((with_reducible refine aA (f := 211) rfl ?_); refine aY (some 18) Tryz.func211 #[.slice Z (jP l a).length xa, .int .i64 a1] ?_; (with_reducible refine (iA.calls k1 _ _ (jP l a) a1 _ _ ?side1 ?side2 xr.out).mono ?_); (case side1 => repeat (first | exact (by repeat (first | (with_reducible exact A.out) | (with_reducible refine Kd.dh ?_ _) | (with_reducible refine Kd.dn ?_ _) | (with_reducible refine Kd.dY ?_) | exact A.out)) | (with_reducible refine Kd.dh ?_ _) | (with_reducible refine Kd.dn ?_ _) | (with_reducible refine Kd.dY ?_))); (case side2 => exact K.out); rintro e w' ⟨rfl, ⟨nd, rfl⟩⟩; refine ⟨_, rfl, ?_⟩; refine dF ?_));refine Hide.mk ?_;replace H := H.out;replace H := ifB H; rcases H with ⟨rfl, H⟩ | ⟨rfl, H⟩
    ·replace H := ifP H; obtain ⟨xk, H⟩ := H;have xd := ah.mk xk;clear xk;obtain ⟨xl, x⟩ : ∃ y_ : List Int, y_ = (y ++ [a]) := ⟨_, rfl⟩;replace H : (gJ.l0 k1 a1 xl l (l.length : Int) (wrap64 (a + 1))) = some r := by first | (rw [x]; with_reducible exact H) | (have H2_ := (Option.bind_some _ _).symm.trans H; rw [x]; with_reducible exact H2_) | (have H2_ := (Option.bind_some _ _).symm.trans H; with_reducible exact H2_) | with_reducible exact H | (rw [x]; exact H) | exact H
     have xe := ah.mk x;clear x;have H' := ah.mk H;clear H;(try go_wp2_with (first | ((with_reducible refine eP (b := .append) (xs := #[.tmp 19, .tmp 21]) rfl ?_); at_builtin; refine Kd.iM (Kd.int .i64) (w0 := w) w.heap.size rfl (.tmp 19) (.tmp 21) 25 3 (.int .i64 0) 8 rfl Tryz.underlying25 info3 rfl (by decide) (by omega) u5 y a [.int .i64 a] (fun _ => True) (fun _ => False) rfl rfl ?aP (fun _ hk => hk.elim) ?aF ?aO ?aB ?aS ?aL ?_; (case aP => exact rfl); (case aB => exact BL); (case aF => exact (fun _ _ => trivial)); (case aO => exact (RR z)); (case aS => exact (aJ BL)); (case aL => have := xd.out; omega); intro xz xt ho hb hg hat; rw [← xe.out] at ho; replace u := ah.mk (Kd.GJ (ok := (fun _ => True)) (by (with_reducible repeat (first | apply Kd.fG | apply Kd.dL | apply Kd.eT)); exact Kd.gU u.out (fun _ hk => ⟨trivial, hk⟩)) hg hat); replace HL489_0 := ah.mk (Kd.rO (ok := (fun k_ => some k_ ≠ (.slice (some xc) l.length xh : Value).ownBlock)) (by (with_reducible repeat (first | apply Kd.dJ | apply Kd.bS | apply Kd.bR)); exact Kd.bD HL489_0.out (fun _ hk => ⟨hk.2, hk.1⟩)) hg hat); replace m := ah.mk (eX (g := G) (o := .cells #[.int .i64 JW, .int .i64 JX, .string JY] 35 (0, 0)) BK hg (Kd.lM z.out m.out (by decide))); replace HB := ah.mk (hb); have xf := ah.mk (ho); clear z; clear ho hb hg hat)));go_roundg k1;case measure => have := Y.out; omega
     case rel => exact ⟨_, _, EQ, H', ks Y, ⟨(RR xf)⟩, ⟨by (with_reducible repeat (first | apply Kd.fG | apply Kd.dL | apply Kd.eT)); exact Kd.gU u.out (fun _ hk => hk.2)⟩, ⟨BK⟩, ⟨BL⟩⟩
    ·have H' := ah.mk H;clear H;(try go_wp2);go_roundg k1;case measure => have := Y.out; omega
     case rel => exact ⟨_, _, EQ, H', ks Y, ⟨(RR z)⟩, ⟨by (with_reducible repeat (first | apply Kd.fG | apply Kd.dL | apply Kd.eT)); exact u.out⟩, ⟨BK⟩, ⟨BL⟩⟩
   ·obtain rfl := Option.some.inj H;go_wp2;go_ret;exact ⟨_, EWW, (RR z), BL⟩
end Go.Proofs.YtikmdgmnhbodjaaGreat.PFnExactClueDomains
