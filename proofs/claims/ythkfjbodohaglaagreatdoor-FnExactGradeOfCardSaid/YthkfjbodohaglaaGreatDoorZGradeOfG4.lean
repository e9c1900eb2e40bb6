/- Walks of functions: what each computes. -/
import Derived.Test.YthkfjbodohaglaaGreatDoorZGradeOfG0
import Derived.Test.YthkfjbodohaglaaGreatDoorZGradeOfG1
import Derived.Test.YthkfjbodohaglaaGreatDoorZGradeOfG2
import Derived.Test.YthkfjbodohaglaaGreatDoorZGradeOfG3
import Derived.Test.YthkfjbodohaglaaGreatDoorZGradeOfW
import Derived.Test.YthkfjbodohaglaaGreatDoorZGradeOfShelf
import Derived.Test.YthkfjbodohaglaaGreatDoorZGradeOfHandSort
import Derived.Test.YthkfjbodohaglaaGreatDoorZGradeOfHandForm
import Derived.Test.YthkfjbodohaglaaGreatDoorZGradeOfHandAlone
import Derived.Test.YthkfjbodohaglaaGreatDoorZGradeOfHandReach
import Derived.Test.YthkfjbodohaglaaGreatDoorZGradeOfHandPut
import Derived.Test.YthkfjbodohaglaaGreatDoorZGradeOfHandRepl
namespace Go.Proofs.YthkfjbodohaglaaGreatDoor.PFnExactGradeOf
open Go.RowKit Go.Proofs.YthkfjbodohaglaaGreatDoorW.PrintWords Go.Proofs.YthkfjbodohaglaaGreatDoorW.PrintLast Go.Proofs.YthkfjbodohaglaaGreatDoorW.PrintMore Go.Proofs.YthkfjbodohaglaaGreatDoor.Sq
attribute [local go_sem] jZ ko lT lU jw jy kg kr
set_option maxHeartbeats 8000000
set_option maxRecDepth 100000
set_option linter.unusedVariables false
set_option linter.unusedSimpArgs false
def iL.f (k : Nat) (a0 : ByteArray) : Option (ByteArray) := (bC.f k a0).bind fun t328 => (if t328 = true then (if 0 ≤ (wrap64 ((a0.size : Int) - 1)) then (if (wrap64 ((a0.size : Int) - 1)) ≤ (a0.size : Int) then (some (a0.extract 0 ((wrap64 ((a0.size : Int) - 1)) : Int).toNat)) else (none)) else (none)) else (some (⟨#[]⟩ : ByteArray)))
theorem iL.calls (k : Nat) (a r : ByteArray) (w : World) (h : iL.f k a = some r) :
  Calls Tryz.prog 138 #[.string a] w fun e w' => e = .returned (.string r) ∧ cB w w' := by
 unfold iL.f at h;have H := h;clear h;replace H := be H; obtain ⟨m, A2, H⟩ := H;replace H := ah.mk H;go_enter Tryz.func138, Tryz.ntmps138;go_wp2_with (first | ((with_reducible refine ay (f := 104) rfl ?_); refine aW (some 4) Tryz.func104 #[.string a] ?_; (with_reducible refine (bC.calls k a _ _ A2.out).mono ?_); rintro e w' ⟨rfl, ⟨nd, rfl⟩⟩; refine ⟨_, rfl, ?_⟩; refine bP ?_));refine Hide.mk ?_;replace H := H.out;replace H := ifB H; rcases H with ⟨rfl, H⟩ | ⟨rfl, H⟩
 ·obtain ⟨ji4, hji4⟩ : ∃ j_ : Int, (wrap64 ((a.size : Int) - 1)) = j_ := ⟨_, rfl⟩;replace H : (if 0 ≤ (ji4) then (if (ji4) ≤ (a.size : Int) then (some (a.extract 0 ((ji4) : Int).toNat)) else (none)) else (none)) = some r := by first | (rw [hji4] at H; exact H) | (simp only [hji4] at H ⊢; exact H)
  (try rw [hji4] at A2);have hji4w : (IntKind.i64.wrap ((a.size : Int) - 1)) = ji4 := (gZ _).trans hji4;replace H := ifP H; obtain ⟨c5, H⟩ := H;have o := eq_true c5;have u : decide (0 ≤ (ji4)) = true := decide_eq_true c5;clear c5;replace H := ifP H; obtain ⟨c6, H⟩ := H;have x := eq_true c6;have y : decide ((ji4) ≤ (a.size : Int)) = true := decide_eq_true c6;clear c6;obtain rfl := Option.some.inj H;(try go_wp2);go_ret;exact ⟨by first | rfl | (simp; done) | (simp only [← hji4] <;> (first | rfl | simp)) | (simp [*]; done), DR⟩
 ·obtain rfl := Option.some.inj H;(try go_wp2);go_ret;exact ⟨EQ, DR⟩
mutual
def dA.j0 : Nat → ByteArray → ByteArray → Bool → Option (Bool)
 | 0, _, _, _ => none
 | k + 1, a, b, c => if c = true then (some false) else (dA.l0 k a b 1)
def dA.l0 : Nat → ByteArray → ByteArray → Int → Option (Bool)
 | 0, _, _, _ => none
 | k + 1, a, b, c => if (wrap64 (c + (a.size : Int))) < (b.size : Int) then (if 0 ≤ c then (if c ≤ (wrap64 (c + (a.size : Int))) then (if (wrap64 (c + (a.size : Int))) ≤ (b.size : Int) then (if (b.extract (c : Int).toNat ((wrap64 (c + (a.size : Int))) : Int).toNat).toList = a.toList then (some true) else (dA.l0 k a b (wrap64 (c + 1)))) else (none)) else (none)) else (none)) else (some false)
end
def dA.f (k : Nat) (a0 a1 : ByteArray) : Option (Bool) := (bC.f k a0).bind fun t329 => (if t329 = true then ((bC.f k a1).bind fun t330 => (dA.j0 k a0 a1 (!t330))) else (dA.j0 k a0 a1 true))
theorem dA.calls (k : Nat) (o z : ByteArray) (r : Bool) (w : World) (h : dA.f k o z = some r) :
  Calls Tryz.prog 139 #[.string o, .string z] w fun e w' => e = .returned (.bool r) ∧ cB w w' := by
 unfold dA.f at h;have H := h;clear h;have u := ah.mk H;clear H;go_enter Tryz.func139, Tryz.ntmps139;go_upto_region 1 with (fail)
 go_cut [13] (fun K wc => ∃ (kq : Nat) (m : Bool), K = .bool m ∧ ah (dA.j0 kq o z m = some r) ∧ ah (kq ≤ k) ∧ cB w wc)
 case first =>
  have H := u.out;clear u;replace H := be H; obtain ⟨U, A4, H⟩ := H;replace H := ah.mk H;go_wp2_with (first | ((with_reducible refine ay (f := 104) rfl ?_); refine aW (some 7) Tryz.func104 #[.string o] ?_; (with_reducible refine (bC.calls k o _ _ A4.out).mono ?_); rintro e w' ⟨rfl, ⟨nd, rfl⟩⟩; refine ⟨_, rfl, ?_⟩; refine bP ?_));refine Hide.mk ?_;replace H := H.out;replace H := ifB H; rcases H with ⟨rfl, H⟩ | ⟨rfl, H⟩
  ·replace H := be H; obtain ⟨A, A6, H⟩ := H;have H' := ah.mk H;clear H;(try go_wp2_with (first | (go_at_call 104; (with_reducible refine (bC.calls k z A _ A6.out).mono ?_); rintro e w' ⟨rfl, ⟨nd, rfl⟩⟩)));go_meet;case rel => exact ⟨_, _, EQ, H', ⟨by first | omega | exact Nat.le_refl _⟩, DR⟩
  ·have H' := ah.mk H;clear H;(try go_wp2);go_meet;case rel => exact ⟨_, _, EQ, H', ⟨by first | omega | exact Nat.le_refl _⟩, DR⟩
 case rest =>
  clear u;obtain ⟨kq, m, rfl, HA, D, ⟨mc2, rfl⟩⟩ := hcut
  cases kq with
  | zero => exact absurd HA.out (by simp [dA.j0])
  | succ E =>
   have H := HA.out;clear HA;simp only [dA.j0] at H;replace H := ifB H; rcases H with ⟨rfl, H⟩ | ⟨rfl, H⟩
   ·obtain rfl := Option.some.inj H;go_wp2;go_ret;exact ⟨EQ, DR⟩
   ·have H' := ah.mk H;clear H;go_wp2
    go_loopg [5] E (fun kq v5 w' => ∃ (a : Int), v5 = .int .i64 a ∧ ah (dA.l0 kq o z a = some r) ∧ ah (kq ≤ E) ∧ cB w w')
    case atStart => exact ⟨_, EQ, H', ⟨Nat.le_refl _⟩, DR⟩
    case round =>
     clear H';(try clear c7);obtain ⟨a, rfl, HA, G, ⟨m2, rfl⟩⟩ := hrel
     cases gk with
     | zero => exact absurd HA.out (by simp [dA.l0])
     | succ k2 =>
      have H := HA.out;clear HA;simp only [dA.l0] at H;replace H := ifD H; rcases H with ⟨I, H⟩ | ⟨I, H⟩
      ·replace H := ifP H; obtain ⟨c9, H⟩ := H;have Y := eq_true c9;have Z : decide (0 ≤ a) = true := decide_eq_true c9;clear c9;replace H := ifP H; obtain ⟨c10, H⟩ := H;have L := eq_true c10;have M : decide (a ≤ (wrap64 (a + (o.size : Int)))) = true := decide_eq_true c10;replace H := ifP H; obtain ⟨J, H⟩ := H;have O := eq_true J;have P : decide ((wrap64 (a + (o.size : Int))) ≤ (z.size : Int)) = true := decide_eq_true J;replace H := ifE H; rcases H with ⟨x, y, H⟩ | ⟨xd, x, y, H⟩
       ·obtain rfl := Option.some.inj H;go_wp2;go_ret;exact ⟨EQ, DR⟩
       ·have H' := ah.mk H;clear H;go_wp2;go_roundg k2;case measure => have := D.out; have := G.out; omega
        case rel => exact ⟨_, EQ, H', ⟨by have := D.out; have := G.out; omega⟩, DR⟩
      ·obtain rfl := Option.some.inj H;go_wp2;go_ret;exact ⟨EQ, DR⟩
def bQ.f : Nat → List (dG) → Int → ByteArray → Option (Bool)
 | 0, _, _, _ => none
 | k + 1, a, b, c => if 0 ≤ b then (if b < (a.length : Int) then (if ((aj a b).f0) = 1 then (some (((aj a b).f1).toList == c.toList)) else (if ((aj a b).f0) = 2 then ((dV.f k c).bind fun d => ((bQ.f k a ((aj a b).f2) d).bind fun e => (some e))) else (if ((aj a b).f0) = 3 then (if 0 ≤ ((aj a b).f2) then (if ((aj a b).f2) < (a.length : Int) then ((iC.f k ((aj a ((aj a b).f2)).f1) c).bind fun f => (some f)) else (none)) else (none)) else (if ((aj a b).f0) = 4 then ((bX.f (fun _ => bQ.f k) k a ((aj a b).f0) ((aj a b).f1) ((aj a b).f2) ((aj a b).f3) c).bind fun g => (some g)) else (if ((aj a b).f0) = 5 then ((bL.f (fun _ => bQ.f k) k a ((aj a b).f0) ((aj a b).f1) ((aj a b).f2) ((aj a b).f3) c).bind fun h => (some h)) else (if ((aj a b).f0) = 6 then (if 0 ≤ ((aj a b).f2) then (if ((aj a b).f2) < (a.length : Int) then ((kC.f k ((aj a ((aj a b).f2)).f1)).bind fun i => (some (i.toList == c.toList))) else (none)) else (none)) else (if ((aj a b).f0) = 7 then (if 0 ≤ ((aj a b).f2) then (if ((aj a b).f2) < (a.length : Int) then ((iK.f k ((aj a ((aj a b).f2)).f1)).bind fun j => (some (j.toList == c.toList))) else (none)) else (none)) else (if ((aj a b).f0) = 8 then (if 0 ≤ ((aj a b).f2) then (if ((aj a b).f2) < (a.length : Int) then ((iL.f k ((aj a ((aj a b).f2)).f1)).bind fun l => (some (l.toList == c.toList))) else (none)) else (none)) else (if 0 ≤ ((aj a b).f2) then (if ((aj a b).f2) < (a.length : Int) then ((dA.f k c ((aj a ((aj a b).f2)).f1)).bind fun m => (some m)) else (none)) else (none)))))))))) else (none)) else (none)
theorem bQ.calls (k : Nat) : ∀ (A0 : Option Addr) (c0 : Nat) (l0 : List (dG)) (m : Int) (a2 : ByteArray) (r : Bool) (w : World) (yi : Kd.C jE w A0 l0.length l0) (yj : l0.length ≤ c0) (h : bQ.f k l0 m a2 = some r),
  Calls Tryz.prog 105 #[.slice A0 l0.length c0, .int .i64 m, .string a2] w fun e w' => e = .returned (.bool r) ∧ Below w.heap.size w w' := by
 induction k using Nat.strongRecOn with
 | _ k ih =>
 intro A0 c0 l0 m a2 r w yi yj h
 cases k with
 | zero => exact absurd h (by simp [bQ.f])
 | succ k =>
 simp only [bQ.f] at h;have yS := Tryz.underlying121;have xr := ah.mk yi;have yk := ah.mk yj;clear yi yj;have HB := ah.mk (Below.refl w.heap.size w);have H : (if 0 ≤ m then (if m < (l0.length : Int) then (if ((aj l0 m).f0) = 1 then (some (((aj l0 m).f1).toList == a2.toList)) else (if ((aj l0 m).f0) = 2 then ((dV.f k a2).bind fun xs => ((bQ.f k l0 ((aj l0 m).f2) xs).bind fun xu => (some xu))) else (if ((aj l0 m).f0) = 3 then (if 0 ≤ ((aj l0 m).f2) then (if ((aj l0 m).f2) < (l0.length : Int) then ((iC.f k ((aj l0 ((aj l0 m).f2)).f1) a2).bind fun xv => (some xv)) else (none)) else (none)) else (if ((aj l0 m).f0) = 4 then ((bX.f (fun _ => bQ.f k) k l0 ((aj l0 m).f0) ((aj l0 m).f1) ((aj l0 m).f2) ((aj l0 m).f3) a2).bind fun xw => (some xw)) else (if ((aj l0 m).f0) = 5 then ((bL.f (fun _ => bQ.f k) k l0 ((aj l0 m).f0) ((aj l0 m).f1) ((aj l0 m).f2) ((aj l0 m).f3) a2).bind fun xx => (some xx)) else (if ((aj l0 m).f0) = 6 then (if 0 ≤ ((aj l0 m).f2) then (if ((aj l0 m).f2) < (l0.length : Int) then ((kC.f k ((aj l0 ((aj l0 m).f2)).f1)).bind fun xy => (some (xy.toList == a2.toList))) else (none)) else (none)) else (if ((aj l0 m).f0) = 7 then (if 0 ≤ ((aj l0 m).f2) then (if ((aj l0 m).f2) < (l0.length : Int) then ((iK.f k ((aj l0 ((aj l0 m).f2)).f1)).bind fun xz => (some (xz.toList == a2.toList))) else (none)) else (none)) else (if ((aj l0 m).f0) = 8 then (if 0 ≤ ((aj l0 m).f2) then (if ((aj l0 m).f2) < (l0.length : Int) then ((iL.f k ((aj l0 ((aj l0 m).f2)).f1)).bind fun xA => (some (xA.toList == a2.toList))) else (none)) else (none)) else (if 0 ≤ ((aj l0 m).f2) then (if ((aj l0 m).f2) < (l0.length : Int) then ((dA.f k a2 ((aj l0 ((aj l0 m).f2)).f1)).bind fun xB => (some xB)) else (none)) else (none)))))))))) else (none)) else (none)) = some r := h;clear h;replace H := ifN H; obtain ⟨zo, H⟩ := H;replace H := ifN H; obtain ⟨zp, H⟩ := H;have xC : 0 ≤ (m : Int) := OD;have xD : m < (l0.length : Int) := OD;obtain ⟨y, yD, yE, yF, yG, yH⟩ := jT xr.out m xC xD
 cases yD
 replace xC := eq_true xC;replace xD := eq_true xD;replace H := ah.mk H;go_enter Tryz.func105, Tryz.ntmps105;replace H := H.out;replace H := ifE H; rcases H with ⟨yI, yJ, H⟩ | ⟨c6, yI, yJ, H⟩
 ·obtain rfl := Option.some.inj H;(try go_wp2_with (first | ((with_reducible refine aJ (N := 7) rfl ?_); refine aY (N := 7) (cs := #[.int .i64 0, .string (⟨#[]⟩ : ByteArray), .int .i64 0, .int .i64 0]) (t := 121) ?_; intro a hg xo hbox hb; have u := ah.mk hbox; have x := SZ (w := w) hg; have xp := x; replace HB := BS (w := w) hb; clear hb hbox hg; obtain ⟨I, J, L, M, O, P, U, Y⟩ := cz4 u.out)));go_ret;exact ⟨EWW, BL⟩
 ·replace H := ifE H; rcases H with ⟨yK, yL, H⟩ | ⟨c9, yK, yL, H⟩
  ·replace H := be H; obtain ⟨xs, yT, H⟩ := H;replace H := be H; obtain ⟨xu, yU, H⟩ := H;obtain rfl := Option.some.inj H;(try go_wp2_with (first | ((with_reducible refine aJ (N := 7) rfl ?_); refine aY (N := 7) (cs := #[.int .i64 0, .string (⟨#[]⟩ : ByteArray), .int .i64 0, .int .i64 0]) (t := 121) ?_; intro a hg xo hbox hb; have u := ah.mk hbox; have x := SZ (w := w) hg; have xp := x; replace HB := BS (w := w) hb; clear hb hbox hg; obtain ⟨I, J, L, M, O, P, U, Y⟩ := cz4 u.out)));have n0_ : ah (((((xo.setCell ⟨a, 0, none⟩ (.int .i64 ((aj l0 m).f0))).setCell ⟨a, 1, none⟩ (.string ((aj l0 m).f1))).setCell ⟨a, 2, none⟩ (.int .i64 ((aj l0 m).f2))).setCell ⟨a, 3, none⟩ (.int .i64 ((aj l0 m).f3))).heap[a]? = some (.cells #[.int .i64 ((aj l0 m).f0), .string ((aj l0 m).f1), .int .i64 ((aj l0 m).f2), .int .i64 ((aj l0 m).f3)] 121 (0, 0))) := ⟨by (with_reducible repeat (first | refine aD ?_ _ | refine aH ?_ | refine aC ?_ _)); refine aX (cs := #[.int .i64 ((aj l0 m).f0), .string ((aj l0 m).f1), .int .i64 ((aj l0 m).f2), .int .i64 0]) ?_ 3 _ rfl; (with_reducible repeat (first | refine aD ?_ _ | refine aH ?_ | refine aC ?_ _)); refine aX (cs := #[.int .i64 ((aj l0 m).f0), .string ((aj l0 m).f1), .int .i64 0, .int .i64 0]) ?_ 2 _ rfl; (with_reducible repeat (first | refine aD ?_ _ | refine aH ?_ | refine aC ?_ _)); refine aX (cs := #[.int .i64 ((aj l0 m).f0), .string (⟨#[]⟩ : ByteArray), .int .i64 0, .int .i64 0]) ?_ 1 _ rfl; (with_reducible repeat (first | refine aD ?_ _ | refine aH ?_ | refine aC ?_ _)); refine aX (cs := #[.int .i64 0, .string (⟨#[]⟩ : ByteArray), .int .i64 0, .int .i64 0]) ?_ 0 _ rfl; (with_reducible repeat (first | refine aD ?_ _ | refine aH ?_ | refine aC ?_ _)); exact u.out⟩;have n1_ : ah (Below w.heap.size w ((((xo.setCell ⟨a, 0, none⟩ (.int .i64 ((aj l0 m).f0))).setCell ⟨a, 1, none⟩ (.string ((aj l0 m).f1))).setCell ⟨a, 2, none⟩ (.int .i64 ((aj l0 m).f2))).setCell ⟨a, 3, none⟩ (.int .i64 ((aj l0 m).f3)))) := ⟨BL⟩;(try clear u);(try clear HB);generalize ((((xo.setCell ⟨a, 0, none⟩ (.int .i64 ((aj l0 m).f0))).setCell ⟨a, 1, none⟩ (.string ((aj l0 m).f1))).setCell ⟨a, 2, none⟩ (.int .i64 ((aj l0 m).f2))).setCell ⟨a, 3, none⟩ (.int .i64 ((aj l0 m).f3))) = xt at n0_ n1_ ⊢;have u := n0_;have HB := n1_;clear n0_ n1_;replace u := ah.mk (aH u.out);replace HB := ah.mk (dL HB.out);refine jl (n := 7) (S := fun w' => w'.cell? ⟨a, 0, none⟩ = some (.int .i64 ((aj l0 m).f0)) ∧ w'.cell? ⟨a, 1, none⟩ = some (.string ((aj l0 m).f1)) ∧ w'.cell? ⟨a, 2, none⟩ = some (.int .i64 ((aj l0 m).f2)) ∧ w'.cell? ⟨a, 3, none⟩ = some (.int .i64 ((aj l0 m).f3))) (ds := []) #[F,F,F,F,F,F,F] (by kernel_rfl) rfl rfl ⟨(ak u.out 0).trans rfl, (ak u.out 1).trans rfl, (ak u.out 2).trans rfl, (ak u.out 3).trans rfl⟩ (fun hHeld => ?_);generalize xt.drew = yV at u HB hHeld ⊢;refine puS (i := 0) (N := some 22) #[T,F,F,F,F,F,F] (by kernel_rfl) ?_;refine puS (i := 1) (N := some 23) #[T,T,F,F,F,F,F] (by kernel_rfl) ?_;refine puS (i := 3) (N := some 25) #[T,T,F,T,F,F,F] (by kernel_rfl) ?_;refine taS (i := 2) (N := some 24) #[T,T,T,T,F,F,F] (by kernel_rfl) hHeld ?_;refine lG (i := 4) (N := some 26) #[T,T,T,T,T,F,F] rfl rfl (by kernel_rfl) (by decide) (fun K hK => ?_);refine jd Tryz.func132 #[.string a2] ?_;(with_reducible refine (dV.calls k a2 xs _ yT.out).mono ?_);rintro e w' ⟨rfl, ⟨nd, rfl⟩⟩;refine ⟨_, rfl, ?_⟩;refine hK.out _ _ ⟨(ak u.out 0).trans rfl, (ak u.out 1).trans rfl, (ak u.out 2).trans rfl, (ak u.out 3).trans rfl⟩ (fun hHeld => ?_);clear hK K;refine nrm (some 26) ?_;refine lG (i := 5) (N := some 27) #[T,T,T,T,T,T,F] rfl rfl (by kernel_rfl) (by decide) (fun K hK => ?_);refine jd Tryz.func105 #[.slice (some y) l0.length c0, .int .i64 ((aj l0 m).f2), .string xs] ?_;(with_reducible refine (ih k (by omega) _ _ l0 ((aj l0 m).f2) xs xu _ ?side1 ?side2 yU.out).mono ?_);(case side1 => repeat (first | exact (Kd.eP xr.out BL) | (with_reducible refine Kd.gB ?_ _) | (with_reducible refine Kd.gD ?_ _) | (with_reducible refine Kd.iw ?_)));(case side2 => exact yk.out);rintro e yW ⟨rfl, hb⟩;refine ⟨_, rfl, ?_⟩;replace u := KB u hb;replace HB := BS (w := w) hb;(try clear hb);refine hK.out _ _ ⟨(ak u.out 0).trans rfl, (ak u.out 1).trans rfl, (ak u.out 2).trans rfl, (ak u.out 3).trans rfl⟩ (fun hHeld => ?_);clear hK K;refine nrm (some 27) ?_;refine puS (i := 6) (N := some 6) #[T,T,T,T,T,T,T] (by kernel_rfl) ?_;refine iG (by kernel_rfl) ?_;(try go_wp2);go_ret;exact ⟨EWW, BL⟩
  ·replace H := ifE H; rcases H with ⟨yl, ym, H⟩ | ⟨zq, yl, ym, H⟩
   ·replace H := ifN H; obtain ⟨yX, H⟩ := H;replace H := ifN H; obtain ⟨yY, H⟩ := H;replace H := be H; obtain ⟨xv, yZ, H⟩ := H;obtain rfl := Option.some.inj H;(try go_wp2_with (first | ((with_reducible refine aJ (N := 7) rfl ?_); refine aY (N := 7) (cs := #[.int .i64 0, .string (⟨#[]⟩ : ByteArray), .int .i64 0, .int .i64 0]) (t := 121) ?_; intro a hg xo hbox hb; have u := ah.mk hbox; have x := SZ (w := w) hg; have xp := x; replace HB := BS (w := w) hb; clear hb hbox hg; obtain ⟨I, J, L, M, O, P, U, Y⟩ := cz4 u.out; have xE : 0 ≤ (((aj l0 m).f2) : Int) := OD; have xF : ((aj l0 m).f2) < (l0.length : Int) := OD; obtain ⟨yn, yM, z, Z, xa, xb⟩ := jT xr.out ((aj l0 m).f2) xE xF; obtain rfl : y = yn := (by injection yM); have xG : y.block ≠ a := Nat.ne_of_lt (Nat.lt_of_lt_of_le (by have := World.block_lt_of_cell? _ _ z; first | rwa [add_block] at this | exact this) x.out); have xH : y.block ≠ a := Nat.ne_of_lt (Nat.lt_of_lt_of_le (by have := World.block_lt_of_cell? _ _ z; first | rwa [add_block] at this | exact this) x.out); have xI : y.block ≠ a := Nat.ne_of_lt (Nat.lt_of_lt_of_le (by have := World.block_lt_of_cell? _ _ z; first | rwa [add_block] at this | exact this) x.out); have xJ : y.block ≠ a := Nat.ne_of_lt (Nat.lt_of_lt_of_le (by have := World.block_lt_of_cell? _ _ z; first | rwa [add_block] at this | exact this) x.out); replace z := (HB.out.cell (World.block_lt_of_cell? w _ z)).trans z; replace Z := (HB.out.cell (World.block_lt_of_cell? w _ Z)).trans Z; replace xa := (HB.out.cell (World.block_lt_of_cell? w _ xa)).trans xa; replace xb := (HB.out.cell (World.block_lt_of_cell? w _ xb)).trans xb; replace z := (cell_far (p := ⟨a, 0, none⟩) AB (.int .i64 ((aj l0 m).f0))).trans z; replace Z := (cell_far (p := ⟨a, 0, none⟩) AB (.int .i64 ((aj l0 m).f0))).trans Z; replace xa := (cell_far (p := ⟨a, 0, none⟩) AB (.int .i64 ((aj l0 m).f0))).trans xa; replace xb := (cell_far (p := ⟨a, 0, none⟩) AB (.int .i64 ((aj l0 m).f0))).trans xb; replace z := (cell_far (p := ⟨a, 1, none⟩) AB (.string ((aj l0 m).f1))).trans z; replace Z := (cell_far (p := ⟨a, 1, none⟩) AB (.string ((aj l0 m).f1))).trans Z; replace xa := (cell_far (p := ⟨a, 1, none⟩) AB (.string ((aj l0 m).f1))).trans xa; replace xb := (cell_far (p := ⟨a, 1, none⟩) AB (.string ((aj l0 m).f1))).trans xb; replace z := (cell_far (p := ⟨a, 2, none⟩) AB (.int .i64 ((aj l0 m).f2))).trans z; replace Z := (cell_far (p := ⟨a, 2, none⟩) AB (.int .i64 ((aj l0 m).f2))).trans Z; replace xa := (cell_far (p := ⟨a, 2, none⟩) AB (.int .i64 ((aj l0 m).f2))).trans xa; replace xb := (cell_far (p := ⟨a, 2, none⟩) AB (.int .i64 ((aj l0 m).f2))).trans xb; replace z := (cell_far (p := ⟨a, 3, none⟩) AB (.int .i64 ((aj l0 m).f3))).trans z; replace Z := (cell_far (p := ⟨a, 3, none⟩) AB (.int .i64 ((aj l0 m).f3))).trans Z; replace xa := (cell_far (p := ⟨a, 3, none⟩) AB (.int .i64 ((aj l0 m).f3))).trans xa; replace xb := (cell_far (p := ⟨a, 3, none⟩) AB (.int .i64 ((aj l0 m).f3))).trans xb; clear xG xH xI xJ; replace xE := eq_true xE; replace xF := eq_true xF) | ((with_reducible refine ay (f := 133) rfl ?_); refine aW (some 37) Tryz.func133 #[.string ((aj l0 ((aj l0 m).f2)).f1), .string a2] ?_; (with_reducible refine (iC.calls k ((aj l0 ((aj l0 m).f2)).f1) a2 xv _ yZ.out).mono ?_); rintro e w' ⟨rfl, ⟨nd, rfl⟩⟩; refine ⟨_, rfl, ?_⟩)));go_ret;exact ⟨EWW, BL⟩
   ·replace H := ifE H; rcases H with ⟨yo, yp, H⟩ | ⟨zr, yo, yp, H⟩
    ·replace H := be H; obtain ⟨xw, za, H⟩ := H;obtain rfl := Option.some.inj H;(try go_wp2_with (first | ((with_reducible refine aJ (N := 7) rfl ?_); refine aY (N := 7) (cs := #[.int .i64 0, .string (⟨#[]⟩ : ByteArray), .int .i64 0, .int .i64 0]) (t := 121) ?_; intro a hg xo hbox hb; have u := ah.mk hbox; have x := SZ (w := w) hg; have xp := x; replace HB := BS (w := w) hb; clear hb hbox hg; obtain ⟨I, J, L, M, O, P, U, Y⟩ := cz4 u.out) | ((with_reducible refine ay (f := 134) rfl ?_); refine aW (some 43) Tryz.func134 #[.slice (some y) l0.length c0, .agg #[.int .i64 ((aj l0 m).f0), .string ((aj l0 m).f1), .int .i64 ((aj l0 m).f2), .int .i64 ((aj l0 m).f3)], .string a2] ?_; (with_reducible refine (bX.calls (fun _ => bQ.f k) (fun _ A_ c_ l_ i_ s_ b_ W_ hr_ hc_ h_ => ih k (by omega) A_ c_ l_ i_ s_ b_ W_ hr_ hc_ h_) k _ _ l0 ((aj l0 m).f0) ((aj l0 m).f1) ((aj l0 m).f2) ((aj l0 m).f3) a2 xw _ ?side1 ?side2 za.out).mono ?_); (case side1 => exact Kd.eP xr.out BL); (case side2 => exact yk.out); rintro e xt ⟨rfl, hb⟩; refine ⟨_, rfl, ?_⟩; replace u := ah.mk (dx (g := a) (o := .cells #[.int .i64 ((aj l0 m).f0), .string ((aj l0 m).f1), .int .i64 ((aj l0 m).f2), .int .i64 ((aj l0 m).f3)] 121 (0, 0)) (by (with_reducible repeat (first | refine aD ?_ _ | refine aH ?_ | refine aC ?_ _)); refine aX (cs := #[.int .i64 ((aj l0 m).f0), .string ((aj l0 m).f1), .int .i64 ((aj l0 m).f2), .int .i64 0]) ?_ 3 _ rfl; (with_reducible repeat (first | refine aD ?_ _ | refine aH ?_ | refine aC ?_ _)); refine aX (cs := #[.int .i64 ((aj l0 m).f0), .string ((aj l0 m).f1), .int .i64 0, .int .i64 0]) ?_ 2 _ rfl; (with_reducible repeat (first | refine aD ?_ _ | refine aH ?_ | refine aC ?_ _)); refine aX (cs := #[.int .i64 ((aj l0 m).f0), .string (⟨#[]⟩ : ByteArray), .int .i64 0, .int .i64 0]) ?_ 1 _ rfl; (with_reducible repeat (first | refine aD ?_ _ | refine aH ?_ | refine aC ?_ _)); refine aX (cs := #[.int .i64 0, .string (⟨#[]⟩ : ByteArray), .int .i64 0, .int .i64 0]) ?_ 0 _ rfl; (with_reducible repeat (first | refine aD ?_ _ | refine aH ?_ | refine aC ?_ _)); exact u.out) hb); replace HB := BS (w := w) hb; (try clear hb))));go_ret;exact ⟨EWW, BL⟩
    ·replace H := ifE H; rcases H with ⟨yq, yr, H⟩ | ⟨zs, yq, yr, H⟩
     ·replace H := be H; obtain ⟨xx, zb, H⟩ := H;obtain rfl := Option.some.inj H;(try go_wp2_with (first | ((with_reducible refine aJ (N := 7) rfl ?_); refine aY (N := 7) (cs := #[.int .i64 0, .string (⟨#[]⟩ : ByteArray), .int .i64 0, .int .i64 0]) (t := 121) ?_; intro a hg xo hbox hb; have u := ah.mk hbox; have x := SZ (w := w) hg; have xp := x; replace HB := BS (w := w) hb; clear hb hbox hg; obtain ⟨I, J, L, M, O, P, U, Y⟩ := cz4 u.out) | ((with_reducible refine ay (f := 135) rfl ?_); refine aW (some 49) Tryz.func135 #[.slice (some y) l0.length c0, .agg #[.int .i64 ((aj l0 m).f0), .string ((aj l0 m).f1), .int .i64 ((aj l0 m).f2), .int .i64 ((aj l0 m).f3)], .string a2] ?_; (with_reducible refine (bL.calls (fun _ => bQ.f k) (fun _ A_ c_ l_ i_ s_ b_ W_ hr_ hc_ h_ => ih k (by omega) A_ c_ l_ i_ s_ b_ W_ hr_ hc_ h_) k _ _ l0 ((aj l0 m).f0) ((aj l0 m).f1) ((aj l0 m).f2) ((aj l0 m).f3) a2 xx _ ?side1 ?side2 zb.out).mono ?_); (case side1 => exact Kd.eP xr.out BL); (case side2 => exact yk.out); rintro e xt ⟨rfl, hb⟩; refine ⟨_, rfl, ?_⟩; replace u := ah.mk (dx (g := a) (o := .cells #[.int .i64 ((aj l0 m).f0), .string ((aj l0 m).f1), .int .i64 ((aj l0 m).f2), .int .i64 ((aj l0 m).f3)] 121 (0, 0)) (by (with_reducible repeat (first | refine aD ?_ _ | refine aH ?_ | refine aC ?_ _)); refine aX (cs := #[.int .i64 ((aj l0 m).f0), .string ((aj l0 m).f1), .int .i64 ((aj l0 m).f2), .int .i64 0]) ?_ 3 _ rfl; (with_reducible repeat (first | refine aD ?_ _ | refine aH ?_ | refine aC ?_ _)); refine aX (cs := #[.int .i64 ((aj l0 m).f0), .string ((aj l0 m).f1), .int .i64 0, .int .i64 0]) ?_ 2 _ rfl; (with_reducible repeat (first | refine aD ?_ _ | refine aH ?_ | refine aC ?_ _)); refine aX (cs := #[.int .i64 ((aj l0 m).f0), .string (⟨#[]⟩ : ByteArray), .int .i64 0, .int .i64 0]) ?_ 1 _ rfl; (with_reducible repeat (first | refine aD ?_ _ | refine aH ?_ | refine aC ?_ _)); refine aX (cs := #[.int .i64 0, .string (⟨#[]⟩ : ByteArray), .int .i64 0, .int .i64 0]) ?_ 0 _ rfl; (with_reducible repeat (first | refine aD ?_ _ | refine aH ?_ | refine aC ?_ _)); exact u.out) hb); replace HB := BS (w := w) hb; (try clear hb))));go_ret;exact ⟨EWW, BL⟩
     ·replace H := ifE H; rcases H with ⟨ys, yt, H⟩ | ⟨zt, ys, yt, H⟩
      ·replace H := ifN H; obtain ⟨zc, H⟩ := H;replace H := ifN H; obtain ⟨zd, H⟩ := H;replace H := be H; obtain ⟨xy, ze, H⟩ := H;obtain rfl := Option.some.inj H;(try go_wp2_with (first | ((with_reducible refine aJ (N := 7) rfl ?_); refine aY (N := 7) (cs := #[.int .i64 0, .string (⟨#[]⟩ : ByteArray), .int .i64 0, .int .i64 0]) (t := 121) ?_; intro a hg xo hbox hb; have u := ah.mk hbox; have x := SZ (w := w) hg; have xp := x; replace HB := BS (w := w) hb; clear hb hbox hg; obtain ⟨I, J, L, M, O, P, U, Y⟩ := cz4 u.out; have xK : 0 ≤ (((aj l0 m).f2) : Int) := OD; have xL : ((aj l0 m).f2) < (l0.length : Int) := OD; obtain ⟨yu, yN, A, xc, xd, xe⟩ := jT xr.out ((aj l0 m).f2) xK xL; obtain rfl : y = yu := (by injection yN); have xM : y.block ≠ a := Nat.ne_of_lt (Nat.lt_of_lt_of_le (by have := World.block_lt_of_cell? _ _ A; first | rwa [add_block] at this | exact this) x.out); have xN : y.block ≠ a := Nat.ne_of_lt (Nat.lt_of_lt_of_le (by have := World.block_lt_of_cell? _ _ A; first | rwa [add_block] at this | exact this) x.out); have xO : y.block ≠ a := Nat.ne_of_lt (Nat.lt_of_lt_of_le (by have := World.block_lt_of_cell? _ _ A; first | rwa [add_block] at this | exact this) x.out); have xP : y.block ≠ a := Nat.ne_of_lt (Nat.lt_of_lt_of_le (by have := World.block_lt_of_cell? _ _ A; first | rwa [add_block] at this | exact this) x.out); replace A := (HB.out.cell (World.block_lt_of_cell? w _ A)).trans A; replace xc := (HB.out.cell (World.block_lt_of_cell? w _ xc)).trans xc; replace xd := (HB.out.cell (World.block_lt_of_cell? w _ xd)).trans xd; replace xe := (HB.out.cell (World.block_lt_of_cell? w _ xe)).trans xe; replace A := (cell_far (p := ⟨a, 0, none⟩) AB (.int .i64 ((aj l0 m).f0))).trans A; replace xc := (cell_far (p := ⟨a, 0, none⟩) AB (.int .i64 ((aj l0 m).f0))).trans xc; replace xd := (cell_far (p := ⟨a, 0, none⟩) AB (.int .i64 ((aj l0 m).f0))).trans xd; replace xe := (cell_far (p := ⟨a, 0, none⟩) AB (.int .i64 ((aj l0 m).f0))).trans xe; replace A := (cell_far (p := ⟨a, 1, none⟩) AB (.string ((aj l0 m).f1))).trans A; replace xc := (cell_far (p := ⟨a, 1, none⟩) AB (.string ((aj l0 m).f1))).trans xc; replace xd := (cell_far (p := ⟨a, 1, none⟩) AB (.string ((aj l0 m).f1))).trans xd; replace xe := (cell_far (p := ⟨a, 1, none⟩) AB (.string ((aj l0 m).f1))).trans xe; replace A := (cell_far (p := ⟨a, 2, none⟩) AB (.int .i64 ((aj l0 m).f2))).trans A; replace xc := (cell_far (p := ⟨a, 2, none⟩) AB (.int .i64 ((aj l0 m).f2))).trans xc; replace xd := (cell_far (p := ⟨a, 2, none⟩) AB (.int .i64 ((aj l0 m).f2))).trans xd; replace xe := (cell_far (p := ⟨a, 2, none⟩) AB (.int .i64 ((aj l0 m).f2))).trans xe; replace A := (cell_far (p := ⟨a, 3, none⟩) AB (.int .i64 ((aj l0 m).f3))).trans A; replace xc := (cell_far (p := ⟨a, 3, none⟩) AB (.int .i64 ((aj l0 m).f3))).trans xc; replace xd := (cell_far (p := ⟨a, 3, none⟩) AB (.int .i64 ((aj l0 m).f3))).trans xd; replace xe := (cell_far (p := ⟨a, 3, none⟩) AB (.int .i64 ((aj l0 m).f3))).trans xe; clear xM xN xO xP; replace xK := eq_true xK; replace xL := eq_true xL) | ((with_reducible refine ay (f := 136) rfl ?_); refine aW (some 58) Tryz.func136 #[.string ((aj l0 ((aj l0 m).f2)).f1)] ?_; (with_reducible refine (kC.calls k ((aj l0 ((aj l0 m).f2)).f1) xy _ ze.out).mono ?_); rintro e w' ⟨rfl, ⟨nd, rfl⟩⟩; refine ⟨_, rfl, ?_⟩)));go_ret;exact ⟨EWW, BL⟩
      ·replace H := ifE H; rcases H with ⟨yv, yw, H⟩ | ⟨zu, yv, yw, H⟩
       ·replace H := ifN H; obtain ⟨zf, H⟩ := H;replace H := ifN H; obtain ⟨zg, H⟩ := H;replace H := be H; obtain ⟨xz, zh, H⟩ := H;obtain rfl := Option.some.inj H;(try go_wp2_with (first | ((with_reducible refine aJ (N := 7) rfl ?_); refine aY (N := 7) (cs := #[.int .i64 0, .string (⟨#[]⟩ : ByteArray), .int .i64 0, .int .i64 0]) (t := 121) ?_; intro a hg xo hbox hb; have u := ah.mk hbox; have x := SZ (w := w) hg; have xp := x; replace HB := BS (w := w) hb; clear hb hbox hg; obtain ⟨I, J, L, M, O, P, U, Y⟩ := cz4 u.out; have xQ : 0 ≤ (((aj l0 m).f2) : Int) := OD; have xR : ((aj l0 m).f2) < (l0.length : Int) := OD; obtain ⟨yx, yO, D, xf, xg, xh⟩ := jT xr.out ((aj l0 m).f2) xQ xR; obtain rfl : y = yx := (by injection yO); have xS : y.block ≠ a := Nat.ne_of_lt (Nat.lt_of_lt_of_le (by have := World.block_lt_of_cell? _ _ D; first | rwa [add_block] at this | exact this) x.out); have xT : y.block ≠ a := Nat.ne_of_lt (Nat.lt_of_lt_of_le (by have := World.block_lt_of_cell? _ _ D; first | rwa [add_block] at this | exact this) x.out); have xU : y.block ≠ a := Nat.ne_of_lt (Nat.lt_of_lt_of_le (by have := World.block_lt_of_cell? _ _ D; first | rwa [add_block] at this | exact this) x.out); have xV : y.block ≠ a := Nat.ne_of_lt (Nat.lt_of_lt_of_le (by have := World.block_lt_of_cell? _ _ D; first | rwa [add_block] at this | exact this) x.out); replace D := (HB.out.cell (World.block_lt_of_cell? w _ D)).trans D; replace xf := (HB.out.cell (World.block_lt_of_cell? w _ xf)).trans xf; replace xg := (HB.out.cell (World.block_lt_of_cell? w _ xg)).trans xg; replace xh := (HB.out.cell (World.block_lt_of_cell? w _ xh)).trans xh; replace D := (cell_far (p := ⟨a, 0, none⟩) AB (.int .i64 ((aj l0 m).f0))).trans D; replace xf := (cell_far (p := ⟨a, 0, none⟩) AB (.int .i64 ((aj l0 m).f0))).trans xf; replace xg := (cell_far (p := ⟨a, 0, none⟩) AB (.int .i64 ((aj l0 m).f0))).trans xg; replace xh := (cell_far (p := ⟨a, 0, none⟩) AB (.int .i64 ((aj l0 m).f0))).trans xh; replace D := (cell_far (p := ⟨a, 1, none⟩) AB (.string ((aj l0 m).f1))).trans D; replace xf := (cell_far (p := ⟨a, 1, none⟩) AB (.string ((aj l0 m).f1))).trans xf; replace xg := (cell_far (p := ⟨a, 1, none⟩) AB (.string ((aj l0 m).f1))).trans xg; replace xh := (cell_far (p := ⟨a, 1, none⟩) AB (.string ((aj l0 m).f1))).trans xh; replace D := (cell_far (p := ⟨a, 2, none⟩) AB (.int .i64 ((aj l0 m).f2))).trans D; replace xf := (cell_far (p := ⟨a, 2, none⟩) AB (.int .i64 ((aj l0 m).f2))).trans xf; replace xg := (cell_far (p := ⟨a, 2, none⟩) AB (.int .i64 ((aj l0 m).f2))).trans xg; replace xh := (cell_far (p := ⟨a, 2, none⟩) AB (.int .i64 ((aj l0 m).f2))).trans xh; replace D := (cell_far (p := ⟨a, 3, none⟩) AB (.int .i64 ((aj l0 m).f3))).trans D; replace xf := (cell_far (p := ⟨a, 3, none⟩) AB (.int .i64 ((aj l0 m).f3))).trans xf; replace xg := (cell_far (p := ⟨a, 3, none⟩) AB (.int .i64 ((aj l0 m).f3))).trans xg; replace xh := (cell_far (p := ⟨a, 3, none⟩) AB (.int .i64 ((aj l0 m).f3))).trans xh; clear xS xT xU xV; replace xQ := eq_true xQ; replace xR := eq_true xR) | ((with_reducible refine ay (f := 137) rfl ?_); refine aW (some 69) Tryz.func137 #[.string ((aj l0 ((aj l0 m).f2)).f1)] ?_; (with_reducible refine (iK.calls k ((aj l0 ((aj l0 m).f2)).f1) xz _ zh.out).mono ?_); rintro e w' ⟨rfl, ⟨nd, rfl⟩⟩; refine ⟨_, rfl, ?_⟩)));go_ret;exact ⟨EWW, BL⟩
       ·replace H := ifE H; rcases H with ⟨yy, yz, H⟩ | ⟨zv, yy, yz, H⟩
        ·replace H := ifN H; obtain ⟨zi, H⟩ := H;replace H := ifN H; obtain ⟨zj, H⟩ := H;replace H := be H; obtain ⟨xA, zk, H⟩ := H;obtain rfl := Option.some.inj H;(try go_wp2_with (first | ((with_reducible refine aJ (N := 7) rfl ?_); refine aY (N := 7) (cs := #[.int .i64 0, .string (⟨#[]⟩ : ByteArray), .int .i64 0, .int .i64 0]) (t := 121) ?_; intro a hg xo hbox hb; have u := ah.mk hbox; have x := SZ (w := w) hg; have xp := x; replace HB := BS (w := w) hb; clear hb hbox hg; obtain ⟨I, J, L, M, O, P, U, Y⟩ := cz4 u.out; have xW : 0 ≤ (((aj l0 m).f2) : Int) := OD; have xX : ((aj l0 m).f2) < (l0.length : Int) := OD; obtain ⟨yA, yP, E, xi, xj, xk⟩ := jT xr.out ((aj l0 m).f2) xW xX; obtain rfl : y = yA := (by injection yP); have xY : y.block ≠ a := Nat.ne_of_lt (Nat.lt_of_lt_of_le (by have := World.block_lt_of_cell? _ _ E; first | rwa [add_block] at this | exact this) x.out); have xZ : y.block ≠ a := Nat.ne_of_lt (Nat.lt_of_lt_of_le (by have := World.block_lt_of_cell? _ _ E; first | rwa [add_block] at this | exact this) x.out); have ya : y.block ≠ a := Nat.ne_of_lt (Nat.lt_of_lt_of_le (by have := World.block_lt_of_cell? _ _ E; first | rwa [add_block] at this | exact this) x.out); have yb : y.block ≠ a := Nat.ne_of_lt (Nat.lt_of_lt_of_le (by have := World.block_lt_of_cell? _ _ E; first | rwa [add_block] at this | exact this) x.out); replace E := (HB.out.cell (World.block_lt_of_cell? w _ E)).trans E; replace xi := (HB.out.cell (World.block_lt_of_cell? w _ xi)).trans xi; replace xj := (HB.out.cell (World.block_lt_of_cell? w _ xj)).trans xj; replace xk := (HB.out.cell (World.block_lt_of_cell? w _ xk)).trans xk; replace E := (cell_far (p := ⟨a, 0, none⟩) AB (.int .i64 ((aj l0 m).f0))).trans E; replace xi := (cell_far (p := ⟨a, 0, none⟩) AB (.int .i64 ((aj l0 m).f0))).trans xi; replace xj := (cell_far (p := ⟨a, 0, none⟩) AB (.int .i64 ((aj l0 m).f0))).trans xj; replace xk := (cell_far (p := ⟨a, 0, none⟩) AB (.int .i64 ((aj l0 m).f0))).trans xk; replace E := (cell_far (p := ⟨a, 1, none⟩) AB (.string ((aj l0 m).f1))).trans E; replace xi := (cell_far (p := ⟨a, 1, none⟩) AB (.string ((aj l0 m).f1))).trans xi; replace xj := (cell_far (p := ⟨a, 1, none⟩) AB (.string ((aj l0 m).f1))).trans xj; replace xk := (cell_far (p := ⟨a, 1, none⟩) AB (.string ((aj l0 m).f1))).trans xk; replace E := (cell_far (p := ⟨a, 2, none⟩) AB (.int .i64 ((aj l0 m).f2))).trans E; replace xi := (cell_far (p := ⟨a, 2, none⟩) AB (.int .i64 ((aj l0 m).f2))).trans xi; replace xj := (cell_far (p := ⟨a, 2, none⟩) AB (.int .i64 ((aj l0 m).f2))).trans xj; replace xk := (cell_far (p := ⟨a, 2, none⟩) AB (.int .i64 ((aj l0 m).f2))).trans xk; replace E := (cell_far (p := ⟨a, 3, none⟩) AB (.int .i64 ((aj l0 m).f3))).trans E; replace xi := (cell_far (p := ⟨a, 3, none⟩) AB (.int .i64 ((aj l0 m).f3))).trans xi; replace xj := (cell_far (p := ⟨a, 3, none⟩) AB (.int .i64 ((aj l0 m).f3))).trans xj; replace xk := (cell_far (p := ⟨a, 3, none⟩) AB (.int .i64 ((aj l0 m).f3))).trans xk; clear xY xZ ya yb; replace xW := eq_true xW; replace xX := eq_true xX) | ((with_reducible refine ay (f := 138) rfl ?_); refine aW (some 80) Tryz.func138 #[.string ((aj l0 ((aj l0 m).f2)).f1)] ?_; (with_reducible refine (iL.calls k ((aj l0 ((aj l0 m).f2)).f1) xA _ zk.out).mono ?_); rintro e w' ⟨rfl, ⟨nd, rfl⟩⟩; refine ⟨_, rfl, ?_⟩)));go_ret;exact ⟨EWW, BL⟩
        ·replace H := ifN H; obtain ⟨zl, H⟩ := H;replace H := ifN H; obtain ⟨zm, H⟩ := H;replace H := be H; obtain ⟨xB, zn, H⟩ := H;obtain rfl := Option.some.inj H;(try go_wp2_with (first | ((with_reducible refine aJ (N := 7) rfl ?_); refine aY (N := 7) (cs := #[.int .i64 0, .string (⟨#[]⟩ : ByteArray), .int .i64 0, .int .i64 0]) (t := 121) ?_; intro a hg xo hbox hb; have u := ah.mk hbox; have x := SZ (w := w) hg; have xp := x; replace HB := BS (w := w) hb; clear hb hbox hg; obtain ⟨I, J, L, M, O, P, U, Y⟩ := cz4 u.out; have yc : 0 ≤ (((aj l0 m).f2) : Int) := OD; have yd : ((aj l0 m).f2) < (l0.length : Int) := OD; obtain ⟨yB, yQ, G, xl, xm, xn⟩ := jT xr.out ((aj l0 m).f2) yc yd; obtain rfl : y = yB := (by injection yQ); have ye : y.block ≠ a := Nat.ne_of_lt (Nat.lt_of_lt_of_le (by have := World.block_lt_of_cell? _ _ G; first | rwa [add_block] at this | exact this) x.out); have yf : y.block ≠ a := Nat.ne_of_lt (Nat.lt_of_lt_of_le (by have := World.block_lt_of_cell? _ _ G; first | rwa [add_block] at this | exact this) x.out); have yg : y.block ≠ a := Nat.ne_of_lt (Nat.lt_of_lt_of_le (by have := World.block_lt_of_cell? _ _ G; first | rwa [add_block] at this | exact this) x.out); have yh : y.block ≠ a := Nat.ne_of_lt (Nat.lt_of_lt_of_le (by have := World.block_lt_of_cell? _ _ G; first | rwa [add_block] at this | exact this) x.out); replace G := (HB.out.cell (World.block_lt_of_cell? w _ G)).trans G; replace xl := (HB.out.cell (World.block_lt_of_cell? w _ xl)).trans xl; replace xm := (HB.out.cell (World.block_lt_of_cell? w _ xm)).trans xm; replace xn := (HB.out.cell (World.block_lt_of_cell? w _ xn)).trans xn; replace G := (cell_far (p := ⟨a, 0, none⟩) AB (.int .i64 ((aj l0 m).f0))).trans G; replace xl := (cell_far (p := ⟨a, 0, none⟩) AB (.int .i64 ((aj l0 m).f0))).trans xl; replace xm := (cell_far (p := ⟨a, 0, none⟩) AB (.int .i64 ((aj l0 m).f0))).trans xm; replace xn := (cell_far (p := ⟨a, 0, none⟩) AB (.int .i64 ((aj l0 m).f0))).trans xn; replace G := (cell_far (p := ⟨a, 1, none⟩) AB (.string ((aj l0 m).f1))).trans G; replace xl := (cell_far (p := ⟨a, 1, none⟩) AB (.string ((aj l0 m).f1))).trans xl; replace xm := (cell_far (p := ⟨a, 1, none⟩) AB (.string ((aj l0 m).f1))).trans xm; replace xn := (cell_far (p := ⟨a, 1, none⟩) AB (.string ((aj l0 m).f1))).trans xn; replace G := (cell_far (p := ⟨a, 2, none⟩) AB (.int .i64 ((aj l0 m).f2))).trans G; replace xl := (cell_far (p := ⟨a, 2, none⟩) AB (.int .i64 ((aj l0 m).f2))).trans xl; replace xm := (cell_far (p := ⟨a, 2, none⟩) AB (.int .i64 ((aj l0 m).f2))).trans xm; replace xn := (cell_far (p := ⟨a, 2, none⟩) AB (.int .i64 ((aj l0 m).f2))).trans xn; replace G := (cell_far (p := ⟨a, 3, none⟩) AB (.int .i64 ((aj l0 m).f3))).trans G; replace xl := (cell_far (p := ⟨a, 3, none⟩) AB (.int .i64 ((aj l0 m).f3))).trans xl; replace xm := (cell_far (p := ⟨a, 3, none⟩) AB (.int .i64 ((aj l0 m).f3))).trans xm; replace xn := (cell_far (p := ⟨a, 3, none⟩) AB (.int .i64 ((aj l0 m).f3))).trans xn; clear ye yf yg yh; replace yc := eq_true yc; replace yd := eq_true yd) | ((with_reducible refine ay (f := 139) rfl ?_); refine aW (some 90) Tryz.func139 #[.string a2, .string ((aj l0 ((aj l0 m).f2)).f1)] ?_; (with_reducible refine (dA.calls k a2 ((aj l0 ((aj l0 m).f2)).f1) xB _ zn.out).mono ?_); rintro e w' ⟨rfl, ⟨nd, rfl⟩⟩; refine ⟨_, rfl, ?_⟩)));go_ret;exact ⟨EWW, BL⟩
def mG.f (k : Nat) (l0 : List (dG)) (a1 : ByteArray) : Option (Bool) := (dD.f k l0).bind fun t347 => (if t347 = true then ((bC.f k a1).bind fun t348 => (if t348 = true then ((bQ.f k l0 (wrap64 ((l0.length : Int) - 1)) a1).bind fun t349 => (some t349)) else (some false))) else (some false))
theorem mG.calls (k : Nat) (z : Option Addr) (A : Nat) (l0 : List (dG)) (y : ByteArray) (r : Bool) (w : World) (a : Kd.C jE w z l0.length l0) (m : l0.length ≤ A) (h : mG.f k l0 y = some r) :
  Calls Tryz.prog 69 #[.slice z l0.length A, .string y] w fun e w' => e = .returned (.bool r) ∧ Below w.heap.size w w' := by
 have o := ah.mk a;have u := ah.mk m;clear a m;have HB := ah.mk (Below.refl w.heap.size w);unfold mG.f at h;have H := h;clear h;replace H := be H; obtain ⟨G, J, H⟩ := H;replace H := ah.mk H;go_enter Tryz.func69, Tryz.ntmps69;go_wp2_with (first | ((with_reducible refine ay (f := 89) rfl ?_); refine aW (some 6) Tryz.func89 #[.slice z l0.length A] ?_; (with_reducible refine (dD.calls k _ _ l0 _ _ ?side1 ?side2 J.out).mono ?_); (case side1 => repeat (first | exact o.out | (with_reducible refine Kd.gB ?_ _) | (with_reducible refine Kd.gD ?_ _) | (with_reducible refine Kd.iw ?_))); (case side2 => exact u.out); rintro e D ⟨rfl, hb⟩; refine ⟨_, rfl, ?_⟩; replace HB := BS (w := w) hb; (try clear hb); refine bP ?_));refine Hide.mk ?_;replace H := H.out;replace H := ifB H; rcases H with ⟨rfl, H⟩ | ⟨rfl, H⟩
 ·replace H := be H; obtain ⟨I, K, H⟩ := H;replace H := ah.mk H;go_wp2_with (first | (go_at_call 104; (with_reducible refine (bC.calls k y _ _ K.out).mono ?_); rintro e w' ⟨rfl, ⟨nd, rfl⟩⟩; refine bP ?_));refine Hide.mk ?_;replace H := H.out;replace H := ifB H; rcases H with ⟨rfl, H⟩ | ⟨rfl, H⟩
  ·replace H := be H; obtain ⟨x, L, H⟩ := H;obtain rfl := Option.some.inj H;(try go_wp2_with (first | (go_at_call 105; (with_reducible refine (bQ.calls k _ _ l0 (wrap64 ((l0.length : Int) - 1)) y x _ ?side1 ?side2 L.out).mono ?_); (case side1 => repeat (first | exact (Kd.eP o.out BL) | (with_reducible refine Kd.gB ?_ _) | (with_reducible refine Kd.gD ?_ _) | (with_reducible refine Kd.iw ?_))); (case side2 => exact u.out); rintro e E ⟨rfl, hb⟩; replace HB := BS (w := w) hb; (try clear hb))));go_ret;exact ⟨EWW, BL⟩
  ·obtain rfl := Option.some.inj H;(try go_wp2);go_ret;exact ⟨EWW, BL⟩
 ·obtain rfl := Option.some.inj H;(try go_wp2);go_ret;exact ⟨EWW, BL⟩
def bW.l0 : Nat → ByteArray → Int → Option (Bool)
 | 0, _, _ => none
 | k + 1, a, b => if b < (a.size : Int) then (if 0 ≤ b then (if (bt a b) = 63 then (bW.l0 k a (wrap64 (b + 1))) else (if (bt a b) < 97 then (some false) else (if (bt a b) > 122 then (some false) else (bW.l0 k a (wrap64 (b + 1)))))) else (none)) else (some true)
def bW.f (k : Nat) (a0 : ByteArray) : Option (Bool) := (bB.f (a0.size : Int) 1 8).bind fun t350 => (if t350 = true then (bW.l0 k a0 0) else (some false))
theorem bW.calls (k : Nat) (m : ByteArray) (r : Bool) (w : World) (h : bW.f k m = some r) :
  Calls Tryz.prog 106 #[.string m] w fun e w' => e = .returned (.bool r) ∧ cB w w' := by
 unfold bW.f at h;have H := h;clear h;replace H := be H; obtain ⟨E, A2, H⟩ := H;replace H := ah.mk H;go_enter Tryz.func106, Tryz.ntmps106;go_wp2_with (first | ((with_reducible refine ay (f := 56) rfl ?_); refine aW (some 6) Tryz.func56 #[.int .i64 (m.size : Int), .int .i64 1, .int .i64 8] ?_; (with_reducible refine (bB.calls (m.size : Int) 1 8 _ _ A2.out).mono ?_); rintro e w' ⟨rfl, ⟨nd, rfl⟩⟩; refine ⟨_, rfl, ?_⟩; refine bP ?_));refine Hide.mk ?_;replace H := H.out;replace H := ifB H; rcases H with ⟨rfl, H⟩ | ⟨rfl, H⟩
 ·have H' := ah.mk H;clear H;try go_wp2
  go_loopg [3] k (fun kq I w' => ∃ (a : Int), I = .int .i64 a ∧ ah (bW.l0 kq m a = some r) ∧ ah (kq ≤ k) ∧ cB w w')
  case atStart => exact ⟨_, EQ, H', ⟨Nat.le_refl _⟩, DR⟩
  case round =>
   clear H';(try clear c3);obtain ⟨a, rfl, HA, u, ⟨m1, rfl⟩⟩ := hrel
   cases gk with
   | zero => exact absurd HA.out (by simp [bW.l0])
   | succ k1 =>
    have H := HA.out;clear HA;simp only [bW.l0] at H;replace H := ifD H; rcases H with ⟨y, H⟩ | ⟨y, H⟩
    ·replace H := ifN H; obtain ⟨G, H⟩ := H;have L : (0 ≤ (a : Int)) = True := OT;have M : (a < (m.size : Int)) = True := OT;have hx6 := fT m a;replace H := ifE H; rcases H with ⟨z, A, H⟩ | ⟨c7, z, A, H⟩
     ·have H' := ah.mk H;clear H;go_wp2;go_roundg k1;case measure => have := u.out; omega
      case rel => exact ⟨_, EQ, H', ks u, DR⟩
     ·have O : (0 ≤ (a : Int)) = True := OT;have P : (a < (m.size : Int)) = True := OT;have hx8 := fT m a;replace H := ifD H; rcases H with ⟨D, H⟩ | ⟨D, H⟩
      ·obtain rfl := Option.some.inj H;go_wp2;go_ret;exact ⟨EQ, DR⟩
      ·have J : (0 ≤ (a : Int)) = True := OT;have K : (a < (m.size : Int)) = True := OT;have hx10 := fT m a;by_cases o : (bt m a) > 122
       ·rw [if_pos o] at H;have x : decide (122 < (bt m a)) = true := decide_eq_true o;clear o;obtain rfl := Option.some.inj H;go_wp2;go_ret;exact ⟨EQ, DR⟩
       ·rw [if_neg o] at H;have x : decide (122 < (bt m a)) = false := decide_eq_false o;clear o;have H' := ah.mk H;clear H;go_wp2;go_roundg k1;case measure => have := u.out; omega
        case rel => exact ⟨_, EQ, H', ks u, DR⟩
    ·obtain rfl := Option.some.inj H;go_wp2;go_ret;exact ⟨EQ, DR⟩
 ·obtain rfl := Option.some.inj H;(try go_wp2);go_ret;exact ⟨EQ, DR⟩
mutual
def bE.j0 : Nat → ByteArray → ByteArray → Bool → Option (Bool)
 | 0, _, _, _ => none
 | k + 1, a, b, c => if c = true then (some false) else (bE.l0 k a b 0)
def bE.l0 : Nat → ByteArray → ByteArray → Int → Option (Bool)
 | 0, _, _, _ => none
 | k + 1, a, b, c => if c < (a.size : Int) then (if 0 ≤ c then (if (bt a c) = 63 then (bE.l0 k a b (wrap64 (c + 1))) else (if c < (b.size : Int) then (if (bt a c) = (bt b c) then (bE.l0 k a b (wrap64 (c + 1))) else (some false)) else (none))) else (none)) else (some true)
end
def bE.f (k : Nat) (a0 a1 : ByteArray) : Option (Bool) := (bW.f k a0).bind fun t351 => (if t351 = true then ((bC.f k a1).bind fun t352 => (if t352 = true then (bE.j0 k a0 a1 ((a0.size : Int) != (a1.size : Int))) else (bE.j0 k a0 a1 true))) else (bE.j0 k a0 a1 true))
theorem bE.calls (k : Nat) (m u : ByteArray) (r : Bool) (w : World) (h : bE.f k m u = some r) :
  Calls Tryz.prog 70 #[.string m, .string u] w fun e w' => e = .returned (.bool r) ∧ cB w w' := by
 unfold bE.f at h;have H := h;clear h;have A := ah.mk H;clear H;go_enter Tryz.func70, Tryz.ntmps70;go_upto_region 1 with (fail)
 repeat (go_quiet (fail); go_upto_region 1 with (fail))
 go_cut [20] (fun M wc => ∃ (kq : Nat) (o : Bool), M = .bool o ∧ ah (bE.j0 kq m u o = some r) ∧ ah (kq ≤ k) ∧ cB w wc)
 case first =>
  have H := A.out;clear A;replace H := be H; obtain ⟨U, x, H⟩ := H;replace H := ifB H; rcases H with ⟨rfl, H⟩ | ⟨rfl, H⟩
  ·replace H := be H; obtain ⟨Y, J, H⟩ := H;replace H := ifB H; rcases H with ⟨rfl, H⟩ | ⟨rfl, H⟩
   ·have H' := ah.mk H;clear H
    repeat (go_wp2_with (first | (go_at_call 106; (with_reducible refine (bW.calls k m _ _ x.out).mono ?_); rintro e w' ⟨rfl, ⟨nd, rfl⟩⟩; (try first | exact da | exact DD)) | (go_at_call 104; (with_reducible refine (bC.calls k u _ _ J.out).mono ?_); rintro e w' ⟨rfl, ⟨nd, rfl⟩⟩; (try first | exact da | exact DD))); go_quiet (first | (go_at_call 106; (with_reducible refine (bW.calls k m _ _ x.out).mono ?_); rintro e w' ⟨rfl, ⟨nd, rfl⟩⟩; (try first | exact da | exact DD)) | (go_at_call 104; (with_reducible refine (bC.calls k u _ _ J.out).mono ?_); rintro e w' ⟨rfl, ⟨nd, rfl⟩⟩; (try first | exact da | exact DD))))
    go_wp2_with (first | (go_at_call 106; (with_reducible refine (bW.calls k m _ _ x.out).mono ?_); rintro e w' ⟨rfl, ⟨nd, rfl⟩⟩; (try first | exact da | exact DD)) | (go_at_call 104; (with_reducible refine (bC.calls k u _ _ J.out).mono ?_); rintro e w' ⟨rfl, ⟨nd, rfl⟩⟩; (try first | exact da | exact DD)));go_meet;case rel => exact ⟨_, _, EQ, H', ⟨by first | omega | exact Nat.le_refl _⟩, DR⟩
   ·have H' := ah.mk H;clear H
    repeat (go_wp2_with (first | (go_at_call 106; (with_reducible refine (bW.calls k m _ _ x.out).mono ?_); rintro e w' ⟨rfl, ⟨nd, rfl⟩⟩; (try first | exact da | exact DD)) | (go_at_call 104; (with_reducible refine (bC.calls k u _ _ J.out).mono ?_); rintro e w' ⟨rfl, ⟨nd, rfl⟩⟩; (try first | exact da | exact DD))); go_quiet (first | (go_at_call 106; (with_reducible refine (bW.calls k m _ _ x.out).mono ?_); rintro e w' ⟨rfl, ⟨nd, rfl⟩⟩; (try first | exact da | exact DD)) | (go_at_call 104; (with_reducible refine (bC.calls k u _ _ J.out).mono ?_); rintro e w' ⟨rfl, ⟨nd, rfl⟩⟩; (try first | exact da | exact DD))))
    go_wp2_with (first | (go_at_call 106; (with_reducible refine (bW.calls k m _ _ x.out).mono ?_); rintro e w' ⟨rfl, ⟨nd, rfl⟩⟩; (try first | exact da | exact DD)) | (go_at_call 104; (with_reducible refine (bC.calls k u _ _ J.out).mono ?_); rintro e w' ⟨rfl, ⟨nd, rfl⟩⟩; (try first | exact da | exact DD)));go_meet;case rel => exact ⟨_, _, EQ, H', ⟨by first | omega | exact Nat.le_refl _⟩, DR⟩
  ·have H' := ah.mk H;clear H
   repeat (go_wp2_with (first | (go_at_call 106; (with_reducible refine (bW.calls k m _ _ x.out).mono ?_); rintro e w' ⟨rfl, ⟨nd, rfl⟩⟩; (try first | exact da | exact DD))); go_quiet (first | (go_at_call 106; (with_reducible refine (bW.calls k m _ _ x.out).mono ?_); rintro e w' ⟨rfl, ⟨nd, rfl⟩⟩; (try first | exact da | exact DD))))
   go_wp2_with (first | (go_at_call 106; (with_reducible refine (bW.calls k m _ _ x.out).mono ?_); rintro e w' ⟨rfl, ⟨nd, rfl⟩⟩; (try first | exact da | exact DD)));go_meet;case rel => exact ⟨_, _, EQ, H', ⟨by first | omega | exact Nat.le_refl _⟩, DR⟩
 case rest =>
  clear A;obtain ⟨kq, o, rfl, HA, y, ⟨mc2, rfl⟩⟩ := hcut
  cases kq with
  | zero => exact absurd HA.out (by simp [bE.j0])
  | succ K =>
   have H := HA.out;clear HA;simp only [bE.j0] at H;replace H := ifB H; rcases H with ⟨rfl, H⟩ | ⟨rfl, H⟩
   ·obtain rfl := Option.some.inj H;go_wp2
    repeat (go_quiet (fail); try go_wp2)
    go_ret;exact ⟨EQ, DR⟩
   ·have H' := ah.mk H;clear H;go_wp2
    repeat (go_quiet (fail); try go_wp2)
    go_loopg [5] K (fun kq Z w' => ∃ (a : Int), Z = .int .i64 a ∧ ah (bE.l0 kq m u a = some r) ∧ ah (kq ≤ K) ∧ cB w w')
    case atStart => exact ⟨_, EQ, H', ⟨Nat.le_refl _⟩, DR⟩
    case round =>
     clear H';(try clear c8);obtain ⟨a, rfl, HA, z, ⟨m2, rfl⟩⟩ := hrel
     cases gk with
     | zero => exact absurd HA.out (by simp [bE.l0])
     | succ k2 =>
      have H := HA.out;clear HA;simp only [bE.l0] at H;replace H := ifD H; rcases H with ⟨L, H⟩ | ⟨L, H⟩
      ·replace H := ifN H; obtain ⟨O, H⟩ := H;have xa : (0 ≤ (a : Int)) = True := OT;have xb : (a < (m.size : Int)) = True := OT;have hx11 := fT m a;replace H := ifE H; rcases H with ⟨D, E, H⟩ | ⟨xc, D, E, H⟩
       ·have H' := ah.mk H;clear H;go_wp2
        repeat (go_quiet (fail); try go_wp2)
        go_roundg k2;case measure => have := y.out; have := z.out; omega
        case rel => exact ⟨_, EQ, H', ⟨by have := y.out; have := z.out; omega⟩, DR⟩
       ·replace H := ifN H; obtain ⟨P, H⟩ := H;have xd : (0 ≤ (a : Int)) = True := OT;have xe : (a < (m.size : Int)) = True := OT;have hx13 := fT m a;have xf : (0 ≤ (a : Int)) = True := OT;have xg : (a < (u.size : Int)) = True := OT;have hx15 := fT u a;replace H := ifE H; rcases H with ⟨G, I, H⟩ | ⟨xh, G, I, H⟩
        ·have H' := ah.mk H;clear H;go_wp2
         repeat (go_quiet (fail); try go_wp2)
         go_roundg k2;case measure => have := y.out; have := z.out; omega
         case rel => exact ⟨_, EQ, H', ⟨by have := y.out; have := z.out; omega⟩, DR⟩
        ·obtain rfl := Option.some.inj H;go_wp2
         repeat (go_quiet (fail); try go_wp2)
         go_ret;exact ⟨EQ, DR⟩
      ·obtain rfl := Option.some.inj H;go_wp2
       repeat (go_quiet (fail); try go_wp2)
       go_ret;exact ⟨EQ, DR⟩
def gG.l0 : Nat → List ByteArray → ByteArray → Int → Option (Bool)
 | 0, _, _, _ => none
 | k + 1, a, b, c => if c < (a.length : Int) then (if 0 ≤ c then (if (fF ByteArray.empty a c).toList = b.toList then (some true) else (gG.l0 k a b (wrap64 (c + 1)))) else (none)) else (some false)
def gG.f (k : Nat) (l0 : List ByteArray) (a1 : ByteArray) : Option (Bool) := gG.l0 k l0 a1 0
theorem gG.calls (k : Nat) (L : Option Addr) (M : Nat) (l0 : List ByteArray) (I : ByteArray) (r : Bool) (w : World) (u : Kd.C Kd.string w L l0.length l0) (x : l0.length ≤ M) (h : gG.f k l0 I = some r) :
  Calls Tryz.prog 71 #[.slice L l0.length M, .string I] w fun e w' => e = .returned (.bool r) ∧ cB w w' := by
 have J := ah.mk u;have P := ah.mk x;clear u x;have H : (gG.l0 k l0 I 0) = some r := h;clear h;have H' := ah.mk H;clear H;go_enter Tryz.func71, Tryz.ntmps71;go_wp2
 go_loopg [5] k (fun kq U w' => ∃ (a : Int), U = .int .i64 a ∧ ah (gG.l0 kq l0 I a = some r) ∧ ah (kq ≤ k) ∧ cB w w')
 case atStart => exact ⟨_, EQ, H', ⟨Nat.le_refl _⟩, DR⟩
 case round =>
  clear H';obtain ⟨a, rfl, HA, y, ⟨m1, rfl⟩⟩ := hrel
  cases gk with
  | zero => exact absurd HA.out (by simp [gG.l0])
  | succ k1 =>
   have H := HA.out;clear HA;simp only [gG.l0] at H;replace H := ifD H; rcases H with ⟨z, H⟩ | ⟨z, H⟩
   ·replace H := ifN H; obtain ⟨O, H⟩ := H;have m : 0 ≤ (a : Int) := OD;have o : a < (l0.length : Int) := OD;obtain ⟨K, A, D⟩ := Kd.jv J.out a m o
    cases A
    replace m := eq_true m;replace o := eq_true o;replace H := ifE H; rcases H with ⟨E, G, H⟩ | ⟨c5, E, G, H⟩
    ·obtain rfl := Option.some.inj H;go_wp2;go_ret;exact ⟨EQ, DR⟩
    ·have H' := ah.mk H;clear H;go_wp2;go_roundg k1;case measure => have := y.out; omega
     case rel => exact ⟨_, EQ, H', ks y, DR⟩
   ·obtain rfl := Option.some.inj H;go_wp2;go_ret;exact ⟨EQ, DR⟩
mutual
def aU.l0 : Nat → List (S62) → List ByteArray → ByteArray → Int → List ByteArray → Int → Int → List (dG) → Option (List ByteArray)
 | 0, _, _, _, _, _, _, _, _ => none
 | k + 1, a, b, c, d, e, f, g, h => if f < (b.length : Int) then ((bB.f d 0 3).bind fun i => (aU.j1 k a b c d e f i g h)) else (aU.j1 k a b c d e f false g h)
def aU.j1 : Nat → List (S62) → List ByteArray → ByteArray → Int → List ByteArray → Int → Bool → Int → List (dG) → Option (List ByteArray)
 | 0, _, _, _, _, _, _, _, _, _ => none
 | k + 1, a, b, c, d, e, f, g, h, i => if g = true then (if 0 ≤ f then (if f < (b.length : Int) then (if (Int.tmod d 2) = 0 then (aU.j2 k a b c d e f (fF ByteArray.empty b f) true h i) else ((fD.f k a (fF ByteArray.empty b f) h).bind fun j => (aU.j2 k a b c d e f (fF ByteArray.empty b f) j h i))) else (none)) else (none)) else (some e)
def aU.j2 : Nat → List (S62) → List ByteArray → ByteArray → Int → List ByteArray → Int → ByteArray → Bool → Int → List (dG) → Option (List ByteArray)
 | 0, _, _, _, _, _, _, _, _, _, _ => none
 | k + 1, a, b, c, d, e, f, g, h, i, j => if d < 2 then (aU.j3 k a b c d e f g h true i j) else ((mG.f k j g).bind fun l => (aU.j3 k a b c d e f g h l i j))
def aU.j3 : Nat → List (S62) → List ByteArray → ByteArray → Int → List ByteArray → Int → ByteArray → Bool → Bool → Int → List (dG) → Option (List ByteArray)
 | 0, _, _, _, _, _, _, _, _, _, _, _ => none
 | k + 1, a, b, c, d, e, f, g, h, i, j, l => (bE.f k c g).bind fun m => (if m = true then (if h = true then (if i = true then ((gG.f k e g).bind fun n => (if n = true then (aU.l0 k a b c d e (wrap64 (f + 1)) j l) else (if e.length < 8796093022208 then (aU.l0 k a b c d (e ++ [g]) (wrap64 (f + 1)) j l) else (none)))) else (aU.l0 k a b c d e (wrap64 (f + 1)) j l)) else (aU.l0 k a b c d e (wrap64 (f + 1)) j l)) else (aU.l0 k a b c d e (wrap64 (f + 1)) j l))
end
def aU.f (k : Nat) (Lh : Int) (l0_1 : List (dG)) (l1 : List (S62)) (l2 : List ByteArray) (a3 : ByteArray) (a4 : Int) : Option (List ByteArray) := aU.l0 k l1 l2 a3 a4 (([] : List ByteArray)) 0 Lh l0_1
theorem aU.calls (k : Nat) (Lh : Int) (I : Option Addr) (J : Nat) (u : List (dG)) (A1 : Option Addr) (c1 : Nat) (l1 : List (S62)) (A2 : Option Addr) (c2 : Nat) (l2 : List ByteArray) (a3 : ByteArray) (a4 : Int) (r : List ByteArray) (w : World) (xe : Kd.C jE w I u.length u) (xf : u.length ≤ J) (hr1 : Kd.C k62 w A1 l1.length l1) (hc1 : l1.length ≤ c1) (hr2 : Kd.C Kd.string w A2 l2.length l2) (hc2 : l2.length ≤ c2) (h : aU.f k Lh u l1 l2 a3 a4 = some r) :
  Calls Tryz.prog 42 #[.agg #[.int .i64 Lh, .slice I u.length J], .slice A1 l1.length c1, .slice A2 l2.length c2, .string a3, .int .i64 a4] w fun e w' => ∃ v0_ : Value, e = .returned (v0_) ∧ Kd.R Kd.string 9 w' w.heap.size (fun _ => True) v0_ r ∧ Below w.heap.size w w' := by
 have ym := Tryz.underlying72;have xt := ah.mk xe;have xu := ah.mk xf;clear xe xf;have xS := ah.mk hr1;have xT := ah.mk hc1;clear hr1 hc1;have xU := ah.mk hr2;have yr := ah.mk hc2;clear hr2 hc2;have HB := ah.mk (Below.refl w.heap.size w);unfold aU.f at h;have H := h;clear h;obtain ⟨xK, M⟩ : ∃ y_ : List ByteArray, y_ = (([] : List ByteArray)) := ⟨_, rfl⟩;replace H : (aU.l0 k l1 l2 a3 a4 xK 0 Lh u) = some r := by first | (rw [M]; with_reducible exact H) | (have H2_ := (Option.bind_some _ _).symm.trans H; rw [M]; with_reducible exact H2_) | (have H2_ := (Option.bind_some _ _).symm.trans H; with_reducible exact H2_) | with_reducible exact H | (rw [M]; exact H) | exact H
 have xg := ah.mk M;clear M;have H' := ah.mk H;clear H;go_enter Tryz.func42, Tryz.ntmps42;go_wp2_with (first | ((with_reducible refine aJ (N := 5) rfl ?_); refine aY (N := 5) (cs := #[.int .i64 Lh, .slice I u.length J]) (t := 72) ?_; intro O hg w6 hbox hb; have y := ah.mk hbox; have xv := SZ (w := w) hg; have xV := xv; replace HB := BS (w := w) hb; clear hb hbox hg) | ((with_reducible refine aJ (N := 16) rfl ?_); refine Kd.tN Kd.string _ 9 ?hg (N := 16) ?hd (xs := ([] : List ByteArray)) (inner := []) (ok := fun _ => True) (okp := fun _ => True) ?hr ?hp (fun _ hk => hk) trivial (Below.refl _ _) (Nat.le_refl _) (by simp) ?_; (case hd => rfl); (case hg => rfl); (case hr => first | (go_simp; done) | (go_simp; rfl)); (case hp => exact (ig.none _ _)); intro yn w7 xh hb hg_ hnew_; clear hg_ hnew_; (first | rw [← xg.out] at xh | (simp only [Int.reduceToNat] at xh; rw [← xg.out] at xh)); replace y := KB y hb; have xw := ah.mk (Kd.cK xh (aM BL)); replace HB := BS (w := w) hb; clear hb xh))
 go_loopg [11, 12] k (fun kq xW xX w' => ∃ (x : List ByteArray) (m : Int), xX = .int .i64 m ∧ ah (aU.l0 kq l1 l2 a3 a4 x m Lh u = some r) ∧ ah (kq ≤ k) ∧ ah (Kd.R Kd.string 9 w' w.heap.size (fun _ => True) xW x) ∧ ah (w'.heap[O]? = some (.cells #[.int .i64 Lh, (.slice I u.length J)] 72 (0, 0))) ∧ ah (Below w.heap.size w w'))
 case atStart => exact ⟨_, _, EQ, H', ⟨Nat.le_refl _⟩, ⟨(RR xw)⟩, ⟨BK⟩, ⟨BL⟩⟩
 case round =>
  clear H';(try clear c1);(try clear c2);obtain ⟨x, m, rfl, HA, D, a, y, HB⟩ := hrel
  cases gk with
  | zero => exact absurd HA.out (by simp [aU.l0])
  | succ k1 =>
   have H := HA.out;clear HA;simp only [aU.l0] at H;have xx := ah.mk H;clear H;go_upto_region 3 with (fail)
   go_cut [24] (fun xY wc => ∃ (kq : Nat) (xd : Bool), xY = .bool xd ∧ ah (aU.j1 kq l1 l2 a3 a4 x m xd Lh u = some r) ∧ ah (kq ≤ k1) ∧ ah (Kd.R Kd.string 9 wc w.heap.size (fun _ => True) u11 x) ∧ ah (wc.heap[O]? = some (.cells #[.int .i64 Lh, (.slice I u.length J)] 72 (0, 0))) ∧ ah (Below w.heap.size w wc))
   case first =>
    have H := xx.out;clear xx;replace H := ifD H; rcases H with ⟨P, H⟩ | ⟨P, H⟩
    ·(first | rw [P] | (simp only [gZ, iT]; rw [P]) | skip);replace H := be H; obtain ⟨xL, xZ, H⟩ := H;have H' := ah.mk H;clear H;go_wp2_with (first | (go_at_call 56; (with_reducible refine (bB.calls a4 0 3 xL _ xZ.out).mono ?_); rintro e w' ⟨rfl, ⟨nd, rfl⟩⟩));go_meet;case rel => exact ⟨_, _, EQ, H', ⟨by have := D.out; first | omega | exact Nat.le_refl _⟩, ⟨(RR a)⟩, ⟨BK⟩, ⟨BL⟩⟩
    ·(first | rw [P] | (simp only [gZ, iT]; rw [P]) | skip);have H' := ah.mk H;clear H;go_wp2;go_meet;case rel => exact ⟨_, _, EQ, H', ⟨by have := D.out; first | omega | exact Nat.le_refl _⟩, ⟨(RR a)⟩, ⟨BK⟩, ⟨BL⟩⟩
   case rest =>
    clear xx;(try clear c1);(try clear c2);obtain ⟨kq, xd, rfl, HA, G, a, y, HB⟩ := hcut
    cases kq with
    | zero => exact absurd HA.out (by simp [aU.j1])
    | succ xM =>
     have H := HA.out;clear HA;simp only [aU.j1] at H;replace H := ifB H; rcases H with ⟨rfl, H⟩ | ⟨rfl, H⟩
     ·replace H := ifN H; obtain ⟨xi, H⟩ := H;replace H := ifN H; obtain ⟨xj, H⟩ := H;have xk := ah.mk H;clear H;have xb : 0 ≤ (m : Int) := OD;have xc : m < (l2.length : Int) := OD;obtain ⟨ya, xN, A⟩ := Kd.jv xU.out m xb xc
      cases xN
      (try replace A := (HB.out.cell (World.block_lt_of_cell? w _ A)).trans A);replace xb := eq_true xb;replace xc := eq_true xc;go_upto_region 6 with (fail)
      go_cut [14] (fun yb wc => ∃ (kq : Nat) (L : Bool), yb = .bool L ∧ ah (aU.j2 kq l1 l2 a3 a4 x m (fF ByteArray.empty l2 m) L Lh u = some r) ∧ ah (kq ≤ xM) ∧ ah (Kd.R Kd.string 9 wc w.heap.size (fun _ => True) u11 x) ∧ ah (wc.heap[O]? = some (.cells #[.int .i64 Lh, (.slice I u.length J)] 72 (0, 0))) ∧ ah (Below w.heap.size w wc))
      case first =>
       have H := xk.out;clear xk;replace H := ifE H; rcases H with ⟨U, xy, H⟩ | ⟨ys, U, xy, H⟩
       ·(first | rw [U] | (simp only [gZ, iT]; rw [U]) | skip);have H' := ah.mk H;clear H;go_wp2;go_meet;case rel => exact ⟨_, _, EQ, H', ⟨by have := D.out; have := G.out; first | omega | exact Nat.le_refl _⟩, ⟨(RR a)⟩, ⟨BK⟩, ⟨BL⟩⟩
       ·(first | rw [U] | (simp only [gZ, iT]; rw [U]) | skip);replace H := be H; obtain ⟨xO, yc, H⟩ := H;have H' := ah.mk H;clear H;obtain ⟨xz, xA, xB, xC⟩ := cz2 y.out;go_wp2_with (first | (go_at_call 68; (with_reducible refine (fD.calls xM _ _ l1 (fF ByteArray.empty l2 m) Lh xO _ ?side1 ?side2 yc.out).mono ?_); (case side1 => exact CB xS); (case side2 => exact xT.out); rintro e w' ⟨rfl, ⟨nd, rfl⟩⟩));go_meet;case rel => exact ⟨_, _, EQ, H', ⟨by have := D.out; have := G.out; first | omega | exact Nat.le_refl _⟩, ⟨(RR a)⟩, ⟨BK⟩, ⟨BL⟩⟩
      case rest =>
       clear xk;(try clear c1);(try clear c2);(try clear yd);(try clear ye);(try clear xi);(try clear yf);(try clear xj);(try clear A);(try clear xb);(try clear xc);obtain ⟨kq, L, rfl, HA, z, a, y, HB⟩ := hcut
       cases kq with
       | zero => exact absurd HA.out (by simp [aU.j2])
       | succ xr =>
        have H := HA.out;clear HA;simp only [aU.j2] at H;have xl := ah.mk H;clear H;go_upto_region 7 with (fail)
        go_cut [15] (fun yg wc => ∃ (kq : Nat) (xa : Bool), yg = .bool xa ∧ ah (aU.j3 kq l1 l2 a3 a4 x m (fF ByteArray.empty l2 m) L xa Lh u = some r) ∧ ah (kq ≤ xr) ∧ ah (Kd.R Kd.string 9 wc w.heap.size (fun _ => True) u11 x) ∧ ah (wc.heap[O]? = some (.cells #[.int .i64 Lh, (.slice I u.length J)] 72 (0, 0))) ∧ ah (Below w.heap.size w wc))
        case first =>
         have H := xl.out;clear xl;replace H := ifD H; rcases H with ⟨Y, H⟩ | ⟨Y, H⟩
         ·(first | rw [Y] | (simp only [gZ, iT]; rw [Y]) | skip);have H' := ah.mk H;clear H;go_wp2;go_meet;case rel => exact ⟨_, _, EQ, H', ⟨by have := D.out; have := G.out; have := z.out; first | omega | exact Nat.le_refl _⟩, ⟨(RR a)⟩, ⟨BK⟩, ⟨BL⟩⟩
         ·(first | rw [Y] | (simp only [gZ, iT]; rw [Y]) | skip);replace H := be H; obtain ⟨xP, yh, H⟩ := H;have H' := ah.mk H;clear H;obtain ⟨xD, xE, xF, xG⟩ := cz2 y.out;go_wp2_with (first | (go_at_call 69; (with_reducible refine (mG.calls xr _ _ u (fF ByteArray.empty l2 m) xP _ ?side1 ?side2 yh.out).mono ?_); (case side1 => exact CB xt); (case side2 => exact xu.out); rintro e yi ⟨rfl, hb⟩; replace a := RB a hb; replace y := KB y hb; replace HB := BS (w := w) hb; (try clear hb); (try clear hb2); (try clear hk); (try clear hi)));go_meet;case rel => exact ⟨_, _, EQ, H', ⟨by have := D.out; have := G.out; have := z.out; first | omega | exact Nat.le_refl _⟩, ⟨(RR a)⟩, ⟨BK⟩, ⟨BL⟩⟩
        case rest =>
         clear xl;(try clear c1);(try clear c2);(try clear yd);(try clear ye);(try clear xi);(try clear yf);(try clear xj);(try clear A);(try clear xb);(try clear xc);obtain ⟨kq, xa, rfl, HA, E, a, y, HB⟩ := hcut
         cases kq with
         | zero => exact absurd HA.out (by simp [aU.j3])
         | succ K =>
          have H := HA.out;clear HA;simp only [aU.j3] at H;replace H := be H; obtain ⟨yo, yj, H⟩ := H;replace H := ah.mk H;go_wp2_with (first | ((with_reducible refine ay (f := 70) rfl ?_); refine aW (some 51) Tryz.func70 #[.string a3, .string (fF ByteArray.empty l2 m)] ?_; (with_reducible refine (bE.calls K a3 (fF ByteArray.empty l2 m) _ _ yj.out).mono ?_); rintro e w' ⟨rfl, ⟨nd, rfl⟩⟩; refine ⟨_, rfl, ?_⟩; refine bP ?_));refine Hide.mk ?_;replace H := H.out;replace H := ifB H; rcases H with ⟨rfl, H⟩ | ⟨rfl, H⟩
          ·replace H := ifB H; rcases H with ⟨rfl, H⟩ | ⟨rfl, H⟩
           ·replace H := ifB H; rcases H with ⟨rfl, H⟩ | ⟨rfl, H⟩
            ·replace H := be H; obtain ⟨yp, yk, H⟩ := H;replace H := ah.mk H;obtain ⟨xo, xp, xq⟩ := Kd.dO a.out;subst xq;go_wp2_with (first | (go_at_call 71; (with_reducible refine (gG.calls K _ _ x (fF ByteArray.empty l2 m) _ _ ?side1 ?side2 yk.out).mono ?_); (case side1 => exact CR2 a); (case side2 => exact (Kd.bO a.out).2.1); rintro e w' ⟨rfl, ⟨nd, rfl⟩⟩; refine bP ?_));refine Hide.mk ?_;replace H := H.out;replace H := ifB H; rcases H with ⟨rfl, H⟩ | ⟨rfl, H⟩
             ·have H' := ah.mk H;clear H;(try go_wp2);go_roundg K;case measure => have := D.out; have := G.out; have := z.out; have := E.out; omega
              case rel => exact ⟨_, _, EQ, H', ⟨by have := D.out; have := G.out; have := z.out; have := E.out; omega⟩, ⟨(RR a)⟩, ⟨BK⟩, ⟨BL⟩⟩
             ·replace H := ifP H; obtain ⟨xQ, H⟩ := H;have xH := ah.mk xQ;clear xQ;obtain ⟨xR, Z⟩ : ∃ y_ : List ByteArray, y_ = (x ++ [(fF ByteArray.empty l2 m)]) := ⟨_, rfl⟩;replace H : (aU.l0 K l1 l2 a3 a4 xR (wrap64 (m + 1)) Lh u) = some r := by first | (rw [Z]; with_reducible exact H) | (have H2_ := (Option.bind_some _ _).symm.trans H; rw [Z]; with_reducible exact H2_) | (have H2_ := (Option.bind_some _ _).symm.trans H; with_reducible exact H2_) | with_reducible exact H | (rw [Z]; exact H) | exact H
              have xI := ah.mk Z;clear Z;have H' := ah.mk H;clear H;(try go_wp2_with (first | ((with_reducible refine dU (b := .append) (xs := #[.tmp 64, .tmp 66]) rfl ?_); at_builtin; refine Kd.gU Kd.string (w0 := w) w.heap.size rfl (.tmp 64) (.tmp 66) 29 9 (.string ⟨#[]⟩) 16 rfl Tryz.underlying29 DV rfl (by decide) (by omega) (.slice xo x.length xp) x (fF ByteArray.empty l2 m) [.string (fF ByteArray.empty l2 m)] (fun _ => True) (fun _ => False) rfl rfl ?aP (fun _ hk => hk.elim) ?aF ?aO ?aB ?aS ?aL ?_; (case aP => exact rfl); (case aB => exact BL); (case aF => exact (fun _ _ => trivial)); (case aO => exact (RR a)); (case aS => exact (aM BL)); (case aL => have := xH.out; omega); intro yq yl ho hb hg hat; rw [← xI.out] at ho; replace y := ah.mk (eF (g := O) (o := .cells #[.int .i64 Lh, .slice I u.length J] 72 (0, 0)) BK hg (Kd.mR a.out y.out (by decide))); replace HB := ah.mk (hb); have xJ := ah.mk (ho); clear a; clear ho hb hg hat)));go_roundg K;case measure => have := D.out; have := G.out; have := z.out; have := E.out; omega
              case rel => exact ⟨_, _, EQ, H', ⟨by have := D.out; have := G.out; have := z.out; have := E.out; omega⟩, ⟨(RR xJ)⟩, ⟨BK⟩, ⟨BL⟩⟩
            ·have H' := ah.mk H;clear H;(try go_wp2);go_roundg K;case measure => have := D.out; have := G.out; have := z.out; have := E.out; omega
             case rel => exact ⟨_, _, EQ, H', ⟨by have := D.out; have := G.out; have := z.out; have := E.out; omega⟩, ⟨(RR a)⟩, ⟨BK⟩, ⟨BL⟩⟩
           ·have H' := ah.mk H;clear H;(try go_wp2);go_roundg K;case measure => have := D.out; have := G.out; have := z.out; have := E.out; omega
            case rel => exact ⟨_, _, EQ, H', ⟨by have := D.out; have := G.out; have := z.out; have := E.out; omega⟩, ⟨(RR a)⟩, ⟨BK⟩, ⟨BL⟩⟩
          ·have H' := ah.mk H;clear H;(try go_wp2);go_roundg K;case measure => have := D.out; have := G.out; have := z.out; have := E.out; omega
           case rel => exact ⟨_, _, EQ, H', ⟨by have := D.out; have := G.out; have := z.out; have := E.out; omega⟩, ⟨(RR a)⟩, ⟨BK⟩, ⟨BL⟩⟩
     ·obtain rfl := Option.some.inj H;go_wp2;go_ret;exact ⟨_, EWW, (RR a), BL⟩
def bN.l0 : Nat → ByteArray → ByteArray → List Int → Int → Option (ByteArray × Bool)
 | 0, _, _, _, _ => none
 | k + 1, a, b, c, d => if d < (c.length : Int) then (if 0 ≤ d then (if 0 ≤ (rd c d) then (if (rd c d) ≤ (a.size : Int) then (if d ≤ (wrap64 (d + 1)) then (if (wrap64 (d + 1)) ≤ (b.size : Int) then (if (a.extract 0 ((rd c d) : Int).toNat).size + (b.extract (d : Int).toNat ((wrap64 (d + 1)) : Int).toNat).size ≤ 9223372036854775807 then (if 0 ≤ (wrap64 ((rd c d) + 1)) then (if (wrap64 ((rd c d) + 1)) ≤ (a.size : Int) then (if ((a.extract 0 ((rd c d) : Int).toNat) ++ (b.extract (d : Int).toNat ((wrap64 (d + 1)) : Int).toNat)).size + (a.extract ((wrap64 ((rd c d) + 1)) : Int).toNat a.size).size ≤ 9223372036854775807 then (bN.l0 k (((a.extract 0 ((rd c d) : Int).toNat) ++ (b.extract (d : Int).toNat ((wrap64 (d + 1)) : Int).toNat)) ++ (a.extract ((wrap64 ((rd c d) + 1)) : Int).toNat a.size)) b c (wrap64 (d + 1))) else (none)) else (none)) else (none)) else (none)) else (none)) else (none)) else (none)) else (none)) else (none)) else (some (a, true))
def bN.f (k : Nat) (Lh Li : Int) (Lj a1 : ByteArray) (a2 : Int) (a3 : ByteArray) : Option (ByteArray × Bool) := (bn.f k Lh Li Lj a1 a2).bind fun t368 => ((bE.f k t368 a3).bind fun t369 => (if t369 = true then ((aN.f k Lh Li Lj).bind fun t370 => (if 0 ≤ a2 then (if a2 < (t370.length : Int) then ((bJ.f k Lh Li Lj ((aQ t370 a2).f0) ((aQ t370 a2).f1) ((aQ t370 a2).f2) ((aQ t370 a2).f3)).bind fun t374 => (bN.l0 k a1 a3 t374 0)) else (none)) else (none))) else (some (a1, false))))
def bN.T3 : Bool × List (List Nat × List Nat) := (true, [([], []), ([], []), ([1], [1]), ([], []), ([2, 3], [2, 3]), ([4], [4]), ([0, 5, 2], [0, 5]), ([6, 6, 0, 1, 2, 3, 4, 5, 6], [6])])
def bN.B3 : List Nat := [0, 0, 2, 0, 14, 30, 63, 127]
theorem bN.Ld : kS .any (opsOf Tryz.f85 3) = bN.T3 := by kernel_rfl
theorem bN.KN : iZ bN.T3.2 bN.B3 = true := by kernel_rfl
def bN.T7 : Bool × List (List Nat × List Nat) := (true, [([], []), ([], []), ([], []), ([1, 2], [1, 2]), ([3], [3]), ([0, 4], [0, 4]), ([], []), ([], []), ([], []), ([8], [8]), ([6, 7, 9], [6, 7, 9]), ([5, 10], [5, 10]), ([], []), ([], []), ([], []), ([13, 14], [13, 14]), ([15], [15]), ([16], [16]), ([12, 17], [12, 17]), ([11, 18], [11, 18]), ([19, 0, 1, 2, 3, 4, 5, 6, 7, 8, 9, 10, 11, 12, 13, 14, 15, 16, 17, 18, 19], [0, 12, 19])])
def bN.B7 : List Nat := [0, 0, 0, 6, 14, 31, 0, 0, 0, 256, 960, 2047, 0, 0, 0, 24576, 57344, 122880, 258048, 524287, 1048575]
theorem bN.Kq : kS .any (opsOf Tryz.f85 7) = bN.T7 := by kernel_rfl
theorem bN.GQ : iZ bN.T7.2 bN.B7 = true := by kernel_rfl
theorem bN.calls (k : Nat) (Lh Li : Int) (Lj a1 : ByteArray) (a2 : Int) (a3 r1 : ByteArray) (r2 : Bool) (w : World) (h : bN.f k Lh Li Lj a1 a2 a3 = some (r1, r2)) :
  Calls Tryz.prog 85 #[.agg #[.int .i64 Lh, .int .i64 Li, .string Lj], .string a1, .int .i64 a2, .string a3] w fun e w' => e = .returned (.tuple #[.string r1, .bool r2]) ∧ Below w.heap.size w w' := by
 have hu34 := Tryz.underlying34
 have hu92 := Tryz.underlying92
 have HB := ah.mk (Below.refl w.heap.size w)
 unfold bN.f at h
 have H := h
 clear h
 replace H := be H; obtain ⟨t368, A5, H⟩ := H
 replace H := be H; obtain ⟨t369, A6, H⟩ := H
 replace H := ah.mk H
 go_enter Tryz.func85, Tryz.ntmps85
 go_wp2_with (first | ((with_reducible refine aJ (N := 4) rfl ?_); refine aY (N := 4) (cs := #[.int .i64 Lh, .int .i64 Li, .string Lj]) (t := 34) ?_; intro gb367 hg w9000 hbox hb; have BK367 := ah.mk hbox; have GW367 := SZ (w := w) hg; have GE367 := GW367; replace HB := BS (w := w) hb; clear hb hbox hg; obtain ⟨hcz9001_0, hcz9001_1, hcz9001_2, hfz9001_0, hfz9001_1, hfz9001_2⟩ := cz3 BK367.out) | ((with_reducible refine ay (f := 40) rfl ?_); refine aW (some 15) Tryz.func40 #[.agg #[.int .i64 Lh, .int .i64 Li, .string Lj], .string a1, .int .i64 a2] ?_; (with_reducible refine (bn.calls k Lh Li Lj a1 a2 t368 _ A5.out).mono ?_); rintro e w9002 ⟨rfl, hb⟩; refine ⟨_, rfl, ?_⟩; replace BK367 := KB BK367 hb; replace HB := BS (w := w) hb; (try clear hb)) | ((with_reducible refine ay (f := 70) rfl ?_); refine aW (some 17) Tryz.func70 #[.string t368, .string a3] ?_; (with_reducible refine (bE.calls k t368 a3 _ _ A6.out).mono ?_); rintro e w' ⟨rfl, ⟨nd, rfl⟩⟩; refine ⟨_, rfl, ?_⟩; refine bP ?_))
 refine Hide.mk ?_
 replace H := H.out
 replace H := ifB H; rcases H with ⟨rfl, H⟩ | ⟨rfl, H⟩
 ·replace H := be H; obtain ⟨t370, A8, H⟩ := H
  replace H := ifN H; obtain ⟨c9b0, H⟩ := H
  replace H := ifN H; obtain ⟨c10b0, H⟩ := H
  replace H := be H; obtain ⟨t374, A11, H⟩ := H
  have H' := ah.mk H
  clear H
  try go_wp2
  (try (rw [oO w9002]; generalize hq_ : World.drewN w9002 _ = w9002; have n0_ : ah (w9002.heap[gb367]? = some (.cells #[.int .i64 Lh, .int .i64 Li, .string Lj] 34 (0, 0))) := ⟨by rw [← hq_]; exact BK⟩; have n1_ : ah (Below w.heap.size w w9002) := ⟨by rw [← hq_]; exact BL⟩; clear BK367 HB hq_; have BK367 := n0_; have HB := n1_; clear n0_ n1_))
  replace BK367 := ah.mk (aH BK367.out)
  replace HB := ah.mk (dL HB.out)
  refine jl (n := 8) (S := fun w' => w'.cell? ⟨gb367, 0, none⟩ = some (.int .i64 Lh) ∧ w'.cell? ⟨gb367, 1, none⟩ = some (.int .i64 Li) ∧ w'.cell? ⟨gb367, 2, none⟩ = some (.string Lj)) (ds := []) #[F,F,F,F,F,F,F,F] (by kernel_rfl) rfl rfl ⟨(ak BK367.out 0).trans rfl, (ak BK367.out 1).trans rfl, (ak BK367.out 2).trans rfl⟩ (fun hHeld => ?_); refine iM bN.Ld bN.KN (fun HT_ HW_ => ?_)
  generalize w9002.drew = w9003 at BK367 HB hHeld ⊢
  refine puS (i := 3) (N := some 23) #[F,F,F,T,F,F,F,F] (jk HT_.out (by kernel_rfl)) ?_
  refine taS (i := 0) (N := some 20) #[T,F,F,T,F,F,F,F] (rA HT_.out HW_.out (by kernel_rfl)) hHeld ?_
  refine taS (i := 1) (N := some 21) #[T,T,F,T,F,F,F,F] (rA HT_.out HW_.out (by kernel_rfl)) hHeld ?_
  refine lG (i := 2) (N := some 22) #[T,T,T,T,F,F,F,F] rfl rfl (jh HT_.out (by kernel_rfl)) (by decide) (fun K hK => ?_)
  refine jd Tryz.func54 #[.agg #[.int .i64 Lh, .int .i64 Li, .string Lj]] ?_
  with_reducible refine (aN.calls k Lh Li Lj t370 _ A8.out).mono ?_
  rintro e w9004 ⟨v371, rfl, ho0, hb⟩
  refine ⟨_, rfl, ?_⟩
  have n0_ := ah.mk (Kd.cK ho0 (aM BL))
  have n1_ := KB BK367 hb
  have n2_ := BS (w := w) hb
  clear BK367
  clear HB
  have HO372 := n0_
  have BK367 := n1_
  have HB := n2_
  clear n0_ n1_ n2_
  (try clear hb)
  (try clear ho0)
  obtain ⟨Ao9005, co9005, eo9005⟩ := Kd.dO HO372.out
  (first | subst eo9005 | (injection eo9005 with f1_ f2_ f3_; have f4_ := f1_.symm; have f5_ := f3_.symm; clear f1_ f2_ f3_; subst f4_; subst f5_))
  have p373 : 0 ≤ (a2 : Int) := OD
  have q373 : a2 < (t370.length : Int) := OD
  obtain ⟨ad373, e373, hx373_0, hx373_1, hx373_2, hx373_3⟩ := pW (Kd.bO HO372.out).2.2 a2 p373 q373
  cases e373
  replace p373 := eq_true p373
  replace q373 := eq_true q373
  refine hK.out _ _ ⟨(ak BK367.out 0).trans rfl, (ak BK367.out 1).trans rfl, (ak BK367.out 2).trans rfl⟩ (fun hHeld => ?_)
  clear hK K
  refine nrm (some 22) ?_
  refine puS (i := 4) (N := some 24) #[T,T,T,T,T,F,F,F] (jk HT_.out (by kernel_rfl)) ?_
  refine lG (i := 5) (N := some 25) #[T,T,T,T,T,T,F,F] rfl rfl (jh HT_.out (by kernel_rfl)) (by decide) (fun K hK => ?_)
  refine Kt (v := ?_) (w1 := w9004) (by rfl) (by rfl) ?_ ?_
  rotate_left
  ·go_simp
   with_reducible rfl
  refine hK.out _ _ ⟨(ak BK367.out 0).trans rfl, (ak BK367.out 1).trans rfl, (ak BK367.out 2).trans rfl⟩ (fun hHeld => ?_)
  clear hK K
  refine nrm (some 25) ?_
  refine lG (i := 6) (N := some 26) #[T,T,T,T,T,T,T,F] rfl rfl (jh HT_.out (by kernel_rfl)) (by decide) (fun K hK => ?_)
  refine jd Tryz.func66 #[.agg #[.int .i64 Lh, .int .i64 Li, .string Lj], .agg #[.int .i64 ((aQ t370 a2).f0), .bool ((aQ t370 a2).f1), .int .i64 ((aQ t370 a2).f2), .int .i64 ((aQ t370 a2).f3)]] ?_
  with_reducible refine (bJ.calls k Lh Li Lj ((aQ t370 a2).f0) ((aQ t370 a2).f1) ((aQ t370 a2).f2) ((aQ t370 a2).f3) t374 _ A11.out).mono ?_
  rintro e w9006 ⟨v375, rfl, ho0, hb⟩
  refine ⟨_, rfl, ?_⟩
  have n0_ := RB HO372 hb
  have n1_ := ah.mk (Kd.cK ho0 (aM BL))
  have n2_ := KB BK367 hb
  have n3_ := BS (w := w) hb
  clear HO372
  clear BK367
  clear HB
  have HO372 := n0_
  have HO376 := n1_
  have BK367 := n2_
  have HB := n3_
  clear n0_ n1_ n2_ n3_
  (try clear hb)
  (try clear ho0)
  refine hK.out _ _ ⟨(ak BK367.out 0).trans rfl, (ak BK367.out 1).trans rfl, (ak BK367.out 2).trans rfl⟩ (fun hHeld => ?_)
  clear hK K
  refine nrm (some 26) ?_
  refine puS (i := 7) (N := some 10) #[T,T,T,T,T,T,T,T] (jk HT_.out (by kernel_rfl)) ?_
  refine iG (gI HT_.out (by kernel_rfl)) ?_
  try go_wp2
  go_loopg [1, 11] k (fun kq v1 v11 w' => ∃ (x1_1 : ByteArray) (x11_1 : Int), v1 = .string x1_1 ∧ v11 = .int .i64 x11_1 ∧ ah (bN.l0 kq x1_1 a3 t374 x11_1 = some (r1, r2)) ∧ ah (kq ≤ k) ∧ ah (Kd.R (Kd.int .i64) 3 w' w.heap.size (fun _ => True) v375 t374) ∧ ah (w'.heap[gb367]? = some (.cells #[.int .i64 Lh, .int .i64 Li, .string Lj] 34 (0, 0))) ∧ ah (Below w.heap.size w w'))
  case atStart => exact ⟨(a1), (0), EQ, EQ, H', ⟨Nat.le_refl _⟩, ⟨(RR HO376)⟩, ⟨BK⟩, ⟨BL⟩⟩
  case round =>
   clear H'
   try clear c7
   try clear c9
   try clear c9b0
   try clear c10
   try clear c10b0
   try clear hcz9001_0
   try clear hcz9001_1
   try clear hcz9001_2
   try clear hfz9001_0
   try clear hfz9001_1
   try clear hfz9001_2
   try clear hx373_0
   try clear hx373_1
   try clear hx373_2
   try clear hx373_3
   try clear p373
   try clear q373
   obtain ⟨x1_1, x11_1, rfl, rfl, HA, HK1, HO_10, BK367, HB⟩ := hrel
   cases gk with
   | zero => exact absurd HA.out (by simp [bN.l0])
   | succ k1 =>
    have H := HA.out
    clear HA
    simp only [bN.l0] at H
    obtain ⟨Ao9007, co9007, eo9007⟩ := Kd.dO HO_10.out
    subst eo9007
    replace H := ifD H; rcases H with ⟨c19b0, H⟩ | ⟨c19b0, H⟩
    ·replace H := ifN H; obtain ⟨c20b0, H⟩ := H
     replace H := ifP H; obtain ⟨c21, H⟩ := H
     have c21b0 := eq_true c21
     have c21b1 : decide (0 ≤ (rd t374 x11_1)) = true := decide_eq_true c21
     clear c21
     replace H := ifP H; obtain ⟨c22, H⟩ := H
     have c22b0 := eq_true c22
     have c22b1 : decide ((rd t374 x11_1) ≤ (x1_1.size : Int)) = true := decide_eq_true c22
     clear c22
     have c23b0 := eq_true (OD : 0 ≤ x11_1)
     replace H := ifP H; obtain ⟨c24, H⟩ := H
     have c24b0 := eq_true c24
     have c24b1 : decide (x11_1 ≤ (wrap64 (x11_1 + 1))) = true := decide_eq_true c24
     replace H := ifP H; obtain ⟨c25, H⟩ := H
     have c25b0 := eq_true c25
     have c25b1 : decide ((wrap64 (x11_1 + 1)) ≤ (a3.size : Int)) = true := decide_eq_true c25
     by_cases c26 : (x1_1.extract 0 ((rd t374 x11_1) : Int).toNat).size + (a3.extract (x11_1 : Int).toNat ((wrap64 (x11_1 + 1)) : Int).toNat).size ≤ 9223372036854775807
     ·rw [if_pos c26] at H
      have c26b0 := eq_true c26
      have c26b1 : decide ((x1_1.extract 0 ((rd t374 x11_1) : Int).toNat).size + (a3.extract (x11_1 : Int).toNat ((wrap64 (x11_1 + 1)) : Int).toNat).size ≤ 9223372036854775807) = true := decide_eq_true c26
      try have c26b2 : (9223372036854775807 < (x1_1.extract 0 ((rd t374 x11_1) : Int).toNat).size + (a3.extract (x11_1 : Int).toNat ((wrap64 (x11_1 + 1)) : Int).toNat).size) = False := eq_false (Nat.not_lt.2 c26)
      have c26b3 : (9223372036854775807 < ((rd t374 x11_1)).toNat + (((wrap64 (x11_1 + 1))).toNat - (x11_1).toNat)) = False := eq_false (by
       have h1_ : (rd t374 x11_1) ≤ (x1_1.size : Int) := OD
       have h2_ : (wrap64 (x11_1 + 1)) ≤ (a3.size : Int) := OD
       have h_ := c26
       simp only [ByteArray.size_extract] at h_
       omega)
      obtain ⟨ji27, hji27⟩ : ∃ j_ : Int, (wrap64 ((rd t374 x11_1) + 1)) = j_ := ⟨_, rfl⟩
      replace H : (if 0 ≤ (ji27) then (if (ji27) ≤ (x1_1.size : Int) then (if ((x1_1.extract 0 ((rd t374 x11_1) : Int).toNat) ++ (a3.extract (x11_1 : Int).toNat ((wrap64 (x11_1 + 1)) : Int).toNat)).size + (x1_1.extract ((ji27) : Int).toNat x1_1.size).size ≤ 9223372036854775807 then (bN.l0 k1 (((x1_1.extract 0 ((rd t374 x11_1) : Int).toNat) ++ (a3.extract (x11_1 : Int).toNat ((wrap64 (x11_1 + 1)) : Int).toNat)) ++ (x1_1.extract ((ji27) : Int).toNat x1_1.size)) a3 t374 (wrap64 (x11_1 + 1))) else (none)) else (none)) else (none)) = some (r1, r2) := by first | (rw [hji27] at H; exact H) | (simp only [hji27] at H ⊢; exact H)
      have hji27w : (IntKind.i64.wrap ((rd t374 x11_1) + 1)) = ji27 := (gZ _).trans hji27
      replace H := ifP H; obtain ⟨c28, H⟩ := H
      have c28b0 := eq_true c28
      have c28b1 : decide (0 ≤ (ji27)) = true := decide_eq_true c28
      clear c28
      replace H := ifP H; obtain ⟨c29, H⟩ := H
      have c29b0 := eq_true c29
      have c29b1 : decide ((ji27) ≤ (x1_1.size : Int)) = true := decide_eq_true c29
      clear c29
      by_cases c30 : ((x1_1.extract 0 ((rd t374 x11_1) : Int).toNat) ++ (a3.extract (x11_1 : Int).toNat ((wrap64 (x11_1 + 1)) : Int).toNat)).size + (x1_1.extract ((ji27) : Int).toNat x1_1.size).size ≤ 9223372036854775807
      ·rw [if_pos c30] at H
       have c30b0 := eq_true c30
       have c30b1 : decide (((x1_1.extract 0 ((rd t374 x11_1) : Int).toNat) ++ (a3.extract (x11_1 : Int).toNat ((wrap64 (x11_1 + 1)) : Int).toNat)).size + (x1_1.extract ((ji27) : Int).toNat x1_1.size).size ≤ 9223372036854775807) = true := decide_eq_true c30
       try have c30b2 : (9223372036854775807 < ((x1_1.extract 0 ((rd t374 x11_1) : Int).toNat) ++ (a3.extract (x11_1 : Int).toNat ((wrap64 (x11_1 + 1)) : Int).toNat)).size + (x1_1.extract ((ji27) : Int).toNat x1_1.size).size) = False := eq_false (Nat.not_lt.2 c30)
       have c30b3 : (9223372036854775807 < ((rd t374 x11_1)).toNat + (((wrap64 (x11_1 + 1))).toNat - (x11_1).toNat) + (x1_1.size - (ji27).toNat)) = False := eq_false (by
        have h1_ : (rd t374 x11_1) ≤ (x1_1.size : Int) := OD
        have h2_ : (wrap64 (x11_1 + 1)) ≤ (a3.size : Int) := OD
        have h_ := c30
        simp only [ByteArray.size_append, ByteArray.size_extract] at h_
        omega)
       have H' := ah.mk H
       clear H
       try go_wp2
       replace HO_10 := ah.mk (Kd.eH HO_10.out)
       replace BK367 := ah.mk (aH BK367.out)
       replace HB := ah.mk (dL HB.out)
       have p377 : 0 ≤ (x11_1 : Int) := OD
       have q377 : x11_1 < (t374.length : Int) := OD
       obtain ⟨ad377, e377, hx377_0⟩ := Kd.mY (Kd.bO HO_10.out).2.2 x11_1 p377 q377
       cases e377
       replace p377 := eq_true p377
       replace q377 := eq_true q377
       have p378 : 0 ≤ (x11_1 : Int) := OD
       have q378 : x11_1 < (t374.length : Int) := OD
       obtain ⟨ad378, e378, hx378_0⟩ := Kd.mY (Kd.bO HO_10.out).2.2 x11_1 p378 q378
       obtain rfl : ad377 = ad378 := (by injection e378)
       replace p378 := eq_true p378
       replace q378 := eq_true q378
       refine jl (n := 21) (S := fun w' => w'.cell? (ad377.add (x11_1).toNat) = some (.int .i64 (rd t374 x11_1)) ∧ w'.cell? (ad377.add (x11_1).toNat) = some (.int .i64 (rd t374 x11_1))) (ds := []) #[F,F,F,F,F,F,F,F,F,F,F,F,F,F,F,F,F,F,F,F,F] (by kernel_rfl) rfl rfl ⟨hx377_0, hx378_0⟩ (fun hHeld => ?_); refine iM bN.Kq bN.GQ (fun HT_ HW_ => ?_)
       generalize wr.drew = w9008 at HO_10 BK367 HB hx377_0 hx378_0 hHeld ⊢
       refine puS (i := 0) (N := some 33) #[T,F,F,F,F,F,F,F,F,F,F,F,F,F,F,F,F,F,F,F,F] (jk HT_.out (by kernel_rfl)) ?_
       refine puS (i := 1) (N := some 34) #[T,T,F,F,F,F,F,F,F,F,F,F,F,F,F,F,F,F,F,F,F] (jk HT_.out (by kernel_rfl)) ?_
       refine puS (i := 2) (N := some 35) #[T,T,T,F,F,F,F,F,F,F,F,F,F,F,F,F,F,F,F,F,F] (jk HT_.out (by kernel_rfl)) ?_
       refine puS (i := 3) (N := some 36) #[T,T,T,T,F,F,F,F,F,F,F,F,F,F,F,F,F,F,F,F,F] (jk HT_.out (by kernel_rfl)) ?_
       refine puS (i := 6) (N := some 39) #[T,T,T,T,F,F,T,F,F,F,F,F,F,F,F,F,F,F,F,F,F] (jk HT_.out (by kernel_rfl)) ?_
       refine puS (i := 7) (N := some 40) #[T,T,T,T,F,F,T,T,F,F,F,F,F,F,F,F,F,F,F,F,F] (jk HT_.out (by kernel_rfl)) ?_
       refine puS (i := 8) (N := some 41) #[T,T,T,T,F,F,T,T,T,F,F,F,F,F,F,F,F,F,F,F,F] (jk HT_.out (by kernel_rfl)) ?_
       refine puS (i := 9) (N := some 42) #[T,T,T,T,F,F,T,T,T,T,F,F,F,F,F,F,F,F,F,F,F] (jk HT_.out (by kernel_rfl)) ?_
       refine puS (i := 10) (N := some 43) #[T,T,T,T,F,F,T,T,T,T,T,F,F,F,F,F,F,F,F,F,F] (jk HT_.out (by kernel_rfl)) ?_
       refine puS (i := 12) (N := some 45) #[T,T,T,T,F,F,T,T,T,T,T,F,T,F,F,F,F,F,F,F,F] (jk HT_.out (by kernel_rfl)) ?_
       refine puS (i := 13) (N := some 46) #[T,T,T,T,F,F,T,T,T,T,T,F,T,T,F,F,F,F,F,F,F] (jk HT_.out (by kernel_rfl)) ?_
       refine puS (i := 14) (N := some 47) #[T,T,T,T,F,F,T,T,T,T,T,F,T,T,T,F,F,F,F,F,F] (jk HT_.out (by kernel_rfl)) ?_
       refine puS (i := 15) (N := some 48) #[T,T,T,T,F,F,T,T,T,T,T,F,T,T,T,T,F,F,F,F,F] (jk HT_.out (by kernel_rfl)) ?_
       refine taS (i := 4) (N := some 37) #[T,T,T,T,T,F,T,T,T,T,T,F,T,T,T,T,F,F,F,F,F] (rA HT_.out HW_.out (by kernel_rfl)) hHeld ?_
       refine puS (i := 5) (N := some 38) #[T,T,T,T,T,T,T,T,T,T,T,F,T,T,T,T,F,F,F,F,F] (jk HT_.out (by kernel_rfl)) ?_
       refine puS (i := 11) (N := some 44) #[T,T,T,T,T,T,T,T,T,T,T,T,T,T,T,T,F,F,F,F,F] (jk HT_.out (by kernel_rfl)) ?_
       refine taS (i := 16) (N := some 49) #[T,T,T,T,T,T,T,T,T,T,T,T,T,T,T,T,T,F,F,F,F] (rA HT_.out HW_.out (by kernel_rfl)) hHeld ?_
       refine puS (i := 17) (N := some 50) #[T,T,T,T,T,T,T,T,T,T,T,T,T,T,T,T,T,T,F,F,F] (jk HT_.out (by kernel_rfl)) ?_
       refine puS (i := 18) (N := some 51) #[T,T,T,T,T,T,T,T,T,T,T,T,T,T,T,T,T,T,T,F,F] (jk HT_.out (by kernel_rfl)) ?_
       refine puS (i := 19) (N := some 52) #[T,T,T,T,T,T,T,T,T,T,T,T,T,T,T,T,T,T,T,T,F] (jk HT_.out (by kernel_rfl)) ?_
       refine puS (i := 20) (N := some 1) #[T,T,T,T,T,T,T,T,T,T,T,T,T,T,T,T,T,T,T,T,T] (jk HT_.out (by kernel_rfl)) ?_
       refine iG (gI HT_.out (by kernel_rfl)) ?_
       try go_wp2
       go_roundg k1
       case measure => have := HK1.out; omega
       case rel => exact ⟨(((x1_1.extract 0 ((rd t374 x11_1) : Int).toNat) ++ (a3.extract (x11_1 : Int).toNat ((wrap64 (x11_1 + 1)) : Int).toNat)) ++ (x1_1.extract ((ji27) : Int).toNat x1_1.size)), (wrap64 (x11_1 + 1)), (by first | rfl | (simp; done) | (simp only [← hji27] <;> (first | rfl | simp)) | (simp [*]; done)), EQ, H', ⟨by have := HK1.out; omega⟩, ⟨(RR HO_10)⟩, ⟨BK⟩, ⟨BL⟩⟩
      ·rw [if_neg c30] at H
       exact absurd H (by simp)
     ·rw [if_neg c26] at H
      exact absurd H (by simp)
    ·simp only [Option.some.injEq, Prod.mk.injEq] at H
     obtain ⟨rfl, rfl⟩ := H
     go_wp2
     go_ret2
     exact ⟨EWW, BL⟩
 ·simp only [Option.some.injEq, Prod.mk.injEq] at H
  obtain ⟨rfl, rfl⟩ := H
  try go_wp2
  go_ret2
  exact ⟨EWW, BL⟩
end Go.Proofs.YthkfjbodohaglaaGreatDoor.PFnExactGradeOf
