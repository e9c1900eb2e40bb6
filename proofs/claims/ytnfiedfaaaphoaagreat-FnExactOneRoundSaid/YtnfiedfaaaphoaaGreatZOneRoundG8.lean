/- Walks of functions: what each computes. -/
import Derived.Test.YtnfiedfaaaphoaaGreatZOneRoundG0
import Derived.Test.YtnfiedfaaaphoaaGreatZOneRoundG4
import Derived.Test.YtnfiedfaaaphoaaGreatZOneRoundG5
import Derived.Test.YtnfiedfaaaphoaaGreatZOneRoundG6
import Derived.Test.YtnfiedfaaaphoaaGreatZOneRoundG7
import Derived.Test.YtnfiedfaaaphoaaGreatZOneRoundW
import Derived.Test.YtnfiedfaaaphoaaGreatZOneRoundShelf
import Derived.Test.YtnfiedfaaaphoaaGreatZOneRoundHandSort
import Derived.Test.YtnfiedfaaaphoaaGreatZOneRoundHandForm
import Derived.Test.YtnfiedfaaaphoaaGreatZOneRoundHandAlone
import Derived.Test.YtnfiedfaaaphoaaGreatZOneRoundHandReach
import Derived.Test.YtnfiedfaaaphoaaGreatZOneRoundHandPut
namespace Go.Proofs.YtnfiedfaaaphoaaGreat.PFnExactOneRound
open Go.RowKit Go.Proofs.YtnfiedfaaaphoaaGreatW.PrintWords Go.Proofs.YtnfiedfaaaphoaaGreatW.PrintLast Go.Proofs.YtnfiedfaaaphoaaGreatW.PrintMore Go.Proofs.YtnfiedfaaaphoaaGreat.Sq
attribute [local go_sem] lK lG ng mY kD kE lJ lF
set_option maxHeartbeats 8000000
set_option maxRecDepth 100000
set_option linter.unusedVariables false
set_option linter.unusedSimpArgs false
def iQ.f (k : Nat) (l0 : List (dB)) (a1 : ByteArray) : Option (Bool) := (bV.f k l0).bind fun t622 => (if t622 = true then ((bM.f k a1).bind fun t623 => (if t623 = true then ((bn.f k l0 (wrap64 ((l0.length : Int) - 1)) a1).bind fun t624 => (some t624)) else (some false))) else (some false))
theorem iQ.calls (k : Nat) (A0 : Option Addr) (c0 : Nat) (l0 : List (dB)) (a1 : ByteArray) (r : Bool) (w : World) (hr0 : Kd.C jw w A0 l0.length l0) (hc0 : l0.length ≤ c0) (h : iQ.f k l0 a1 = some r) :
  Calls Tryz.prog 120 #[.slice A0 l0.length c0, .string a1] w fun e w' => e = .returned (.bool r) ∧ Below w.heap.size w w' := by
 have HR0 := ah.mk hr0
 have HC0 := ah.mk hc0
 clear hr0 hc0
 have HB := ah.mk (Below.refl w.heap.size w)
 unfold iQ.f at h
 have H := h
 clear h
 replace H := be H; obtain ⟨t622, A3, H⟩ := H
 replace H := ah.mk H
 go_enter Tryz.func120, Tryz.ntmps120
 go_wp2_with (first | ((with_reducible refine ay (f := 168) rfl ?_); refine bE (some 6) Tryz.func168 #[.slice A0 l0.length c0] ?_; (with_reducible refine (bV.calls k _ _ l0 _ _ ?side1 ?side2 A3.out).mono ?_); (case side1 => repeat (first | exact HR0.out | (with_reducible refine Kd.gy ?_ _) | (with_reducible refine Kd.gD ?_ _) | (with_reducible refine Kd.ig ?_))); (case side2 => exact HC0.out); rintro e w9000 ⟨rfl, hb⟩; refine ⟨_, rfl, ?_⟩; replace HB := BS (w := w) hb; (try clear hb); refine bU ?_))
 refine Hide.mk ?_
 replace H := H.out
 replace H := ifB H; rcases H with ⟨rfl, H⟩ | ⟨rfl, H⟩
 ·replace H := be H; obtain ⟨t623, A5, H⟩ := H
  replace H := ah.mk H
  go_wp2_with (first | (go_at_call 145; (with_reducible refine (bM.calls k a1 _ _ A5.out).mono ?_); rintro e w' ⟨rfl, ⟨nd, rfl⟩⟩; refine bU ?_))
  refine Hide.mk ?_
  replace H := H.out
  replace H := ifB H; rcases H with ⟨rfl, H⟩ | ⟨rfl, H⟩
  ·replace H := be H; obtain ⟨t624, A7, H⟩ := H
   obtain rfl := Option.some.inj H
   try go_wp2_with (first | (go_at_call 170; (with_reducible refine (bn.calls k _ _ l0 (wrap64 ((l0.length : Int) - 1)) a1 t624 _ ?side1 ?side2 A7.out).mono ?_); (case side1 => repeat (first | exact (Kd.eO HR0.out BL) | (with_reducible refine Kd.gy ?_ _) | (with_reducible refine Kd.gD ?_ _) | (with_reducible refine Kd.ig ?_))); (case side2 => exact HC0.out); rintro e w9001 ⟨rfl, hb⟩; replace HB := BS (w := w) hb; (try clear hb)))
   go_ret
   exact ⟨EWW, BL⟩
  ·obtain rfl := Option.some.inj H
   try go_wp2
   go_ret
   exact ⟨EWW, BL⟩
 ·obtain rfl := Option.some.inj H
  try go_wp2
  go_ret
  exact ⟨EWW, BL⟩
def bX.l0 : Nat → ByteArray → Int → Int → Option (Bool)
 | 0, _, _, _ => none
 | k + 1, a, b, c => if c < b then (if 0 ≤ c then (if c < (a.size : Int) then (if (bt a c) = 63 then (bX.l0 k a b (wrap64 (c + 1))) else ((dZ.f (bt a c)).bind fun d => (if d = true then (bX.l0 k a b (wrap64 (c + 1))) else (some false)))) else (none)) else (none)) else (some true)
def bX.f (k : Nat) (a0 : ByteArray) : Option (Bool) := (dh.f (a0.size : Int) 1 8).bind fun t625 => (if t625 = true then (bX.l0 k a0 (a0.size : Int) 0) else (some false))
theorem bX.calls (k : Nat) (a0 : ByteArray) (r : Bool) (w : World) (h : bX.f k a0 = some r) :
  Calls Tryz.prog 176 #[.string a0] w fun e w' => e = .returned (.bool r) ∧ cK w w' := by
 unfold bX.f at h
 have H := h
 clear h
 replace H := be H; obtain ⟨t625, A2, H⟩ := H
 replace H := ah.mk H
 go_enter Tryz.func176, Tryz.ntmps176
 go_wp2_with (first | ((with_reducible refine ay (f := 89) rfl ?_); refine bE (some 6) Tryz.func89 #[.int .i64 (a0.size : Int), .int .i64 1, .int .i64 8] ?_; (with_reducible refine (dh.calls (a0.size : Int) 1 8 _ _ A2.out).mono ?_); rintro e w' ⟨rfl, ⟨nd, rfl⟩⟩; refine ⟨_, rfl, ?_⟩; refine bU ?_))
 refine Hide.mk ?_
 replace H := H.out
 replace H := ifB H; rcases H with ⟨rfl, H⟩ | ⟨rfl, H⟩
 ·have H' := ah.mk H
  clear H
  try go_wp2
  go_loopg [10] k (fun kq v10 w' => ∃ (x10_1 : Int), v10 = .int .i64 x10_1 ∧ ah (bX.l0 kq a0 (a0.size : Int) x10_1 = some r) ∧ ah (kq ≤ k) ∧ cK w w')
  case atStart => exact ⟨(0), EQ, H', ⟨Nat.le_refl _⟩, DR⟩
  case round =>
   clear H'
   try clear c3
   obtain ⟨x10_1, rfl, HA, HK1, ⟨m1, rfl⟩⟩ := hrel
   cases gk with
   | zero => exact absurd HA.out (by simp [bX.l0])
   | succ k1 =>
    have H := HA.out
    clear HA
    simp only [bX.l0] at H
    replace H := ifD H; rcases H with ⟨c4b0, H⟩ | ⟨c4b0, H⟩
    ·replace H := ifN H; obtain ⟨c5b0, H⟩ := H
     replace H := ifN H; obtain ⟨c6b0, H⟩ := H
     have p7 : (0 ≤ (x10_1 : Int)) = True := OT
     have q7 : (x10_1 < (a0.size : Int)) = True := OT
     have hx7 := fO a0 x10_1
     replace H := ifE H; rcases H with ⟨c8b0, c8b1, H⟩ | ⟨c8, c8b0, c8b1, H⟩
     ·have H' := ah.mk H
      clear H
      go_wp2
      go_roundg k1
      case measure => have := HK1.out; omega
      case rel => exact ⟨(wrap64 (x10_1 + 1)), EQ, H', ⟨by have := HK1.out; omega⟩, DR⟩
     ·replace H := be H; obtain ⟨t626, A10, H⟩ := H
      have p9 : (0 ≤ (x10_1 : Int)) = True := OT
      have q9 : (x10_1 < (a0.size : Int)) = True := OT
      have hx9 := fO a0 x10_1
      replace H := ah.mk H
      go_wp2_with (first | (go_at_call 134; (with_reducible refine (dZ.calls (bt a0 x10_1) _ _ A10.out).mono ?_); rintro e w' ⟨rfl, ⟨nd, rfl⟩⟩; refine bU ?_))
      refine Hide.mk ?_
      replace H := H.out
      replace H := ifB H; rcases H with ⟨rfl, H⟩ | ⟨rfl, H⟩
      ·have H' := ah.mk H
       clear H
       try go_wp2
       go_roundg k1
       case measure => have := HK1.out; omega
       case rel => exact ⟨(wrap64 (x10_1 + 1)), EQ, H', ⟨by have := HK1.out; omega⟩, DR⟩
      ·obtain rfl := Option.some.inj H
       try go_wp2
       go_ret
       exact ⟨EQ, DR⟩
    ·obtain rfl := Option.some.inj H
     go_wp2
     go_ret
     exact ⟨EQ, DR⟩
 ·obtain rfl := Option.some.inj H
  try go_wp2
  go_ret
  exact ⟨EQ, DR⟩
mutual
def aX.j0 : Nat → ByteArray → ByteArray → Bool → Option (Bool)
 | 0, _, _, _ => none
 | k + 1, a, b, c => if c = true then (some false) else (aX.l0 k a b (a.size : Int) 0)
def aX.l0 : Nat → ByteArray → ByteArray → Int → Int → Option (Bool)
 | 0, _, _, _, _ => none
 | k + 1, a, b, c, d => if d < c then (if 0 ≤ d then (if d < (a.size : Int) then (if (bt a d) = 63 then (aX.l0 k a b c (wrap64 (d + 1))) else (if d < (b.size : Int) then (if (bt a d) = (bt b d) then (aX.l0 k a b c (wrap64 (d + 1))) else (some false)) else (none))) else (none)) else (none)) else (some true)
end
def aX.f (k : Nat) (a0 a1 : ByteArray) : Option (Bool) := (bX.f k a0).bind fun t627 => (if t627 = true then ((bM.f k a1).bind fun t628 => (if t628 = true then (aX.j0 k a0 a1 ((a0.size : Int) != (a1.size : Int))) else (aX.j0 k a0 a1 true))) else (aX.j0 k a0 a1 true))
theorem aX.calls (k : Nat) (a0 a1 : ByteArray) (r : Bool) (w : World) (h : aX.f k a0 a1 = some r) :
  Calls Tryz.prog 131 #[.string a0, .string a1] w fun e w' => e = .returned (.bool r) ∧ cK w w' := by
 unfold aX.f at h
 have H := h
 clear h
 have HC3 := ah.mk H
 clear H
 go_enter Tryz.func131, Tryz.ntmps131
 go_upto_region 1 with (fail)
 repeat (go_quiet (fail); go_upto_region 1 with (fail))
 go_cut [20] (fun v20 wc => ∃ (kq : Nat) (x20_2 : Bool), v20 = .bool x20_2 ∧ ah (aX.j0 kq a0 a1 x20_2 = some r) ∧ ah (kq ≤ k) ∧ cK w wc)
 case first =>
  have H := HC3.out
  clear HC3
  replace H := be H; obtain ⟨t627, A4, H⟩ := H
  replace H := ifB H; rcases H with ⟨rfl, H⟩ | ⟨rfl, H⟩
  ·replace H := be H; obtain ⟨t628, A6, H⟩ := H
   replace H := ifB H; rcases H with ⟨rfl, H⟩ | ⟨rfl, H⟩
   ·have H' := ah.mk H
    clear H
    repeat (go_wp2_with (first | (go_at_call 176; (with_reducible refine (bX.calls k a0 _ _ A4.out).mono ?_); rintro e w' ⟨rfl, ⟨nd, rfl⟩⟩; (try first | exact da | exact DD)) | (go_at_call 145; (with_reducible refine (bM.calls k a1 _ _ A6.out).mono ?_); rintro e w' ⟨rfl, ⟨nd, rfl⟩⟩; (try first | exact da | exact DD))); go_quiet (first | (go_at_call 176; (with_reducible refine (bX.calls k a0 _ _ A4.out).mono ?_); rintro e w' ⟨rfl, ⟨nd, rfl⟩⟩; (try first | exact da | exact DD)) | (go_at_call 145; (with_reducible refine (bM.calls k a1 _ _ A6.out).mono ?_); rintro e w' ⟨rfl, ⟨nd, rfl⟩⟩; (try first | exact da | exact DD))))
    go_wp2_with (first | (go_at_call 176; (with_reducible refine (bX.calls k a0 _ _ A4.out).mono ?_); rintro e w' ⟨rfl, ⟨nd, rfl⟩⟩; (try first | exact da | exact DD)) | (go_at_call 145; (with_reducible refine (bM.calls k a1 _ _ A6.out).mono ?_); rintro e w' ⟨rfl, ⟨nd, rfl⟩⟩; (try first | exact da | exact DD)))
    go_meet
    case rel => exact ⟨_, (((a0.size : Int) != (a1.size : Int))), EQ, H', ⟨by first | omega | exact Nat.le_refl _⟩, DR⟩
   ·have H' := ah.mk H
    clear H
    repeat (go_wp2_with (first | (go_at_call 176; (with_reducible refine (bX.calls k a0 _ _ A4.out).mono ?_); rintro e w' ⟨rfl, ⟨nd, rfl⟩⟩; (try first | exact da | exact DD)) | (go_at_call 145; (with_reducible refine (bM.calls k a1 _ _ A6.out).mono ?_); rintro e w' ⟨rfl, ⟨nd, rfl⟩⟩; (try first | exact da | exact DD))); go_quiet (first | (go_at_call 176; (with_reducible refine (bX.calls k a0 _ _ A4.out).mono ?_); rintro e w' ⟨rfl, ⟨nd, rfl⟩⟩; (try first | exact da | exact DD)) | (go_at_call 145; (with_reducible refine (bM.calls k a1 _ _ A6.out).mono ?_); rintro e w' ⟨rfl, ⟨nd, rfl⟩⟩; (try first | exact da | exact DD))))
    go_wp2_with (first | (go_at_call 176; (with_reducible refine (bX.calls k a0 _ _ A4.out).mono ?_); rintro e w' ⟨rfl, ⟨nd, rfl⟩⟩; (try first | exact da | exact DD)) | (go_at_call 145; (with_reducible refine (bM.calls k a1 _ _ A6.out).mono ?_); rintro e w' ⟨rfl, ⟨nd, rfl⟩⟩; (try first | exact da | exact DD)))
    go_meet
    case rel => exact ⟨_, (true), EQ, H', ⟨by first | omega | exact Nat.le_refl _⟩, DR⟩
  ·have H' := ah.mk H
   clear H
   repeat (go_wp2_with (first | (go_at_call 176; (with_reducible refine (bX.calls k a0 _ _ A4.out).mono ?_); rintro e w' ⟨rfl, ⟨nd, rfl⟩⟩; (try first | exact da | exact DD))); go_quiet (first | (go_at_call 176; (with_reducible refine (bX.calls k a0 _ _ A4.out).mono ?_); rintro e w' ⟨rfl, ⟨nd, rfl⟩⟩; (try first | exact da | exact DD))))
   go_wp2_with (first | (go_at_call 176; (with_reducible refine (bX.calls k a0 _ _ A4.out).mono ?_); rintro e w' ⟨rfl, ⟨nd, rfl⟩⟩; (try first | exact da | exact DD)))
   go_meet
   case rel => exact ⟨_, (true), EQ, H', ⟨by first | omega | exact Nat.le_refl _⟩, DR⟩
 case rest =>
  clear HC3
  obtain ⟨kq, x20_2, rfl, HA, HJ2, ⟨mc2, rfl⟩⟩ := hcut
  cases kq with
  | zero => exact absurd HA.out (by simp [aX.j0])
  | succ kj2 =>
   have H := HA.out
   clear HA
   simp only [aX.j0] at H
   replace H := ifB H; rcases H with ⟨rfl, H⟩ | ⟨rfl, H⟩
   ·obtain rfl := Option.some.inj H
    go_wp2
    repeat (go_quiet (fail); try go_wp2)
    go_ret
    exact ⟨EQ, DR⟩
   ·have H' := ah.mk H
    clear H
    go_wp2
    repeat (go_quiet (fail); try go_wp2)
    go_loopg [23] kj2 (fun kq v23 w' => ∃ (x23_2 : Int), v23 = .int .i64 x23_2 ∧ ah (aX.l0 kq a0 a1 (a0.size : Int) x23_2 = some r) ∧ ah (kq ≤ kj2) ∧ cK w w')
    case atStart => exact ⟨(0), EQ, H', ⟨Nat.le_refl _⟩, DR⟩
    case round =>
     clear H'
     try clear c8
     obtain ⟨x23_2, rfl, HA, HK2, ⟨m2, rfl⟩⟩ := hrel
     cases gk with
     | zero => exact absurd HA.out (by simp [aX.l0])
     | succ k2 =>
      have H := HA.out
      clear HA
      simp only [aX.l0] at H
      replace H := ifD H; rcases H with ⟨c9b0, H⟩ | ⟨c9b0, H⟩
      ·replace H := ifN H; obtain ⟨c10b0, H⟩ := H
       replace H := ifN H; obtain ⟨c11b0, H⟩ := H
       have p12 : (0 ≤ (x23_2 : Int)) = True := OT
       have q12 : (x23_2 < (a0.size : Int)) = True := OT
       have hx12 := fO a0 x23_2
       replace H := ifE H; rcases H with ⟨c13b0, c13b1, H⟩ | ⟨c13, c13b0, c13b1, H⟩
       ·have H' := ah.mk H
        clear H
        go_wp2
        repeat (go_quiet (fail); try go_wp2)
        go_roundg k2
        case measure => have := HJ2.out; have := HK2.out; omega
        case rel => exact ⟨(wrap64 (x23_2 + 1)), EQ, H', ⟨by have := HJ2.out; have := HK2.out; omega⟩, DR⟩
       ·replace H := ifN H; obtain ⟨c15b0, H⟩ := H
        have p14 : (0 ≤ (x23_2 : Int)) = True := OT
        have q14 : (x23_2 < (a0.size : Int)) = True := OT
        have hx14 := fO a0 x23_2
        have p16 : (0 ≤ (x23_2 : Int)) = True := OT
        have q16 : (x23_2 < (a1.size : Int)) = True := OT
        have hx16 := fO a1 x23_2
        replace H := ifE H; rcases H with ⟨c17b0, c17b1, H⟩ | ⟨c17, c17b0, c17b1, H⟩
        ·have H' := ah.mk H
         clear H
         go_wp2
         repeat (go_quiet (fail); try go_wp2)
         go_roundg k2
         case measure => have := HJ2.out; have := HK2.out; omega
         case rel => exact ⟨(wrap64 (x23_2 + 1)), EQ, H', ⟨by have := HJ2.out; have := HK2.out; omega⟩, DR⟩
        ·obtain rfl := Option.some.inj H
         go_wp2
         repeat (go_quiet (fail); try go_wp2)
         go_ret
         exact ⟨EQ, DR⟩
      ·obtain rfl := Option.some.inj H
       go_wp2
       repeat (go_quiet (fail); try go_wp2)
       go_ret
       exact ⟨EQ, DR⟩
def aW.g0 (j : Nat) (FV : Int) (F7 : List (dB)) (l1 : List (S84)) (a3 s : ByteArray) : Option Bool := (aX.f j a3 s).bind fun p => if p = true then (some true) else some false
def aW.g1 (j : Nat) (FV : Int) (F7 : List (dB)) (l1 : List (S84)) (a3 s : ByteArray) : Option Bool := (aX.f j a3 s).bind fun p => if p = true then (((gM.f j l1 s FV).bind fun h => if h = true then (some true) else some false)) else some false
def aW.g2 (j : Nat) (FV : Int) (F7 : List (dB)) (l1 : List (S84)) (a3 s : ByteArray) : Option Bool := (aX.f j a3 s).bind fun p => if p = true then ((iQ.f j F7 s).bind fun m => some m) else some false
def aW.g3 (j : Nat) (FV : Int) (F7 : List (dB)) (l1 : List (S84)) (a3 s : ByteArray) : Option Bool := (aX.f j a3 s).bind fun p => if p = true then (((gM.f j l1 s FV).bind fun h => if h = true then ((iQ.f j F7 s).bind fun m => some m) else some false)) else some false
def aW.g (how : Int) (j : Nat) (FV : Int) (F7 : List (dB)) (l1 : List (S84)) (a3 s : ByteArray) : Option Bool := if how = 0 then aW.g0 j FV F7 l1 a3 s else if how = 1 then aW.g1 j FV F7 l1 a3 s else if how = 2 then aW.g2 j FV F7 l1 a3 s else aW.g3 j FV F7 l1 a3 s
def aW.f (k : Nat) (FV : Int) (F7 : List (dB)) (l1 : List (S84)) (l2 : List ByteArray) (a3 : ByteArray) (a4 : Int) : Option (List ByteArray) := (dh.f a4 0 3).bind fun q => if q = true then ((fu.f k l2 (fun j s => aW.g a4 j FV F7 l1 a3 s)).bind fun t => gL.f k t) else some []
theorem yF (P : Program) (fn : Fn) (first cap : Array Value) (w : World) : (Instr.makeFunc fn first cap).run P w = .ok (.func fn first cap) w := rfl
attribute [local go_sem] yF
theorem aW.CG (j : Nat) (FV : Int) (A0_1 : Option Addr) (c0_1 : Nat) (F7 : List (dB)) (A1 : Option Addr) (c1 : Nat) (l1 : List (S84)) (a3 s : ByteArray) (b : Bool) (W : World) (g0 g1 : Nat) (g2 g3 : Nat) (h0 : W.heap[g0]? = some (.cells #[.string a3] 9 (0, 0))) (h1 : W.heap[g1]? = some (.cells #[.int .i64 0] 3 (0, 0))) (h2 : W.heap[g2]? = some (.cells #[.slice A1 l1.length c1] 36 (0, 0))) (h3 : W.heap[g3]? = some (.cells #[.int .i64 FV, .slice A0_1 F7.length c0_1] 82 (0, 0))) (hr0_1 : Kd.C jw W A0_1 F7.length F7) (hc0_1 : F7.length ≤ c0_1) (hr1 : Kd.C k84 W A1 l1.length l1) (hc1 : l1.length ≤ c1) (h : aW.g0 j FV F7 l1 a3 s = some b) :
  Calls Tryz.prog 130 #[.string s, .pointer (some ⟨g0, 0, none⟩), .pointer (some ⟨g1, 0, none⟩), .pointer (some ⟨g2, 0, none⟩), .pointer (some ⟨g3, 0, none⟩)] W fun e w' => e = .returned (.bool b) ∧ Below W.heap.size W w' := by
 have BK0 := ah.mk h0
 have BK1 := ah.mk h1
 have BK2 := ah.mk h2
 have BK3 := ah.mk h3
 have HB := ah.mk (Below.refl W.heap.size W)
 have HR0 := ah.mk hr0_1
 have HC0 := ah.mk hc0_1
 have HR1 := ah.mk hr1
 have HC1 := ah.mk hc1
 clear h0 h1 h2 h3 hr0_1 hc0_1 hr1 hc1
 have fpc : ∀ (p : Bool) (V : World), aX.f j a3 s = some p → Calls Tryz.prog 131 #[.string a3, .string s] V fun e w' => e = .returned (.bool p) ∧ Below V.heap.size V w' := fun p V q => by first | exact aX.calls j a3 s p V q | exact (aX.calls j a3 s p V q).mono (fun e w' hq => ⟨hq.1, hq.2.below⟩)
 have FPC := ah.mk fpc
 clear fpc
 unfold aW.g0 at h
 obtain ⟨p, hp1, h⟩ := Option.bind_eq_some_iff.mp h
 have HP1 := ah.mk hp1
 clear hp1
 cases p with
 | false =>
  rw [if_neg (by decide)] at h
  obtain rfl := Option.some.inj h
  clear h
  have hcz0i_0 : W.cell? ⟨g0, 0, none⟩ = some (.string a3) := (ak BK0.out 0).trans rfl
  have hfz0i_0 := aC BK0.out 0
  have hcz1i_0 : W.cell? ⟨g1, 0, none⟩ = some (.int .i64 0) := (ak BK1.out 0).trans rfl
  have hfz1i_0 := aC BK1.out 0
  have hcz2i_0 : W.cell? ⟨g2, 0, none⟩ = some (.slice A1 l1.length c1) := (ak BK2.out 0).trans rfl
  have hfz2i_0 := aC BK2.out 0
  have hcz3i_0 : W.cell? ⟨g3, 0, none⟩ = some (.int .i64 FV) := (ak BK3.out 0).trans rfl
  have hfz3i_0 := aC BK3.out 0
  have hcz3i_1 : W.cell? ⟨g3, 1, none⟩ = some (.slice A0_1 F7.length c0_1) := (ak BK3.out 1).trans rfl
  have hfz3i_1 := aC BK3.out 1
  go_enter Tryz.func130, Tryz.ntmps130
  go_wp2_with (first | ((with_reducible refine ay (f := 131) rfl ?_); refine iR _ rfl rfl Tryz.func131 (by kernel_rfl) rfl #[.string a3, .string s] rfl (by (try simp only [List.map_toArray, List.map_cons, List.map_nil]); first | done | rfl | (simp only [List.length_drop, List.length_take]; rfl)) ?_; refine (FPC.out false _ HP1.out).mono ?_; rintro e w_ ⟨rfl, hb⟩; refine ⟨_, rfl, ?_⟩; have n0_ := BS (w := W) hb; have m0_ := ah.mk (aR (g := g0) (o := .cells #[.string a3] 9 (0, 0)) BK hb); have m1_ := ah.mk (aR (g := g1) (o := .cells #[.int .i64 0] 3 (0, 0)) BK hb); have m2_ := ah.mk (aR (g := g2) (o := .cells #[.slice A1 l1.length c1] 36 (0, 0)) BK hb); have m3_ := ah.mk (aR (g := g3) (o := .cells #[.int .i64 FV, .slice A0_1 F7.length c0_1] 82 (0, 0)) BK hb); clear HB BK0 BK1 BK2 BK3; have HB := n0_; have BK0 := m0_; have BK1 := m1_; have BK2 := m2_; have BK3 := m3_; clear n0_ m0_ m1_ m2_ m3_; have hcz0u0_0 : w_.cell? ⟨g0, 0, none⟩ = some (.string a3) := (ak BK0.out 0).trans rfl; have hfz0u0_0 := aC BK0.out 0; have hcz1u0_0 : w_.cell? ⟨g1, 0, none⟩ = some (.int .i64 0) := (ak BK1.out 0).trans rfl; have hfz1u0_0 := aC BK1.out 0; have hcz2u0_0 : w_.cell? ⟨g2, 0, none⟩ = some (.slice A1 l1.length c1) := (ak BK2.out 0).trans rfl; have hfz2u0_0 := aC BK2.out 0; have hcz3u0_0 : w_.cell? ⟨g3, 0, none⟩ = some (.int .i64 FV) := (ak BK3.out 0).trans rfl; have hfz3u0_0 := aC BK3.out 0; have hcz3u0_1 : w_.cell? ⟨g3, 1, none⟩ = some (.slice A0_1 F7.length c0_1) := (ak BK3.out 1).trans rfl; have hfz3u0_1 := aC BK3.out 1; clear hb))
  go_ret
  exact ⟨rfl, BL⟩
 | true =>
  rw [if_pos rfl] at h
  obtain rfl := Option.some.inj h
  clear h
  have hcz0i_0 : W.cell? ⟨g0, 0, none⟩ = some (.string a3) := (ak BK0.out 0).trans rfl
  have hfz0i_0 := aC BK0.out 0
  have hcz1i_0 : W.cell? ⟨g1, 0, none⟩ = some (.int .i64 0) := (ak BK1.out 0).trans rfl
  have hfz1i_0 := aC BK1.out 0
  have hcz2i_0 : W.cell? ⟨g2, 0, none⟩ = some (.slice A1 l1.length c1) := (ak BK2.out 0).trans rfl
  have hfz2i_0 := aC BK2.out 0
  have hcz3i_0 : W.cell? ⟨g3, 0, none⟩ = some (.int .i64 FV) := (ak BK3.out 0).trans rfl
  have hfz3i_0 := aC BK3.out 0
  have hcz3i_1 : W.cell? ⟨g3, 1, none⟩ = some (.slice A0_1 F7.length c0_1) := (ak BK3.out 1).trans rfl
  have hfz3i_1 := aC BK3.out 1
  go_enter Tryz.func130, Tryz.ntmps130
  go_wp2_with (first | ((with_reducible refine ay (f := 131) rfl ?_); refine iR _ rfl rfl Tryz.func131 (by kernel_rfl) rfl #[.string a3, .string s] rfl (by (try simp only [List.map_toArray, List.map_cons, List.map_nil]); first | done | rfl | (simp only [List.length_drop, List.length_take]; rfl)) ?_; refine (FPC.out true _ HP1.out).mono ?_; rintro e w_ ⟨rfl, hb⟩; refine ⟨_, rfl, ?_⟩; have n0_ := BS (w := W) hb; have m0_ := ah.mk (aR (g := g0) (o := .cells #[.string a3] 9 (0, 0)) BK hb); have m1_ := ah.mk (aR (g := g1) (o := .cells #[.int .i64 0] 3 (0, 0)) BK hb); have m2_ := ah.mk (aR (g := g2) (o := .cells #[.slice A1 l1.length c1] 36 (0, 0)) BK hb); have m3_ := ah.mk (aR (g := g3) (o := .cells #[.int .i64 FV, .slice A0_1 F7.length c0_1] 82 (0, 0)) BK hb); clear HB BK0 BK1 BK2 BK3; have HB := n0_; have BK0 := m0_; have BK1 := m1_; have BK2 := m2_; have BK3 := m3_; clear n0_ m0_ m1_ m2_ m3_; have hcz0u0_0 : w_.cell? ⟨g0, 0, none⟩ = some (.string a3) := (ak BK0.out 0).trans rfl; have hfz0u0_0 := aC BK0.out 0; have hcz1u0_0 : w_.cell? ⟨g1, 0, none⟩ = some (.int .i64 0) := (ak BK1.out 0).trans rfl; have hfz1u0_0 := aC BK1.out 0; have hcz2u0_0 : w_.cell? ⟨g2, 0, none⟩ = some (.slice A1 l1.length c1) := (ak BK2.out 0).trans rfl; have hfz2u0_0 := aC BK2.out 0; have hcz3u0_0 : w_.cell? ⟨g3, 0, none⟩ = some (.int .i64 FV) := (ak BK3.out 0).trans rfl; have hfz3u0_0 := aC BK3.out 0; have hcz3u0_1 : w_.cell? ⟨g3, 1, none⟩ = some (.slice A0_1 F7.length c0_1) := (ak BK3.out 1).trans rfl; have hfz3u0_1 := aC BK3.out 1; clear hb))
  go_ret
  exact ⟨rfl, BL⟩
theorem aW.Dg (j : Nat) (FV : Int) (A0_1 : Option Addr) (c0_1 : Nat) (F7 : List (dB)) (A1 : Option Addr) (c1 : Nat) (l1 : List (S84)) (a3 s : ByteArray) (b : Bool) (W : World) (g0 g1 : Nat) (g2 g3 : Nat) (h0 : W.heap[g0]? = some (.cells #[.string a3] 9 (0, 0))) (h1 : W.heap[g1]? = some (.cells #[.int .i64 1] 3 (0, 0))) (h2 : W.heap[g2]? = some (.cells #[.slice A1 l1.length c1] 36 (0, 0))) (h3 : W.heap[g3]? = some (.cells #[.int .i64 FV, .slice A0_1 F7.length c0_1] 82 (0, 0))) (hr0_1 : Kd.C jw W A0_1 F7.length F7) (hc0_1 : F7.length ≤ c0_1) (hr1 : Kd.C k84 W A1 l1.length l1) (hc1 : l1.length ≤ c1) (h : aW.g1 j FV F7 l1 a3 s = some b) :
  Calls Tryz.prog 130 #[.string s, .pointer (some ⟨g0, 0, none⟩), .pointer (some ⟨g1, 0, none⟩), .pointer (some ⟨g2, 0, none⟩), .pointer (some ⟨g3, 0, none⟩)] W fun e w' => e = .returned (.bool b) ∧ Below W.heap.size W w' := by
 have BK0 := ah.mk h0
 have BK1 := ah.mk h1
 have BK2 := ah.mk h2
 have BK3 := ah.mk h3
 have HB := ah.mk (Below.refl W.heap.size W)
 have HR0 := ah.mk hr0_1
 have HC0 := ah.mk hc0_1
 have HR1 := ah.mk hr1
 have HC1 := ah.mk hc1
 clear h0 h1 h2 h3 hr0_1 hc0_1 hr1 hc1
 have fpc : ∀ (p : Bool) (V : World), aX.f j a3 s = some p → Calls Tryz.prog 131 #[.string a3, .string s] V fun e w' => e = .returned (.bool p) ∧ Below V.heap.size V w' := fun p V q => by first | exact aX.calls j a3 s p V q | exact (aX.calls j a3 s p V q).mono (fun e w' hq => ⟨hq.1, hq.2.below⟩)
 have hsc : ∀ (p : Bool) (V : World), Below W.heap.size W V → gM.f j l1 s FV = some p → Calls Tryz.prog 119 #[.slice A1 l1.length c1, .string s, .int .i64 FV] V fun e w' => e = .returned (.bool p) ∧ Below V.heap.size V w' := fun p V hv q => by first | exact gM.calls j _ _ l1 s FV p V (Kd.eO HR1.out hv) HC1.out q | exact (gM.calls j _ _ l1 s FV p V (Kd.eO HR1.out hv) HC1.out q).mono (fun e w' hq => ⟨hq.1, hq.2.below⟩)
 have FPC := ah.mk fpc
 clear fpc
 have HSC := ah.mk hsc
 clear hsc
 unfold aW.g1 at h
 obtain ⟨p, hp1, h⟩ := Option.bind_eq_some_iff.mp h
 have HP1 := ah.mk hp1
 clear hp1
 cases p with
 | false =>
  rw [if_neg (by decide)] at h
  obtain rfl := Option.some.inj h
  clear h
  have hcz0i_0 : W.cell? ⟨g0, 0, none⟩ = some (.string a3) := (ak BK0.out 0).trans rfl
  have hfz0i_0 := aC BK0.out 0
  have hcz1i_0 : W.cell? ⟨g1, 0, none⟩ = some (.int .i64 1) := (ak BK1.out 0).trans rfl
  have hfz1i_0 := aC BK1.out 0
  have hcz2i_0 : W.cell? ⟨g2, 0, none⟩ = some (.slice A1 l1.length c1) := (ak BK2.out 0).trans rfl
  have hfz2i_0 := aC BK2.out 0
  have hcz3i_0 : W.cell? ⟨g3, 0, none⟩ = some (.int .i64 FV) := (ak BK3.out 0).trans rfl
  have hfz3i_0 := aC BK3.out 0
  have hcz3i_1 : W.cell? ⟨g3, 1, none⟩ = some (.slice A0_1 F7.length c0_1) := (ak BK3.out 1).trans rfl
  have hfz3i_1 := aC BK3.out 1
  go_enter Tryz.func130, Tryz.ntmps130
  go_wp2_with (first | ((with_reducible refine ay (f := 131) rfl ?_); refine iR _ rfl rfl Tryz.func131 (by kernel_rfl) rfl #[.string a3, .string s] rfl (by (try simp only [List.map_toArray, List.map_cons, List.map_nil]); first | done | rfl | (simp only [List.length_drop, List.length_take]; rfl)) ?_; refine (FPC.out false _ HP1.out).mono ?_; rintro e w_ ⟨rfl, hb⟩; refine ⟨_, rfl, ?_⟩; have n0_ := BS (w := W) hb; have m0_ := ah.mk (aR (g := g0) (o := .cells #[.string a3] 9 (0, 0)) BK hb); have m1_ := ah.mk (aR (g := g1) (o := .cells #[.int .i64 1] 3 (0, 0)) BK hb); have m2_ := ah.mk (aR (g := g2) (o := .cells #[.slice A1 l1.length c1] 36 (0, 0)) BK hb); have m3_ := ah.mk (aR (g := g3) (o := .cells #[.int .i64 FV, .slice A0_1 F7.length c0_1] 82 (0, 0)) BK hb); clear HB BK0 BK1 BK2 BK3; have HB := n0_; have BK0 := m0_; have BK1 := m1_; have BK2 := m2_; have BK3 := m3_; clear n0_ m0_ m1_ m2_ m3_; have hcz0u0_0 : w_.cell? ⟨g0, 0, none⟩ = some (.string a3) := (ak BK0.out 0).trans rfl; have hfz0u0_0 := aC BK0.out 0; have hcz1u0_0 : w_.cell? ⟨g1, 0, none⟩ = some (.int .i64 1) := (ak BK1.out 0).trans rfl; have hfz1u0_0 := aC BK1.out 0; have hcz2u0_0 : w_.cell? ⟨g2, 0, none⟩ = some (.slice A1 l1.length c1) := (ak BK2.out 0).trans rfl; have hfz2u0_0 := aC BK2.out 0; have hcz3u0_0 : w_.cell? ⟨g3, 0, none⟩ = some (.int .i64 FV) := (ak BK3.out 0).trans rfl; have hfz3u0_0 := aC BK3.out 0; have hcz3u0_1 : w_.cell? ⟨g3, 1, none⟩ = some (.slice A0_1 F7.length c0_1) := (ak BK3.out 1).trans rfl; have hfz3u0_1 := aC BK3.out 1; clear hb))
  go_ret
  exact ⟨rfl, BL⟩
 | true =>
  rw [if_pos rfl] at h
  obtain ⟨v, hp2, h⟩ := Option.bind_eq_some_iff.mp h
  have HP2 := ah.mk hp2
  clear hp2
  cases v with
  | false =>
   rw [if_neg (by decide)] at h
   obtain rfl := Option.some.inj h
   clear h
   have hcz0i_0 : W.cell? ⟨g0, 0, none⟩ = some (.string a3) := (ak BK0.out 0).trans rfl
   have hfz0i_0 := aC BK0.out 0
   have hcz1i_0 : W.cell? ⟨g1, 0, none⟩ = some (.int .i64 1) := (ak BK1.out 0).trans rfl
   have hfz1i_0 := aC BK1.out 0
   have hcz2i_0 : W.cell? ⟨g2, 0, none⟩ = some (.slice A1 l1.length c1) := (ak BK2.out 0).trans rfl
   have hfz2i_0 := aC BK2.out 0
   have hcz3i_0 : W.cell? ⟨g3, 0, none⟩ = some (.int .i64 FV) := (ak BK3.out 0).trans rfl
   have hfz3i_0 := aC BK3.out 0
   have hcz3i_1 : W.cell? ⟨g3, 1, none⟩ = some (.slice A0_1 F7.length c0_1) := (ak BK3.out 1).trans rfl
   have hfz3i_1 := aC BK3.out 1
   go_enter Tryz.func130, Tryz.ntmps130
   go_wp2_with (first | ((with_reducible refine ay (f := 131) rfl ?_); refine iR _ rfl rfl Tryz.func131 (by kernel_rfl) rfl #[.string a3, .string s] rfl (by (try simp only [List.map_toArray, List.map_cons, List.map_nil]); first | done | rfl | (simp only [List.length_drop, List.length_take]; rfl)) ?_; refine (FPC.out true _ HP1.out).mono ?_; rintro e w_ ⟨rfl, hb⟩; refine ⟨_, rfl, ?_⟩; have n0_ := BS (w := W) hb; have m0_ := ah.mk (aR (g := g0) (o := .cells #[.string a3] 9 (0, 0)) BK hb); have m1_ := ah.mk (aR (g := g1) (o := .cells #[.int .i64 1] 3 (0, 0)) BK hb); have m2_ := ah.mk (aR (g := g2) (o := .cells #[.slice A1 l1.length c1] 36 (0, 0)) BK hb); have m3_ := ah.mk (aR (g := g3) (o := .cells #[.int .i64 FV, .slice A0_1 F7.length c0_1] 82 (0, 0)) BK hb); clear HB BK0 BK1 BK2 BK3; have HB := n0_; have BK0 := m0_; have BK1 := m1_; have BK2 := m2_; have BK3 := m3_; clear n0_ m0_ m1_ m2_ m3_; have hcz0u0_0 : w_.cell? ⟨g0, 0, none⟩ = some (.string a3) := (ak BK0.out 0).trans rfl; have hfz0u0_0 := aC BK0.out 0; have hcz1u0_0 : w_.cell? ⟨g1, 0, none⟩ = some (.int .i64 1) := (ak BK1.out 0).trans rfl; have hfz1u0_0 := aC BK1.out 0; have hcz2u0_0 : w_.cell? ⟨g2, 0, none⟩ = some (.slice A1 l1.length c1) := (ak BK2.out 0).trans rfl; have hfz2u0_0 := aC BK2.out 0; have hcz3u0_0 : w_.cell? ⟨g3, 0, none⟩ = some (.int .i64 FV) := (ak BK3.out 0).trans rfl; have hfz3u0_0 := aC BK3.out 0; have hcz3u0_1 : w_.cell? ⟨g3, 1, none⟩ = some (.slice A0_1 F7.length c0_1) := (ak BK3.out 1).trans rfl; have hfz3u0_1 := aC BK3.out 1; clear hb) | (go_at_call 119; refine (HSC.out false _ BL HP2.out).mono ?_; rintro e w_ ⟨rfl, hb⟩; have n0_ := BS (w := W) hb; have m0_ := ah.mk (aR (g := g0) (o := .cells #[.string a3] 9 (0, 0)) BK hb); have m1_ := ah.mk (aR (g := g1) (o := .cells #[.int .i64 1] 3 (0, 0)) BK hb); have m2_ := ah.mk (aR (g := g2) (o := .cells #[.slice A1 l1.length c1] 36 (0, 0)) BK hb); have m3_ := ah.mk (aR (g := g3) (o := .cells #[.int .i64 FV, .slice A0_1 F7.length c0_1] 82 (0, 0)) BK hb); clear HB BK0 BK1 BK2 BK3; have HB := n0_; have BK0 := m0_; have BK1 := m1_; have BK2 := m2_; have BK3 := m3_; clear n0_ m0_ m1_ m2_ m3_; have hcz0u1_0 : w_.cell? ⟨g0, 0, none⟩ = some (.string a3) := (ak BK0.out 0).trans rfl; have hfz0u1_0 := aC BK0.out 0; have hcz1u1_0 : w_.cell? ⟨g1, 0, none⟩ = some (.int .i64 1) := (ak BK1.out 0).trans rfl; have hfz1u1_0 := aC BK1.out 0; have hcz2u1_0 : w_.cell? ⟨g2, 0, none⟩ = some (.slice A1 l1.length c1) := (ak BK2.out 0).trans rfl; have hfz2u1_0 := aC BK2.out 0; have hcz3u1_0 : w_.cell? ⟨g3, 0, none⟩ = some (.int .i64 FV) := (ak BK3.out 0).trans rfl; have hfz3u1_0 := aC BK3.out 0; have hcz3u1_1 : w_.cell? ⟨g3, 1, none⟩ = some (.slice A0_1 F7.length c0_1) := (ak BK3.out 1).trans rfl; have hfz3u1_1 := aC BK3.out 1; clear hb))
   go_ret
   exact ⟨rfl, BL⟩
  | true =>
   rw [if_pos rfl] at h
   obtain rfl := Option.some.inj h
   clear h
   have hcz0i_0 : W.cell? ⟨g0, 0, none⟩ = some (.string a3) := (ak BK0.out 0).trans rfl
   have hfz0i_0 := aC BK0.out 0
   have hcz1i_0 : W.cell? ⟨g1, 0, none⟩ = some (.int .i64 1) := (ak BK1.out 0).trans rfl
   have hfz1i_0 := aC BK1.out 0
   have hcz2i_0 : W.cell? ⟨g2, 0, none⟩ = some (.slice A1 l1.length c1) := (ak BK2.out 0).trans rfl
   have hfz2i_0 := aC BK2.out 0
   have hcz3i_0 : W.cell? ⟨g3, 0, none⟩ = some (.int .i64 FV) := (ak BK3.out 0).trans rfl
   have hfz3i_0 := aC BK3.out 0
   have hcz3i_1 : W.cell? ⟨g3, 1, none⟩ = some (.slice A0_1 F7.length c0_1) := (ak BK3.out 1).trans rfl
   have hfz3i_1 := aC BK3.out 1
   go_enter Tryz.func130, Tryz.ntmps130
   go_wp2_with (first | ((with_reducible refine ay (f := 131) rfl ?_); refine iR _ rfl rfl Tryz.func131 (by kernel_rfl) rfl #[.string a3, .string s] rfl (by (try simp only [List.map_toArray, List.map_cons, List.map_nil]); first | done | rfl | (simp only [List.length_drop, List.length_take]; rfl)) ?_; refine (FPC.out true _ HP1.out).mono ?_; rintro e w_ ⟨rfl, hb⟩; refine ⟨_, rfl, ?_⟩; have n0_ := BS (w := W) hb; have m0_ := ah.mk (aR (g := g0) (o := .cells #[.string a3] 9 (0, 0)) BK hb); have m1_ := ah.mk (aR (g := g1) (o := .cells #[.int .i64 1] 3 (0, 0)) BK hb); have m2_ := ah.mk (aR (g := g2) (o := .cells #[.slice A1 l1.length c1] 36 (0, 0)) BK hb); have m3_ := ah.mk (aR (g := g3) (o := .cells #[.int .i64 FV, .slice A0_1 F7.length c0_1] 82 (0, 0)) BK hb); clear HB BK0 BK1 BK2 BK3; have HB := n0_; have BK0 := m0_; have BK1 := m1_; have BK2 := m2_; have BK3 := m3_; clear n0_ m0_ m1_ m2_ m3_; have hcz0u0_0 : w_.cell? ⟨g0, 0, none⟩ = some (.string a3) := (ak BK0.out 0).trans rfl; have hfz0u0_0 := aC BK0.out 0; have hcz1u0_0 : w_.cell? ⟨g1, 0, none⟩ = some (.int .i64 1) := (ak BK1.out 0).trans rfl; have hfz1u0_0 := aC BK1.out 0; have hcz2u0_0 : w_.cell? ⟨g2, 0, none⟩ = some (.slice A1 l1.length c1) := (ak BK2.out 0).trans rfl; have hfz2u0_0 := aC BK2.out 0; have hcz3u0_0 : w_.cell? ⟨g3, 0, none⟩ = some (.int .i64 FV) := (ak BK3.out 0).trans rfl; have hfz3u0_0 := aC BK3.out 0; have hcz3u0_1 : w_.cell? ⟨g3, 1, none⟩ = some (.slice A0_1 F7.length c0_1) := (ak BK3.out 1).trans rfl; have hfz3u0_1 := aC BK3.out 1; clear hb) | (go_at_call 119; refine (HSC.out true _ BL HP2.out).mono ?_; rintro e w_ ⟨rfl, hb⟩; have n0_ := BS (w := W) hb; have m0_ := ah.mk (aR (g := g0) (o := .cells #[.string a3] 9 (0, 0)) BK hb); have m1_ := ah.mk (aR (g := g1) (o := .cells #[.int .i64 1] 3 (0, 0)) BK hb); have m2_ := ah.mk (aR (g := g2) (o := .cells #[.slice A1 l1.length c1] 36 (0, 0)) BK hb); have m3_ := ah.mk (aR (g := g3) (o := .cells #[.int .i64 FV, .slice A0_1 F7.length c0_1] 82 (0, 0)) BK hb); clear HB BK0 BK1 BK2 BK3; have HB := n0_; have BK0 := m0_; have BK1 := m1_; have BK2 := m2_; have BK3 := m3_; clear n0_ m0_ m1_ m2_ m3_; have hcz0u1_0 : w_.cell? ⟨g0, 0, none⟩ = some (.string a3) := (ak BK0.out 0).trans rfl; have hfz0u1_0 := aC BK0.out 0; have hcz1u1_0 : w_.cell? ⟨g1, 0, none⟩ = some (.int .i64 1) := (ak BK1.out 0).trans rfl; have hfz1u1_0 := aC BK1.out 0; have hcz2u1_0 : w_.cell? ⟨g2, 0, none⟩ = some (.slice A1 l1.length c1) := (ak BK2.out 0).trans rfl; have hfz2u1_0 := aC BK2.out 0; have hcz3u1_0 : w_.cell? ⟨g3, 0, none⟩ = some (.int .i64 FV) := (ak BK3.out 0).trans rfl; have hfz3u1_0 := aC BK3.out 0; have hcz3u1_1 : w_.cell? ⟨g3, 1, none⟩ = some (.slice A0_1 F7.length c0_1) := (ak BK3.out 1).trans rfl; have hfz3u1_1 := aC BK3.out 1; clear hb))
   go_ret
   exact ⟨rfl, BL⟩
theorem aW.CW (j : Nat) (FV : Int) (A0_1 : Option Addr) (c0_1 : Nat) (F7 : List (dB)) (A1 : Option Addr) (c1 : Nat) (l1 : List (S84)) (a3 s : ByteArray) (b : Bool) (W : World) (g0 g1 : Nat) (g2 g3 : Nat) (h0 : W.heap[g0]? = some (.cells #[.string a3] 9 (0, 0))) (h1 : W.heap[g1]? = some (.cells #[.int .i64 2] 3 (0, 0))) (h2 : W.heap[g2]? = some (.cells #[.slice A1 l1.length c1] 36 (0, 0))) (h3 : W.heap[g3]? = some (.cells #[.int .i64 FV, .slice A0_1 F7.length c0_1] 82 (0, 0))) (hr0_1 : Kd.C jw W A0_1 F7.length F7) (hc0_1 : F7.length ≤ c0_1) (hr1 : Kd.C k84 W A1 l1.length l1) (hc1 : l1.length ≤ c1) (h : aW.g2 j FV F7 l1 a3 s = some b) :
  Calls Tryz.prog 130 #[.string s, .pointer (some ⟨g0, 0, none⟩), .pointer (some ⟨g1, 0, none⟩), .pointer (some ⟨g2, 0, none⟩), .pointer (some ⟨g3, 0, none⟩)] W fun e w' => e = .returned (.bool b) ∧ Below W.heap.size W w' := by
 have BK0 := ah.mk h0
 have BK1 := ah.mk h1
 have BK2 := ah.mk h2
 have BK3 := ah.mk h3
 have HB := ah.mk (Below.refl W.heap.size W)
 have HR0 := ah.mk hr0_1
 have HC0 := ah.mk hc0_1
 have HR1 := ah.mk hr1
 have HC1 := ah.mk hc1
 clear h0 h1 h2 h3 hr0_1 hc0_1 hr1 hc1
 have fpc : ∀ (p : Bool) (V : World), aX.f j a3 s = some p → Calls Tryz.prog 131 #[.string a3, .string s] V fun e w' => e = .returned (.bool p) ∧ Below V.heap.size V w' := fun p V q => by first | exact aX.calls j a3 s p V q | exact (aX.calls j a3 s p V q).mono (fun e w' hq => ⟨hq.1, hq.2.below⟩)
 have mkc : ∀ (p : Bool) (V : World), Below W.heap.size W V → iQ.f j F7 s = some p → Calls Tryz.prog 120 #[.slice A0_1 F7.length c0_1, .string s] V fun e w' => e = .returned (.bool p) ∧ Below V.heap.size V w' := fun p V hv q => by first | exact iQ.calls j _ _ F7 s p V (Kd.eO HR0.out hv) HC0.out q | exact (iQ.calls j _ _ F7 s p V (Kd.eO HR0.out hv) HC0.out q).mono (fun e w' hq => ⟨hq.1, hq.2.below⟩)
 have FPC := ah.mk fpc
 clear fpc
 have MKC := ah.mk mkc
 clear mkc
 unfold aW.g2 at h
 obtain ⟨p, hp1, h⟩ := Option.bind_eq_some_iff.mp h
 have HP1 := ah.mk hp1
 clear hp1
 cases p with
 | false =>
  rw [if_neg (by decide)] at h
  obtain rfl := Option.some.inj h
  clear h
  have hcz0i_0 : W.cell? ⟨g0, 0, none⟩ = some (.string a3) := (ak BK0.out 0).trans rfl
  have hfz0i_0 := aC BK0.out 0
  have hcz1i_0 : W.cell? ⟨g1, 0, none⟩ = some (.int .i64 2) := (ak BK1.out 0).trans rfl
  have hfz1i_0 := aC BK1.out 0
  have hcz2i_0 : W.cell? ⟨g2, 0, none⟩ = some (.slice A1 l1.length c1) := (ak BK2.out 0).trans rfl
  have hfz2i_0 := aC BK2.out 0
  have hcz3i_0 : W.cell? ⟨g3, 0, none⟩ = some (.int .i64 FV) := (ak BK3.out 0).trans rfl
  have hfz3i_0 := aC BK3.out 0
  have hcz3i_1 : W.cell? ⟨g3, 1, none⟩ = some (.slice A0_1 F7.length c0_1) := (ak BK3.out 1).trans rfl
  have hfz3i_1 := aC BK3.out 1
  go_enter Tryz.func130, Tryz.ntmps130
  go_wp2_with (first | ((with_reducible refine ay (f := 131) rfl ?_); refine iR _ rfl rfl Tryz.func131 (by kernel_rfl) rfl #[.string a3, .string s] rfl (by (try simp only [List.map_toArray, List.map_cons, List.map_nil]); first | done | rfl | (simp only [List.length_drop, List.length_take]; rfl)) ?_; refine (FPC.out false _ HP1.out).mono ?_; rintro e w_ ⟨rfl, hb⟩; refine ⟨_, rfl, ?_⟩; have n0_ := BS (w := W) hb; have m0_ := ah.mk (aR (g := g0) (o := .cells #[.string a3] 9 (0, 0)) BK hb); have m1_ := ah.mk (aR (g := g1) (o := .cells #[.int .i64 2] 3 (0, 0)) BK hb); have m2_ := ah.mk (aR (g := g2) (o := .cells #[.slice A1 l1.length c1] 36 (0, 0)) BK hb); have m3_ := ah.mk (aR (g := g3) (o := .cells #[.int .i64 FV, .slice A0_1 F7.length c0_1] 82 (0, 0)) BK hb); clear HB BK0 BK1 BK2 BK3; have HB := n0_; have BK0 := m0_; have BK1 := m1_; have BK2 := m2_; have BK3 := m3_; clear n0_ m0_ m1_ m2_ m3_; have hcz0u0_0 : w_.cell? ⟨g0, 0, none⟩ = some (.string a3) := (ak BK0.out 0).trans rfl; have hfz0u0_0 := aC BK0.out 0; have hcz1u0_0 : w_.cell? ⟨g1, 0, none⟩ = some (.int .i64 2) := (ak BK1.out 0).trans rfl; have hfz1u0_0 := aC BK1.out 0; have hcz2u0_0 : w_.cell? ⟨g2, 0, none⟩ = some (.slice A1 l1.length c1) := (ak BK2.out 0).trans rfl; have hfz2u0_0 := aC BK2.out 0; have hcz3u0_0 : w_.cell? ⟨g3, 0, none⟩ = some (.int .i64 FV) := (ak BK3.out 0).trans rfl; have hfz3u0_0 := aC BK3.out 0; have hcz3u0_1 : w_.cell? ⟨g3, 1, none⟩ = some (.slice A0_1 F7.length c0_1) := (ak BK3.out 1).trans rfl; have hfz3u0_1 := aC BK3.out 1; clear hb))
  go_ret
  exact ⟨rfl, BL⟩
 | true =>
  rw [if_pos rfl] at h
  obtain ⟨m, hp3, h⟩ := Option.bind_eq_some_iff.mp h
  obtain rfl := Option.some.inj h
  have HP3 := ah.mk hp3
  clear h hp3
  have hcz0i_0 : W.cell? ⟨g0, 0, none⟩ = some (.string a3) := (ak BK0.out 0).trans rfl
  have hfz0i_0 := aC BK0.out 0
  have hcz1i_0 : W.cell? ⟨g1, 0, none⟩ = some (.int .i64 2) := (ak BK1.out 0).trans rfl
  have hfz1i_0 := aC BK1.out 0
  have hcz2i_0 : W.cell? ⟨g2, 0, none⟩ = some (.slice A1 l1.length c1) := (ak BK2.out 0).trans rfl
  have hfz2i_0 := aC BK2.out 0
  have hcz3i_0 : W.cell? ⟨g3, 0, none⟩ = some (.int .i64 FV) := (ak BK3.out 0).trans rfl
  have hfz3i_0 := aC BK3.out 0
  have hcz3i_1 : W.cell? ⟨g3, 1, none⟩ = some (.slice A0_1 F7.length c0_1) := (ak BK3.out 1).trans rfl
  have hfz3i_1 := aC BK3.out 1
  go_enter Tryz.func130, Tryz.ntmps130
  go_wp2_with (first | ((with_reducible refine ay (f := 131) rfl ?_); refine iR _ rfl rfl Tryz.func131 (by kernel_rfl) rfl #[.string a3, .string s] rfl (by (try simp only [List.map_toArray, List.map_cons, List.map_nil]); first | done | rfl | (simp only [List.length_drop, List.length_take]; rfl)) ?_; refine (FPC.out true _ HP1.out).mono ?_; rintro e w_ ⟨rfl, hb⟩; refine ⟨_, rfl, ?_⟩; have n0_ := BS (w := W) hb; have m0_ := ah.mk (aR (g := g0) (o := .cells #[.string a3] 9 (0, 0)) BK hb); have m1_ := ah.mk (aR (g := g1) (o := .cells #[.int .i64 2] 3 (0, 0)) BK hb); have m2_ := ah.mk (aR (g := g2) (o := .cells #[.slice A1 l1.length c1] 36 (0, 0)) BK hb); have m3_ := ah.mk (aR (g := g3) (o := .cells #[.int .i64 FV, .slice A0_1 F7.length c0_1] 82 (0, 0)) BK hb); clear HB BK0 BK1 BK2 BK3; have HB := n0_; have BK0 := m0_; have BK1 := m1_; have BK2 := m2_; have BK3 := m3_; clear n0_ m0_ m1_ m2_ m3_; have hcz0u0_0 : w_.cell? ⟨g0, 0, none⟩ = some (.string a3) := (ak BK0.out 0).trans rfl; have hfz0u0_0 := aC BK0.out 0; have hcz1u0_0 : w_.cell? ⟨g1, 0, none⟩ = some (.int .i64 2) := (ak BK1.out 0).trans rfl; have hfz1u0_0 := aC BK1.out 0; have hcz2u0_0 : w_.cell? ⟨g2, 0, none⟩ = some (.slice A1 l1.length c1) := (ak BK2.out 0).trans rfl; have hfz2u0_0 := aC BK2.out 0; have hcz3u0_0 : w_.cell? ⟨g3, 0, none⟩ = some (.int .i64 FV) := (ak BK3.out 0).trans rfl; have hfz3u0_0 := aC BK3.out 0; have hcz3u0_1 : w_.cell? ⟨g3, 1, none⟩ = some (.slice A0_1 F7.length c0_1) := (ak BK3.out 1).trans rfl; have hfz3u0_1 := aC BK3.out 1; clear hb) | (go_at_call 120; refine (MKC.out m _ BL HP3.out).mono ?_; rintro e w_ ⟨rfl, hb⟩; have n0_ := BS (w := W) hb; have m0_ := ah.mk (aR (g := g0) (o := .cells #[.string a3] 9 (0, 0)) BK hb); have m1_ := ah.mk (aR (g := g1) (o := .cells #[.int .i64 2] 3 (0, 0)) BK hb); have m2_ := ah.mk (aR (g := g2) (o := .cells #[.slice A1 l1.length c1] 36 (0, 0)) BK hb); have m3_ := ah.mk (aR (g := g3) (o := .cells #[.int .i64 FV, .slice A0_1 F7.length c0_1] 82 (0, 0)) BK hb); clear HB BK0 BK1 BK2 BK3; have HB := n0_; have BK0 := m0_; have BK1 := m1_; have BK2 := m2_; have BK3 := m3_; clear n0_ m0_ m1_ m2_ m3_; have hcz0u1_0 : w_.cell? ⟨g0, 0, none⟩ = some (.string a3) := (ak BK0.out 0).trans rfl; have hfz0u1_0 := aC BK0.out 0; have hcz1u1_0 : w_.cell? ⟨g1, 0, none⟩ = some (.int .i64 2) := (ak BK1.out 0).trans rfl; have hfz1u1_0 := aC BK1.out 0; have hcz2u1_0 : w_.cell? ⟨g2, 0, none⟩ = some (.slice A1 l1.length c1) := (ak BK2.out 0).trans rfl; have hfz2u1_0 := aC BK2.out 0; have hcz3u1_0 : w_.cell? ⟨g3, 0, none⟩ = some (.int .i64 FV) := (ak BK3.out 0).trans rfl; have hfz3u1_0 := aC BK3.out 0; have hcz3u1_1 : w_.cell? ⟨g3, 1, none⟩ = some (.slice A0_1 F7.length c0_1) := (ak BK3.out 1).trans rfl; have hfz3u1_1 := aC BK3.out 1; clear hb))
  go_ret
  exact ⟨rfl, BL⟩
theorem aW.BX (j : Nat) (FV : Int) (A0_1 : Option Addr) (c0_1 : Nat) (F7 : List (dB)) (A1 : Option Addr) (c1 : Nat) (l1 : List (S84)) (a3 s : ByteArray) (b : Bool) (W : World) (g0 g1 : Nat) (g2 g3 : Nat) (h0 : W.heap[g0]? = some (.cells #[.string a3] 9 (0, 0))) (h1 : W.heap[g1]? = some (.cells #[.int .i64 3] 3 (0, 0))) (h2 : W.heap[g2]? = some (.cells #[.slice A1 l1.length c1] 36 (0, 0))) (h3 : W.heap[g3]? = some (.cells #[.int .i64 FV, .slice A0_1 F7.length c0_1] 82 (0, 0))) (hr0_1 : Kd.C jw W A0_1 F7.length F7) (hc0_1 : F7.length ≤ c0_1) (hr1 : Kd.C k84 W A1 l1.length l1) (hc1 : l1.length ≤ c1) (h : aW.g3 j FV F7 l1 a3 s = some b) :
  Calls Tryz.prog 130 #[.string s, .pointer (some ⟨g0, 0, none⟩), .pointer (some ⟨g1, 0, none⟩), .pointer (some ⟨g2, 0, none⟩), .pointer (some ⟨g3, 0, none⟩)] W fun e w' => e = .returned (.bool b) ∧ Below W.heap.size W w' := by
 have BK0 := ah.mk h0
 have BK1 := ah.mk h1
 have BK2 := ah.mk h2
 have BK3 := ah.mk h3
 have HB := ah.mk (Below.refl W.heap.size W)
 have HR0 := ah.mk hr0_1
 have HC0 := ah.mk hc0_1
 have HR1 := ah.mk hr1
 have HC1 := ah.mk hc1
 clear h0 h1 h2 h3 hr0_1 hc0_1 hr1 hc1
 have fpc : ∀ (p : Bool) (V : World), aX.f j a3 s = some p → Calls Tryz.prog 131 #[.string a3, .string s] V fun e w' => e = .returned (.bool p) ∧ Below V.heap.size V w' := fun p V q => by first | exact aX.calls j a3 s p V q | exact (aX.calls j a3 s p V q).mono (fun e w' hq => ⟨hq.1, hq.2.below⟩)
 have hsc : ∀ (p : Bool) (V : World), Below W.heap.size W V → gM.f j l1 s FV = some p → Calls Tryz.prog 119 #[.slice A1 l1.length c1, .string s, .int .i64 FV] V fun e w' => e = .returned (.bool p) ∧ Below V.heap.size V w' := fun p V hv q => by first | exact gM.calls j _ _ l1 s FV p V (Kd.eO HR1.out hv) HC1.out q | exact (gM.calls j _ _ l1 s FV p V (Kd.eO HR1.out hv) HC1.out q).mono (fun e w' hq => ⟨hq.1, hq.2.below⟩)
 have mkc : ∀ (p : Bool) (V : World), Below W.heap.size W V → iQ.f j F7 s = some p → Calls Tryz.prog 120 #[.slice A0_1 F7.length c0_1, .string s] V fun e w' => e = .returned (.bool p) ∧ Below V.heap.size V w' := fun p V hv q => by first | exact iQ.calls j _ _ F7 s p V (Kd.eO HR0.out hv) HC0.out q | exact (iQ.calls j _ _ F7 s p V (Kd.eO HR0.out hv) HC0.out q).mono (fun e w' hq => ⟨hq.1, hq.2.below⟩)
 have FPC := ah.mk fpc
 clear fpc
 have HSC := ah.mk hsc
 clear hsc
 have MKC := ah.mk mkc
 clear mkc
 unfold aW.g3 at h
 obtain ⟨p, hp1, h⟩ := Option.bind_eq_some_iff.mp h
 have HP1 := ah.mk hp1
 clear hp1
 cases p with
 | false =>
  rw [if_neg (by decide)] at h
  obtain rfl := Option.some.inj h
  clear h
  have hcz0i_0 : W.cell? ⟨g0, 0, none⟩ = some (.string a3) := (ak BK0.out 0).trans rfl
  have hfz0i_0 := aC BK0.out 0
  have hcz1i_0 : W.cell? ⟨g1, 0, none⟩ = some (.int .i64 3) := (ak BK1.out 0).trans rfl
  have hfz1i_0 := aC BK1.out 0
  have hcz2i_0 : W.cell? ⟨g2, 0, none⟩ = some (.slice A1 l1.length c1) := (ak BK2.out 0).trans rfl
  have hfz2i_0 := aC BK2.out 0
  have hcz3i_0 : W.cell? ⟨g3, 0, none⟩ = some (.int .i64 FV) := (ak BK3.out 0).trans rfl
  have hfz3i_0 := aC BK3.out 0
  have hcz3i_1 : W.cell? ⟨g3, 1, none⟩ = some (.slice A0_1 F7.length c0_1) := (ak BK3.out 1).trans rfl
  have hfz3i_1 := aC BK3.out 1
  go_enter Tryz.func130, Tryz.ntmps130
  go_wp2_with (first | ((with_reducible refine ay (f := 131) rfl ?_); refine iR _ rfl rfl Tryz.func131 (by kernel_rfl) rfl #[.string a3, .string s] rfl (by (try simp only [List.map_toArray, List.map_cons, List.map_nil]); first | done | rfl | (simp only [List.length_drop, List.length_take]; rfl)) ?_; refine (FPC.out false _ HP1.out).mono ?_; rintro e w_ ⟨rfl, hb⟩; refine ⟨_, rfl, ?_⟩; have n0_ := BS (w := W) hb; have m0_ := ah.mk (aR (g := g0) (o := .cells #[.string a3] 9 (0, 0)) BK hb); have m1_ := ah.mk (aR (g := g1) (o := .cells #[.int .i64 3] 3 (0, 0)) BK hb); have m2_ := ah.mk (aR (g := g2) (o := .cells #[.slice A1 l1.length c1] 36 (0, 0)) BK hb); have m3_ := ah.mk (aR (g := g3) (o := .cells #[.int .i64 FV, .slice A0_1 F7.length c0_1] 82 (0, 0)) BK hb); clear HB BK0 BK1 BK2 BK3; have HB := n0_; have BK0 := m0_; have BK1 := m1_; have BK2 := m2_; have BK3 := m3_; clear n0_ m0_ m1_ m2_ m3_; have hcz0u0_0 : w_.cell? ⟨g0, 0, none⟩ = some (.string a3) := (ak BK0.out 0).trans rfl; have hfz0u0_0 := aC BK0.out 0; have hcz1u0_0 : w_.cell? ⟨g1, 0, none⟩ = some (.int .i64 3) := (ak BK1.out 0).trans rfl; have hfz1u0_0 := aC BK1.out 0; have hcz2u0_0 : w_.cell? ⟨g2, 0, none⟩ = some (.slice A1 l1.length c1) := (ak BK2.out 0).trans rfl; have hfz2u0_0 := aC BK2.out 0; have hcz3u0_0 : w_.cell? ⟨g3, 0, none⟩ = some (.int .i64 FV) := (ak BK3.out 0).trans rfl; have hfz3u0_0 := aC BK3.out 0; have hcz3u0_1 : w_.cell? ⟨g3, 1, none⟩ = some (.slice A0_1 F7.length c0_1) := (ak BK3.out 1).trans rfl; have hfz3u0_1 := aC BK3.out 1; clear hb))
  go_ret
  exact ⟨rfl, BL⟩
 | true =>
  rw [if_pos rfl] at h
  obtain ⟨v, hp2, h⟩ := Option.bind_eq_some_iff.mp h
  have HP2 := ah.mk hp2
  clear hp2
  cases v with
  | false =>
   rw [if_neg (by decide)] at h
   obtain rfl := Option.some.inj h
   clear h
   have hcz0i_0 : W.cell? ⟨g0, 0, none⟩ = some (.string a3) := (ak BK0.out 0).trans rfl
   have hfz0i_0 := aC BK0.out 0
   have hcz1i_0 : W.cell? ⟨g1, 0, none⟩ = some (.int .i64 3) := (ak BK1.out 0).trans rfl
   have hfz1i_0 := aC BK1.out 0
   have hcz2i_0 : W.cell? ⟨g2, 0, none⟩ = some (.slice A1 l1.length c1) := (ak BK2.out 0).trans rfl
   have hfz2i_0 := aC BK2.out 0
   have hcz3i_0 : W.cell? ⟨g3, 0, none⟩ = some (.int .i64 FV) := (ak BK3.out 0).trans rfl
   have hfz3i_0 := aC BK3.out 0
   have hcz3i_1 : W.cell? ⟨g3, 1, none⟩ = some (.slice A0_1 F7.length c0_1) := (ak BK3.out 1).trans rfl
   have hfz3i_1 := aC BK3.out 1
   go_enter Tryz.func130, Tryz.ntmps130
   go_wp2_with (first | ((with_reducible refine ay (f := 131) rfl ?_); refine iR _ rfl rfl Tryz.func131 (by kernel_rfl) rfl #[.string a3, .string s] rfl (by (try simp only [List.map_toArray, List.map_cons, List.map_nil]); first | done | rfl | (simp only [List.length_drop, List.length_take]; rfl)) ?_; refine (FPC.out true _ HP1.out).mono ?_; rintro e w_ ⟨rfl, hb⟩; refine ⟨_, rfl, ?_⟩; have n0_ := BS (w := W) hb; have m0_ := ah.mk (aR (g := g0) (o := .cells #[.string a3] 9 (0, 0)) BK hb); have m1_ := ah.mk (aR (g := g1) (o := .cells #[.int .i64 3] 3 (0, 0)) BK hb); have m2_ := ah.mk (aR (g := g2) (o := .cells #[.slice A1 l1.length c1] 36 (0, 0)) BK hb); have m3_ := ah.mk (aR (g := g3) (o := .cells #[.int .i64 FV, .slice A0_1 F7.length c0_1] 82 (0, 0)) BK hb); clear HB BK0 BK1 BK2 BK3; have HB := n0_; have BK0 := m0_; have BK1 := m1_; have BK2 := m2_; have BK3 := m3_; clear n0_ m0_ m1_ m2_ m3_; have hcz0u0_0 : w_.cell? ⟨g0, 0, none⟩ = some (.string a3) := (ak BK0.out 0).trans rfl; have hfz0u0_0 := aC BK0.out 0; have hcz1u0_0 : w_.cell? ⟨g1, 0, none⟩ = some (.int .i64 3) := (ak BK1.out 0).trans rfl; have hfz1u0_0 := aC BK1.out 0; have hcz2u0_0 : w_.cell? ⟨g2, 0, none⟩ = some (.slice A1 l1.length c1) := (ak BK2.out 0).trans rfl; have hfz2u0_0 := aC BK2.out 0; have hcz3u0_0 : w_.cell? ⟨g3, 0, none⟩ = some (.int .i64 FV) := (ak BK3.out 0).trans rfl; have hfz3u0_0 := aC BK3.out 0; have hcz3u0_1 : w_.cell? ⟨g3, 1, none⟩ = some (.slice A0_1 F7.length c0_1) := (ak BK3.out 1).trans rfl; have hfz3u0_1 := aC BK3.out 1; clear hb) | (go_at_call 119; refine (HSC.out false _ BL HP2.out).mono ?_; rintro e w_ ⟨rfl, hb⟩; have n0_ := BS (w := W) hb; have m0_ := ah.mk (aR (g := g0) (o := .cells #[.string a3] 9 (0, 0)) BK hb); have m1_ := ah.mk (aR (g := g1) (o := .cells #[.int .i64 3] 3 (0, 0)) BK hb); have m2_ := ah.mk (aR (g := g2) (o := .cells #[.slice A1 l1.length c1] 36 (0, 0)) BK hb); have m3_ := ah.mk (aR (g := g3) (o := .cells #[.int .i64 FV, .slice A0_1 F7.length c0_1] 82 (0, 0)) BK hb); clear HB BK0 BK1 BK2 BK3; have HB := n0_; have BK0 := m0_; have BK1 := m1_; have BK2 := m2_; have BK3 := m3_; clear n0_ m0_ m1_ m2_ m3_; have hcz0u1_0 : w_.cell? ⟨g0, 0, none⟩ = some (.string a3) := (ak BK0.out 0).trans rfl; have hfz0u1_0 := aC BK0.out 0; have hcz1u1_0 : w_.cell? ⟨g1, 0, none⟩ = some (.int .i64 3) := (ak BK1.out 0).trans rfl; have hfz1u1_0 := aC BK1.out 0; have hcz2u1_0 : w_.cell? ⟨g2, 0, none⟩ = some (.slice A1 l1.length c1) := (ak BK2.out 0).trans rfl; have hfz2u1_0 := aC BK2.out 0; have hcz3u1_0 : w_.cell? ⟨g3, 0, none⟩ = some (.int .i64 FV) := (ak BK3.out 0).trans rfl; have hfz3u1_0 := aC BK3.out 0; have hcz3u1_1 : w_.cell? ⟨g3, 1, none⟩ = some (.slice A0_1 F7.length c0_1) := (ak BK3.out 1).trans rfl; have hfz3u1_1 := aC BK3.out 1; clear hb))
   go_ret
   exact ⟨rfl, BL⟩
  | true =>
   rw [if_pos rfl] at h
   obtain ⟨m, hp3, h⟩ := Option.bind_eq_some_iff.mp h
   obtain rfl := Option.some.inj h
   have HP3 := ah.mk hp3
   clear h hp3
   have hcz0i_0 : W.cell? ⟨g0, 0, none⟩ = some (.string a3) := (ak BK0.out 0).trans rfl
   have hfz0i_0 := aC BK0.out 0
   have hcz1i_0 : W.cell? ⟨g1, 0, none⟩ = some (.int .i64 3) := (ak BK1.out 0).trans rfl
   have hfz1i_0 := aC BK1.out 0
   have hcz2i_0 : W.cell? ⟨g2, 0, none⟩ = some (.slice A1 l1.length c1) := (ak BK2.out 0).trans rfl
   have hfz2i_0 := aC BK2.out 0
   have hcz3i_0 : W.cell? ⟨g3, 0, none⟩ = some (.int .i64 FV) := (ak BK3.out 0).trans rfl
   have hfz3i_0 := aC BK3.out 0
   have hcz3i_1 : W.cell? ⟨g3, 1, none⟩ = some (.slice A0_1 F7.length c0_1) := (ak BK3.out 1).trans rfl
   have hfz3i_1 := aC BK3.out 1
   go_enter Tryz.func130, Tryz.ntmps130
   go_wp2_with (first | ((with_reducible refine ay (f := 131) rfl ?_); refine iR _ rfl rfl Tryz.func131 (by kernel_rfl) rfl #[.string a3, .string s] rfl (by (try simp only [List.map_toArray, List.map_cons, List.map_nil]); first | done | rfl | (simp only [List.length_drop, List.length_take]; rfl)) ?_; refine (FPC.out true _ HP1.out).mono ?_; rintro e w_ ⟨rfl, hb⟩; refine ⟨_, rfl, ?_⟩; have n0_ := BS (w := W) hb; have m0_ := ah.mk (aR (g := g0) (o := .cells #[.string a3] 9 (0, 0)) BK hb); have m1_ := ah.mk (aR (g := g1) (o := .cells #[.int .i64 3] 3 (0, 0)) BK hb); have m2_ := ah.mk (aR (g := g2) (o := .cells #[.slice A1 l1.length c1] 36 (0, 0)) BK hb); have m3_ := ah.mk (aR (g := g3) (o := .cells #[.int .i64 FV, .slice A0_1 F7.length c0_1] 82 (0, 0)) BK hb); clear HB BK0 BK1 BK2 BK3; have HB := n0_; have BK0 := m0_; have BK1 := m1_; have BK2 := m2_; have BK3 := m3_; clear n0_ m0_ m1_ m2_ m3_; have hcz0u0_0 : w_.cell? ⟨g0, 0, none⟩ = some (.string a3) := (ak BK0.out 0).trans rfl; have hfz0u0_0 := aC BK0.out 0; have hcz1u0_0 : w_.cell? ⟨g1, 0, none⟩ = some (.int .i64 3) := (ak BK1.out 0).trans rfl; have hfz1u0_0 := aC BK1.out 0; have hcz2u0_0 : w_.cell? ⟨g2, 0, none⟩ = some (.slice A1 l1.length c1) := (ak BK2.out 0).trans rfl; have hfz2u0_0 := aC BK2.out 0; have hcz3u0_0 : w_.cell? ⟨g3, 0, none⟩ = some (.int .i64 FV) := (ak BK3.out 0).trans rfl; have hfz3u0_0 := aC BK3.out 0; have hcz3u0_1 : w_.cell? ⟨g3, 1, none⟩ = some (.slice A0_1 F7.length c0_1) := (ak BK3.out 1).trans rfl; have hfz3u0_1 := aC BK3.out 1; clear hb) | (go_at_call 119; refine (HSC.out true _ BL HP2.out).mono ?_; rintro e w_ ⟨rfl, hb⟩; have n0_ := BS (w := W) hb; have m0_ := ah.mk (aR (g := g0) (o := .cells #[.string a3] 9 (0, 0)) BK hb); have m1_ := ah.mk (aR (g := g1) (o := .cells #[.int .i64 3] 3 (0, 0)) BK hb); have m2_ := ah.mk (aR (g := g2) (o := .cells #[.slice A1 l1.length c1] 36 (0, 0)) BK hb); have m3_ := ah.mk (aR (g := g3) (o := .cells #[.int .i64 FV, .slice A0_1 F7.length c0_1] 82 (0, 0)) BK hb); clear HB BK0 BK1 BK2 BK3; have HB := n0_; have BK0 := m0_; have BK1 := m1_; have BK2 := m2_; have BK3 := m3_; clear n0_ m0_ m1_ m2_ m3_; have hcz0u1_0 : w_.cell? ⟨g0, 0, none⟩ = some (.string a3) := (ak BK0.out 0).trans rfl; have hfz0u1_0 := aC BK0.out 0; have hcz1u1_0 : w_.cell? ⟨g1, 0, none⟩ = some (.int .i64 3) := (ak BK1.out 0).trans rfl; have hfz1u1_0 := aC BK1.out 0; have hcz2u1_0 : w_.cell? ⟨g2, 0, none⟩ = some (.slice A1 l1.length c1) := (ak BK2.out 0).trans rfl; have hfz2u1_0 := aC BK2.out 0; have hcz3u1_0 : w_.cell? ⟨g3, 0, none⟩ = some (.int .i64 FV) := (ak BK3.out 0).trans rfl; have hfz3u1_0 := aC BK3.out 0; have hcz3u1_1 : w_.cell? ⟨g3, 1, none⟩ = some (.slice A0_1 F7.length c0_1) := (ak BK3.out 1).trans rfl; have hfz3u1_1 := aC BK3.out 1; clear hb) | (go_at_call 120; refine (MKC.out m _ BL HP3.out).mono ?_; rintro e w_ ⟨rfl, hb⟩; have n0_ := BS (w := W) hb; have m0_ := ah.mk (aR (g := g0) (o := .cells #[.string a3] 9 (0, 0)) BK hb); have m1_ := ah.mk (aR (g := g1) (o := .cells #[.int .i64 3] 3 (0, 0)) BK hb); have m2_ := ah.mk (aR (g := g2) (o := .cells #[.slice A1 l1.length c1] 36 (0, 0)) BK hb); have m3_ := ah.mk (aR (g := g3) (o := .cells #[.int .i64 FV, .slice A0_1 F7.length c0_1] 82 (0, 0)) BK hb); clear HB BK0 BK1 BK2 BK3; have HB := n0_; have BK0 := m0_; have BK1 := m1_; have BK2 := m2_; have BK3 := m3_; clear n0_ m0_ m1_ m2_ m3_; have hcz0u2_0 : w_.cell? ⟨g0, 0, none⟩ = some (.string a3) := (ak BK0.out 0).trans rfl; have hfz0u2_0 := aC BK0.out 0; have hcz1u2_0 : w_.cell? ⟨g1, 0, none⟩ = some (.int .i64 3) := (ak BK1.out 0).trans rfl; have hfz1u2_0 := aC BK1.out 0; have hcz2u2_0 : w_.cell? ⟨g2, 0, none⟩ = some (.slice A1 l1.length c1) := (ak BK2.out 0).trans rfl; have hfz2u2_0 := aC BK2.out 0; have hcz3u2_0 : w_.cell? ⟨g3, 0, none⟩ = some (.int .i64 FV) := (ak BK3.out 0).trans rfl; have hfz3u2_0 := aC BK3.out 0; have hcz3u2_1 : w_.cell? ⟨g3, 1, none⟩ = some (.slice A0_1 F7.length c0_1) := (ak BK3.out 1).trans rfl; have hfz3u2_1 := aC BK3.out 1; clear hb))
   go_ret
   exact ⟨rfl, BL⟩
theorem aW.calls (k : Nat) (FV : Int) (A0_1 : Option Addr) (c0_1 : Nat) (F7 : List (dB)) (A1 : Option Addr) (c1 : Nat) (l1 : List (S84)) (A2 : Option Addr) (c2 : Nat) (l2 : List ByteArray) (a3 : ByteArray) (a4 : Int) (r : List ByteArray) (w : World) (hr0_1 : Kd.C jw w A0_1 F7.length F7) (hc0_1 : F7.length ≤ c0_1) (hr1 : Kd.C k84 w A1 l1.length l1) (hc1 : l1.length ≤ c1) (hr2 : Kd.C Kd.string w A2 l2.length l2) (hc2 : l2.length ≤ c2) (h : aW.f k FV F7 l1 l2 a3 a4 = some r) :
  Calls Tryz.prog 74 #[.agg #[.int .i64 FV, .slice A0_1 F7.length c0_1], .slice A1 l1.length c1, .slice A2 l2.length c2, .string a3, .int .i64 a4] w fun e w' => ∃ v0_ : Value, e = .returned (v0_) ∧ Kd.R Kd.string 9 w' w.heap.size (fun _ => True) v0_ r ∧ Below w.heap.size w w' := by
 have HR0 := ah.mk hr0_1
 have HC0 := ah.mk hc0_1
 have HR1 := ah.mk hr1
 have HC1 := ah.mk hc1
 have HR2 := ah.mk hr2
 have HC2 := ah.mk hc2
 have HB := ah.mk (Below.refl w.heap.size w)
 clear hr0_1 hc0_1 hr1 hc1 hr2 hc2
 unfold aW.f at h
 obtain ⟨q, h0, h⟩ := Option.bind_eq_some_iff.mp h
 have irc : ∀ V : World, Calls Tryz.prog 89 #[.int .i64 a4, .int .i64 0, .int .i64 3] V fun e w' => e = .returned (.bool q) ∧ Below V.heap.size V w' := fun V => by first | exact dh.calls a4 0 3 q V h0 | exact (dh.calls a4 0 3 q V h0).mono (fun e w' hq => ⟨hq.1, hq.2.below⟩) | exact (dh.calls a4 0 3 q V h0).mono (fun e w' hq => ⟨hq.1, by rw [hq.2]; exact Below.refl _ _⟩)
 have IRC := ah.mk irc
 clear irc
 cases q with
 | false =>
  rw [if_neg (by decide)] at h
  obtain rfl := Option.some.inj h
  clear h h0
  go_enter Tryz.func74, Tryz.ntmps74
  go_wp2_with (first | ((with_reducible refine aJ (N := 5) rfl ?_); refine bg (N := 5) (cs := #[.int .i64 FV, .slice A0_1 F7.length c0_1]) (t := 82) ?_; intro gb5 hg w5 hbox hb; have n1_ := ah.mk (hbox); replace HB := BS (w := w) hb; have BK5 := n1_; clear n1_; clear hb hbox hg) | ((with_reducible refine aJ (N := 6) rfl ?_); refine bg (N := 6) (cs := #[.slice A1 l1.length c1]) (t := 36) ?_; intro gb6 hg w6 hbox hb; have n0_ := BS (w := w) hb; have n1_ := ah.mk (hbox); have n2_ := KB BK5 hb; clear HB; have HB := n0_; have BK6 := n1_; clear n0_ n1_; clear BK5; have BK5 := n2_; clear n2_; clear hb hbox hg) | ((with_reducible refine aJ (N := 8) rfl ?_); refine bg (N := 8) (cs := #[.string a3]) (t := 9) ?_; intro gb8 hg w8 hbox hb; have n0_ := BS (w := w) hb; have n1_ := ah.mk (hbox); have n2_ := KB BK5 hb; have n3_ := KB BK6 hb; clear HB; have HB := n0_; have BK8 := n1_; clear n0_ n1_; clear BK5; have BK5 := n2_; clear n2_ BK6; have BK6 := n3_; clear n3_; clear hb hbox hg) | ((with_reducible refine aJ (N := 9) rfl ?_); refine bg (N := 9) (cs := #[.int .i64 a4]) (t := 3) ?_; intro gb9 hg w9 hbox hb; have n0_ := BS (w := w) hb; have n1_ := ah.mk (hbox); have n2_ := KB BK5 hb; have n3_ := KB BK6 hb; have n4_ := KB BK8 hb; clear HB; have HB := n0_; have BK9 := n1_; clear n0_ n1_; clear BK5; have BK5 := n2_; clear n2_ BK6; have BK6 := n3_; clear n3_ BK8; have BK8 := n4_; clear n4_; clear hb hbox hg; have hcz9 : w9.cell? ⟨gb9, 0, none⟩ = some (.int .i64 a4) := (ak BK9.out 0).trans rfl; have hfz9 := aC BK9.out 0) | ((with_reducible refine ay (f := 89) rfl ?_); refine iR _ rfl rfl Tryz.func89 (by kernel_rfl) rfl #[.int .i64 a4, .int .i64 0, .int .i64 3] rfl (by (try simp only [List.map_toArray, List.map_cons, List.map_nil]); first | done | rfl | (simp only [List.length_drop, List.length_take]; rfl)) ?_; refine (IRC.out _).mono ?_; rintro e w_ ⟨rfl, hb⟩; refine ⟨_, rfl, ?_⟩; have n0_ := BS (w := w) hb; have m5_ := KB BK5 hb; have m6_ := KB BK6 hb; have m8_ := KB BK8 hb; have m9_ := KB BK9 hb; clear HB BK5 BK6 BK8 BK9; have HB := n0_; have BK5 := m5_; have BK6 := m6_; have BK8 := m8_; have BK9 := m9_; clear n0_ m5_ m6_ m8_ m9_ hb))
  go_ret
  exact ⟨_, rfl, Kd.nX _ _ _ _ _, BL⟩
 | true =>
  rw [if_pos rfl] at h
  obtain ⟨t, h1, h2⟩ := Option.bind_eq_some_iff.mp h
  have h4 : a4 = 0 ∨ a4 = 1 ∨ a4 = 2 ∨ a4 = 3 := by
   unfold dh.f at h0
   by_cases x1 : (0 : Int) ≤ a4
   ·rw [if_pos x1] at h0
    have x2 : a4 ≤ 3 := of_decide_eq_true (Option.some.inj h0)
    omega
   ·rw [if_neg x1] at h0
    cases h0
  clear h h0
  rcases h4 with rfl | rfl | rfl | rfl
  ·have h1' : fu.f k l2 (fun j s => aW.g0 j FV F7 l1 a3 s) = some t := by
    rw [← h1]
    congr 1
   have H1 := ah.mk h1'
   have H2 := ah.mk h2
   clear h1 h1' h2
   go_enter Tryz.func74, Tryz.ntmps74
   go_wp2_with (first | ((with_reducible refine aJ (N := 5) rfl ?_); refine bg (N := 5) (cs := #[.int .i64 FV, .slice A0_1 F7.length c0_1]) (t := 82) ?_; intro gb5 hg w5 hbox hb; have n1_ := ah.mk (hbox); replace HB := BS (w := w) hb; have BK5 := n1_; clear n1_; clear hb hbox hg) | ((with_reducible refine aJ (N := 6) rfl ?_); refine bg (N := 6) (cs := #[.slice A1 l1.length c1]) (t := 36) ?_; intro gb6 hg w6 hbox hb; have n0_ := BS (w := w) hb; have n1_ := ah.mk (hbox); have n2_ := KB BK5 hb; clear HB; have HB := n0_; have BK6 := n1_; clear n0_ n1_; clear BK5; have BK5 := n2_; clear n2_; clear hb hbox hg) | ((with_reducible refine aJ (N := 8) rfl ?_); refine bg (N := 8) (cs := #[.string a3]) (t := 9) ?_; intro gb8 hg w8 hbox hb; have n0_ := BS (w := w) hb; have n1_ := ah.mk (hbox); have n2_ := KB BK5 hb; have n3_ := KB BK6 hb; clear HB; have HB := n0_; have BK8 := n1_; clear n0_ n1_; clear BK5; have BK5 := n2_; clear n2_ BK6; have BK6 := n3_; clear n3_; clear hb hbox hg) | ((with_reducible refine aJ (N := 9) rfl ?_); refine bg (N := 9) (cs := #[.int .i64 0]) (t := 3) ?_; intro gb9 hg w9 hbox hb; have n0_ := BS (w := w) hb; have n1_ := ah.mk (hbox); have n2_ := KB BK5 hb; have n3_ := KB BK6 hb; have n4_ := KB BK8 hb; clear HB; have HB := n0_; have BK9 := n1_; have hcz9 : w9.cell? ⟨gb9, 0, none⟩ = some (.int .i64 0) := (ak BK9.out 0).trans rfl; have hfz9 := aC BK9.out 0; clear n0_ n1_; clear BK5; have BK5 := n2_; clear n2_ BK6; have BK6 := n3_; clear n3_ BK8; have BK8 := n4_; clear n4_; clear hb hbox hg) | ((with_reducible refine ay (f := 89) rfl ?_); refine iR _ rfl rfl Tryz.func89 (by kernel_rfl) rfl #[.int .i64 0, .int .i64 0, .int .i64 3] rfl (by (try simp only [List.map_toArray, List.map_cons, List.map_nil]); first | done | rfl | (simp only [List.length_drop, List.length_take]; rfl)) ?_; refine (IRC.out _).mono ?_; rintro e w_ ⟨rfl, hb⟩; refine ⟨_, rfl, ?_⟩; have n0_ := BS (w := w) hb; have m5_ := KB BK5 hb; have m6_ := KB BK6 hb; have m8_ := KB BK8 hb; have m9_ := KB BK9 hb; clear HB BK5 BK6 BK8 BK9; have HB := n0_; have BK5 := m5_; have BK6 := m6_; have BK8 := m8_; have BK9 := m9_; clear n0_ m5_ m6_ m8_ m9_ hb) | ((with_reducible refine ay (f := 108) rfl ?_); refine iR _ rfl rfl Tryz.func108 (by kernel_rfl) rfl #[.slice A2 l2.length c2, .func (.func 130) #[] #[.pointer (some ⟨gb8, 0, none⟩), .pointer (some ⟨gb9, 0, none⟩), .pointer (some ⟨gb6, 0, none⟩), .pointer (some ⟨gb5, 0, none⟩)]] rfl (by (try simp only [List.map_toArray, List.map_cons, List.map_nil]); first | done | rfl | (simp only [List.length_drop, List.length_take]; rfl)) ?_; refine (fu.calls k _ _ l2 (fun j s => aW.g0 j FV F7 l1 a3 s) t _ (Kd.eO HR2.out BL) HC2.out H1.out 130 #[.pointer (some ⟨gb8, 0, none⟩), .pointer (some ⟨gb9, 0, none⟩), .pointer (some ⟨gb6, 0, none⟩), .pointer (some ⟨gb5, 0, none⟩)] (fun args w => oD Tryz.func130 (by kernel_rfl) rfl args w) (fun j s b W hb_ h_ => aW.CG j FV A0_1 c0_1 F7 A1 c1 l1 a3 s b W gb8 gb9 gb6 gb5 (aR (g := gb8) (o := .cells #[.string a3] 9 (0, 0)) BK hb_) (aR (g := gb9) (o := .cells #[.int .i64 0] 3 (0, 0)) BK hb_) (aR (g := gb6) (o := .cells #[.slice A1 l1.length c1] 36 (0, 0)) BK hb_) (aR (g := gb5) (o := .cells #[.int .i64 FV, .slice A0_1 F7.length c0_1] 82 (0, 0)) BK hb_) (Kd.eO HR0.out (gP BL hb_)) HC0.out (Kd.eO HR1.out (gP BL hb_)) HC1.out h_)).mono ?_; rintro e w_ ⟨v_, rfl, ho0, hb⟩; refine ⟨_, rfl, ?_⟩; have n0_ := ah.mk (Kd.cO ho0 (aQ BL)); replace HB := BS (w := w) hb; have HO1 := n0_; clear n0_ hb ho0; obtain ⟨Ao, co, eo⟩ := Kd.dL HO1.out; subst eo) | ((with_reducible refine ay (f := 116) rfl ?_); refine iR _ rfl rfl Tryz.func116 (by kernel_rfl) rfl #[.slice Ao t.length co] rfl (by (try simp only [List.map_toArray, List.map_cons, List.map_nil]); first | done | rfl | (simp only [List.length_drop, List.length_take]; rfl)) ?_; refine (gL.calls k _ _ t r _ ((Kd.bP (RR HO1)).2.2) ((Kd.bP HO1.out).2.1) H2.out).mono ?_; rintro e w_ ⟨v_, rfl, ho0, hb⟩; refine ⟨_, rfl, ?_⟩; have n0_ := ah.mk (Kd.cO ho0 (aQ BL)); replace HB := BS (w := w) hb; clear HO1; have HO2 := n0_; clear n0_ hb ho0))
   go_ret
   exact ⟨_, rfl, (RR HO2), BL⟩
  ·have h1' : fu.f k l2 (fun j s => aW.g1 j FV F7 l1 a3 s) = some t := by
    rw [← h1]
    congr 1
   have H1 := ah.mk h1'
   have H2 := ah.mk h2
   clear h1 h1' h2
   go_enter Tryz.func74, Tryz.ntmps74
   go_wp2_with (first | ((with_reducible refine aJ (N := 5) rfl ?_); refine bg (N := 5) (cs := #[.int .i64 FV, .slice A0_1 F7.length c0_1]) (t := 82) ?_; intro gb5 hg w5 hbox hb; have n1_ := ah.mk (hbox); replace HB := BS (w := w) hb; have BK5 := n1_; clear n1_; clear hb hbox hg) | ((with_reducible refine aJ (N := 6) rfl ?_); refine bg (N := 6) (cs := #[.slice A1 l1.length c1]) (t := 36) ?_; intro gb6 hg w6 hbox hb; have n0_ := BS (w := w) hb; have n1_ := ah.mk (hbox); have n2_ := KB BK5 hb; clear HB; have HB := n0_; have BK6 := n1_; clear n0_ n1_; clear BK5; have BK5 := n2_; clear n2_; clear hb hbox hg) | ((with_reducible refine aJ (N := 8) rfl ?_); refine bg (N := 8) (cs := #[.string a3]) (t := 9) ?_; intro gb8 hg w8 hbox hb; have n0_ := BS (w := w) hb; have n1_ := ah.mk (hbox); have n2_ := KB BK5 hb; have n3_ := KB BK6 hb; clear HB; have HB := n0_; have BK8 := n1_; clear n0_ n1_; clear BK5; have BK5 := n2_; clear n2_ BK6; have BK6 := n3_; clear n3_; clear hb hbox hg) | ((with_reducible refine aJ (N := 9) rfl ?_); refine bg (N := 9) (cs := #[.int .i64 1]) (t := 3) ?_; intro gb9 hg w9 hbox hb; have n0_ := BS (w := w) hb; have n1_ := ah.mk (hbox); have n2_ := KB BK5 hb; have n3_ := KB BK6 hb; have n4_ := KB BK8 hb; clear HB; have HB := n0_; have BK9 := n1_; have hcz9 : w9.cell? ⟨gb9, 0, none⟩ = some (.int .i64 1) := (ak BK9.out 0).trans rfl; have hfz9 := aC BK9.out 0; clear n0_ n1_; clear BK5; have BK5 := n2_; clear n2_ BK6; have BK6 := n3_; clear n3_ BK8; have BK8 := n4_; clear n4_; clear hb hbox hg) | ((with_reducible refine ay (f := 89) rfl ?_); refine iR _ rfl rfl Tryz.func89 (by kernel_rfl) rfl #[.int .i64 1, .int .i64 0, .int .i64 3] rfl (by (try simp only [List.map_toArray, List.map_cons, List.map_nil]); first | done | rfl | (simp only [List.length_drop, List.length_take]; rfl)) ?_; refine (IRC.out _).mono ?_; rintro e w_ ⟨rfl, hb⟩; refine ⟨_, rfl, ?_⟩; have n0_ := BS (w := w) hb; have m5_ := KB BK5 hb; have m6_ := KB BK6 hb; have m8_ := KB BK8 hb; have m9_ := KB BK9 hb; clear HB BK5 BK6 BK8 BK9; have HB := n0_; have BK5 := m5_; have BK6 := m6_; have BK8 := m8_; have BK9 := m9_; clear n0_ m5_ m6_ m8_ m9_ hb) | ((with_reducible refine ay (f := 108) rfl ?_); refine iR _ rfl rfl Tryz.func108 (by kernel_rfl) rfl #[.slice A2 l2.length c2, .func (.func 130) #[] #[.pointer (some ⟨gb8, 0, none⟩), .pointer (some ⟨gb9, 0, none⟩), .pointer (some ⟨gb6, 0, none⟩), .pointer (some ⟨gb5, 0, none⟩)]] rfl (by (try simp only [List.map_toArray, List.map_cons, List.map_nil]); first | done | rfl | (simp only [List.length_drop, List.length_take]; rfl)) ?_; refine (fu.calls k _ _ l2 (fun j s => aW.g1 j FV F7 l1 a3 s) t _ (Kd.eO HR2.out BL) HC2.out H1.out 130 #[.pointer (some ⟨gb8, 0, none⟩), .pointer (some ⟨gb9, 0, none⟩), .pointer (some ⟨gb6, 0, none⟩), .pointer (some ⟨gb5, 0, none⟩)] (fun args w => oD Tryz.func130 (by kernel_rfl) rfl args w) (fun j s b W hb_ h_ => aW.Dg j FV A0_1 c0_1 F7 A1 c1 l1 a3 s b W gb8 gb9 gb6 gb5 (aR (g := gb8) (o := .cells #[.string a3] 9 (0, 0)) BK hb_) (aR (g := gb9) (o := .cells #[.int .i64 1] 3 (0, 0)) BK hb_) (aR (g := gb6) (o := .cells #[.slice A1 l1.length c1] 36 (0, 0)) BK hb_) (aR (g := gb5) (o := .cells #[.int .i64 FV, .slice A0_1 F7.length c0_1] 82 (0, 0)) BK hb_) (Kd.eO HR0.out (gP BL hb_)) HC0.out (Kd.eO HR1.out (gP BL hb_)) HC1.out h_)).mono ?_; rintro e w_ ⟨v_, rfl, ho0, hb⟩; refine ⟨_, rfl, ?_⟩; have n0_ := ah.mk (Kd.cO ho0 (aQ BL)); replace HB := BS (w := w) hb; have HO1 := n0_; clear n0_ hb ho0; obtain ⟨Ao, co, eo⟩ := Kd.dL HO1.out; subst eo) | ((with_reducible refine ay (f := 116) rfl ?_); refine iR _ rfl rfl Tryz.func116 (by kernel_rfl) rfl #[.slice Ao t.length co] rfl (by (try simp only [List.map_toArray, List.map_cons, List.map_nil]); first | done | rfl | (simp only [List.length_drop, List.length_take]; rfl)) ?_; refine (gL.calls k _ _ t r _ ((Kd.bP (RR HO1)).2.2) ((Kd.bP HO1.out).2.1) H2.out).mono ?_; rintro e w_ ⟨v_, rfl, ho0, hb⟩; refine ⟨_, rfl, ?_⟩; have n0_ := ah.mk (Kd.cO ho0 (aQ BL)); replace HB := BS (w := w) hb; clear HO1; have HO2 := n0_; clear n0_ hb ho0))
   go_ret
   exact ⟨_, rfl, (RR HO2), BL⟩
  ·have h1' : fu.f k l2 (fun j s => aW.g2 j FV F7 l1 a3 s) = some t := by
    rw [← h1]
    congr 1
   have H1 := ah.mk h1'
   have H2 := ah.mk h2
   clear h1 h1' h2
   go_enter Tryz.func74, Tryz.ntmps74
   go_wp2_with (first | ((with_reducible refine aJ (N := 5) rfl ?_); refine bg (N := 5) (cs := #[.int .i64 FV, .slice A0_1 F7.length c0_1]) (t := 82) ?_; intro gb5 hg w5 hbox hb; have n1_ := ah.mk (hbox); replace HB := BS (w := w) hb; have BK5 := n1_; clear n1_; clear hb hbox hg) | ((with_reducible refine aJ (N := 6) rfl ?_); refine bg (N := 6) (cs := #[.slice A1 l1.length c1]) (t := 36) ?_; intro gb6 hg w6 hbox hb; have n0_ := BS (w := w) hb; have n1_ := ah.mk (hbox); have n2_ := KB BK5 hb; clear HB; have HB := n0_; have BK6 := n1_; clear n0_ n1_; clear BK5; have BK5 := n2_; clear n2_; clear hb hbox hg) | ((with_reducible refine aJ (N := 8) rfl ?_); refine bg (N := 8) (cs := #[.string a3]) (t := 9) ?_; intro gb8 hg w8 hbox hb; have n0_ := BS (w := w) hb; have n1_ := ah.mk (hbox); have n2_ := KB BK5 hb; have n3_ := KB BK6 hb; clear HB; have HB := n0_; have BK8 := n1_; clear n0_ n1_; clear BK5; have BK5 := n2_; clear n2_ BK6; have BK6 := n3_; clear n3_; clear hb hbox hg) | ((with_reducible refine aJ (N := 9) rfl ?_); refine bg (N := 9) (cs := #[.int .i64 2]) (t := 3) ?_; intro gb9 hg w9 hbox hb; have n0_ := BS (w := w) hb; have n1_ := ah.mk (hbox); have n2_ := KB BK5 hb; have n3_ := KB BK6 hb; have n4_ := KB BK8 hb; clear HB; have HB := n0_; have BK9 := n1_; have hcz9 : w9.cell? ⟨gb9, 0, none⟩ = some (.int .i64 2) := (ak BK9.out 0).trans rfl; have hfz9 := aC BK9.out 0; clear n0_ n1_; clear BK5; have BK5 := n2_; clear n2_ BK6; have BK6 := n3_; clear n3_ BK8; have BK8 := n4_; clear n4_; clear hb hbox hg) | ((with_reducible refine ay (f := 89) rfl ?_); refine iR _ rfl rfl Tryz.func89 (by kernel_rfl) rfl #[.int .i64 2, .int .i64 0, .int .i64 3] rfl (by (try simp only [List.map_toArray, List.map_cons, List.map_nil]); first | done | rfl | (simp only [List.length_drop, List.length_take]; rfl)) ?_; refine (IRC.out _).mono ?_; rintro e w_ ⟨rfl, hb⟩; refine ⟨_, rfl, ?_⟩; have n0_ := BS (w := w) hb; have m5_ := KB BK5 hb; have m6_ := KB BK6 hb; have m8_ := KB BK8 hb; have m9_ := KB BK9 hb; clear HB BK5 BK6 BK8 BK9; have HB := n0_; have BK5 := m5_; have BK6 := m6_; have BK8 := m8_; have BK9 := m9_; clear n0_ m5_ m6_ m8_ m9_ hb) | ((with_reducible refine ay (f := 108) rfl ?_); refine iR _ rfl rfl Tryz.func108 (by kernel_rfl) rfl #[.slice A2 l2.length c2, .func (.func 130) #[] #[.pointer (some ⟨gb8, 0, none⟩), .pointer (some ⟨gb9, 0, none⟩), .pointer (some ⟨gb6, 0, none⟩), .pointer (some ⟨gb5, 0, none⟩)]] rfl (by (try simp only [List.map_toArray, List.map_cons, List.map_nil]); first | done | rfl | (simp only [List.length_drop, List.length_take]; rfl)) ?_; refine (fu.calls k _ _ l2 (fun j s => aW.g2 j FV F7 l1 a3 s) t _ (Kd.eO HR2.out BL) HC2.out H1.out 130 #[.pointer (some ⟨gb8, 0, none⟩), .pointer (some ⟨gb9, 0, none⟩), .pointer (some ⟨gb6, 0, none⟩), .pointer (some ⟨gb5, 0, none⟩)] (fun args w => oD Tryz.func130 (by kernel_rfl) rfl args w) (fun j s b W hb_ h_ => aW.CW j FV A0_1 c0_1 F7 A1 c1 l1 a3 s b W gb8 gb9 gb6 gb5 (aR (g := gb8) (o := .cells #[.string a3] 9 (0, 0)) BK hb_) (aR (g := gb9) (o := .cells #[.int .i64 2] 3 (0, 0)) BK hb_) (aR (g := gb6) (o := .cells #[.slice A1 l1.length c1] 36 (0, 0)) BK hb_) (aR (g := gb5) (o := .cells #[.int .i64 FV, .slice A0_1 F7.length c0_1] 82 (0, 0)) BK hb_) (Kd.eO HR0.out (gP BL hb_)) HC0.out (Kd.eO HR1.out (gP BL hb_)) HC1.out h_)).mono ?_; rintro e w_ ⟨v_, rfl, ho0, hb⟩; refine ⟨_, rfl, ?_⟩; have n0_ := ah.mk (Kd.cO ho0 (aQ BL)); replace HB := BS (w := w) hb; have HO1 := n0_; clear n0_ hb ho0; obtain ⟨Ao, co, eo⟩ := Kd.dL HO1.out; subst eo) | ((with_reducible refine ay (f := 116) rfl ?_); refine iR _ rfl rfl Tryz.func116 (by kernel_rfl) rfl #[.slice Ao t.length co] rfl (by (try simp only [List.map_toArray, List.map_cons, List.map_nil]); first | done | rfl | (simp only [List.length_drop, List.length_take]; rfl)) ?_; refine (gL.calls k _ _ t r _ ((Kd.bP (RR HO1)).2.2) ((Kd.bP HO1.out).2.1) H2.out).mono ?_; rintro e w_ ⟨v_, rfl, ho0, hb⟩; refine ⟨_, rfl, ?_⟩; have n0_ := ah.mk (Kd.cO ho0 (aQ BL)); replace HB := BS (w := w) hb; clear HO1; have HO2 := n0_; clear n0_ hb ho0))
   go_ret
   exact ⟨_, rfl, (RR HO2), BL⟩
  ·have h1' : fu.f k l2 (fun j s => aW.g3 j FV F7 l1 a3 s) = some t := by
    rw [← h1]
    congr 1
   have H1 := ah.mk h1'
   have H2 := ah.mk h2
   clear h1 h1' h2
   go_enter Tryz.func74, Tryz.ntmps74
   go_wp2_with (first | ((with_reducible refine aJ (N := 5) rfl ?_); refine bg (N := 5) (cs := #[.int .i64 FV, .slice A0_1 F7.length c0_1]) (t := 82) ?_; intro gb5 hg w5 hbox hb; have n1_ := ah.mk (hbox); replace HB := BS (w := w) hb; have BK5 := n1_; clear n1_; clear hb hbox hg) | ((with_reducible refine aJ (N := 6) rfl ?_); refine bg (N := 6) (cs := #[.slice A1 l1.length c1]) (t := 36) ?_; intro gb6 hg w6 hbox hb; have n0_ := BS (w := w) hb; have n1_ := ah.mk (hbox); have n2_ := KB BK5 hb; clear HB; have HB := n0_; have BK6 := n1_; clear n0_ n1_; clear BK5; have BK5 := n2_; clear n2_; clear hb hbox hg) | ((with_reducible refine aJ (N := 8) rfl ?_); refine bg (N := 8) (cs := #[.string a3]) (t := 9) ?_; intro gb8 hg w8 hbox hb; have n0_ := BS (w := w) hb; have n1_ := ah.mk (hbox); have n2_ := KB BK5 hb; have n3_ := KB BK6 hb; clear HB; have HB := n0_; have BK8 := n1_; clear n0_ n1_; clear BK5; have BK5 := n2_; clear n2_ BK6; have BK6 := n3_; clear n3_; clear hb hbox hg) | ((with_reducible refine aJ (N := 9) rfl ?_); refine bg (N := 9) (cs := #[.int .i64 3]) (t := 3) ?_; intro gb9 hg w9 hbox hb; have n0_ := BS (w := w) hb; have n1_ := ah.mk (hbox); have n2_ := KB BK5 hb; have n3_ := KB BK6 hb; have n4_ := KB BK8 hb; clear HB; have HB := n0_; have BK9 := n1_; have hcz9 : w9.cell? ⟨gb9, 0, none⟩ = some (.int .i64 3) := (ak BK9.out 0).trans rfl; have hfz9 := aC BK9.out 0; clear n0_ n1_; clear BK5; have BK5 := n2_; clear n2_ BK6; have BK6 := n3_; clear n3_ BK8; have BK8 := n4_; clear n4_; clear hb hbox hg) | ((with_reducible refine ay (f := 89) rfl ?_); refine iR _ rfl rfl Tryz.func89 (by kernel_rfl) rfl #[.int .i64 3, .int .i64 0, .int .i64 3] rfl (by (try simp only [List.map_toArray, List.map_cons, List.map_nil]); first | done | rfl | (simp only [List.length_drop, List.length_take]; rfl)) ?_; refine (IRC.out _).mono ?_; rintro e w_ ⟨rfl, hb⟩; refine ⟨_, rfl, ?_⟩; have n0_ := BS (w := w) hb; have m5_ := KB BK5 hb; have m6_ := KB BK6 hb; have m8_ := KB BK8 hb; have m9_ := KB BK9 hb; clear HB BK5 BK6 BK8 BK9; have HB := n0_; have BK5 := m5_; have BK6 := m6_; have BK8 := m8_; have BK9 := m9_; clear n0_ m5_ m6_ m8_ m9_ hb) | ((with_reducible refine ay (f := 108) rfl ?_); refine iR _ rfl rfl Tryz.func108 (by kernel_rfl) rfl #[.slice A2 l2.length c2, .func (.func 130) #[] #[.pointer (some ⟨gb8, 0, none⟩), .pointer (some ⟨gb9, 0, none⟩), .pointer (some ⟨gb6, 0, none⟩), .pointer (some ⟨gb5, 0, none⟩)]] rfl (by (try simp only [List.map_toArray, List.map_cons, List.map_nil]); first | done | rfl | (simp only [List.length_drop, List.length_take]; rfl)) ?_; refine (fu.calls k _ _ l2 (fun j s => aW.g3 j FV F7 l1 a3 s) t _ (Kd.eO HR2.out BL) HC2.out H1.out 130 #[.pointer (some ⟨gb8, 0, none⟩), .pointer (some ⟨gb9, 0, none⟩), .pointer (some ⟨gb6, 0, none⟩), .pointer (some ⟨gb5, 0, none⟩)] (fun args w => oD Tryz.func130 (by kernel_rfl) rfl args w) (fun j s b W hb_ h_ => aW.BX j FV A0_1 c0_1 F7 A1 c1 l1 a3 s b W gb8 gb9 gb6 gb5 (aR (g := gb8) (o := .cells #[.string a3] 9 (0, 0)) BK hb_) (aR (g := gb9) (o := .cells #[.int .i64 3] 3 (0, 0)) BK hb_) (aR (g := gb6) (o := .cells #[.slice A1 l1.length c1] 36 (0, 0)) BK hb_) (aR (g := gb5) (o := .cells #[.int .i64 FV, .slice A0_1 F7.length c0_1] 82 (0, 0)) BK hb_) (Kd.eO HR0.out (gP BL hb_)) HC0.out (Kd.eO HR1.out (gP BL hb_)) HC1.out h_)).mono ?_; rintro e w_ ⟨v_, rfl, ho0, hb⟩; refine ⟨_, rfl, ?_⟩; have n0_ := ah.mk (Kd.cO ho0 (aQ BL)); replace HB := BS (w := w) hb; have HO1 := n0_; clear n0_ hb ho0; obtain ⟨Ao, co, eo⟩ := Kd.dL HO1.out; subst eo) | ((with_reducible refine ay (f := 116) rfl ?_); refine iR _ rfl rfl Tryz.func116 (by kernel_rfl) rfl #[.slice Ao t.length co] rfl (by (try simp only [List.map_toArray, List.map_cons, List.map_nil]); first | done | rfl | (simp only [List.length_drop, List.length_take]; rfl)) ?_; refine (gL.calls k _ _ t r _ ((Kd.bP (RR HO1)).2.2) ((Kd.bP HO1.out).2.1) H2.out).mono ?_; rintro e w_ ⟨v_, rfl, ho0, hb⟩; refine ⟨_, rfl, ?_⟩; have n0_ := ah.mk (Kd.cO ho0 (aQ BL)); replace HB := BS (w := w) hb; clear HO1; have HO2 := n0_; clear n0_ hb ho0))
   go_ret
   exact ⟨_, rfl, (RR HO2), BL⟩
def iU.f (k : Nat) (FV FW : Int) (FX a1 : ByteArray) (a2 : Int) : Option (ByteArray) := (eG.f k FV FW FX a1).bind fun t630 => ((lq.f a2 (t630.length : Int)).bind fun t633 => (if t633 = true then (if 0 ≤ a2 then (if a2 < (t630.length : Int) then (some (fA ByteArray.empty t630 a2)) else (none)) else (none)) else (some (⟨#[]⟩ : ByteArray))))
theorem iU.calls (k : Nat) (FV FW : Int) (FX a1 : ByteArray) (a2 : Int) (r : ByteArray) (w : World) (h : iU.f k FV FW FX a1 a2 = some r) :
  Calls Tryz.prog 132 #[.agg #[.int .i64 FV, .int .i64 FW, .string FX], .string a1, .int .i64 a2] w fun e w' => e = .returned (.string r) ∧ Below w.heap.size w w' := by
 have hu32 := Tryz.underlying32
 have HB := ah.mk (Below.refl w.heap.size w)
 unfold iU.f at h
 have H := h
 clear h
 replace H := be H; obtain ⟨t630, A4, H⟩ := H
 replace H := be H; obtain ⟨t633, A5, H⟩ := H
 replace H := ah.mk H
 go_enter Tryz.func132, Tryz.ntmps132
 go_wp2_with (first | ((with_reducible refine aJ (N := 3) rfl ?_); refine bg (N := 3) (cs := #[.int .i64 FV, .int .i64 FW, .string FX]) (t := 32) ?_; intro gb629 hg w9000 hbox hb; have BK629 := ah.mk hbox; have GW629 := SZ (w := w) hg; have GE629 := GW629; replace HB := BS (w := w) hb; clear hb hbox hg; obtain ⟨hcz9001_0, hcz9001_1, hcz9001_2, hfz9001_0, hfz9001_1, hfz9001_2⟩ := cz3 BK629.out) | ((with_reducible refine ay (f := 72) rfl ?_); refine bE (some 10) Tryz.func72 #[.agg #[.int .i64 FV, .int .i64 FW, .string FX], .string a1] ?_; (with_reducible refine (eG.calls k FV FW FX a1 t630 _ A4.out).mono ?_); rintro e w9002 ⟨v631, rfl, ho0, hb⟩; refine ⟨_, rfl, ?_⟩; have n0_ := ah.mk (Kd.cO ho0 (aQ BL)); replace BK629 := KB BK629 hb; replace HB := BS (w := w) hb; have HO632 := n0_; clear n0_; (try clear hb); (try clear ho0); obtain ⟨Ao9003, co9003, eo9003⟩ := Kd.dL HO632.out; subst eo9003) | ((with_reducible refine ay (f := 165) rfl ?_); refine bE (some 14) Tryz.func165 #[.int .i64 a2, .int .i64 (t630.length : Int)] ?_; (with_reducible refine (lq.calls a2 (t630.length : Int) _ _ A5.out).mono ?_); rintro e w' ⟨rfl, ⟨nd, rfl⟩⟩; refine ⟨_, rfl, ?_⟩; refine bU ?_))
 refine Hide.mk ?_
 replace H := H.out
 replace H := ifB H; rcases H with ⟨rfl, H⟩ | ⟨rfl, H⟩
 ·replace H := ifN H; obtain ⟨c7b0, H⟩ := H
  replace H := ifN H; obtain ⟨c8b0, H⟩ := H
  obtain rfl := Option.some.inj H
  have p634 : 0 ≤ (a2 : Int) := OD
  have q634 : a2 < (t630.length : Int) := OD
  obtain ⟨ad634, e634, hx634_0⟩ := Kd.jo (Kd.bP HO632.out).2.2 a2 p634 q634
  cases e634
  replace p634 := eq_true p634
  replace q634 := eq_true q634
  go_wp2
  go_ret
  exact ⟨EWW, BL⟩
 ·obtain rfl := Option.some.inj H
  try go_wp2
  go_ret
  exact ⟨EWW, BL⟩
def je.f (a0 : ByteArray) (l1 : List Int) (a2 : ByteArray) : Option (ByteArray) := if a0.size ≤ 1000 ∧ l1.length ≤ a2.size ∧ a2.size ≤ 1000 ∧ (∀ x ∈ l1, 0 ≤ x ∧ x < a0.size) then (some (strOfNums (Go.Proofs.YtnfiedfaaaphoaaGreat.HandPut.wrA l1 a2 (Go.Proofs.YtnfiedfaaaphoaaGreat.HandSort.nums a0).toArray l1.length).toList)) else (none)
theorem je.calls (a0 : ByteArray) (A1 : Option Addr) (c1 : Nat) (l1 : List Int) (a2 r : ByteArray) (w : World) (hr1 : Kd.C (Kd.int .i64) w A1 l1.length l1) (hc1 : l1.length ≤ c1) (h : je.f a0 l1 a2 = some r) :
  Calls Tryz.prog 133 #[.string a0, .slice A1 l1.length c1, .string a2] w fun e w' => e = .returned (.string r) ∧ Below w.heap.size w w' := by
 unfold je.f at h
 by_cases h1 : a0.size ≤ 1000 ∧ l1.length ≤ a2.size ∧ a2.size ≤ 1000 ∧ (∀ x ∈ l1, 0 ≤ x ∧ x < a0.size)
 ·rw [if_pos h1] at h
  obtain rfl := Option.some.inj h
  exact Go.Proofs.YtnfiedfaaaphoaaGreat.HandPut.yH a0 a2 A1 c1 l1 w hr1 hc1 h1.1 h1.2.1 h1.2.2.1 h1.2.2.2
 ·rw [if_neg h1] at h
  cases h
def jY.f (k : Nat) (FV FW : Int) (FX a1 : ByteArray) (a2 : Int) (a3 : ByteArray) : Option (ByteArray × Bool) := (iU.f k FV FW FX a1 a2).bind fun t636 => ((aX.f k t636 a3).bind fun t637 => (if t637 = true then ((dX.f k FV FW FX).bind fun t638 => (if 0 ≤ a2 then (if a2 < (t638.length : Int) then ((je.f a1 (iO t638 a2) a3).bind fun t642 => (some (t642, true))) else (none)) else (none))) else (some (a1, false))))
theorem jY.calls (k : Nat) (FV FW : Int) (FX a1 : ByteArray) (a2 : Int) (a3 r1 : ByteArray) (r2 : Bool) (w : World) (h : jY.f k FV FW FX a1 a2 a3 = some (r1, r2)) :
  Calls Tryz.prog 75 #[.agg #[.int .i64 FV, .int .i64 FW, .string FX], .string a1, .int .i64 a2, .string a3] w fun e w' => e = .returned (.tuple #[.string r1, .bool r2]) ∧ Below w.heap.size w w' := by
 have hu32 := Tryz.underlying32
 have HB := ah.mk (Below.refl w.heap.size w)
 unfold jY.f at h
 have H := h
 clear h
 replace H := be H; obtain ⟨t636, A5, H⟩ := H
 replace H := be H; obtain ⟨t637, A6, H⟩ := H
 replace H := ah.mk H
 go_enter Tryz.func75, Tryz.ntmps75
 go_wp2_with (first | ((with_reducible refine aJ (N := 4) rfl ?_); refine bg (N := 4) (cs := #[.int .i64 FV, .int .i64 FW, .string FX]) (t := 32) ?_; intro gb635 hg w9000 hbox hb; have BK635 := ah.mk hbox; have GW635 := SZ (w := w) hg; have GE635 := GW635; replace HB := BS (w := w) hb; clear hb hbox hg; obtain ⟨hcz9001_0, hcz9001_1, hcz9001_2, hfz9001_0, hfz9001_1, hfz9001_2⟩ := cz3 BK635.out) | ((with_reducible refine ay (f := 132) rfl ?_); refine bE (some 13) Tryz.func132 #[.agg #[.int .i64 FV, .int .i64 FW, .string FX], .string a1, .int .i64 a2] ?_; (with_reducible refine (iU.calls k FV FW FX a1 a2 t636 _ A5.out).mono ?_); rintro e w9002 ⟨rfl, hb⟩; refine ⟨_, rfl, ?_⟩; replace BK635 := KB BK635 hb; replace HB := BS (w := w) hb; (try clear hb)) | ((with_reducible refine ay (f := 131) rfl ?_); refine bE (some 15) Tryz.func131 #[.string t636, .string a3] ?_; (with_reducible refine (aX.calls k t636 a3 _ _ A6.out).mono ?_); rintro e w' ⟨rfl, ⟨nd, rfl⟩⟩; refine ⟨_, rfl, ?_⟩; obtain ⟨hcz9003_0, hcz9003_1, hcz9003_2, hfz9003_0, hfz9003_1, hfz9003_2⟩ := cz3 BK635.out; refine bU ?_))
 refine Hide.mk ?_
 replace H := H.out
 replace H := ifB H; rcases H with ⟨rfl, H⟩ | ⟨rfl, H⟩
 ·replace H := be H; obtain ⟨t638, A8, H⟩ := H
  replace H := ifN H; obtain ⟨c9b0, H⟩ := H
  replace H := ifN H; obtain ⟨c10b0, H⟩ := H
  replace H := be H; obtain ⟨t642, A11, H⟩ := H
  simp only [Option.some.injEq, Prod.mk.injEq] at H
  obtain ⟨rfl, rfl⟩ := H
  try go_wp2_with (first | ((with_reducible refine ay (f := 82) rfl ?_); refine bE (some 20) Tryz.func82 #[.agg #[.int .i64 FV, .int .i64 FW, .string FX]] ?_; (with_reducible refine (dX.calls k FV FW FX t638 _ A8.out).mono ?_); rintro e w9004 ⟨v639, rfl, ho0, hb⟩; refine ⟨_, rfl, ?_⟩; have n0_ := ah.mk (Kd.nT ho0 (aQ BL)); replace BK635 := KB BK635 hb; replace HB := BS (w := w) hb; have HO640 := n0_; clear n0_; (try clear hb); (try clear ho0); obtain ⟨Ao9005, co9005, eo9005⟩ := Kd.oI HO640.out; subst eo9005; have p641 : 0 ≤ (a2 : Int) := OD; have q641 : a2 < (t638.length : Int) := OD; obtain ⟨ad641, A641_0, c641_0, e641, hx641_0, hl641_0, hi641_0⟩ := yc (Kd.iL HO640.out).2.2 a2 p641 q641; cases e641; obtain ⟨ce641, hce641, hMe641, hcc641⟩ := Kd.y5 HO640.out [] a2 p641 (by first | exact q641 | exact OD | (have e_ := (Kd.iL HO640.out).1; omega)); obtain ⟨ve641_0, rfl, ge641_0⟩ := hMe641; have hv641_0 := hcc641 0 _ rfl; rw [Nat.add_zero, show ((Kd.slice 3 (Kd.int .i64))).sz = 1 from rfl, Nat.mul_one] at hv641_0; replace hv641_0 := Option.some.inj (hv641_0.symm.trans hx641_0); rw [hv641_0] at ge641_0; have HL641_0 := ah.mk (show Kd.R (Kd.int .i64) 3 _ _ _ _ (iO t638 a2) from ge641_0); clear hv641_0 ge641_0; clear hcc641 hce641; have HR641_0 := ah.mk hi641_0; have HC641_0 := ah.mk hl641_0; clear hi641_0 hl641_0; replace p641 := eq_true p641; replace q641 := eq_true q641) | ((with_reducible refine ay (f := 133) rfl ?_); refine bE (some 25) Tryz.func133 #[.string a1, .slice A641_0 (iO t638 a2).length c641_0, .string a3] ?_; (with_reducible refine (je.calls a1 _ _ (iO t638 a2) a3 t642 _ ?side1 ?side2 A11.out).mono ?_); (case side1 => repeat (first | exact (by repeat (first | (with_reducible exact HR641_0.out) | (with_reducible refine Kd.gy ?_ _) | (with_reducible refine Kd.gD ?_ _) | (with_reducible refine Kd.ig ?_) | exact HR641_0.out)) | (with_reducible refine Kd.gy ?_ _) | (with_reducible refine Kd.gD ?_ _) | (with_reducible refine Kd.ig ?_))); (case side2 => exact HC641_0.out); rintro e w9006 ⟨rfl, hb⟩; refine ⟨_, rfl, ?_⟩; have n0_ := ah.mk (Kd.gI (SR HO640) hb); have n1_ := ah.mk (Kd.jW (by (with_reducible repeat (first | apply Kd.fI | apply Kd.fJ | apply Kd.eu)); exact HL641_0.out) hb); have n2_ := KB BK635 hb; have n3_ := ah.mk (Kd.eO (by repeat (first | (with_reducible exact HR641_0.out) | (with_reducible refine Kd.gy ?_ _) | (with_reducible refine Kd.gD ?_ _) | (with_reducible refine Kd.ig ?_) | exact HR641_0.out)) hb); have n4_ := BS (w := w) hb; clear HO640 HL641_0 BK635 HR641_0 HB; have HO640 := n0_; have HL641_0 := n1_; have BK635 := n2_; have HR641_0 := n3_; have HB := n4_; clear n0_ n1_ n2_ n3_ n4_; (try clear hb)))
  go_ret2
  exact ⟨EWW, BL⟩
 ·simp only [Option.some.injEq, Prod.mk.injEq] at H
  obtain ⟨rfl, rfl⟩ := H
  try go_wp2
  go_ret2
  exact ⟨EWW, BL⟩
def bZ.l0 : Nat → List (S84) → List ByteArray → Int → ByteArray → List ByteArray → Int → Int → Int → Int → ByteArray → List (S82) → List Int → Int → Option (ByteArray)
 | 0, _, _, _, _, _, _, _, _, _, _, _, _, _ => none
 | k + 1, a, b, c, d, e, f, g, h, i, j, l, m, n => if g < f then (if 0 ≤ g then (if g < (e.length : Int) then ((fV.f k (fA ByteArray.empty e g)).bind fun o => (if o = 0 then (bZ.l0 k a b c d e f (wrap64 (g + 1)) h i j l m n) else (if g < (l.length : Int) then ((aW.f k ((fG l g).f0) ((fG l g).f1) a b (fA ByteArray.empty e g) c).bind fun p => (if (p.length : Int) = 1 then (if 0 < (p.length : Int) then ((jY.f k h i j d g (fA ByteArray.empty p 0)).bind fun q => (bZ.l0 k a b c q.1 e f (wrap64 (g + 1)) h i j l m n)) else (none)) else (bZ.l0 k a b c d e f (wrap64 (g + 1)) h i j l m n))) else (none)))) else (none)) else (none)) else (some d)
def bZ.f (k : Nat) (FV FW : Int) (FX : ByteArray) (F4 : List (S82)) (F5 : List Int) (F6 : Int) (a1 : ByteArray) (l2 : List (S84)) (l3 : List ByteArray) (a4 : Int) : Option (ByteArray) := (jI.f k FV FW FX F4 F5 F6).bind fun t644 => (if t644 = true then ((eG.f k FV FW FX a1).bind fun t645 => (bZ.l0 k l2 l3 a4 a1 t645 (t645.length : Int) 0 FV FW FX F4 F5 F6)) else (some a1))
def bZ.T10 : Bool × List (List Nat × List Nat) := (true, [([], []), ([0], [0]), ([], []), ([], []), ([], []), ([4], [4]), ([5], [5]), ([1, 2, 3, 6], [1, 2, 3, 6]), ([7], [7]), ([8], [8]), ([8], [8]), ([9, 7, 0, 1, 2, 3, 4, 5, 6, 7, 8, 9], [2, 9])])
def bZ.B10 : List Nat := [0, 1, 0, 0, 0, 16, 48, 127, 255, 511, 511, 1023]
theorem bZ.Fg : kG .any (opsOf Tryz.f25 10) = bZ.T10 := by kernel_rfl
theorem bZ.EG : iW bZ.T10.2 bZ.B10 = true := by kernel_rfl
theorem bZ.calls (k : Nat) (FV FW : Int) (FX : ByteArray) (A0_3 : Option Addr) (c0_3 : Nat) (F4 : List (S82)) (A0_4 : Option Addr) (c0_4 : Nat) (F5 : List Int) (F6 : Int) (a1 : ByteArray) (A2 : Option Addr) (c2 : Nat) (l2 : List (S84)) (A3 : Option Addr) (c3 : Nat) (l3 : List ByteArray) (a4 : Int) (r : ByteArray) (w : World) (hr0_3 : Kd.C k82 w A0_3 F4.length F4) (hc0_3 : F4.length ≤ c0_3) (hr0_4 : Kd.C (Kd.int .i64) w A0_4 F5.length F5) (hc0_4 : F5.length ≤ c0_4) (hr2 : Kd.C k84 w A2 l2.length l2) (hc2 : l2.length ≤ c2) (hr3 : Kd.C Kd.string w A3 l3.length l3) (hc3 : l3.length ≤ c3) (h : bZ.f k FV FW FX F4 F5 F6 a1 l2 l3 a4 = some r) :
  Calls Tryz.prog 25 #[.agg #[.int .i64 FV, .int .i64 FW, .string FX, .slice A0_3 F4.length c0_3, .slice A0_4 F5.length c0_4, .int .i64 F6], .string a1, .slice A2 l2.length c2, .slice A3 l3.length c3, .int .i64 a4] w fun e w' => e = .returned (.string r) ∧ Below w.heap.size w w' := by
 have hu49 := Tryz.underlying49
 have hu32 := Tryz.underlying32
 have hu82 := Tryz.underlying82
 have HR0_3 := ah.mk hr0_3
 have HC0_3 := ah.mk hc0_3
 clear hr0_3 hc0_3
 have HR0_4 := ah.mk hr0_4
 have HC0_4 := ah.mk hc0_4
 clear hr0_4 hc0_4
 have HR2 := ah.mk hr2
 have HC2 := ah.mk hc2
 clear hr2 hc2
 have HR3 := ah.mk hr3
 have HC3 := ah.mk hc3
 clear hr3 hc3
 have HB := ah.mk (Below.refl w.heap.size w)
 unfold bZ.f at h
 have H := h
 clear h
 replace H := be H; obtain ⟨t644, A6, H⟩ := H
 replace H := ah.mk H
 go_enter Tryz.func25, Tryz.ntmps25
 go_wp2_with (first | ((with_reducible refine aJ (N := 5) rfl ?_); refine bg (N := 5) (cs := #[.int .i64 FV, .int .i64 FW, .string FX, .slice A0_3 F4.length c0_3, .slice A0_4 F5.length c0_4, .int .i64 F6]) (t := 49) ?_; intro gb643 hg w9000 hbox hb; have BK643 := ah.mk hbox; have GW643 := SZ (w := w) hg; have GE643 := GW643; replace HB := BS (w := w) hb; clear hb hbox hg; obtain ⟨hcz9001_0, hcz9001_1, hcz9001_2, hcz9001_3, hcz9001_4, hcz9001_5, hfz9001_0, hfz9001_1, hfz9001_2, hfz9001_3, hfz9001_4, hfz9001_5⟩ := cz6 BK643.out) | ((with_reducible refine ay (f := 71) rfl ?_); refine bE (some 16) Tryz.func71 #[.agg #[.int .i64 FV, .int .i64 FW, .string FX, .slice A0_3 F4.length c0_3, .slice A0_4 F5.length c0_4, .int .i64 F6]] ?_; (with_reducible refine (jI.calls k FV FW FX _ _ F4 _ _ F5 F6 _ _ ?side1 ?side2 ?side3 ?side4 A6.out).mono ?_); (case side1 => exact CB HR0_3); (case side2 => exact HC0_3.out); (case side3 => exact CB HR0_4); (case side4 => exact HC0_4.out); rintro e w9002 ⟨rfl, hb⟩; refine ⟨_, rfl, ?_⟩; replace BK643 := KB BK643 hb; replace HB := BS (w := w) hb; (try clear hb); obtain ⟨hcz9003_0, hcz9003_1, hcz9003_2, hcz9003_3, hcz9003_4, hcz9003_5, hfz9003_0, hfz9003_1, hfz9003_2, hfz9003_3, hfz9003_4, hfz9003_5⟩ := cz6 BK643.out; refine bU ?_))
 refine Hide.mk ?_
 replace H := H.out
 replace H := ifB H; rcases H with ⟨rfl, H⟩ | ⟨rfl, H⟩
 ·replace H := be H; obtain ⟨t645, A8, H⟩ := H
  have H' := ah.mk H
  clear H
  try go_wp2_with (first | ((with_reducible refine ay (f := 72) rfl ?_); refine bE (some 23) Tryz.func72 #[.agg #[.int .i64 FV, .int .i64 FW, .string FX], .string a1] ?_; (with_reducible refine (eG.calls k FV FW FX a1 t645 _ A8.out).mono ?_); rintro e w9004 ⟨v646, rfl, ho0, hb⟩; refine ⟨_, rfl, ?_⟩; have n0_ := ah.mk (Kd.cO ho0 (aQ BL)); replace BK643 := KB BK643 hb; replace HB := BS (w := w) hb; have HO647 := n0_; clear n0_; (try clear hb); (try clear ho0); obtain ⟨Ao9005, co9005, eo9005⟩ := Kd.dL HO647.out; subst eo9005))
  go_loopg [11, 25] k (fun kq v11 v25 w' => ∃ (x11_1 : ByteArray) (x25_1 : Int), v11 = .string x11_1 ∧ v25 = .int .i64 x25_1 ∧ ah (bZ.l0 kq l2 l3 a4 x11_1 t645 (t645.length : Int) x25_1 FV FW FX F4 F5 F6 = some r) ∧ ah (kq ≤ k) ∧ ah (Kd.R Kd.string 9 w' w.heap.size (fun _ => True) (.slice Ao9005 t645.length co9005) t645) ∧ ah (w'.heap[gb643]? = some (.cells #[.int .i64 FV, .int .i64 FW, .string FX, (.slice A0_3 F4.length c0_3), (.slice A0_4 F5.length c0_4), .int .i64 F6] 49 (0, 0))) ∧ ah (Below w.heap.size w w'))
  case atStart => exact ⟨(a1), (0), EQ, EQ, H', ⟨Nat.le_refl _⟩, ⟨(RR HO647)⟩, ⟨BK⟩, ⟨BL⟩⟩
  case round =>
   clear H'
   try clear c2
   try clear c3
   try clear c7
   try clear hcz9001_0
   try clear hcz9001_1
   try clear hcz9001_2
   try clear hcz9001_3
   try clear hcz9001_4
   try clear hcz9001_5
   try clear hcz9003_0
   try clear hcz9003_1
   try clear hcz9003_2
   try clear hcz9003_3
   try clear hcz9003_4
   try clear hcz9003_5
   try clear hfz9001_0
   try clear hfz9001_1
   try clear hfz9001_2
   try clear hfz9001_3
   try clear hfz9001_4
   try clear hfz9001_5
   try clear hfz9003_0
   try clear hfz9003_1
   try clear hfz9003_2
   try clear hfz9003_3
   try clear hfz9003_4
   try clear hfz9003_5
   obtain ⟨x11_1, x25_1, rfl, rfl, HA, HK1, HO_23, BK643, HB⟩ := hrel
   cases gk with
   | zero => exact absurd HA.out (by simp [bZ.l0])
   | succ k1 =>
    have H := HA.out
    clear HA
    simp only [bZ.l0] at H
    replace H := ifD H; rcases H with ⟨c15b0, H⟩ | ⟨c15b0, H⟩
    ·replace H := ifN H; obtain ⟨c16b0, H⟩ := H
     replace H := ifN H; obtain ⟨c17b0, H⟩ := H
     replace H := be H; obtain ⟨t649, A18, H⟩ := H
     have p648 : 0 ≤ (x25_1 : Int) := OD
     have q648 : x25_1 < (t645.length : Int) := OD
     obtain ⟨ad648, e648, hx648_0⟩ := Kd.jo (Kd.bP HO_23.out).2.2 x25_1 p648 q648
     cases e648
     replace p648 := eq_true p648
     replace q648 := eq_true q648
     replace H := ah.mk H
     go_wp2_with (first | ((with_reducible refine ay (f := 73) rfl ?_); refine bE (some 31) Tryz.func73 #[.string (fA ByteArray.empty t645 x25_1)] ?_; (with_reducible refine (fV.calls k1 (fA ByteArray.empty t645 x25_1) t649 _ A18.out).mono ?_); rintro e w' ⟨rfl, ⟨nd, rfl⟩⟩; refine ⟨_, rfl, ?_⟩; obtain ⟨hcz9006_0, hcz9006_1, hcz9006_2, hcz9006_3, hcz9006_4, hcz9006_5, hfz9006_0, hfz9006_1, hfz9006_2, hfz9006_3, hfz9006_4, hfz9006_5⟩ := cz6 BK643.out; refine bU ?_))
     refine Hide.mk ?_
     replace H := H.out
     replace H := ifE H; rcases H with ⟨c19b0, c19b1, H⟩ | ⟨c19, c19b0, c19b1, H⟩
     ·have H' := ah.mk H
      clear H
      try go_wp2
      go_roundg k1
      case measure => have := HK1.out; omega
      case rel => exact ⟨(x11_1), (wrap64 (x25_1 + 1)), EQ, EQ, H', ⟨by have := HK1.out; omega⟩, ⟨(RR HO_23)⟩, ⟨BK⟩, ⟨BL⟩⟩
     ·replace H := ifN H; obtain ⟨c20b0, H⟩ := H
      replace H := be H; obtain ⟨t651, A21, H⟩ := H
      replace H := ah.mk H
      have p650 : 0 ≤ (x25_1 : Int) := OD
      have q650 : x25_1 < (F4.length : Int) := OD
      obtain ⟨ad650, A650_1, c650_1, e650, hx650_0, hx650_1, hl650_1, hi650_1⟩ := ug HR0_3.out x25_1 p650 q650
      cases e650
      replace hx650_0 := (HB.out.cell (World.block_lt_of_cell? w _ hx650_0)).trans hx650_0
      replace hx650_1 := (HB.out.cell (World.block_lt_of_cell? w _ hx650_1)).trans hx650_1
      have HR650_1 := ah.mk hi650_1
      have HC650_1 := ah.mk hl650_1
      clear hi650_1 hl650_1
      replace p650 := eq_true p650
      replace q650 := eq_true q650
      go_wp2_with (first | ((with_reducible refine ay (f := 74) rfl ?_); refine bE (some 42) Tryz.func74 #[.agg #[.int .i64 ((fG F4 x25_1).f0), .slice A650_1 ((fG F4 x25_1).f1).length c650_1], .slice A2 l2.length c2, .slice A3 l3.length c3, .string (fA ByteArray.empty t645 x25_1), .int .i64 a4] ?_; (with_reducible refine (aW.calls k1 ((fG F4 x25_1).f0) _ _ ((fG F4 x25_1).f1) _ _ l2 _ _ l3 (fA ByteArray.empty t645 x25_1) a4 t651 _ ?side1 ?side2 ?side3 ?side4 ?side5 ?side6 A21.out).mono ?_); (case side1 => repeat (first | exact (Kd.eO HR650_1.out BL) | (with_reducible refine Kd.gy ?_ _) | (with_reducible refine Kd.gD ?_ _) | (with_reducible refine Kd.ig ?_))); (case side2 => exact HC650_1.out); (case side3 => repeat (first | exact (Kd.eO HR2.out BL) | (with_reducible refine Kd.gy ?_ _) | (with_reducible refine Kd.gD ?_ _) | (with_reducible refine Kd.ig ?_))); (case side4 => exact HC2.out); (case side5 => repeat (first | exact (Kd.eO HR3.out BL) | (with_reducible refine Kd.gy ?_ _) | (with_reducible refine Kd.gD ?_ _) | (with_reducible refine Kd.ig ?_))); (case side6 => exact HC3.out); rintro e w9007 ⟨v652, rfl, ho0, hb⟩; refine ⟨_, rfl, ?_⟩; have n0_ := ah.mk (Kd.jR (RR HO_23) (Kd.lV ho0) hb); have n1_ := ah.mk (Kd.cO (Kd.mR ho0 (Kd.qb (RR HO_23))) (aQ BL)); replace BK643 := KB BK643 hb; replace HB := BS (w := w) hb; clear HO_23; have HO_23 := n0_; have HO653 := n1_; clear n0_ n1_; (try clear hb); (try clear ho0); obtain ⟨Ao9008, co9008, eo9008⟩ := Kd.dL HO653.out; subst eo9008; refine bU ?_))
      refine Hide.mk ?_
      replace H := H.out
      replace H := ifE H; rcases H with ⟨c22b0, c22b1, H⟩ | ⟨c22, c22b0, c22b1, H⟩
      ·replace H := ifP H; obtain ⟨c23, H⟩ := H
       have c23b0 : decide (0 < (t651.length : Int)) = true := decide_eq_true c23
       have c23b1 : decide (0 < t651.length) = true := decide_eq_true (by omega)
       clear c23
       replace H := be H; obtain ⟨⟨t655, t656⟩, A24, H⟩ := H
       dsimp only at H
       have H' := ah.mk H
       clear H
       try go_wp2
       replace HO_23 := ah.mk (Kd.eu HO_23.out)
       replace HO653 := ah.mk (Kd.eu HO653.out)
       replace BK643 := ah.mk (aH BK643.out)
       replace HB := ah.mk (dH HB.out)
       have p654 : 0 ≤ (0 : Int) := (by omega)
       have q654 : 0 < (t651.length : Int) := OD
       obtain ⟨ad654, e654, hx654_0⟩ := Kd.jo (Kd.bP HO653.out).2.2 0 p654 q654
       cases e654
       have qi654 : (0 < t651.length) = True := eq_true (by omega)
       (try rw [show ((0 : Int)).toNat = 0 from rfl] at hx654_0)
       (try rw [Addr.add_zero'] at hx654_0)
       replace p654 := eq_true p654
       replace q654 := eq_true q654
       refine ji (n := 12) (S := fun w' => w'.cell? ⟨gb643, 0, none⟩ = some (.int .i64 FV) ∧ w'.cell? ⟨gb643, 1, none⟩ = some (.int .i64 FW) ∧ w'.cell? ⟨gb643, 2, none⟩ = some (.string FX) ∧ w'.cell? ⟨gb643, 3, none⟩ = some (.slice (some ad650) F4.length c0_3) ∧ w'.cell? ⟨gb643, 4, none⟩ = some (.slice A0_4 F5.length c0_4) ∧ w'.cell? ⟨gb643, 5, none⟩ = some (.int .i64 F6) ∧ w'.cell? ad654 = some (.string (fA ByteArray.empty t651 0))) (ds := []) #[F,F,F,F,F,F,F,F,F,F,F,F] (by kernel_rfl) rfl rfl ⟨(ak BK643.out 0).trans rfl, (ak BK643.out 1).trans rfl, (ak BK643.out 2).trans rfl, (ak BK643.out 3).trans rfl, (ak BK643.out 4).trans rfl, (ak BK643.out 5).trans rfl, hx654_0⟩ (fun hHeld => ?_); refine iI bZ.Fg bZ.EG (fun HT_ HW_ => ?_)
       generalize w9007.drew = w9009 at HO_23 HO653 BK643 HB hx654_0 hHeld ⊢
       refine puS (i := 0) (N := some 47) #[T,F,F,F,F,F,F,F,F,F,F,F] (aK HT_.out (by kernel_rfl)) ?_
       refine puS (i := 2) (N := some 49) #[T,F,T,F,F,F,F,F,F,F,F,F] (aK HT_.out (by kernel_rfl)) ?_
       refine puS (i := 3) (N := some 50) #[T,F,T,T,F,F,F,F,F,F,F,F] (aK HT_.out (by kernel_rfl)) ?_
       refine puS (i := 4) (N := some 51) #[T,F,T,T,T,F,F,F,F,F,F,F] (aK HT_.out (by kernel_rfl)) ?_
       refine puS (i := 5) (N := some 52) #[T,F,T,T,T,T,F,F,F,F,F,F] (aK HT_.out (by kernel_rfl)) ?_
       refine taS (i := 1) (N := some 48) #[T,T,T,T,T,T,F,F,F,F,F,F] (eF HT_.out HW_.out (by kernel_rfl)) hHeld ?_
       refine taS (i := 6) (N := some 53) #[T,T,T,T,T,T,T,F,F,F,F,F] (eF HT_.out HW_.out (by kernel_rfl)) hHeld ?_
       refine kW (i := 7) (N := some 54) #[T,T,T,T,T,T,T,T,F,F,F,F] rfl rfl (jf HT_.out (by kernel_rfl)) (by decide) (fun K hK => ?_)
       refine iZ Tryz.func75 #[.agg #[.int .i64 FV, .int .i64 FW, .string FX], .string x11_1, .int .i64 x25_1, .string (fA ByteArray.empty t651 0)] ?_
       with_reducible refine (jY.calls k1 FV FW FX x11_1 x25_1 (fA ByteArray.empty t651 0) t655 t656 _ A24.out).mono ?_
       rintro e w9010 ⟨rfl, hb⟩
       have HS6_ := (hb.cell (World.block_lt_of_cell? _ _ (hHeld.2.2.2.2.2.2))).trans (hHeld.2.2.2.2.2.2)
       refine ⟨_, rfl, ?_⟩
       replace HO_23 := RB HO_23 hb
       replace HO653 := RB HO653 hb
       replace BK643 := KB BK643 hb
       replace HB := BS (w := w) hb
       (try clear hb)
       refine hK.out _ _ ⟨(ak BK643.out 0).trans rfl, (ak BK643.out 1).trans rfl, (ak BK643.out 2).trans rfl, (ak BK643.out 3).trans rfl, (ak BK643.out 4).trans rfl, (ak BK643.out 5).trans rfl, HS6_⟩ (fun hHeld => ?_)
       clear hK K
       refine nrm (some 54) ?_
       refine puS (i := 8) (N := some 46) #[T,T,T,T,T,T,T,T,T,F,F,F] (aK HT_.out (by kernel_rfl)) ?_
       refine puS (i := 9) (N := some 55) #[T,T,T,T,T,T,T,T,T,T,F,F] (aK HT_.out (by kernel_rfl)) ?_
       refine puS (i := 10) (N := some 56) #[T,T,T,T,T,T,T,T,T,T,T,F] (aK HT_.out (by kernel_rfl)) ?_
       refine puS (i := 11) (N := some 11) #[T,T,T,T,T,T,T,T,T,T,T,T] (aK HT_.out (by kernel_rfl)) ?_
       refine iD (gG HT_.out (by kernel_rfl)) ?_
       try go_wp2
       go_roundg k1
       case measure => have := HK1.out; omega
       case rel => exact ⟨(t655), (wrap64 (x25_1 + 1)), EQ, EQ, H', ⟨by have := HK1.out; omega⟩, ⟨by (with_reducible repeat (first | apply Kd.fI | apply Kd.fJ | apply Kd.eu)); exact Kd.dY HO_23.out (fun _ hk => trivial)⟩, ⟨BK⟩, ⟨BL⟩⟩
      ·have H' := ah.mk H
       clear H
       try go_wp2
       go_roundg k1
       case measure => have := HK1.out; omega
       case rel => exact ⟨(x11_1), (wrap64 (x25_1 + 1)), EQ, EQ, H', ⟨by have := HK1.out; omega⟩, ⟨by (with_reducible repeat (first | apply Kd.fI | apply Kd.fJ | apply Kd.eu)); exact Kd.dY HO_23.out (fun _ hk => trivial)⟩, ⟨BK⟩, ⟨BL⟩⟩
    ·obtain rfl := Option.some.inj H
     go_wp2
     go_ret
     exact ⟨EWW, BL⟩
 ·obtain rfl := Option.some.inj H
  try go_wp2
  go_ret
  exact ⟨EWW, BL⟩
def l8.f (FV : Int) (FW : ByteArray) (FX a0_3 FY : Int) (FZ : ByteArray) (F3 a1_3 : Int) : Option (Bool) := if FV = FY then (if FW.toList = FZ.toList then (if FX = F3 then (if a0_3 = a1_3 then (some true) else (some false)) else (some false)) else (some false)) else (some false)
theorem l8.calls (FV : Int) (FW : ByteArray) (FX a0_3 FY : Int) (FZ : ByteArray) (F3 a1_3 : Int) (r : Bool) (w : World) (h : l8.f FV FW FX a0_3 FY FZ F3 a1_3 = some r) :
  Calls Tryz.prog 173 #[.agg #[.int .i64 FV, .string FW, .int .i64 FX, .int .i64 a0_3], .agg #[.int .i64 FY, .string FZ, .int .i64 F3, .int .i64 a1_3]] w fun e w' => e = .returned (.bool r) ∧ Below w.heap.size w w' := by
 have hu141 := Tryz.underlying141
 have HB := ah.mk (Below.refl w.heap.size w)
 unfold l8.f at h
 have H := h
 clear h
 replace H := ah.mk H
 go_enter Tryz.func173, Tryz.ntmps173
 go_wp2_with (first | ((with_reducible refine aJ (N := 2) rfl ?_); refine bg (N := 2) (cs := #[.int .i64 FV, .string FW, .int .i64 FX, .int .i64 a0_3]) (t := 141) ?_; intro gb657 hg w9000 hbox hb; have BK657 := ah.mk hbox; have GW657 := SZ (w := w) hg; have GE657 := GW657; replace HB := BS (w := w) hb; clear hb hbox hg) | ((with_reducible refine aJ (N := 3) rfl ?_); refine bg (N := 3) (cs := #[.int .i64 FY, .string FZ, .int .i64 F3, .int .i64 a1_3]) (t := 141) ?_; intro gb658 hg w9001 hbox hb; have n0_ := KB BK657 hb; have n1_ := BS (w := w) hb; have n2_ := ah.mk (hbox); have n3_ := SZ (w := w) hg; have n4_ := SZ (w := w) hg; have n5_ := NL BK657 hg; have n6_ := NG BK657 hg; clear BK657 HB; have BK657 := n0_; have HB := n1_; have BK658 := n2_; have GW658 := n3_; have GE658 := n4_; have NB657_658 := n5_; have NB658_657 := n6_; clear n0_ n1_ n2_ n3_ n4_ n5_ n6_; clear hb hbox hg; have hnb9002 := NB657_658.out; have hnc9002 := NB658_657.out; obtain ⟨hcz9003_0, hcz9003_1, hcz9003_2, hcz9003_3, hfz9003_0, hfz9003_1, hfz9003_2, hfz9003_3⟩ := cz4 BK657.out; obtain ⟨hcz9004_0, hcz9004_1, hcz9004_2, hcz9004_3, hfz9004_0, hfz9004_1, hfz9004_2, hfz9004_3⟩ := cz4 BK658.out; refine bU ?_))
 refine Hide.mk ?_
 replace H := H.out
 replace H := ifE H; rcases H with ⟨c3b0, c3b1, H⟩ | ⟨c3, c3b0, c3b1, H⟩
 ·replace H := ifE H; rcases H with ⟨c4b0, c4b1, H⟩ | ⟨c4, c4b0, c4b1, H⟩
  ·replace H := ifE H; rcases H with ⟨c5b0, c5b1, H⟩ | ⟨c5, c5b0, c5b1, H⟩
   ·replace H := ifE H; rcases H with ⟨c6b0, c6b1, H⟩ | ⟨c6, c6b0, c6b1, H⟩
    ·obtain rfl := Option.some.inj H
     try go_wp2
     go_ret
     exact ⟨EWW, BL⟩
    ·obtain rfl := Option.some.inj H
     try go_wp2
     go_ret
     exact ⟨EWW, BL⟩
   ·obtain rfl := Option.some.inj H
    try go_wp2
    go_ret
    exact ⟨EWW, BL⟩
  ·obtain rfl := Option.some.inj H
   try go_wp2
   go_ret
   exact ⟨EWW, BL⟩
 ·obtain rfl := Option.some.inj H
  try go_wp2
  go_ret
  exact ⟨EWW, BL⟩
def dI.l0 : Nat → List (dB) → List (dB) → Int → Option (Bool)
 | 0, _, _, _ => none
 | k + 1, a, b, c => if c < (a.length : Int) then (if 0 ≤ c then (if c < (b.length : Int) then ((l8.f ((aj a c).f0) ((aj a c).f1) ((aj a c).f2) ((aj a c).f3) ((aj b c).f0) ((aj b c).f1) ((aj b c).f2) ((aj b c).f3)).bind fun d => (if d = true then (dI.l0 k a b (wrap64 (c + 1))) else (some false))) else (none)) else (none)) else (some true)
def dI.f (k : Nat) (l0 l1 : List (dB)) : Option (Bool) := if (l0.length : Int) = (l1.length : Int) then (dI.l0 k l0 l1 0) else (some false)
def dI.T6 : Bool × List (List Nat × List Nat) := (true, [([], []), ([], []), ([0, 1], [0, 1]), ([2], [2]), ([], []), ([], []), ([4, 5], [4, 5]), ([6], [6]), ([3, 7], [3, 7]), ([8], [8])])
def dI.B6 : List Nat := [0, 0, 3, 7, 0, 0, 48, 112, 255, 511]
theorem dI.Ap : kG .any (opsOf Tryz.f124 6) = dI.T6 := by kernel_rfl
theorem dI.vD : iW dI.T6.2 dI.B6 = true := by kernel_rfl
theorem dI.calls (k : Nat) (A0 : Option Addr) (c0 : Nat) (l0 : List (dB)) (A1 : Option Addr) (c1 : Nat) (l1 : List (dB)) (r : Bool) (w : World) (hr0 : Kd.C jw w A0 l0.length l0) (hc0 : l0.length ≤ c0) (hr1 : Kd.C jw w A1 l1.length l1) (hc1 : l1.length ≤ c1) (h : dI.f k l0 l1 = some r) :
  Calls Tryz.prog 124 #[.slice A0 l0.length c0, .slice A1 l1.length c1] w fun e w' => e = .returned (.bool r) ∧ Below w.heap.size w w' := by
 have hu141 := Tryz.underlying141
 have HR0 := ah.mk hr0
 have HC0 := ah.mk hc0
 clear hr0 hc0
 have HR1 := ah.mk hr1
 have HC1 := ah.mk hc1
 clear hr1 hc1
 have HB := ah.mk (Below.refl w.heap.size w)
 unfold dI.f at h
 have H := h
 clear h
 replace H := ah.mk H
 go_enter Tryz.func124, Tryz.ntmps124
 replace H := H.out
 by_cases c3 : (l0.length : Int) = (l1.length : Int)
 ·rw [if_pos c3] at H
  have c3b0 : ((l0.length : Int) == (l1.length : Int)) = true := beq_iff_eq.mpr c3
  have c3b1 : ((l0.length : Int) != (l1.length : Int)) = false := bne_eq_false_iff_eq.mpr c3
  have c3b2 : (l0.length == l1.length) = true := by first | simpa using c3 | (simp at c3 ⊢; omega)
  clear c3
  have H' := ah.mk H
  clear H
  try go_wp2
  go_loopg [5] k (fun kq v5 w' => ∃ (x5_1 : Int), v5 = .int .i64 x5_1 ∧ ah (dI.l0 kq l0 l1 x5_1 = some r) ∧ ah (kq ≤ k) ∧ ah (Below w.heap.size w w'))
  case atStart => exact ⟨(0), EQ, H', ⟨Nat.le_refl _⟩, ⟨BL⟩⟩
  case round =>
   clear H'
   try clear c1
   try clear c3
   try clear c3b0
   try clear c3b1
   try clear c3b2
   obtain ⟨x5_1, rfl, HA, HK1, HB⟩ := hrel
   cases gk with
   | zero => exact absurd HA.out (by simp [dI.l0])
   | succ k1 =>
    have H := HA.out
    clear HA
    simp only [dI.l0] at H
    replace H := ifD H; rcases H with ⟨c4b0, H⟩ | ⟨c4b0, H⟩
    ·replace H := ifN H; obtain ⟨c5b0, H⟩ := H
     replace H := ifN H; obtain ⟨c6b0, H⟩ := H
     replace H := be H; obtain ⟨t661, A7, H⟩ := H
     replace H := ah.mk H
     try go_wp2
     replace HB := ah.mk (dH HB.out)
     have p659 : 0 ≤ (x5_1 : Int) := OD
     have q659 : x5_1 < (l0.length : Int) := OD
     obtain ⟨ad659, e659, hx659_0, hx659_1, hx659_2, hx659_3⟩ := jN HR0.out x5_1 p659 q659
     have hw659_3 := hx659_3
     have hw659_2 := hx659_2
     have hw659_1 := hx659_1
     have hw659_0 := hx659_0
     cases e659
     try replace hx659_0 := (HB.out.cell (World.block_lt_of_cell? w _ hx659_0)).trans hx659_0
     try replace hx659_1 := (HB.out.cell (World.block_lt_of_cell? w _ hx659_1)).trans hx659_1
     try replace hx659_2 := (HB.out.cell (World.block_lt_of_cell? w _ hx659_2)).trans hx659_2
     try replace hx659_3 := (HB.out.cell (World.block_lt_of_cell? w _ hx659_3)).trans hx659_3
     replace p659 := eq_true p659
     replace q659 := eq_true q659
     have p660 : 0 ≤ (x5_1 : Int) := OD
     have q660 : x5_1 < (l1.length : Int) := OD
     obtain ⟨ad660, e660, hx660_0, hx660_1, hx660_2, hx660_3⟩ := jN HR1.out x5_1 p660 q660
     have hw660_3 := hx660_3
     have hw660_2 := hx660_2
     have hw660_1 := hx660_1
     have hw660_0 := hx660_0
     cases e660
     try replace hx660_0 := (HB.out.cell (World.block_lt_of_cell? w _ hx660_0)).trans hx660_0
     try replace hx660_1 := (HB.out.cell (World.block_lt_of_cell? w _ hx660_1)).trans hx660_1
     try replace hx660_2 := (HB.out.cell (World.block_lt_of_cell? w _ hx660_2)).trans hx660_2
     try replace hx660_3 := (HB.out.cell (World.block_lt_of_cell? w _ hx660_3)).trans hx660_3
     replace p660 := eq_true p660
     replace q660 := eq_true q660
     refine ji (n := 10) (S := fun w' => w'.cell? (ad659.add ((x5_1).toNat * 4)) = some (.int .i64 ((aj l0 x5_1).f0)) ∧ w'.cell? ⟨(ad659.add ((x5_1).toNat * 4)).block, (ad659.add ((x5_1).toNat * 4)).off + 1, none⟩ = some (.string ((aj l0 x5_1).f1)) ∧ w'.cell? ⟨(ad659.add ((x5_1).toNat * 4)).block, (ad659.add ((x5_1).toNat * 4)).off + 2, none⟩ = some (.int .i64 ((aj l0 x5_1).f2)) ∧ w'.cell? ⟨(ad659.add ((x5_1).toNat * 4)).block, (ad659.add ((x5_1).toNat * 4)).off + 3, none⟩ = some (.int .i64 ((aj l0 x5_1).f3)) ∧ w'.cell? (ad660.add ((x5_1).toNat * 4)) = some (.int .i64 ((aj l1 x5_1).f0)) ∧ w'.cell? ⟨(ad660.add ((x5_1).toNat * 4)).block, (ad660.add ((x5_1).toNat * 4)).off + 1, none⟩ = some (.string ((aj l1 x5_1).f1)) ∧ w'.cell? ⟨(ad660.add ((x5_1).toNat * 4)).block, (ad660.add ((x5_1).toNat * 4)).off + 2, none⟩ = some (.int .i64 ((aj l1 x5_1).f2)) ∧ w'.cell? ⟨(ad660.add ((x5_1).toNat * 4)).block, (ad660.add ((x5_1).toNat * 4)).off + 3, none⟩ = some (.int .i64 ((aj l1 x5_1).f3))) (ds := []) #[F,F,F,F,F,F,F,F,F,F] (by kernel_rfl) rfl rfl ⟨((HB.out.cell (World.block_lt_of_cell? w _ hw659_0)).trans hw659_0), ((HB.out.cell (World.block_lt_of_cell? w _ hw659_1)).trans hw659_1), ((HB.out.cell (World.block_lt_of_cell? w _ hw659_2)).trans hw659_2), ((HB.out.cell (World.block_lt_of_cell? w _ hw659_3)).trans hw659_3), ((HB.out.cell (World.block_lt_of_cell? w _ hw660_0)).trans hw660_0), ((HB.out.cell (World.block_lt_of_cell? w _ hw660_1)).trans hw660_1), ((HB.out.cell (World.block_lt_of_cell? w _ hw660_2)).trans hw660_2), ((HB.out.cell (World.block_lt_of_cell? w _ hw660_3)).trans hw660_3)⟩ (fun hHeld => ?_); refine iI dI.Ap dI.vD (fun HT_ HW_ => ?_)
     generalize wr.drew = w9000 at HB hx659_0 hx659_1 hx659_2 hx659_3 hx660_0 hx660_1 hx660_2 hx660_3 hHeld ⊢
     refine puS (i := 0) (N := some 17) #[T,F,F,F,F,F,F,F,F,F] (aK HT_.out (by kernel_rfl)) ?_
     refine puS (i := 1) (N := some 18) #[T,T,F,F,F,F,F,F,F,F] (aK HT_.out (by kernel_rfl)) ?_
     refine puS (i := 2) (N := some 19) #[T,T,T,F,F,F,F,F,F,F] (aK HT_.out (by kernel_rfl)) ?_
     refine puS (i := 4) (N := some 21) #[T,T,T,F,T,F,F,F,F,F] (aK HT_.out (by kernel_rfl)) ?_
     refine puS (i := 5) (N := some 22) #[T,T,T,F,T,T,F,F,F,F] (aK HT_.out (by kernel_rfl)) ?_
     refine puS (i := 6) (N := some 23) #[T,T,T,F,T,T,T,F,F,F] (aK HT_.out (by kernel_rfl)) ?_
     refine taS (i := 3) (N := some 20) #[T,T,T,T,T,T,T,F,F,F] (eF HT_.out HW_.out (by kernel_rfl)) hHeld ?_
     refine taS (i := 7) (N := some 24) #[T,T,T,T,T,T,T,T,F,F] (eF HT_.out HW_.out (by kernel_rfl)) hHeld ?_
     refine kW (i := 8) (N := some 25) #[T,T,T,T,T,T,T,T,T,F] rfl rfl (jf HT_.out (by kernel_rfl)) (by decide) (fun K hK => ?_)
     refine iZ Tryz.func173 #[.agg #[.int .i64 ((aj l0 x5_1).f0), .string ((aj l0 x5_1).f1), .int .i64 ((aj l0 x5_1).f2), .int .i64 ((aj l0 x5_1).f3)], .agg #[.int .i64 ((aj l1 x5_1).f0), .string ((aj l1 x5_1).f1), .int .i64 ((aj l1 x5_1).f2), .int .i64 ((aj l1 x5_1).f3)]] ?_
     with_reducible refine (l8.calls ((aj l0 x5_1).f0) ((aj l0 x5_1).f1) ((aj l0 x5_1).f2) ((aj l0 x5_1).f3) ((aj l1 x5_1).f0) ((aj l1 x5_1).f1) ((aj l1 x5_1).f2) ((aj l1 x5_1).f3) _ _ A7.out).mono ?_
     rintro e w9001 ⟨rfl, hb⟩
     refine ⟨_, rfl, ?_⟩
     replace HB := BS (w := w) hb
     (try clear hb)
     refine hK.out _ _ ⟨((HB.out.cell (World.block_lt_of_cell? w _ hw659_0)).trans hw659_0), ((HB.out.cell (World.block_lt_of_cell? w _ hw659_1)).trans hw659_1), ((HB.out.cell (World.block_lt_of_cell? w _ hw659_2)).trans hw659_2), ((HB.out.cell (World.block_lt_of_cell? w _ hw659_3)).trans hw659_3), ((HB.out.cell (World.block_lt_of_cell? w _ hw660_0)).trans hw660_0), ((HB.out.cell (World.block_lt_of_cell? w _ hw660_1)).trans hw660_1), ((HB.out.cell (World.block_lt_of_cell? w _ hw660_2)).trans hw660_2), ((HB.out.cell (World.block_lt_of_cell? w _ hw660_3)).trans hw660_3)⟩ (fun hHeld => ?_)
     clear hK K
     refine nrm (some 25) ?_
     replace H := H.out
     replace H := ifB H; rcases H with ⟨rfl, H⟩ | ⟨rfl, H⟩
     ·have H' := ah.mk H
      clear H
      refine puS (i := 9) (N := some 26) #[T,T,T,T,T,T,T,T,T,T] (aK HT_.out (by kernel_rfl)) ?_
      refine iD (gG HT_.out (by kernel_rfl)) ?_
      try go_wp2
      go_roundg k1
      case measure => have := HK1.out; omega
      case rel => exact ⟨(wrap64 (x5_1 + 1)), EQ, H', ⟨by have := HK1.out; omega⟩, ⟨BL⟩⟩
     ·obtain rfl := Option.some.inj H
      refine puS (i := 9) (N := some 26) #[T,T,T,T,T,T,T,T,T,T] (aK HT_.out (by kernel_rfl)) ?_
      refine iD (gG HT_.out (by kernel_rfl)) ?_
      try go_wp2
      go_ret
      exact ⟨EWW, BL⟩
    ·obtain rfl := Option.some.inj H
     go_wp2
     go_ret
     exact ⟨EWW, BL⟩
 ·rw [if_neg c3] at H
  have c3b0 : ((l0.length : Int) == (l1.length : Int)) = false := beq_eq_false_iff_ne.mpr c3
  have c3b1 : ((l0.length : Int) != (l1.length : Int)) = true := bne_iff_ne.mpr c3
  have c3b2 : (l0.length == l1.length) = false := by first | simpa using c3 | (simp at c3 ⊢; omega)
  obtain rfl := Option.some.inj H
  try go_wp2
  go_ret
  exact ⟨EWW, BL⟩
end Go.Proofs.YtnfiedfaaaphoaaGreat.PFnExactOneRound
