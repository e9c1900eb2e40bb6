/- Walks of functions: what each computes. -/
import Derived.Test.YthjcicmmbmagbaaZIsSolvedP7
import Derived.Test.YthjcicmmbmagbaaZIsSolvedW
import Derived.Test.YthjcicmmbmagbaaZIsSolvedShelf
import Derived.Test.YthjcicmmbmagbaaZIsSolvedHandSort
import Derived.Test.YthjcicmmbmagbaaZIsSolvedHandForm
import Derived.Test.YthjcicmmbmagbaaZIsSolvedHandAlone
import Derived.Test.YthjcicmmbmagbaaZIsSolvedHandReach
namespace Go.Proofs.Ythjcicmmbmagbaa.PFnExactIsSolved
open Go.RowKit Go.Proofs.YthjcicmmbmagbaaW.PrintWords Go.Proofs.YthjcicmmbmagbaaW.PrintLast Go.Proofs.YthjcicmmbmagbaaW.PrintMore Go.Proofs.Ythjcicmmbmagbaa.Sq
attribute [local go_sem] max2_int min2_int max_two min_two max_three min_three max_four min_four
set_option linter.unusedVariables false
set_option linter.unusedSimpArgs false
mutual
def spec_IsFill.j0 : Nat → ByteArray → Bool → Int → Int → ByteArray → Option (Bool)
 | 0, _, _, _, _, _ => none
 | k + 1, x1, x17, x358000, x358001, x358002 => if x17 = true then (some false) else (spec_IsFill.l0 k x1 0 x358000 x358001 x358002)
def spec_IsFill.l0 : Nat → ByteArray → Int → Int → Int → ByteArray → Option (Bool)
 | 0, _, _, _, _, _ => none
 | k + 1, x1, x5, x358000, x358001, x358002 => if x5 < (x1.size : Int) then (if 0 ≤ x5 then (if (bt x1 x5) = 63 then (if x5 < (x358002.size : Int) then (if (bt x358002 x5) = 35 then (if (bt x1 x5) = 35 then (if (bt x358002 x5) = 46 then (spec_IsFill.l0 k x1 (wrap64 (x5 + 1)) x358000 x358001 x358002) else (spec_IsFill.l0 k x1 (wrap64 (x5 + 1)) x358000 x358001 x358002)) else (some false)) else (if (bt x358002 x5) = 46 then (spec_IsFill.l0 k x1 (wrap64 (x5 + 1)) x358000 x358001 x358002) else (spec_IsFill.l0 k x1 (wrap64 (x5 + 1)) x358000 x358001 x358002))) else (none)) else (if (bt x1 x5) ≥ 97 then (if x5 < (x358002.size : Int) then (if (bt x358002 x5) = 35 then (if (bt x1 x5) = 35 then (if (bt x358002 x5) = 46 then (if ((bt x1 x5) ≤ 122) then (spec_IsFill.l0 k x1 (wrap64 (x5 + 1)) x358000 x358001 x358002) else (some false)) else (spec_IsFill.l0 k x1 (wrap64 (x5 + 1)) x358000 x358001 x358002)) else (some false)) else (if (bt x358002 x5) = 46 then (if ((bt x1 x5) ≤ 122) then (spec_IsFill.l0 k x1 (wrap64 (x5 + 1)) x358000 x358001 x358002) else (some false)) else (spec_IsFill.l0 k x1 (wrap64 (x5 + 1)) x358000 x358001 x358002))) else (none)) else (if x5 < (x358002.size : Int) then (if (bt x358002 x5) = 35 then (if (bt x1 x5) = 35 then (if (bt x358002 x5) = 46 then (some false) else (spec_IsFill.l0 k x1 (wrap64 (x5 + 1)) x358000 x358001 x358002)) else (some false)) else (if (bt x358002 x5) = 46 then (some false) else (spec_IsFill.l0 k x1 (wrap64 (x5 + 1)) x358000 x358001 x358002))) else (none)))) else (none)) else (some true)
end
def spec_IsFill.f (k : Nat) (a0_0 : Int) (a0_1 : Int) (a0_2 : ByteArray) (a1 : ByteArray) : Option (Bool) := (spec_IsGrid.f k a0_0 a0_1 a0_2).bind fun t358 => (if t358 = true then (spec_IsFill.j0 k a1 ((a1.size : Int) != (a0_2.size : Int)) a0_0 a0_1 a0_2) else (spec_IsFill.j0 k a1 true a0_0 a0_1 a0_2))
set_option maxHeartbeats 8000000 in
set_option maxRecDepth 100000 in
theorem spec_IsFill.calls (k : Nat) (a0_0 : Int) (a0_1 : Int) (a0_2 : ByteArray) (a1 : ByteArray) (r : Bool) (w : World) (h : spec_IsFill.f k a0_0 a0_1 a0_2 a1 = some r) :
  Calls Try.prog 147 #[.agg #[.int .i64 a0_0, .int .i64 a0_1, .string a0_2], .string a1] w fun e w' => e = .returned (.bool r) ∧ Below w.heap.size w w' := by
 have hu66 := Try.underlying66
 have HB := Aside0.mk (Below.refl w.heap.size w)
 have H : ((spec_IsGrid.f k a0_0 a0_1 a0_2).bind fun t358 => (if t358 = true then (spec_IsFill.j0 k a1 ((a1.size : Int) != (a0_2.size : Int)) a0_0 a0_1 a0_2) else (spec_IsFill.j0 k a1 true a0_0 a0_1 a0_2))) = some r := h
 clear h
 have HC3 := Aside0.mk H
 clear H
 go_enter Try.func147, Try.ntmps147
 go_upto_region 1 with (first | ((with_reducible refine gate_dst (N := 2) rfl ?_); (try (refine gate_guard (by rfl) ?_; dsimp only)); refine box_ev (N := 2) (cs := #[.int .i64 a0_0, .int .i64 a0_1, .string a0_2]) (t := 66) ?_; intro gb357 hg w4 hbox hb; have n0_ := BS (w := w) hb; have n1_ := Aside0.mk (hbox); have n2_ := SZ (w := w) hg; have n3_ := SZ (w := w) hg; clear HB; have HB := n0_; have BK357 := n1_; have GW357 := n2_; have GE357 := n3_; clear n0_ n1_ n2_ n3_; clear hb hbox hg))
 (try simp only [Act.put, List.setIfInBounds_toArray, List.set_cons_zero, List.set_cons_succ])
 go_cut [17] (fun v17 wc => ∃ (kq : Nat) (x17_2 : Bool), v17 = .bool x17_2 ∧ Aside0 (spec_IsFill.j0 kq a1 x17_2 a0_0 a0_1 a0_2 = some r) ∧ Aside0 (kq ≤ k) ∧ Aside0 (wc.heap[gb357]? = some (.cells #[.int .i64 a0_0, .int .i64 a0_1, .string a0_2] 66 (0, 0))) ∧ Aside0 (Below w.heap.size w wc))
 case first =>
  have H := HC3.out
  clear HC3
  replace H := be H; obtain ⟨t358, A5, H⟩ := H
  obtain ⟨hcz8000_0, hcz8000_1, hcz8000_2, hfz8000_0, hfz8000_1, hfz8000_2⟩ := cz3 BK357.out
  replace H := Aside0.mk H
  go_wp2_with (first | ((with_reducible refine gate_callee (f := 131) rfl ?_); refine goesS (some 8) Try.func131 #[.agg #[.int .i64 a0_0, .int .i64 a0_1, .string a0_2]] ?_; (with_reducible refine (spec_IsGrid.calls k a0_0 a0_1 a0_2 _ _ A5.out).mono ?_); rintro e w8001 ⟨rfl, hb⟩; refine ⟨_, rfl, ?_⟩; replace BK357 := KB BK357 hb; replace HB := BS (w := w) hb; (try clear hb); obtain ⟨hcz8002_0, hcz8002_1, hcz8002_2, hfz8002_0, hfz8002_1, hfz8002_2⟩ := cz3 BK357.out; refine stop_ ?_))
  refine Hide.mk ?_
  replace H := H.out
  replace H := ifB H; rcases H with ⟨rfl, H⟩ | ⟨rfl, H⟩
  ·have H' := Aside0.mk H
   clear H
   try go_wp2
   go_meet
   case rel => exact ⟨_, (((a1.size : Int) != (a0_2.size : Int))), EQ, H', ⟨by first | omega | exact Nat.le_refl _⟩, ⟨BK⟩, ⟨BL⟩⟩
  ·have H' := Aside0.mk H
   clear H
   try go_wp2
   go_meet
   case rel => exact ⟨_, (true), EQ, H', ⟨by first | omega | exact Nat.le_refl _⟩, ⟨BK⟩, ⟨BL⟩⟩
 case rest =>
  clear HC3
  obtain ⟨kq, x17_2, rfl, HA, HJ2, BK357, HB⟩ := hcut
  cases kq with
  | zero => exact absurd HA.out (by simp [spec_IsFill.j0])
  | succ kj2 =>
   have H := HA.out
   clear HA
   simp only [spec_IsFill.j0] at H
   replace H := ifB H; rcases H with ⟨rfl, H⟩ | ⟨rfl, H⟩
   ·obtain rfl := Option.some.inj H
    go_wp2
    go_ret
    exact ⟨EWW, BL⟩
   ·have H' := Aside0.mk H
    clear H
    go_wp2
    go_loopg [5] kj2 (fun kq v5 w' => ∃ (x5_2 : Int), v5 = .int .i64 x5_2 ∧ Aside0 (spec_IsFill.l0 kq a1 x5_2 a0_0 a0_1 a0_2 = some r) ∧ Aside0 (kq ≤ kj2) ∧ Aside0 (w'.heap[gb357]? = some (.cells #[.int .i64 a0_0, .int .i64 a0_1, .string a0_2] 66 (0, 0))) ∧ Aside0 (Below w.heap.size w w'))
    case atStart => exact ⟨(0), EQ, H', ⟨Nat.le_refl _⟩, ⟨BK⟩, ⟨BL⟩⟩
    case round =>
     clear H'
     try clear c12
     obtain ⟨x5_2, rfl, HA, HK2, BK357, HB⟩ := hrel
     cases gk with
     | zero => exact absurd HA.out (by simp [spec_IsFill.l0])
     | succ k2 =>
      have H := HA.out
      clear HA
      simp only [spec_IsFill.l0] at H
      replace H := ifD H; rcases H with ⟨c13b0, H⟩ | ⟨c13b0, H⟩
      ·replace H := ifN H; obtain ⟨c14b0, H⟩ := H
       replace H := ifE H; rcases H with ⟨c16b0, c16b1, H⟩ | ⟨c16, c16b0, c16b1, H⟩
       ·replace H := ifN H; obtain ⟨c17b0, H⟩ := H
        have p15 : (0 ≤ (x5_2 : Int)) = True := OT
        have q15 : (x5_2 < (a1.size : Int)) = True := OT
        have hx15 := bt_at a1 x5_2
        obtain ⟨hcz7000_0, hcz7000_1, hcz7000_2, hfz7000_0, hfz7000_1, hfz7000_2⟩ := cz3 BK357.out
        have p18 : (0 ≤ (x5_2 : Int)) = True := OT
        have q18 : (x5_2 < (a0_2.size : Int)) = True := OT
        have hx18 := bt_at a0_2 x5_2
        replace H := ifE H; rcases H with ⟨c19b0, c19b1, H⟩ | ⟨c19, c19b0, c19b1, H⟩
        ·have p20 : (0 ≤ (x5_2 : Int)) = True := OT
         have q20 : (x5_2 < (a1.size : Int)) = True := OT
         have hx20 := bt_at a1 x5_2
         replace H := ifE H; rcases H with ⟨c21b0, c21b1, H⟩ | ⟨c21, c21b0, c21b1, H⟩
         ·have p22 : (0 ≤ (x5_2 : Int)) = True := OT
          have q22 : (x5_2 < (a0_2.size : Int)) = True := OT
          have hx22 := bt_at a0_2 x5_2
          replace H := ifE H; rcases H with ⟨c23b0, c23b1, H⟩ | ⟨c23, c23b0, c23b1, H⟩
          ·have H' := Aside0.mk H
           clear H
           go_wp2
           go_roundg k2
           case measure => have := HJ2.out; have := HK2.out; omega
           case rel => exact ⟨(wrap64 (x5_2 + 1)), EQ, H', ⟨by have := HJ2.out; have := HK2.out; omega⟩, ⟨BK⟩, ⟨BL⟩⟩
          ·have H' := Aside0.mk H
           clear H
           go_wp2
           go_roundg k2
           case measure => have := HJ2.out; have := HK2.out; omega
           case rel => exact ⟨(wrap64 (x5_2 + 1)), EQ, H', ⟨by have := HJ2.out; have := HK2.out; omega⟩, ⟨BK⟩, ⟨BL⟩⟩
         ·obtain rfl := Option.some.inj H
          go_wp2
          go_ret
          exact ⟨EWW, BL⟩
        ·have p27 : (0 ≤ (x5_2 : Int)) = True := OT
         have q27 : (x5_2 < (a0_2.size : Int)) = True := OT
         have hx27 := bt_at a0_2 x5_2
         replace H := ifE H; rcases H with ⟨c28b0, c28b1, H⟩ | ⟨c28, c28b0, c28b1, H⟩
         ·have H' := Aside0.mk H
          clear H
          go_wp2
          go_roundg k2
          case measure => have := HJ2.out; have := HK2.out; omega
          case rel => exact ⟨(wrap64 (x5_2 + 1)), EQ, H', ⟨by have := HJ2.out; have := HK2.out; omega⟩, ⟨BK⟩, ⟨BL⟩⟩
         ·have H' := Aside0.mk H
          clear H
          go_wp2
          go_roundg k2
          case measure => have := HJ2.out; have := HK2.out; omega
          case rel => exact ⟨(wrap64 (x5_2 + 1)), EQ, H', ⟨by have := HJ2.out; have := HK2.out; omega⟩, ⟨BK⟩, ⟨BL⟩⟩
       ·have p15 : (0 ≤ (x5_2 : Int)) = True := OT
        have q15 : (x5_2 < (a1.size : Int)) = True := OT
        have hx15 := bt_at a1 x5_2
        by_cases c32 : (bt a1 x5_2) ≥ 97
        ·rw [if_pos c32] at H
         have c32b0 : decide (97 ≤ (bt a1 x5_2)) = true := decide_eq_true c32
         clear c32
         replace H := ifN H; obtain ⟨c34b0, H⟩ := H
         have p31 : (0 ≤ (x5_2 : Int)) = True := OT
         have q31 : (x5_2 < (a1.size : Int)) = True := OT
         have hx31 := bt_at a1 x5_2
         have p33 : (0 ≤ (x5_2 : Int)) = True := OT
         have q33 : (x5_2 < (a1.size : Int)) = True := OT
         have hx33 := bt_at a1 x5_2
         obtain ⟨hcz7000_0, hcz7000_1, hcz7000_2, hfz7000_0, hfz7000_1, hfz7000_2⟩ := cz3 BK357.out
         have p35 : (0 ≤ (x5_2 : Int)) = True := OT
         have q35 : (x5_2 < (a0_2.size : Int)) = True := OT
         have hx35 := bt_at a0_2 x5_2
         replace H := ifE H; rcases H with ⟨c36b0, c36b1, H⟩ | ⟨c36, c36b0, c36b1, H⟩
         ·have p37 : (0 ≤ (x5_2 : Int)) = True := OT
          have q37 : (x5_2 < (a1.size : Int)) = True := OT
          have hx37 := bt_at a1 x5_2
          replace H := ifE H; rcases H with ⟨c38b0, c38b1, H⟩ | ⟨c38, c38b0, c38b1, H⟩
          ·have p39 : (0 ≤ (x5_2 : Int)) = True := OT
           have q39 : (x5_2 < (a0_2.size : Int)) = True := OT
           have hx39 := bt_at a0_2 x5_2
           replace H := ifE H; rcases H with ⟨c40b0, c40b1, H⟩ | ⟨c40, c40b0, c40b1, H⟩
           ·by_cases c41 : ((bt a1 x5_2) ≤ 122)
            ·rw [if_pos c41] at H
             have c41b0 : decide ((bt a1 x5_2) ≤ 122) = true := decide_eq_true c41
             clear c41
             have H' := Aside0.mk H
             clear H
             go_wp2
             go_roundg k2
             case measure => have := HJ2.out; have := HK2.out; omega
             case rel => exact ⟨(wrap64 (x5_2 + 1)), EQ, H', ⟨by have := HJ2.out; have := HK2.out; omega⟩, ⟨BK⟩, ⟨BL⟩⟩
            ·rw [if_neg c41] at H
             have c41b0 : decide ((bt a1 x5_2) ≤ 122) = false := decide_eq_false c41
             clear c41
             obtain rfl := Option.some.inj H
             go_wp2
             go_ret
             exact ⟨EWW, BL⟩
           ·have H' := Aside0.mk H
            clear H
            go_wp2
            go_roundg k2
            case measure => have := HJ2.out; have := HK2.out; omega
            case rel => exact ⟨(wrap64 (x5_2 + 1)), EQ, H', ⟨by have := HJ2.out; have := HK2.out; omega⟩, ⟨BK⟩, ⟨BL⟩⟩
          ·obtain rfl := Option.some.inj H
           go_wp2
           go_ret
           exact ⟨EWW, BL⟩
         ·have p46 : (0 ≤ (x5_2 : Int)) = True := OT
          have q46 : (x5_2 < (a0_2.size : Int)) = True := OT
          have hx46 := bt_at a0_2 x5_2
          replace H := ifE H; rcases H with ⟨c47b0, c47b1, H⟩ | ⟨c47, c47b0, c47b1, H⟩
          ·by_cases c48 : ((bt a1 x5_2) ≤ 122)
           ·rw [if_pos c48] at H
            have c48b0 : decide ((bt a1 x5_2) ≤ 122) = true := decide_eq_true c48
            clear c48
            have H' := Aside0.mk H
            clear H
            go_wp2
            go_roundg k2
            case measure => have := HJ2.out; have := HK2.out; omega
            case rel => exact ⟨(wrap64 (x5_2 + 1)), EQ, H', ⟨by have := HJ2.out; have := HK2.out; omega⟩, ⟨BK⟩, ⟨BL⟩⟩
           ·rw [if_neg c48] at H
            have c48b0 : decide ((bt a1 x5_2) ≤ 122) = false := decide_eq_false c48
            clear c48
            obtain rfl := Option.some.inj H
            go_wp2
            go_ret
            exact ⟨EWW, BL⟩
          ·have H' := Aside0.mk H
           clear H
           go_wp2
           go_roundg k2
           case measure => have := HJ2.out; have := HK2.out; omega
           case rel => exact ⟨(wrap64 (x5_2 + 1)), EQ, H', ⟨by have := HJ2.out; have := HK2.out; omega⟩, ⟨BK⟩, ⟨BL⟩⟩
        ·rw [if_neg c32] at H
         have c32b0 : decide (97 ≤ (bt a1 x5_2)) = false := decide_eq_false c32
         clear c32
         replace H := ifN H; obtain ⟨c52b0, H⟩ := H
         have p31 : (0 ≤ (x5_2 : Int)) = True := OT
         have q31 : (x5_2 < (a1.size : Int)) = True := OT
         have hx31 := bt_at a1 x5_2
         obtain ⟨hcz7000_0, hcz7000_1, hcz7000_2, hfz7000_0, hfz7000_1, hfz7000_2⟩ := cz3 BK357.out
         have p53 : (0 ≤ (x5_2 : Int)) = True := OT
         have q53 : (x5_2 < (a0_2.size : Int)) = True := OT
         have hx53 := bt_at a0_2 x5_2
         replace H := ifE H; rcases H with ⟨c54b0, c54b1, H⟩ | ⟨c54, c54b0, c54b1, H⟩
         ·have p55 : (0 ≤ (x5_2 : Int)) = True := OT
          have q55 : (x5_2 < (a1.size : Int)) = True := OT
          have hx55 := bt_at a1 x5_2
          replace H := ifE H; rcases H with ⟨c56b0, c56b1, H⟩ | ⟨c56, c56b0, c56b1, H⟩
          ·have p57 : (0 ≤ (x5_2 : Int)) = True := OT
           have q57 : (x5_2 < (a0_2.size : Int)) = True := OT
           have hx57 := bt_at a0_2 x5_2
           replace H := ifE H; rcases H with ⟨c58b0, c58b1, H⟩ | ⟨c58, c58b0, c58b1, H⟩
           ·obtain rfl := Option.some.inj H
            go_wp2
            go_ret
            exact ⟨EWW, BL⟩
           ·have H' := Aside0.mk H
            clear H
            go_wp2
            go_roundg k2
            case measure => have := HJ2.out; have := HK2.out; omega
            case rel => exact ⟨(wrap64 (x5_2 + 1)), EQ, H', ⟨by have := HJ2.out; have := HK2.out; omega⟩, ⟨BK⟩, ⟨BL⟩⟩
          ·obtain rfl := Option.some.inj H
           go_wp2
           go_ret
           exact ⟨EWW, BL⟩
         ·have p62 : (0 ≤ (x5_2 : Int)) = True := OT
          have q62 : (x5_2 < (a0_2.size : Int)) = True := OT
          have hx62 := bt_at a0_2 x5_2
          replace H := ifE H; rcases H with ⟨c63b0, c63b1, H⟩ | ⟨c63, c63b0, c63b1, H⟩
          ·obtain rfl := Option.some.inj H
           go_wp2
           go_ret
           exact ⟨EWW, BL⟩
          ·have H' := Aside0.mk H
           clear H
           go_wp2
           go_roundg k2
           case measure => have := HJ2.out; have := HK2.out; omega
           case rel => exact ⟨(wrap64 (x5_2 + 1)), EQ, H', ⟨by have := HJ2.out; have := HK2.out; omega⟩, ⟨BK⟩, ⟨BL⟩⟩
      ·obtain rfl := Option.some.inj H
       go_wp2
       go_ret
       exact ⟨EWW, BL⟩
end Go.Proofs.Ythjcicmmbmagbaa.PFnExactIsSolved
