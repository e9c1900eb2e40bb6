/- Walks of functions: what each computes. -/
import Derived.Test.YthjcicmmbmagbaaZFnSensesG0
import Derived.Test.YthjcicmmbmagbaaZFnSensesW
import Derived.Test.YthjcicmmbmagbaaZFnSensesHandForm
import Derived.Test.YthjcicmmbmagbaaZFnSensesHandAlone
import Derived.Test.YthjcicmmbmagbaaZFnSensesHandIns
import Derived.Test.YthjcicmmbmagbaaZFnSensesHandRead
namespace Go.Proofs.Ythjcicmmbmagbaa.PFnSenses
open Go.RowKit Go.Proofs.YthjcicmmbmagbaaW.PrintWords Go.Proofs.YthjcicmmbmagbaaW.PrintLast Go.Proofs.YthjcicmmbmagbaaW.PrintMore
attribute [local go_sem] iF iG iR iQ ig gW iE iD
set_option linter.unusedVariables false
set_option linter.unusedSimpArgs false
def iV.f (l0 : List Int) : Option (Bool) := some (decide ((l0.length : Int) > 1048576))
set_option maxHeartbeats 8000000 in
set_option maxRecDepth 100000 in
theorem iV.calls (A0 : Option Addr) (c0 : Nat) (l0 : List Int) (r : Bool) (w : World) (hr0 : Kd.C (Kd.int .u8) w A0 l0.length l0) (hc0 : l0.length ≤ c0) (h : iV.f l0 = some r) :
  Calls Try.prog 19 #[.slice A0 l0.length c0] w fun e w' => e = .returned (.bool r) ∧ bP w w' := by
 have HR0 := aj.mk hr0
 have HC0 := aj.mk hc0
 clear hr0 hc0
 have H : (some (decide ((l0.length : Int) > 1048576))) = some r := h
 clear h
 obtain rfl := Option.some.inj H
 go_enter Try.func19, Try.ntmps19
 go_wp2
 go_ret
 exact ⟨by first | rfl | (simp; done) | (simp [*]; done), by repeat (first | exact bP.refl _ | apply bP.step)⟩
def av (w0 W : World) (g : Nat) (f0 : List Int) (f1 : Int) (f2 : Int) : Prop := ∃ A0 c0, W.heap[g]? = some (.cells #[.slice A0 f0.length c0, .int .i64 f1, .int .i64 f2] 137 (0, 0)) ∧ w0.heap.size ≤ g ∧ Kd.C (Kd.int .u8) w0 A0 f0.length f0
theorem av.grown {w0 W : World} {g : Nat} {f0 : List Int} {f1 : Int} {f2 : Int} {W1 : World} {row : Option Nat} (h : av w0 W g f0 f1 f2) (hw : W.grownBy W1 row) (hne : some g ≠ row) : av w0 W1 g f0 f1 f2 := by
 obtain ⟨A0, c0, hb, hg, hr0⟩ := h
 exact ⟨A0, c0, eG hb hw hne, hg, hr0⟩
theorem av.sF {w0 W : World} {g : Nat} {f0 : List Int} {f1 : Int} {f2 : Int} {α : Type} {d : Kd α} {e : Nat} {base : Nat} {ok : Nat → Prop} {v : Value} {xs : List α} (h : av w0 W g f0 f1 f2) (ho : Kd.N d e W base ok v xs) (ht : e ≠ 137) : some g ≠ v.ownBlock := by
 obtain ⟨A0, c0, hb, hg, hr0⟩ := h
 exact Kd.sI ho hb ht
theorem av.fresh {w0 W : World} {g : Nat} {f0 : List Int} {f1 : Int} {f2 : Int} (h : av w0 W g f0 f1 f2) : ∀ k, W.heap.size ≤ k → k ≠ g := by
 obtain ⟨A0, c0, hb, hg, hr0⟩ := h
 exact Kd.gJ hb
theorem av.kept {w0 W : World} {g : Nat} {f0 : List Int} {f1 : Int} {f2 : Int} {W1 : World} {S : Nat → Prop} (h : av w0 W g f0 f1 f2) (hk : Kept W W1 S) (hne : ¬ S g) : av w0 W1 g f0 f1 f2 := by
 obtain ⟨A0, c0, hb, hg, hr0⟩ := h
 exact ⟨A0, c0, qw hb hk hne, hg, hr0⟩
theorem av.below {w0 W : World} {g : Nat} {f0 : List Int} {f1 : Int} {f2 : Int} {W1 : World} (h : av w0 W g f0 f1 f2) (hw : Below W.heap.size W W1) : av w0 W1 g f0 f1 f2 := h.grown (iT hw none) (by simp)
theorem av.alloc {w0 W : World} {g : Nat} {f0 : List Int} {f1 : Int} {f2 : Int} (h : av w0 W g f0 f1 f2) (o : Obj) : av w0 (W.alloc o) g f0 f1 f2 := h.below (au (Below.refl _ _) o)
theorem av.drewN {w0 W : World} {g : Nat} {f0 : List Int} {f1 : Int} {f2 : Int} (h : av w0 W g f0 f1 f2) (m : Nat) : av w0 (W.drewN m) g f0 f1 f2 := h
theorem av.drew {w0 W : World} {g : Nat} {f0 : List Int} {f1 : Int} {f2 : Int} (h : av w0 W g f0 f1 f2) : av w0 W.drew g f0 f1 f2 := h
theorem av.at_ {w0 W : World} {g : Nat} {f0 : List Int} {f1 : Int} {f2 : Int} {w' : World} {m : Nat} (hq : W.drewN m = w') (h : av w0 W g f0 f1 f2) : av w0 w' g f0 f1 f2 := by subst hq; exact av.drewN h m
theorem av.apart {w0 W : World} {g : Nat} {f0 : List Int} {f1 : Int} {f2 : Int} {α : Type} {d : Kd α} {e : Nat} {base : Nat} {ok : Nat → Prop} {v : Value} {xs : List α} (h : av w0 W g f0 f1 f2) (ho : d.R e W base ok v xs) (ht : ∀ q, q ∈ e :: d.E → q ≠ 137) : d.R e W base (fun k => ok k ∧ k ≠ g) v xs := by
 obtain ⟨A0, c0, hb, hg, hr0⟩ := h
 exact Kd.j6 ho hb ht
theorem av.own_ne {w0 W : World} {g : Nat} {f0 : List Int} {f1 : Int} {f2 : Int} {α : Type} {d : Kd α} {e : Nat} {base : Nat} {ok : Nat → Prop} {v : Value} {xs : List α} (h : av w0 W g f0 f1 f2) (ho : d.R e W base ok v xs) (ht : e ≠ 137) : some g ≠ v.ownBlock := by
 obtain ⟨A0, c0, hb, hg, hr0⟩ := h
 exact Kd.qL ho hb ht
theorem av.sK {w0 W : World} {g : Nat} {f0 : List Int} {f1 : Int} {f2 : Int} {α : Type} {d : Kd α} {e : Nat} {base : Nat} {ok : Nat → Prop} {v : Value} {xs : List α} (h : av w0 W g f0 f1 f2) (ho : d.Q e W base ok v xs) (ht : ∀ q, q ∈ e :: d.E → q ≠ 137) : d.Q e W base (fun k => ok k ∧ k ≠ g) v xs := by
 obtain ⟨A0, c0, hb, hg, hr0⟩ := h
 exact Kd.qZ ho hb ht
theorem av.sH {w0 W : World} {g : Nat} {f0 : List Int} {f1 : Int} {f2 : Int} {α : Type} {d : Kd α} {e : Nat} {base : Nat} {ok : Nat → Prop} {v : Value} {xs : List α} (h : av w0 W g f0 f1 f2) (ho : d.Q e W base ok v xs) (ht : e ≠ 137) : some g ≠ v.ownBlock := by
 obtain ⟨A0, c0, hb, hg, hr0⟩ := h
 exact Kd.sP ho hb ht
theorem av.sN {w0 W : World} {g : Nat} {f0 : List Int} {f1 : Int} {f2 : Int} {α : Type} {d : Kd α} {e : Nat} {base : Nat} {ok : Nat → Prop} {v : Value} {xs : List α} (h : av w0 W g f0 f1 f2) (ho : d.S e W base ok v xs) (ht : ∀ q, q ∈ e :: d.E → q ≠ 137) : d.S e W base (fun k => ok k ∧ k ≠ g) v xs := by
 obtain ⟨A0, c0, hb, hg, hr0⟩ := h
 exact Kd.qO ho hb ht
theorem av.sG {w0 W : World} {g : Nat} {f0 : List Int} {f1 : Int} {f2 : Int} {α : Type} {d : Kd α} {e : Nat} {base : Nat} {ok : Nat → Prop} {v : Value} {xs : List α} (h : av w0 W g f0 f1 f2) (ho : d.S e W base ok v xs) (ht : e ≠ 137) : some g ≠ v.ownBlock := by
 obtain ⟨A0, c0, hb, hg, hr0⟩ := h
 exact Kd.sJ ho hb ht
theorem av.lt {w0 W : World} {g : Nat} {f0 : List Int} {f1 : Int} {f2 : Int} (h : av w0 W g f0 f1 f2) : g < W.heap.size := by
 obtain ⟨A0, c0, hb, hg, hr0⟩ := h
 exact gL hb
theorem av.ge {w0 W : World} {g : Nat} {f0 : List Int} {f1 : Int} {f2 : Int} (h : av w0 W g f0 f1 f2) : w0.heap.size ≤ g := by
 obtain ⟨A0, c0, hb, hg, hr0⟩ := h
 exact hg
theorem av.ql {w0 W : World} {g : Nat} {f0 : List Int} {f1 : Int} {f2 : Int} {a : Nat} {cs : Array Value} {t : TypeId} {fr : Nat × Nat} (h : av w0 W g f0 f1 f2) (hb2 : W.heap[a]? = some (.cells cs t fr)) (ht : t ≠ 137) : g ≠ a := by
 obtain ⟨A0, c0, hb, hg, hr0⟩ := h
 rintro rfl
 rw [hb] at hb2
 injection hb2 with hb2
 injection hb2 with _ ht2
 exact ht ht2.symm
theorem av.far {w0 W : World} {g : Nat} {f0 : List Int} {f1 : Int} {f2 : Int} {p : Addr} (h : av w0 W g f0 f1 f2) (hne : g ≠ p.block) (u : Value) : av w0 (W.setCell p u) g f0 f1 f2 := by
 obtain ⟨A0, c0, hb, hg, hr0⟩ := h
 exact ⟨A0, c0, mX hb hne u, hg, hr0⟩
theorem lT {W : World} {g : Nat} {A0 : Option Addr} {c0 : Nat} {f0 : List Int} {f1 : Int} {f2 : Int} (h : W.heap[g]? = some (.cells #[.slice A0 f0.length c0, .int .i64 f1, .int .i64 f2] 137 (0, 0))) : W.cell? ⟨g, 0, none⟩ = some (.slice A0 f0.length c0) := (aT h 0).trans rfl
theorem l9 {W : World} {g : Nat} {A0 : Option Addr} {c0 : Nat} {f0 : List Int} {f1 : Int} {f2 : Int} (h : W.heap[g]? = some (.cells #[.slice A0 f0.length c0, .int .i64 f1, .int .i64 f2] 137 (0, 0))) : W.cell? ⟨g, 1, none⟩ = some (.int .i64 f1) := (aT h 1).trans rfl
theorem av.bX {w0 W : World} {g : Nat} {f0 : List Int} {f1 : Int} {f2 : Int} (h : av w0 W g f0 f1 f2) (x : Int) : av w0 (W.setCell ⟨g, 1, none⟩ (.int .i64 x)) g f0 x f2 := by
 obtain ⟨A0, c0, hb, hg, hr0⟩ := h
 exact ⟨A0, c0, by simpa using lS hb 1 (.int .i64 x), hg, hr0⟩
theorem lV {W : World} {g : Nat} {A0 : Option Addr} {c0 : Nat} {f0 : List Int} {f1 : Int} {f2 : Int} (h : W.heap[g]? = some (.cells #[.slice A0 f0.length c0, .int .i64 f1, .int .i64 f2] 137 (0, 0))) : W.cell? ⟨g, 2, none⟩ = some (.int .i64 f2) := (aT h 2).trans rfl
theorem av.bW {w0 W : World} {g : Nat} {f0 : List Int} {f1 : Int} {f2 : Int} (h : av w0 W g f0 f1 f2) (x : Int) : av w0 (W.setCell ⟨g, 2, none⟩ (.int .i64 x)) g f0 f1 x := by
 obtain ⟨A0, c0, hb, hg, hr0⟩ := h
 exact ⟨A0, c0, by simpa using lS hb 2 (.int .i64 x), hg, hr0⟩
theorem av.new (w0 W : World) (A0 : Option Addr) (c0 : Nat) (f0 : List Int) (f1 : Int) (f2 : Int) (hB : Below w0.heap.size w0 W) (hr0 : Kd.C (Kd.int .u8) w0 A0 f0.length f0) : av w0 (W.alloc (.cells #[.slice A0 f0.length c0, .int .i64 f1, .int .i64 f2] 137)) W.heap.size f0 f1 f2 := ⟨A0, c0, by simpa using heap_alloc_new W _, hB.size, hr0⟩
def dH.l0 : Nat → List Int → Int → Int → Option (List Int × Int × Int)
 | 0, _, _, _ => none
 | k + 1, x0, x3, x4 => if x4 < (x0.length : Int) then (if x4 < 4000 then (if 0 ≤ x4 then (dH.l0 k x0 (Go.bits .and .i64 (wrap64 ((wrap64 ((wrap64 (x3 * 137)) + (wrap64 (rd x0 x4)))) + 11)) 1073741823) (wrap64 (x4 + 1))) else (none)) else (some (x0, 0, x3))) else (some (x0, 0, x3))
def dH.f (k : Nat) (l0 : List Int) : Option (List Int × Int × Int) := dH.l0 k l0 (wrap64 (193017 + (l0.length : Int))) 0
set_option maxHeartbeats 8000000 in
set_option maxRecDepth 100000 in
theorem dH.calls (k : Nat) (A0 : Option Addr) (c0 : Nat) (l0 : List Int) (r1 : List Int) (r2 : Int) (r3 : Int) (w0 w : World) (hB : Below w0.heap.size w0 w) (hr0 : Kd.C (Kd.int .u8) w0 A0 l0.length l0) (hc0 : l0.length ≤ c0) (h : dH.f k l0 = some (r1, r2, r3)) :
  Calls Try.prog 60 #[.slice A0 l0.length c0] w fun e w' => ∃ g_ : Nat, e = .returned (.pointer (some ⟨g_, 0, none⟩)) ∧ av w0 w' g_ r1 r2 r3 ∧ Below w0.heap.size w0 w' ∧ Below w.heap.size w w' := by
 have hu137 := Try.underlying137
 have HR0 := aj.mk hr0
 have HC0 := aj.mk hc0
 clear hr0 hc0
 have HBW := aj.mk (Below.refl w.heap.size w)
 have HW0 := aj.mk hB.size
 have HB := aj.mk hB
 clear hB
 have H : (dH.l0 k l0 (wrap64 (193017 + (l0.length : Int))) 0) = some (r1, r2, r3) := h
 clear h
 have H' := aj.mk H
 clear H
 go_enter Try.func60, Try.ntmps60
 go_wp2
 go_loopg [3, 4] k (fun kq v3 v4 w' => ∃ (x3_1 : Int) (x4_1 : Int), v3 = .int .i64 x3_1 ∧ v4 = .int .i64 x4_1 ∧ aj (dH.l0 kq l0 x3_1 x4_1 = some (r1, r2, r3)) ∧ aj (kq ≤ k) ∧ aj (Below w0.heap.size w0 w') ∧ aj (Below w.heap.size w w'))
 case atStart => exact ⟨(wrap64 (193017 + (l0.length : Int))), (0), (by first | rfl | (simp; done) | (simp [*]; done)), (by first | rfl | (simp; done) | (simp [*]; done)), H', ⟨Nat.le_refl _⟩, ⟨by repeat (first | (with_reducible first | exact HB.out | apply au | apply ah | apply ak) | exact HB.out)⟩, ⟨by repeat (first | (with_reducible first | exact HBW.out | apply au | apply ah | apply ak) | exact HBW.out)⟩⟩
 case round =>
  clear H'
  obtain ⟨x3_1, x4_1, rfl, rfl, HA, HK1, HB, HBW⟩ := hrel
  cases gk with
  | zero => exact absurd HA.out (by simp [dH.l0])
  | succ k1 =>
   have H := HA.out
   clear HA
   simp only [dH.l0] at H
   by_cases c2 : x4_1 < (l0.length : Int)
   ·rw [if_pos c2] at H
    have c2b0 : decide (x4_1 < (l0.length : Int)) = true := decide_eq_true c2
    clear c2
    by_cases c3 : x4_1 < 4000
    ·rw [if_pos c3] at H
     have c3b0 : decide (x4_1 < 4000) = true := decide_eq_true c3
     clear c3
     by_cases c4 : 0 ≤ x4_1
     ·rw [if_pos c4] at H
      have c4b0 : decide (0 ≤ x4_1) = true := decide_eq_true c4
      clear c4
      have H' := aj.mk H
      clear H
      have p138 : 0 ≤ (x4_1 : Int) := of_decide_eq_true (by first | (with_reducible assumption) | assumption)
      have q138 : x4_1 < (l0.length : Int) := of_decide_eq_true (by first | (with_reducible assumption) | assumption)
      obtain ⟨ad138, e138, hx138_0⟩ := Kd.jX HR0.out x4_1 p138 q138
      cases e138
      replace hx138_0 := iq HB.out hx138_0
      replace p138 := eq_true p138
      replace q138 := eq_true q138
      go_wp2
      go_roundg k1
      case measure => have := HK1.out; omega
      case rel => exact ⟨(Go.bits .and .i64 (wrap64 ((wrap64 ((wrap64 (x3_1 * 137)) + (wrap64 (rd l0 x4_1)))) + 11)) 1073741823), (wrap64 (x4_1 + 1)), (by first | rfl | (simp; done) | (simp [*]; done)), (by first | rfl | (simp; done) | (simp [*]; done)), H', ⟨by have := HK1.out; omega⟩, ⟨by repeat (first | (with_reducible first | exact HB.out | apply au | apply ah | apply ak) | exact HB.out)⟩, ⟨by repeat (first | (with_reducible first | exact HBW.out | apply au | apply ah | apply ak) | exact HBW.out)⟩⟩
     ·rw [if_neg c4] at H
      exact absurd H (by simp)
    ·rw [if_neg c3] at H
     have c3b0 : decide (x4_1 < 4000) = false := decide_eq_false c3
     clear c3
     simp only [Option.some.injEq, Prod.mk.injEq] at H
     obtain ⟨rfl, rfl, rfl⟩ := H
     go_wp2_with (first | ((with_reducible refine dz (N := 31) rfl ?_); refine dD ?hg (N := 31) ?hd (cs := #[.slice A0 l0.length c0, .int .i64 0, .int .i64 x3_1]) (t := 137) ?hr ?_; (case hd => rfl); (case hg => rfl); (case hr => first | (go_simp; done) | (go_simp; rfl)); intro gb139 hg w5 hbox hb; have n0_ := aj.mk (aY HBW.out hb); have n1_ := aj.mk (aY (by repeat (first | (with_reducible first | exact HB.out | apply au | apply ah | apply ak) | exact HB.out)) hb); have n2_ := aj.mk (hbox); have n3_ := aj.mk ((by rw [hg]; exact (bf (by repeat (first | (with_reducible first | exact HBW.out | apply au | apply ah | apply ak) | exact HBW.out))) : w.heap.size ≤ gb139)); have n4_ := aj.mk ((Nat.le_trans HW0.out (by rw [hg]; exact (bf (by repeat (first | (with_reducible first | exact HBW.out | apply au | apply ah | apply ak) | exact HBW.out))) : w.heap.size ≤ gb139) : w0.heap.size ≤ gb139)); clear HBW; clear HB; have HBW := n0_; have HB := n1_; have BK139 := n2_; have GW139 := n3_; have GE139 := n4_; clear n0_ n1_ n2_ n3_ n4_; clear hb hbox hg))
     go_ret
     exact ⟨_, rfl, (show av w0 _ gb139 l0 0 x3_1 from ⟨_, _, by (with_reducible repeat (first | refine aA ?_ _ | refine aD ?_ | refine aC ?_ _)); exact BK139.out, GE139.out, HR0.out⟩), by repeat (first | (with_reducible first | exact HB.out | apply au | apply ah | apply ak | refine ay ?_ GE139.out) | exact HB.out), by repeat (first | (with_reducible first | exact HBW.out | apply au | apply ah | apply ak | refine ay ?_ GW139.out) | exact HBW.out)⟩
   ·rw [if_neg c2] at H
    have c2b0 : decide (x4_1 < (l0.length : Int)) = false := decide_eq_false c2
    clear c2
    simp only [Option.some.injEq, Prod.mk.injEq] at H
    obtain ⟨rfl, rfl, rfl⟩ := H
    go_wp2_with (first | ((with_reducible refine dz (N := 31) rfl ?_); refine dD ?hg (N := 31) ?hd (cs := #[.slice A0 l0.length c0, .int .i64 0, .int .i64 x3_1]) (t := 137) ?hr ?_; (case hd => rfl); (case hg => rfl); (case hr => first | (go_simp; done) | (go_simp; rfl)); intro gb140 hg w6 hbox hb; have n0_ := aj.mk (aY HBW.out hb); have n1_ := aj.mk (aY (by repeat (first | (with_reducible first | exact HB.out | apply au | apply ah | apply ak) | exact HB.out)) hb); have n2_ := aj.mk (hbox); have n3_ := aj.mk ((by rw [hg]; exact (bf (by repeat (first | (with_reducible first | exact HBW.out | apply au | apply ah | apply ak) | exact HBW.out))) : w.heap.size ≤ gb140)); have n4_ := aj.mk ((Nat.le_trans HW0.out (by rw [hg]; exact (bf (by repeat (first | (with_reducible first | exact HBW.out | apply au | apply ah | apply ak) | exact HBW.out))) : w.heap.size ≤ gb140) : w0.heap.size ≤ gb140)); clear HBW; clear HB; have HBW := n0_; have HB := n1_; have BK140 := n2_; have GW140 := n3_; have GE140 := n4_; clear n0_ n1_ n2_ n3_ n4_; clear hb hbox hg))
    go_ret
    exact ⟨_, rfl, (show av w0 _ gb140 l0 0 x3_1 from ⟨_, _, by (with_reducible repeat (first | refine aA ?_ _ | refine aD ?_ | refine aC ?_ _)); exact BK140.out, GE140.out, HR0.out⟩), by repeat (first | (with_reducible first | exact HB.out | apply au | apply ah | apply ak | refine ay ?_ GE140.out) | exact HB.out), by repeat (first | (with_reducible first | exact HBW.out | apply au | apply ah | apply ak | refine ay ?_ GW140.out) | exact HBW.out)⟩
def dV.f  : Option (List ByteArray) := some (([(⟨#[99, 97, 116]⟩ : ByteArray), (⟨#[97, 99, 116]⟩ : ByteArray), (⟨#[116, 97, 99]⟩ : ByteArray), (⟨#[97, 114, 99]⟩ : ByteArray), (⟨#[99, 97, 114]⟩ : ByteArray), (⟨#[101, 114, 97]⟩ : ByteArray), (⟨#[97, 114, 101]⟩ : ByteArray), (⟨#[101, 97, 114]⟩ : ByteArray), (⟨#[97, 116, 101]⟩ : ByteArray), (⟨#[116, 101, 97]⟩ : ByteArray), (⟨#[101, 97, 116]⟩ : ByteArray), (⟨#[115, 101, 97]⟩ : ByteArray), (⟨#[116, 97, 114]⟩ : ByteArray), (⟨#[114, 97, 116]⟩ : ByteArray), (⟨#[97, 114, 116]⟩ : ByteArray), (⟨#[97, 110, 116]⟩ : ByteArray), (⟨#[116, 97, 110]⟩ : ByteArray), (⟨#[110, 101, 116]⟩ : ByteArray), (⟨#[116, 101, 110]⟩ : ByteArray), (⟨#[114, 101, 115, 116]⟩ : ByteArray), (⟨#[116, 114, 101, 101]⟩ : ByteArray), (⟨#[115, 116, 97, 114]⟩ : ByteArray), (⟨#[114, 97, 116, 115]⟩ : ByteArray), (⟨#[97, 114, 116, 115]⟩ : ByteArray), (⟨#[101, 97, 115, 116]⟩ : ByteArray), (⟨#[115, 101, 97, 116]⟩ : ByteArray), (⟨#[116, 101, 97, 115]⟩ : ByteArray), (⟨#[110, 101, 116, 115]⟩ : ByteArray), (⟨#[116, 101, 110, 115]⟩ : ByteArray), (⟨#[115, 101, 110, 116]⟩ : ByteArray), (⟨#[116, 114, 97, 99, 101]⟩ : ByteArray), (⟨#[114, 101, 97, 99, 116]⟩ : ByteArray), (⟨#[99, 114, 97, 116, 101]⟩ : ByteArray), (⟨#[115, 116, 97, 114, 101]⟩ : ByteArray), (⟨#[116, 101, 97, 114, 115]⟩ : ByteArray)] : List ByteArray))
set_option maxHeartbeats 8000000 in
set_option maxRecDepth 100000 in
theorem dV.calls  (r : List ByteArray) (w : World) (h : dV.f  = some r) :
  Calls Try.prog 70 #[] w fun e w' => ∃ v0_ : Value, e = .returned (v0_) ∧ Kd.R Kd.string 9 w' w.heap.size (fun _ => True) v0_ r ∧ Below w.heap.size w w' := by
 have HB := aj.mk (Below.refl w.heap.size w)
 have H : (some (([(⟨#[99, 97, 116]⟩ : ByteArray), (⟨#[97, 99, 116]⟩ : ByteArray), (⟨#[116, 97, 99]⟩ : ByteArray), (⟨#[97, 114, 99]⟩ : ByteArray), (⟨#[99, 97, 114]⟩ : ByteArray), (⟨#[101, 114, 97]⟩ : ByteArray), (⟨#[97, 114, 101]⟩ : ByteArray), (⟨#[101, 97, 114]⟩ : ByteArray), (⟨#[97, 116, 101]⟩ : ByteArray), (⟨#[116, 101, 97]⟩ : ByteArray), (⟨#[101, 97, 116]⟩ : ByteArray), (⟨#[115, 101, 97]⟩ : ByteArray), (⟨#[116, 97, 114]⟩ : ByteArray), (⟨#[114, 97, 116]⟩ : ByteArray), (⟨#[97, 114, 116]⟩ : ByteArray), (⟨#[97, 110, 116]⟩ : ByteArray), (⟨#[116, 97, 110]⟩ : ByteArray), (⟨#[110, 101, 116]⟩ : ByteArray), (⟨#[116, 101, 110]⟩ : ByteArray), (⟨#[114, 101, 115, 116]⟩ : ByteArray), (⟨#[116, 114, 101, 101]⟩ : ByteArray), (⟨#[115, 116, 97, 114]⟩ : ByteArray), (⟨#[114, 97, 116, 115]⟩ : ByteArray), (⟨#[97, 114, 116, 115]⟩ : ByteArray), (⟨#[101, 97, 115, 116]⟩ : ByteArray), (⟨#[115, 101, 97, 116]⟩ : ByteArray), (⟨#[116, 101, 97, 115]⟩ : ByteArray), (⟨#[110, 101, 116, 115]⟩ : ByteArray), (⟨#[116, 101, 110, 115]⟩ : ByteArray), (⟨#[115, 101, 110, 116]⟩ : ByteArray), (⟨#[116, 114, 97, 99, 101]⟩ : ByteArray), (⟨#[114, 101, 97, 99, 116]⟩ : ByteArray), (⟨#[99, 114, 97, 116, 101]⟩ : ByteArray), (⟨#[115, 116, 97, 114, 101]⟩ : ByteArray), (⟨#[116, 101, 97, 114, 115]⟩ : ByteArray)] : List ByteArray))) = some r := h
 clear h
 obtain ⟨y141, hy141⟩ : ∃ y_ : List ByteArray, y_ = (([(⟨#[99, 97, 116]⟩ : ByteArray), (⟨#[97, 99, 116]⟩ : ByteArray), (⟨#[116, 97, 99]⟩ : ByteArray), (⟨#[97, 114, 99]⟩ : ByteArray), (⟨#[99, 97, 114]⟩ : ByteArray), (⟨#[101, 114, 97]⟩ : ByteArray), (⟨#[97, 114, 101]⟩ : ByteArray), (⟨#[101, 97, 114]⟩ : ByteArray), (⟨#[97, 116, 101]⟩ : ByteArray), (⟨#[116, 101, 97]⟩ : ByteArray), (⟨#[101, 97, 116]⟩ : ByteArray), (⟨#[115, 101, 97]⟩ : ByteArray), (⟨#[116, 97, 114]⟩ : ByteArray), (⟨#[114, 97, 116]⟩ : ByteArray), (⟨#[97, 114, 116]⟩ : ByteArray), (⟨#[97, 110, 116]⟩ : ByteArray), (⟨#[116, 97, 110]⟩ : ByteArray), (⟨#[110, 101, 116]⟩ : ByteArray), (⟨#[116, 101, 110]⟩ : ByteArray), (⟨#[114, 101, 115, 116]⟩ : ByteArray), (⟨#[116, 114, 101, 101]⟩ : ByteArray), (⟨#[115, 116, 97, 114]⟩ : ByteArray), (⟨#[114, 97, 116, 115]⟩ : ByteArray), (⟨#[97, 114, 116, 115]⟩ : ByteArray), (⟨#[101, 97, 115, 116]⟩ : ByteArray), (⟨#[115, 101, 97, 116]⟩ : ByteArray), (⟨#[116, 101, 97, 115]⟩ : ByteArray), (⟨#[110, 101, 116, 115]⟩ : ByteArray), (⟨#[116, 101, 110, 115]⟩ : ByteArray), (⟨#[115, 101, 110, 116]⟩ : ByteArray), (⟨#[116, 114, 97, 99, 101]⟩ : ByteArray), (⟨#[114, 101, 97, 99, 116]⟩ : ByteArray), (⟨#[99, 114, 97, 116, 101]⟩ : ByteArray), (⟨#[115, 116, 97, 114, 101]⟩ : ByteArray), (⟨#[116, 101, 97, 114, 115]⟩ : ByteArray)] : List ByteArray)) := ⟨_, rfl⟩
 replace H : (some y141) = some r := by first | (rw [hy141]; with_reducible exact H) | (have H2_ := (Option.bind_some _ _).symm.trans H; rw [hy141]; with_reducible exact H2_) | (have H2_ := (Option.bind_some _ _).symm.trans H; with_reducible exact H2_) | with_reducible exact H | (rw [hy141]; exact H) | exact H
 have Ny141 := aj.mk hy141
 clear hy141
 obtain rfl := Option.some.inj H
 go_enter Try.func70, Try.ntmps70
 go_wp2_with (first | ((with_reducible refine dz (N := 1) rfl ?_); refine Kd.kY Kd.string _ 9 ?hg (N := 1) ?hd (xs := ([(⟨#[99, 97, 116]⟩ : ByteArray), (⟨#[97, 99, 116]⟩ : ByteArray), (⟨#[116, 97, 99]⟩ : ByteArray), (⟨#[97, 114, 99]⟩ : ByteArray), (⟨#[99, 97, 114]⟩ : ByteArray), (⟨#[101, 114, 97]⟩ : ByteArray), (⟨#[97, 114, 101]⟩ : ByteArray), (⟨#[101, 97, 114]⟩ : ByteArray), (⟨#[97, 116, 101]⟩ : ByteArray), (⟨#[116, 101, 97]⟩ : ByteArray), (⟨#[101, 97, 116]⟩ : ByteArray), (⟨#[115, 101, 97]⟩ : ByteArray), (⟨#[116, 97, 114]⟩ : ByteArray), (⟨#[114, 97, 116]⟩ : ByteArray), (⟨#[97, 114, 116]⟩ : ByteArray), (⟨#[97, 110, 116]⟩ : ByteArray), (⟨#[116, 97, 110]⟩ : ByteArray), (⟨#[110, 101, 116]⟩ : ByteArray), (⟨#[116, 101, 110]⟩ : ByteArray), (⟨#[114, 101, 115, 116]⟩ : ByteArray), (⟨#[116, 114, 101, 101]⟩ : ByteArray), (⟨#[115, 116, 97, 114]⟩ : ByteArray), (⟨#[114, 97, 116, 115]⟩ : ByteArray), (⟨#[97, 114, 116, 115]⟩ : ByteArray), (⟨#[101, 97, 115, 116]⟩ : ByteArray), (⟨#[115, 101, 97, 116]⟩ : ByteArray), (⟨#[116, 101, 97, 115]⟩ : ByteArray), (⟨#[110, 101, 116, 115]⟩ : ByteArray), (⟨#[116, 101, 110, 115]⟩ : ByteArray), (⟨#[115, 101, 110, 116]⟩ : ByteArray), (⟨#[116, 114, 97, 99, 101]⟩ : ByteArray), (⟨#[114, 101, 97, 99, 116]⟩ : ByteArray), (⟨#[99, 114, 97, 116, 101]⟩ : ByteArray), (⟨#[115, 116, 97, 114, 101]⟩ : ByteArray), (⟨#[116, 101, 97, 114, 115]⟩ : ByteArray)] : List ByteArray)) (inner := [.string (⟨#[99, 97, 116]⟩ : ByteArray), .string (⟨#[97, 99, 116]⟩ : ByteArray), .string (⟨#[116, 97, 99]⟩ : ByteArray), .string (⟨#[97, 114, 99]⟩ : ByteArray), .string (⟨#[99, 97, 114]⟩ : ByteArray), .string (⟨#[101, 114, 97]⟩ : ByteArray), .string (⟨#[97, 114, 101]⟩ : ByteArray), .string (⟨#[101, 97, 114]⟩ : ByteArray), .string (⟨#[97, 116, 101]⟩ : ByteArray), .string (⟨#[116, 101, 97]⟩ : ByteArray), .string (⟨#[101, 97, 116]⟩ : ByteArray), .string (⟨#[115, 101, 97]⟩ : ByteArray), .string (⟨#[116, 97, 114]⟩ : ByteArray), .string (⟨#[114, 97, 116]⟩ : ByteArray), .string (⟨#[97, 114, 116]⟩ : ByteArray), .string (⟨#[97, 110, 116]⟩ : ByteArray), .string (⟨#[116, 97, 110]⟩ : ByteArray), .string (⟨#[110, 101, 116]⟩ : ByteArray), .string (⟨#[116, 101, 110]⟩ : ByteArray), .string (⟨#[114, 101, 115, 116]⟩ : ByteArray), .string (⟨#[116, 114, 101, 101]⟩ : ByteArray), .string (⟨#[115, 116, 97, 114]⟩ : ByteArray), .string (⟨#[114, 97, 116, 115]⟩ : ByteArray), .string (⟨#[97, 114, 116, 115]⟩ : ByteArray), .string (⟨#[101, 97, 115, 116]⟩ : ByteArray), .string (⟨#[115, 101, 97, 116]⟩ : ByteArray), .string (⟨#[116, 101, 97, 115]⟩ : ByteArray), .string (⟨#[110, 101, 116, 115]⟩ : ByteArray), .string (⟨#[116, 101, 110, 115]⟩ : ByteArray), .string (⟨#[115, 101, 110, 116]⟩ : ByteArray), .string (⟨#[116, 114, 97, 99, 101]⟩ : ByteArray), .string (⟨#[114, 101, 97, 99, 116]⟩ : ByteArray), .string (⟨#[99, 114, 97, 116, 101]⟩ : ByteArray), .string (⟨#[115, 116, 97, 114, 101]⟩ : ByteArray), .string (⟨#[116, 101, 97, 114, 115]⟩ : ByteArray)]) (ok := fun _ => True) (okp := fun _ => True) ?hr ?hp (fun _ hk => hk) trivial (Below.refl _ _) (Nat.le_refl _) (by simp) ?_; (case hd => rfl); (case hg => rfl); (case hr => first | (go_simp; done) | (go_simp; rfl)); (case hp => exact (bZ.one (show Kd.M Kd.string _ _ _ (⟨#[99, 97, 116]⟩ : ByteArray) [.string (⟨#[99, 97, 116]⟩ : ByteArray)] from rfl) (bZ.one (show Kd.M Kd.string _ _ _ (⟨#[97, 99, 116]⟩ : ByteArray) [.string (⟨#[97, 99, 116]⟩ : ByteArray)] from rfl) (bZ.one (show Kd.M Kd.string _ _ _ (⟨#[116, 97, 99]⟩ : ByteArray) [.string (⟨#[116, 97, 99]⟩ : ByteArray)] from rfl) (bZ.one (show Kd.M Kd.string _ _ _ (⟨#[97, 114, 99]⟩ : ByteArray) [.string (⟨#[97, 114, 99]⟩ : ByteArray)] from rfl) (bZ.one (show Kd.M Kd.string _ _ _ (⟨#[99, 97, 114]⟩ : ByteArray) [.string (⟨#[99, 97, 114]⟩ : ByteArray)] from rfl) (bZ.one (show Kd.M Kd.string _ _ _ (⟨#[101, 114, 97]⟩ : ByteArray) [.string (⟨#[101, 114, 97]⟩ : ByteArray)] from rfl) (bZ.one (show Kd.M Kd.string _ _ _ (⟨#[97, 114, 101]⟩ : ByteArray) [.string (⟨#[97, 114, 101]⟩ : ByteArray)] from rfl) (bZ.one (show Kd.M Kd.string _ _ _ (⟨#[101, 97, 114]⟩ : ByteArray) [.string (⟨#[101, 97, 114]⟩ : ByteArray)] from rfl) (bZ.one (show Kd.M Kd.string _ _ _ (⟨#[97, 116, 101]⟩ : ByteArray) [.string (⟨#[97, 116, 101]⟩ : ByteArray)] from rfl) (bZ.one (show Kd.M Kd.string _ _ _ (⟨#[116, 101, 97]⟩ : ByteArray) [.string (⟨#[116, 101, 97]⟩ : ByteArray)] from rfl) (bZ.one (show Kd.M Kd.string _ _ _ (⟨#[101, 97, 116]⟩ : ByteArray) [.string (⟨#[101, 97, 116]⟩ : ByteArray)] from rfl) (bZ.one (show Kd.M Kd.string _ _ _ (⟨#[115, 101, 97]⟩ : ByteArray) [.string (⟨#[115, 101, 97]⟩ : ByteArray)] from rfl) (bZ.one (show Kd.M Kd.string _ _ _ (⟨#[116, 97, 114]⟩ : ByteArray) [.string (⟨#[116, 97, 114]⟩ : ByteArray)] from rfl) (bZ.one (show Kd.M Kd.string _ _ _ (⟨#[114, 97, 116]⟩ : ByteArray) [.string (⟨#[114, 97, 116]⟩ : ByteArray)] from rfl) (bZ.one (show Kd.M Kd.string _ _ _ (⟨#[97, 114, 116]⟩ : ByteArray) [.string (⟨#[97, 114, 116]⟩ : ByteArray)] from rfl) (bZ.one (show Kd.M Kd.string _ _ _ (⟨#[97, 110, 116]⟩ : ByteArray) [.string (⟨#[97, 110, 116]⟩ : ByteArray)] from rfl) (bZ.one (show Kd.M Kd.string _ _ _ (⟨#[116, 97, 110]⟩ : ByteArray) [.string (⟨#[116, 97, 110]⟩ : ByteArray)] from rfl) (bZ.one (show Kd.M Kd.string _ _ _ (⟨#[110, 101, 116]⟩ : ByteArray) [.string (⟨#[110, 101, 116]⟩ : ByteArray)] from rfl) (bZ.one (show Kd.M Kd.string _ _ _ (⟨#[116, 101, 110]⟩ : ByteArray) [.string (⟨#[116, 101, 110]⟩ : ByteArray)] from rfl) (bZ.one (show Kd.M Kd.string _ _ _ (⟨#[114, 101, 115, 116]⟩ : ByteArray) [.string (⟨#[114, 101, 115, 116]⟩ : ByteArray)] from rfl) (bZ.one (show Kd.M Kd.string _ _ _ (⟨#[116, 114, 101, 101]⟩ : ByteArray) [.string (⟨#[116, 114, 101, 101]⟩ : ByteArray)] from rfl) (bZ.one (show Kd.M Kd.string _ _ _ (⟨#[115, 116, 97, 114]⟩ : ByteArray) [.string (⟨#[115, 116, 97, 114]⟩ : ByteArray)] from rfl) (bZ.one (show Kd.M Kd.string _ _ _ (⟨#[114, 97, 116, 115]⟩ : ByteArray) [.string (⟨#[114, 97, 116, 115]⟩ : ByteArray)] from rfl) (bZ.one (show Kd.M Kd.string _ _ _ (⟨#[97, 114, 116, 115]⟩ : ByteArray) [.string (⟨#[97, 114, 116, 115]⟩ : ByteArray)] from rfl) (bZ.one (show Kd.M Kd.string _ _ _ (⟨#[101, 97, 115, 116]⟩ : ByteArray) [.string (⟨#[101, 97, 115, 116]⟩ : ByteArray)] from rfl) (bZ.one (show Kd.M Kd.string _ _ _ (⟨#[115, 101, 97, 116]⟩ : ByteArray) [.string (⟨#[115, 101, 97, 116]⟩ : ByteArray)] from rfl) (bZ.one (show Kd.M Kd.string _ _ _ (⟨#[116, 101, 97, 115]⟩ : ByteArray) [.string (⟨#[116, 101, 97, 115]⟩ : ByteArray)] from rfl) (bZ.one (show Kd.M Kd.string _ _ _ (⟨#[110, 101, 116, 115]⟩ : ByteArray) [.string (⟨#[110, 101, 116, 115]⟩ : ByteArray)] from rfl) (bZ.one (show Kd.M Kd.string _ _ _ (⟨#[116, 101, 110, 115]⟩ : ByteArray) [.string (⟨#[116, 101, 110, 115]⟩ : ByteArray)] from rfl) (bZ.one (show Kd.M Kd.string _ _ _ (⟨#[115, 101, 110, 116]⟩ : ByteArray) [.string (⟨#[115, 101, 110, 116]⟩ : ByteArray)] from rfl) (bZ.one (show Kd.M Kd.string _ _ _ (⟨#[116, 114, 97, 99, 101]⟩ : ByteArray) [.string (⟨#[116, 114, 97, 99, 101]⟩ : ByteArray)] from rfl) (bZ.one (show Kd.M Kd.string _ _ _ (⟨#[114, 101, 97, 99, 116]⟩ : ByteArray) [.string (⟨#[114, 101, 97, 99, 116]⟩ : ByteArray)] from rfl) (bZ.one (show Kd.M Kd.string _ _ _ (⟨#[99, 114, 97, 116, 101]⟩ : ByteArray) [.string (⟨#[99, 114, 97, 116, 101]⟩ : ByteArray)] from rfl) (bZ.one (show Kd.M Kd.string _ _ _ (⟨#[115, 116, 97, 114, 101]⟩ : ByteArray) [.string (⟨#[115, 116, 97, 114, 101]⟩ : ByteArray)] from rfl) (bZ.one (show Kd.M Kd.string _ _ _ (⟨#[116, 101, 97, 114, 115]⟩ : ByteArray) [.string (⟨#[116, 101, 97, 114, 115]⟩ : ByteArray)] from rfl) (bZ.none _ _))))))))))))))))))))))))))))))))))))); intro v142 w1 ho2 hb hg_ hnew_; clear hg_ hnew_; (first | rw [← Ny141.out] at ho2 | (simp only [Int.reduceToNat] at ho2; rw [← Ny141.out] at ho2)); have n0_ := aj.mk (Kd.cK ho2 (bf (by repeat (first | (with_reducible first | exact HB.out | apply au | apply ah | apply ak) | exact HB.out)))); have n1_ := aj.mk (aY (by repeat (first | (with_reducible first | exact HB.out | apply au | apply ah | apply ak) | exact HB.out)) hb); clear HB; have HO143 := n0_; have HB := n1_; clear n0_ n1_; clear hb ho2))
 go_ret
 exact ⟨_, by first | rfl | (simp [bA, bB] <;> rfl) | (simp [*, bA, bB] <;> rfl), by (with_reducible repeat (first | apply Kd.aN | apply Kd.aM | apply Kd.aW)); exact HO143.out, by repeat (first | (with_reducible first | exact HB.out | apply au | apply ah | apply ak) | exact HB.out)⟩
def dU.f (s0_0 : List Int) (s0_1 : Int) (s0_2 : Int) : Option (Int × Int × Int) := if s0_1 < (s0_0.length : Int) then (if 0 ≤ s0_1 then (some (Go.bits .and .i64 (wrap64 ((Go.bits .and .i64 (Go.bits .xor .i64 ((wrap64 ((wrap64 (s0_2 * 6364136223846793005)) + 1442695040888963407)) / 8589934592) ((wrap64 ((wrap64 (s0_2 * 6364136223846793005)) + 1442695040888963407)) / 140737488355328)) 255) + (wrap64 (rd s0_0 s0_1)))) 255, wrap64 (s0_1 + 1), wrap64 ((wrap64 (s0_2 * 6364136223846793005)) + 1442695040888963407))) else (none)) else (some (Go.bits .and .i64 (Go.bits .xor .i64 ((wrap64 ((wrap64 (s0_2 * 6364136223846793005)) + 1442695040888963407)) / 8589934592) ((wrap64 ((wrap64 (s0_2 * 6364136223846793005)) + 1442695040888963407)) / 140737488355328)) 255, s0_1, wrap64 ((wrap64 (s0_2 * 6364136223846793005)) + 1442695040888963407)))
set_option maxHeartbeats 8000000 in
set_option maxRecDepth 100000 in
theorem dU.calls (g : Nat) (s0_0 : List Int) (s0_1 : Int) (s0_2 : Int) (r1 : Int) (r2 : Int) (r3 : Int) (w0 w : World) (hI : av w0 w g s0_0 s0_1 s0_2) (hB : Below w0.heap.size w0 w) (h : dU.f s0_0 s0_1 s0_2 = some (r1, r2, r3)) :
  Calls Try.prog 164 #[.pointer (some ⟨g, 0, none⟩)] w fun e w' => e = .returned (.int .i64 r1) ∧ av w0 w' g s0_0 r2 r3 ∧ Below w0.heap.size w0 w' ∧ bn w w' g none := by
 have HI0 := aj.mk hI
 have HK := aj.mk (bn.refl w g none)
 have HL := aj.mk hB.size
 clear hI
 have HW0 := aj.mk hB.size
 have HB := aj.mk hB
 clear hB
 have H : (if s0_1 < (s0_0.length : Int) then (if 0 ≤ s0_1 then (some (Go.bits .and .i64 (wrap64 ((Go.bits .and .i64 (Go.bits .xor .i64 ((wrap64 ((wrap64 (s0_2 * 6364136223846793005)) + 1442695040888963407)) / 8589934592) ((wrap64 ((wrap64 (s0_2 * 6364136223846793005)) + 1442695040888963407)) / 140737488355328)) 255) + (wrap64 (rd s0_0 s0_1)))) 255, wrap64 (s0_1 + 1), wrap64 ((wrap64 (s0_2 * 6364136223846793005)) + 1442695040888963407))) else (none)) else (some (Go.bits .and .i64 (Go.bits .xor .i64 ((wrap64 ((wrap64 (s0_2 * 6364136223846793005)) + 1442695040888963407)) / 8589934592) ((wrap64 ((wrap64 (s0_2 * 6364136223846793005)) + 1442695040888963407)) / 140737488355328)) 255, s0_1, wrap64 ((wrap64 (s0_2 * 6364136223846793005)) + 1442695040888963407)))) = some (r1, r2, r3) := h
 clear h
 by_cases c2 : s0_1 < (s0_0.length : Int)
 ·rw [if_pos c2] at H
  have c2b0 : decide (s0_1 < (s0_0.length : Int)) = true := decide_eq_true c2
  clear c2
  by_cases c3 : 0 ≤ s0_1
  ·rw [if_pos c3] at H
   have c3b0 : decide (0 ≤ s0_1) = true := decide_eq_true c3
   clear c3
   simp only [Option.some.injEq, Prod.mk.injEq] at H
   obtain ⟨rfl, rfl, rfl⟩ := H
   obtain ⟨ASz4_0, cSz4_0, HGz4, hgz4, HSz4_0⟩ := HI0.out
   have hcz4_0 := lT HGz4
   have hcz4_1 := l9 HGz4
   have hcz4_2 := lV HGz4
   have hfz4_1 := bG HGz4 1
   have hfz4_2 := bG HGz4 2
   clear HGz4 hgz4
   have p144 : 0 ≤ (s0_1 : Int) := of_decide_eq_true (by first | (with_reducible assumption) | assumption)
   have q144 : s0_1 < (s0_0.length : Int) := of_decide_eq_true (by first | (with_reducible assumption) | assumption)
   obtain ⟨ad144, e144, hx144_0⟩ := Kd.jX HSz4_0 s0_1 p144 q144
   cases e144
   have hn144_0 : ad144.block ≠ g := Nat.ne_of_lt (Nat.lt_of_lt_of_le (by have := World.block_lt_of_cell? _ _ hx144_0; first | rwa [add_block] at this | exact this) (av.ge HI0.out))
   replace hx144_0 := iq HB.out hx144_0
   replace hx144_0 := (cell_far (p := ⟨g, 2, none⟩) (by first | (rw [add_block]; exact hn144_0) | (show (Addr.add _ _).block ≠ _; rw [add_block]; exact hn144_0) | exact hn144_0) (.int .i64 (wrap64 ((wrap64 (s0_2 * 6364136223846793005)) + 1442695040888963407)))).trans hx144_0
   (try have hy144_0 := fun (n_ : Nat) => (show (((w.drewN n_).setCell ⟨g, 2, none⟩ (.int .i64 (wrap64 ((wrap64 (s0_2 * 6364136223846793005)) + 1442695040888963407))))).cell? _ = some _ from hx144_0))
   clear hn144_0
   replace p144 := eq_true p144
   replace q144 := eq_true q144
   go_enter Try.func164, Try.ntmps164
   go_wp2
   repeat (go_quiet (fail); try go_wp2)
   go_ret
   exact ⟨by first | rfl | (simp [bA, bB] <;> rfl) | (simp [*, bA, bB] <;> rfl), by repeat (first | (with_reducible first | exact HI0.out | apply av.alloc | apply av.drewN | apply av.drew | apply av.bX | apply av.bW) | exact HI0.out), by repeat (first | (with_reducible first | exact HB.out | apply au | apply ah | apply ak | refine ay ?_ (av.ge HI0.out)) | exact HB.out), by repeat (first | (with_reducible first | exact HK.out | apply bn.dX | apply bF | apply bH | apply bE) | exact HK.out)⟩
  ·rw [if_neg c3] at H
   exact absurd H (by simp)
 ·rw [if_neg c2] at H
  have c2b0 : decide (s0_1 < (s0_0.length : Int)) = false := decide_eq_false c2
  clear c2
  simp only [Option.some.injEq, Prod.mk.injEq] at H
  obtain ⟨rfl, rfl, rfl⟩ := H
  obtain ⟨ASz5_0, cSz5_0, HGz5, hgz5, HSz5_0⟩ := HI0.out
  have hcz5_0 := lT HGz5
  have hcz5_1 := l9 HGz5
  have hcz5_2 := lV HGz5
  have hfz5_1 := bG HGz5 1
  have hfz5_2 := bG HGz5 2
  clear HGz5 hgz5
  go_enter Try.func164, Try.ntmps164
  go_wp2
  repeat (go_quiet (fail); try go_wp2)
  go_ret
  exact ⟨by first | rfl | (simp [bA, bB] <;> rfl) | (simp [*, bA, bB] <;> rfl), by repeat (first | (with_reducible first | exact HI0.out | apply av.alloc | apply av.drewN | apply av.drew | apply av.bX | apply av.bW) | exact HI0.out), by repeat (first | (with_reducible first | exact HB.out | apply au | apply ah | apply ak | refine ay ?_ (av.ge HI0.out)) | exact HB.out), by repeat (first | (with_reducible first | exact HK.out | apply bn.dX | apply bF | apply bH | apply bE) | exact HK.out)⟩
def bM.f (s0_0 : List Int) (s0_1 : Int) (s0_2 : Int) (a1 : Int) : Option (Int × Int × Int) := if a1 ≤ 0 then (some (0, s0_1, s0_2)) else (if a1 ≤ 256 then ((dU.f s0_0 s0_1 s0_2).bind fun bt145 => (if a1 = 0 then (none) else (some (Int.tmod bt145.1 a1, bt145.2.1, bt145.2.2)))) else ((dU.f s0_0 s0_1 s0_2).bind fun bt148 => ((dU.f s0_0 bt148.2.1 bt148.2.2).bind fun bt151 => ((dU.f s0_0 bt151.2.1 bt151.2.2).bind fun bt154 => (if a1 = 0 then (none) else (some (Int.tmod (wrap64 ((wrap64 ((wrap64 (bt148.1 * 65536)) + (wrap64 (bt151.1 * 256)))) + bt154.1)) a1, bt154.2.1, bt154.2.2)))))))
set_option maxHeartbeats 8000000 in
set_option maxRecDepth 100000 in
theorem bM.calls (g : Nat) (s0_0 : List Int) (s0_1 : Int) (s0_2 : Int) (a1 : Int) (r1 : Int) (r2 : Int) (r3 : Int) (w0 w : World) (hI : av w0 w g s0_0 s0_1 s0_2) (hB : Below w0.heap.size w0 w) (h : bM.f s0_0 s0_1 s0_2 a1 = some (r1, r2, r3)) :
  Calls Try.prog 118 #[.pointer (some ⟨g, 0, none⟩), .int .i64 a1] w fun e w' => e = .returned (.int .i64 r1) ∧ av w0 w' g s0_0 r2 r3 ∧ Below w0.heap.size w0 w' ∧ bn w w' g none := by
 have HI0 := aj.mk hI
 have HK := aj.mk (bn.refl w g none)
 have HL := aj.mk hB.size
 clear hI
 have HW0 := aj.mk hB.size
 have HB := aj.mk hB
 clear hB
 have H : (if a1 ≤ 0 then (some (0, s0_1, s0_2)) else (if a1 ≤ 256 then ((dU.f s0_0 s0_1 s0_2).bind fun bt145 => (if a1 = 0 then (none) else (some (Int.tmod bt145.1 a1, bt145.2.1, bt145.2.2)))) else ((dU.f s0_0 s0_1 s0_2).bind fun bt148 => ((dU.f s0_0 bt148.2.1 bt148.2.2).bind fun bt151 => ((dU.f s0_0 bt151.2.1 bt151.2.2).bind fun bt154 => (if a1 = 0 then (none) else (some (Int.tmod (wrap64 ((wrap64 ((wrap64 (bt148.1 * 65536)) + (wrap64 (bt151.1 * 256)))) + bt154.1)) a1, bt154.2.1, bt154.2.2)))))))) = some (r1, r2, r3) := h
 clear h
 by_cases c3 : a1 ≤ 0
 ·rw [if_pos c3] at H
  have c3b0 : decide (a1 ≤ 0) = true := decide_eq_true c3
  clear c3
  simp only [Option.some.injEq, Prod.mk.injEq] at H
  obtain ⟨rfl, rfl, rfl⟩ := H
  go_enter Try.func118, Try.ntmps118
  go_wp2
  go_ret
  exact ⟨by first | rfl | (simp [bA, bB] <;> rfl) | (simp [*, bA, bB] <;> rfl), by repeat (first | (with_reducible first | exact HI0.out | apply av.alloc | apply av.drewN | apply av.drew | apply av.bX | apply av.bW) | exact HI0.out), by repeat (first | (with_reducible first | exact HB.out | apply au | apply ah | apply ak | refine ay ?_ (av.ge HI0.out)) | exact HB.out), by repeat (first | (with_reducible first | exact HK.out | apply bn.dX | apply bF | apply bH | apply bE) | exact HK.out)⟩
 ·rw [if_neg c3] at H
  have c3b0 : decide (a1 ≤ 0) = false := decide_eq_false c3
  clear c3
  by_cases c4 : a1 ≤ 256
  ·rw [if_pos c4] at H
   have c4b0 : decide (a1 ≤ 256) = true := decide_eq_true c4
   clear c4
   replace H := Option.bind_eq_some_iff.mp H
   obtain ⟨⟨t145, t146, t147⟩, A50, H⟩ := H
   replace H : (if a1 = 0 then (none) else (some (Int.tmod t145 a1, t146, t147))) = some (r1, r2, r3) := H
   have A5 := aj.mk A50
   clear A50
   by_cases c6 : a1 = 0
   ·rw [if_pos c6] at H
    exact absurd H (by simp)
   ·rw [if_neg c6] at H
    have c6b0 : (a1 == 0) = false := beq_eq_false_iff_ne.mpr c6
    have c6b1 : (a1 != 0) = true := bne_iff_ne.mpr c6
    simp only [Option.some.injEq, Prod.mk.injEq] at H
    obtain ⟨rfl, rfl, rfl⟩ := H
    go_enter Try.func118, Try.ntmps118
    go_wp2_with (first | ((with_reducible refine bq (f := 164) rfl ?_); refine bT (some 13) rfl rfl Try.func164 (by kernel_rfl) rfl #[.pointer (some ⟨g, 0, none⟩)] rfl (by (try simp only [List.map_toArray, List.map_cons, List.map_nil]); first | done | rfl | (simp only [List.length_drop, List.length_take]; rfl)) ?_; (with_reducible refine (dU.calls g s0_0 s0_1 s0_2 t145 t146 t147 w0 _ ?side1 ?side2 A5.out).mono ?_); (case side1 => repeat (first | (with_reducible first | exact HI0.out | apply av.alloc | apply av.drewN | apply av.drew | apply av.bX | apply av.bW) | exact HI0.out)); (case side2 => repeat (first | (with_reducible first | exact HB.out | apply au | apply ah | apply ak | refine ay ?_ (av.ge HI0.out)) | exact HB.out)); rintro e w7 ⟨rfl, hi, hb, hk⟩; refine ⟨_, rfl, ?_⟩; have n0_ := aj.mk (bn.trans (by repeat (first | (with_reducible first | exact HK.out | apply bn.dX | apply bF | apply bH | apply bE) | exact HK.out)) hk (.inl rfl)); have n1_ := aj.mk (hb); have n2_ := aj.mk (hi); clear HK; clear HB; clear HI0; have HK := n0_; have HB := n1_; have HI0 := n2_; clear n0_ n1_ n2_; (try clear hb); (try clear hb2); (try clear hk); (try clear hi)))
    go_ret
    exact ⟨by first | rfl | (simp [bA, bB] <;> rfl) | (simp [*, bA, bB] <;> rfl), by repeat (first | (with_reducible first | exact HI0.out | apply av.alloc | apply av.drewN | apply av.drew | apply av.bX | apply av.bW) | exact HI0.out), by repeat (first | (with_reducible first | exact HB.out | apply au | apply ah | apply ak | refine ay ?_ (av.ge HI0.out)) | exact HB.out), by repeat (first | (with_reducible first | exact HK.out | apply bn.dX | apply bF | apply bH | apply bE) | exact HK.out)⟩
  ·rw [if_neg c4] at H
   have c4b0 : decide (a1 ≤ 256) = false := decide_eq_false c4
   clear c4
   replace H := Option.bind_eq_some_iff.mp H
   obtain ⟨⟨t148, t149, t150⟩, A80, H⟩ := H
   replace H : ((dU.f s0_0 t149 t150).bind fun bt151 => ((dU.f s0_0 bt151.2.1 bt151.2.2).bind fun bt154 => (if a1 = 0 then (none) else (some (Int.tmod (wrap64 ((wrap64 ((wrap64 (t148 * 65536)) + (wrap64 (bt151.1 * 256)))) + bt154.1)) a1, bt154.2.1, bt154.2.2))))) = some (r1, r2, r3) := H
   have A8 := aj.mk A80
   clear A80
   replace H := Option.bind_eq_some_iff.mp H
   obtain ⟨⟨t151, t152, t153⟩, A90, H⟩ := H
   replace H : ((dU.f s0_0 t152 t153).bind fun bt154 => (if a1 = 0 then (none) else (some (Int.tmod (wrap64 ((wrap64 ((wrap64 (t148 * 65536)) + (wrap64 (t151 * 256)))) + bt154.1)) a1, bt154.2.1, bt154.2.2)))) = some (r1, r2, r3) := H
   have A9 := aj.mk A90
   clear A90
   replace H := Option.bind_eq_some_iff.mp H
   obtain ⟨⟨t154, t155, t156⟩, A100, H⟩ := H
   replace H : (if a1 = 0 then (none) else (some (Int.tmod (wrap64 ((wrap64 ((wrap64 (t148 * 65536)) + (wrap64 (t151 * 256)))) + t154)) a1, t155, t156))) = some (r1, r2, r3) := H
   have A10 := aj.mk A100
   clear A100
   by_cases c11 : a1 = 0
   ·rw [if_pos c11] at H
    exact absurd H (by simp)
   ·rw [if_neg c11] at H
    have c11b0 : (a1 == 0) = false := beq_eq_false_iff_ne.mpr c11
    have c11b1 : (a1 != 0) = true := bne_iff_ne.mpr c11
    simp only [Option.some.injEq, Prod.mk.injEq] at H
    obtain ⟨rfl, rfl, rfl⟩ := H
    go_enter Try.func118, Try.ntmps118
    go_wp2_with (first | ((with_reducible refine bq (f := 164) rfl ?_); refine bT (some 17) rfl rfl Try.func164 (by kernel_rfl) rfl #[.pointer (some ⟨g, 0, none⟩)] rfl (by (try simp only [List.map_toArray, List.map_cons, List.map_nil]); first | done | rfl | (simp only [List.length_drop, List.length_take]; rfl)) ?_; (with_reducible refine (dU.calls g s0_0 s0_1 s0_2 t148 t149 t150 w0 _ ?side1 ?side2 A8.out).mono ?_); (case side1 => repeat (first | (with_reducible first | exact HI0.out | apply av.alloc | apply av.drewN | apply av.drew | apply av.bX | apply av.bW) | exact HI0.out)); (case side2 => repeat (first | (with_reducible first | exact HB.out | apply au | apply ah | apply ak | refine ay ?_ (av.ge HI0.out)) | exact HB.out)); rintro e w12 ⟨rfl, hi, hb, hk⟩; refine ⟨_, rfl, ?_⟩; have n0_ := aj.mk (bn.trans (by repeat (first | (with_reducible first | exact HK.out | apply bn.dX | apply bF | apply bH | apply bE) | exact HK.out)) hk (.inl rfl)); have n1_ := aj.mk (hb); have n2_ := aj.mk (hi); clear HK; clear HB; clear HI0; have HK := n0_; have HB := n1_; have HI0 := n2_; clear n0_ n1_ n2_; (try clear hb); (try clear hb2); (try clear hk); (try clear hi)) | ((with_reducible refine bq (f := 164) rfl ?_); refine bT (some 19) rfl rfl Try.func164 (by kernel_rfl) rfl #[.pointer (some ⟨g, 0, none⟩)] rfl (by (try simp only [List.map_toArray, List.map_cons, List.map_nil]); first | done | rfl | (simp only [List.length_drop, List.length_take]; rfl)) ?_; (with_reducible refine (dU.calls g s0_0 t149 t150 t151 t152 t153 w0 _ ?side1 ?side2 A9.out).mono ?_); (case side1 => repeat (first | (with_reducible first | exact HI0.out | apply av.alloc | apply av.drewN | apply av.drew | apply av.bX | apply av.bW) | exact HI0.out)); (case side2 => repeat (first | (with_reducible first | exact HB.out | apply au | apply ah | apply ak | refine ay ?_ (av.ge HI0.out)) | exact HB.out)); rintro e w13 ⟨rfl, hi, hb, hk⟩; refine ⟨_, rfl, ?_⟩; have n0_ := aj.mk (bn.trans (by repeat (first | (with_reducible first | exact HK.out | apply bn.dX | apply bF | apply bH | apply bE) | exact HK.out)) hk (.inl rfl)); have n1_ := aj.mk (hb); have n2_ := aj.mk (hi); clear HK; clear HB; clear HI0; have HK := n0_; have HB := n1_; have HI0 := n2_; clear n0_ n1_ n2_; (try clear hb); (try clear hb2); (try clear hk); (try clear hi)) | ((with_reducible refine bq (f := 164) rfl ?_); refine bT (some 21) rfl rfl Try.func164 (by kernel_rfl) rfl #[.pointer (some ⟨g, 0, none⟩)] rfl (by (try simp only [List.map_toArray, List.map_cons, List.map_nil]); first | done | rfl | (simp only [List.length_drop, List.length_take]; rfl)) ?_; (with_reducible refine (dU.calls g s0_0 t152 t153 t154 t155 t156 w0 _ ?side1 ?side2 A10.out).mono ?_); (case side1 => repeat (first | (with_reducible first | exact HI0.out | apply av.alloc | apply av.drewN | apply av.drew | apply av.bX | apply av.bW) | exact HI0.out)); (case side2 => repeat (first | (with_reducible first | exact HB.out | apply au | apply ah | apply ak | refine ay ?_ (av.ge HI0.out)) | exact HB.out)); rintro e w14 ⟨rfl, hi, hb, hk⟩; refine ⟨_, rfl, ?_⟩; have n0_ := aj.mk (bn.trans (by repeat (first | (with_reducible first | exact HK.out | apply bn.dX | apply bF | apply bH | apply bE) | exact HK.out)) hk (.inl rfl)); have n1_ := aj.mk (hb); have n2_ := aj.mk (hi); clear HK; clear HB; clear HI0; have HK := n0_; have HB := n1_; have HI0 := n2_; clear n0_ n1_ n2_; (try clear hb); (try clear hb2); (try clear hk); (try clear hi)))
    go_ret
    exact ⟨by first | rfl | (simp [bA, bB] <;> rfl) | (simp [*, bA, bB] <;> rfl), by repeat (first | (with_reducible first | exact HI0.out | apply av.alloc | apply av.drewN | apply av.drew | apply av.bX | apply av.bW) | exact HI0.out), by repeat (first | (with_reducible first | exact HB.out | apply au | apply ah | apply ak | refine ay ?_ (av.ge HI0.out)) | exact HB.out), by repeat (first | (with_reducible first | exact HK.out | apply bn.dX | apply bF | apply bH | apply bE) | exact HK.out)⟩
def fG.f (s0_0 : List Int) (s0_1 : Int) (s0_2 : Int) (l1 : List ByteArray) : Option (ByteArray × Int × Int) := (bM.f s0_0 s0_1 s0_2 (l1.length : Int)).bind fun bt157 => (if 0 ≤ bt157.1 then (if bt157.1 < (l1.length : Int) then (some (fO ByteArray.empty l1 bt157.1, bt157.2.1, bt157.2.2)) else (none)) else (none))
set_option maxHeartbeats 8000000 in
set_option maxRecDepth 100000 in
theorem fG.calls (g : Nat) (s0_0 : List Int) (s0_1 : Int) (s0_2 : Int) (A1 : Option Addr) (c1 : Nat) (l1 : List ByteArray) (r1 : ByteArray) (r2 : Int) (r3 : Int) (w0 w : World) (hI : av w0 w g s0_0 s0_1 s0_2) (hB : Below w0.heap.size w0 w) (hr1 : Kd.C Kd.string w A1 l1.length l1) (hc1 : l1.length ≤ c1) (hf1 : ∀ ad, A1 = some ad → 0 < l1.length → ad.block ≠ g) (h : fG.f s0_0 s0_1 s0_2 l1 = some (r1, r2, r3)) :
  Calls Try.prog 121 #[.pointer (some ⟨g, 0, none⟩), .slice A1 l1.length c1] w fun e w' => e = .returned (.string r1) ∧ av w0 w' g s0_0 r2 r3 ∧ Below w0.heap.size w0 w' ∧ bn w w' g none := by
 have HR1 := aj.mk hr1
 have HC1 := aj.mk hc1
 clear hr1 hc1
 have HI0 := aj.mk hI
 have HK := aj.mk (bn.refl w g none)
 have HL := aj.mk hB.size
 clear hI
 have HW0 := aj.mk hB.size
 have HB := aj.mk hB
 clear hB
 have H : ((bM.f s0_0 s0_1 s0_2 (l1.length : Int)).bind fun bt157 => (if 0 ≤ bt157.1 then (if bt157.1 < (l1.length : Int) then (some (fO ByteArray.empty l1 bt157.1, bt157.2.1, bt157.2.2)) else (none)) else (none))) = some (r1, r2, r3) := h
 clear h
 replace H := Option.bind_eq_some_iff.mp H
 obtain ⟨⟨t157, t158, t159⟩, A30, H⟩ := H
 replace H : (if 0 ≤ t157 then (if t157 < (l1.length : Int) then (some (fO ByteArray.empty l1 t157, t158, t159)) else (none)) else (none)) = some (r1, r2, r3) := H
 have A3 := aj.mk A30
 clear A30
 by_cases c4 : 0 ≤ t157
 ·rw [if_pos c4] at H
  have c4b0 : decide (0 ≤ t157) = true := decide_eq_true c4
  clear c4
  by_cases c5 : t157 < (l1.length : Int)
  ·rw [if_pos c5] at H
   have c5b0 : decide (t157 < (l1.length : Int)) = true := decide_eq_true c5
   clear c5
   simp only [Option.some.injEq, Prod.mk.injEq] at H
   obtain ⟨rfl, rfl, rfl⟩ := H
   go_enter Try.func121, Try.ntmps121
   go_wp2_with (first | ((with_reducible refine bq (f := 118) rfl ?_); refine bT (some 9) rfl rfl Try.func118 (by kernel_rfl) rfl #[.pointer (some ⟨g, 0, none⟩), .int .i64 (l1.length : Int)] rfl (by (try simp only [List.map_toArray, List.map_cons, List.map_nil]); first | done | rfl | (simp only [List.length_drop, List.length_take]; rfl)) ?_; (with_reducible refine (bM.calls g s0_0 s0_1 s0_2 (l1.length : Int) t157 t158 t159 w0 _ ?side1 ?side2 A3.out).mono ?_); (case side1 => repeat (first | (with_reducible first | exact HI0.out | apply av.alloc | apply av.drewN | apply av.drew | apply av.bX | apply av.bW) | exact HI0.out)); (case side2 => repeat (first | (with_reducible first | exact HB.out | apply au | apply ah | apply ak | refine ay ?_ (av.ge HI0.out)) | exact HB.out)); rintro e w6 ⟨rfl, hi, hb, hk⟩; refine ⟨_, rfl, ?_⟩; have n0_ := aj.mk (bn.trans (by repeat (first | (with_reducible first | exact HK.out | apply bn.dX | apply bF | apply bH | apply bE) | exact HK.out)) hk (.inl rfl)); have n1_ := aj.mk (hb); have n2_ := aj.mk (hi); clear HK; clear HB; clear HI0; have HK := n0_; have HB := n1_; have HI0 := n2_; clear n0_ n1_ n2_; (try clear hb); (try clear hb2); (try clear hk); (try clear hi); have p160 : 0 ≤ (t157 : Int) := of_decide_eq_true (by first | (with_reducible assumption) | assumption); have q160 : t157 < (l1.length : Int) := of_decide_eq_true (by first | (with_reducible assumption) | assumption); obtain ⟨ad160, e160, hx160_0⟩ := Kd.fU HR1.out t157 p160 q160; cases e160; replace hx160_0 := kQ HK.out hx160_0 (by first | (rw [add_block]; exact hf1 _ rfl (by omega)) | exact hf1 _ rfl (by omega) | exact hf1 ad160 rfl (by omega)); replace p160 := eq_true p160; replace q160 := eq_true q160))
   go_ret
   exact ⟨by first | rfl | (simp [bA, bB] <;> rfl) | (simp [*, bA, bB] <;> rfl), by repeat (first | (with_reducible first | exact HI0.out | apply av.alloc | apply av.drewN | apply av.drew | apply av.bX | apply av.bW) | exact HI0.out), by repeat (first | (with_reducible first | exact HB.out | apply au | apply ah | apply ak | refine ay ?_ (av.ge HI0.out)) | exact HB.out), by repeat (first | (with_reducible first | exact HK.out | apply bn.dX | apply bF | apply bH | apply bE) | exact HK.out)⟩
  ·rw [if_neg c5] at H
   exact absurd H (by simp)
 ·rw [if_neg c4] at H
  exact absurd H (by simp)
def gy.f (s0_0 : List Int) (s0_1 : Int) (s0_2 : Int) : Option (ByteArray × Int × Int) := (dV.f).bind fun t161 => ((fG.f s0_0 s0_1 s0_2 t161).bind fun bt164 => (some (bt164.1, bt164.2.1, bt164.2.2)))
set_option maxHeartbeats 8000000 in
set_option maxRecDepth 100000 in
theorem gy.calls (g : Nat) (s0_0 : List Int) (s0_1 : Int) (s0_2 : Int) (r1 : ByteArray) (r2 : Int) (r3 : Int) (w0 w : World) (hI : av w0 w g s0_0 s0_1 s0_2) (hB : Below w0.heap.size w0 w) (h : gy.f s0_0 s0_1 s0_2 = some (r1, r2, r3)) :
  Calls Try.prog 120 #[.pointer (some ⟨g, 0, none⟩)] w fun e w' => e = .returned (.string r1) ∧ av w0 w' g s0_0 r2 r3 ∧ Below w0.heap.size w0 w' ∧ bn w w' g none := by
 have HI0 := aj.mk hI
 have HK := aj.mk (bn.refl w g none)
 have HL := aj.mk hB.size
 clear hI
 have HW0 := aj.mk hB.size
 have HB := aj.mk hB
 clear hB
 have H : ((dV.f).bind fun t161 => ((fG.f s0_0 s0_1 s0_2 t161).bind fun bt164 => (some (bt164.1, bt164.2.1, bt164.2.2)))) = some (r1, r2, r3) := h
 clear h
 replace H := Option.bind_eq_some_iff.mp H
 obtain ⟨t161, A20, H⟩ := H
 replace H : ((fG.f s0_0 s0_1 s0_2 t161).bind fun bt164 => (some (bt164.1, bt164.2.1, bt164.2.2))) = some (r1, r2, r3) := H
 have A2 := aj.mk A20
 clear A20
 replace H := Option.bind_eq_some_iff.mp H
 obtain ⟨⟨t164, t165, t166⟩, A30, H⟩ := H
 replace H : (some (t164, t165, t166)) = some (r1, r2, r3) := H
 have A3 := aj.mk A30
 clear A30
 simp only [Option.some.injEq, Prod.mk.injEq] at H
 obtain ⟨rfl, rfl, rfl⟩ := H
 go_enter Try.func120, Try.ntmps120
 go_wp2_with (first | ((with_reducible refine bq (f := 70) rfl ?_); refine bT (some 4) rfl rfl Try.func70 (by kernel_rfl) rfl #[] rfl (by (try simp only [List.map_toArray, List.map_cons, List.map_nil]); first | done | rfl | (simp only [List.length_drop, List.length_take]; rfl)) ?_; (with_reducible refine (dV.calls  t161 _ A2.out).mono ?_); rintro e w4 ⟨v162, rfl, ho0, hb⟩; refine ⟨_, rfl, ?_⟩; have n0_ := aj.mk (Kd.cK ho0 (fI (w := w) (g := g) (row := none) (by repeat (first | (with_reducible first | exact HK.out | apply bn.dX | apply bF | apply bH | apply bE) | exact HK.out)))); have n1_ := aj.mk (av.below (by repeat (first | (with_reducible first | exact HI0.out | apply av.alloc | apply av.drewN | apply av.drew | apply av.bX | apply av.bW) | exact HI0.out)) hb); have n2_ := aj.mk (bn.trans (by repeat (first | (with_reducible first | exact HK.out | apply bn.dX | apply bF | apply bH | apply bE) | exact HK.out)) (bn.of_below hb g none) (.inl rfl)); have n3_ := aj.mk (aY (by repeat (first | (with_reducible first | exact HB.out | apply au | apply ah | apply ak | refine ay ?_ (av.ge HI0.out)) | exact HB.out)) hb); clear HI0; clear HK; clear HB; have HO163 := n0_; have HI0 := n1_; have HK := n2_; have HB := n3_; clear n0_ n1_ n2_ n3_; (try clear hb); (try clear hb2); (try clear hk); (try clear hi); (try clear ho0); obtain ⟨Ao5, co5, eo5⟩ := Kd.dO HO163.out; subst eo5) | ((with_reducible refine bq (f := 121) rfl ?_); refine bT (some 5) rfl rfl Try.func121 (by kernel_rfl) rfl #[.pointer (some ⟨g, 0, none⟩), .slice Ao5 t161.length co5] rfl (by (try simp only [List.map_toArray, List.map_cons, List.map_nil]); first | done | rfl | (simp only [List.length_drop, List.length_take]; rfl)) ?_; (with_reducible refine (fG.calls g s0_0 s0_1 s0_2 _ _ t161 t164 t165 t166 w0 _ ?side1 ?side2 ?side3 ?side4 ?side5 A3.out).mono ?_); (case side1 => repeat (first | (with_reducible first | exact HI0.out | apply av.alloc | apply av.drewN | apply av.drew | apply av.bX | apply av.bW) | exact HI0.out)); (case side2 => repeat (first | (with_reducible first | exact HB.out | apply au | apply ah | apply ak | refine ay ?_ (av.ge HI0.out)) | exact HB.out)); (case side3 => repeat (first | exact (Kd.bJ HO163.out).2.2 | (with_reducible refine Kd.bU ?_ _) | (with_reducible refine Kd.bV ?_ _) | (with_reducible refine Kd.cB ?_))); (case side4 => exact (Kd.bJ HO163.out).2.1); (case side5 => exact jK (av.own_ne HI0.out HO163.out (by decide))); rintro e w6 ⟨rfl, hi, hb, hk⟩; refine ⟨_, rfl, ?_⟩; have n0_ := aj.mk (Kd.bO (Kd.eP (av.apart (show av w0 _ g s0_0 s0_1 s0_2 from by repeat (first | (with_reducible first | exact HI0.out | apply av.alloc | apply av.drewN | apply av.drew | apply av.bX | apply av.bW) | exact HI0.out)) (by (with_reducible repeat (first | apply Kd.aN | apply Kd.aM | apply Kd.aW)); exact HO163.out) (by decide)) hk (fun _ h => h.2)) (fun _ h => h.1)); have n1_ := aj.mk (bn.trans (by repeat (first | (with_reducible first | exact HK.out | apply bn.dX | apply bF | apply bH | apply bE) | exact HK.out)) hk (.inl rfl)); have n2_ := aj.mk (hb); have n3_ := aj.mk (hi); clear HO163; clear HK; clear HB; clear HI0; have HO163 := n0_; have HK := n1_; have HB := n2_; have HI0 := n3_; clear n0_ n1_ n2_ n3_; (try clear hb); (try clear hb2); (try clear hk); (try clear hi)))
 go_ret
 exact ⟨by first | rfl | (simp [bA, bB] <;> rfl) | (simp [*, bA, bB] <;> rfl), by repeat (first | (with_reducible first | exact HI0.out | apply av.alloc | apply av.drewN | apply av.drew | apply av.bX | apply av.bW) | exact HI0.out), by repeat (first | (with_reducible first | exact HB.out | apply au | apply ah | apply ak | refine ay ?_ (av.ge HI0.out)) | exact HB.out), by repeat (first | (with_reducible first | exact HK.out | apply bn.dX | apply bF | apply bH | apply bE) | exact HK.out)⟩
def dn.f (s0_0 : List Int) (s0_1 : Int) (s0_2 : Int) : Option (ByteArray × Int × Int) := (gy.f s0_0 s0_1 s0_2).bind fun bt167 => (if bt167.1.size + 1 ≤ 9223372036854775807 then ((fG.f s0_0 bt167.2.1 bt167.2.2 (([bt167.1, bt167.1, bt167.1, bt167.1, bt167.1, (⟨#[]⟩ : ByteArray), (⟨#[65]⟩ : ByteArray), (⟨#[97, 32, 98]⟩ : ByteArray), (⟨#[116, 111, 111, 108, 111, 110, 103, 101, 114]⟩ : ByteArray), (⟨#[116, 111, 111, 108, 111, 110, 103]⟩ : ByteArray), bt167.1 ++ (⟨#[63]⟩ : ByteArray), (⟨#[122]⟩ : ByteArray)] : List ByteArray))).bind fun bt173 => (some (bt173.1, bt173.2.1, bt173.2.2))) else (none))
set_option maxHeartbeats 8000000 in
set_option maxRecDepth 100000 in
theorem dn.calls (g : Nat) (s0_0 : List Int) (s0_1 : Int) (s0_2 : Int) (r1 : ByteArray) (r2 : Int) (r3 : Int) (w0 w : World) (hI : av w0 w g s0_0 s0_1 s0_2) (hB : Below w0.heap.size w0 w) (h : dn.f s0_0 s0_1 s0_2 = some (r1, r2, r3)) :
  Calls Try.prog 62 #[.pointer (some ⟨g, 0, none⟩)] w fun e w' => e = .returned (.string r1) ∧ av w0 w' g s0_0 r2 r3 ∧ Below w0.heap.size w0 w' ∧ bn w w' g none := by
 have HI0 := aj.mk hI
 have HK := aj.mk (bn.refl w g none)
 have HL := aj.mk hB.size
 clear hI
 have HW0 := aj.mk hB.size
 have HB := aj.mk hB
 clear hB
 have H : ((gy.f s0_0 s0_1 s0_2).bind fun bt167 => (if bt167.1.size + 1 ≤ 9223372036854775807 then ((fG.f s0_0 bt167.2.1 bt167.2.2 (([bt167.1, bt167.1, bt167.1, bt167.1, bt167.1, (⟨#[]⟩ : ByteArray), (⟨#[65]⟩ : ByteArray), (⟨#[97, 32, 98]⟩ : ByteArray), (⟨#[116, 111, 111, 108, 111, 110, 103, 101, 114]⟩ : ByteArray), (⟨#[116, 111, 111, 108, 111, 110, 103]⟩ : ByteArray), bt167.1 ++ (⟨#[63]⟩ : ByteArray), (⟨#[122]⟩ : ByteArray)] : List ByteArray))).bind fun bt173 => (some (bt173.1, bt173.2.1, bt173.2.2))) else (none))) = some (r1, r2, r3) := h
 clear h
 replace H := Option.bind_eq_some_iff.mp H
 obtain ⟨⟨t167, t168, t169⟩, A20, H⟩ := H
 replace H : (if t167.size + 1 ≤ 9223372036854775807 then ((fG.f s0_0 t168 t169 (([t167, t167, t167, t167, t167, (⟨#[]⟩ : ByteArray), (⟨#[65]⟩ : ByteArray), (⟨#[97, 32, 98]⟩ : ByteArray), (⟨#[116, 111, 111, 108, 111, 110, 103, 101, 114]⟩ : ByteArray), (⟨#[116, 111, 111, 108, 111, 110, 103]⟩ : ByteArray), t167 ++ (⟨#[63]⟩ : ByteArray), (⟨#[122]⟩ : ByteArray)] : List ByteArray))).bind fun bt173 => (some (bt173.1, bt173.2.1, bt173.2.2))) else (none)) = some (r1, r2, r3) := H
 have A2 := aj.mk A20
 clear A20
 by_cases c3 : t167.size + 1 ≤ 9223372036854775807
 ·rw [if_pos c3] at H
  have c3b0 := eq_true c3
  have c3b1 : decide (t167.size + 1 ≤ 9223372036854775807) = true := decide_eq_true c3
  try have c3b2 : (9223372036854775807 < t167.size + 1) = False := eq_false (Nat.not_lt.2 c3)
  obtain ⟨y170, hy170⟩ : ∃ y_ : List ByteArray, y_ = (([t167, t167, t167, t167, t167, (⟨#[]⟩ : ByteArray), (⟨#[65]⟩ : ByteArray), (⟨#[97, 32, 98]⟩ : ByteArray), (⟨#[116, 111, 111, 108, 111, 110, 103, 101, 114]⟩ : ByteArray), (⟨#[116, 111, 111, 108, 111, 110, 103]⟩ : ByteArray), t167 ++ (⟨#[63]⟩ : ByteArray), (⟨#[122]⟩ : ByteArray)] : List ByteArray)) := ⟨_, rfl⟩
  replace H : ((fG.f s0_0 t168 t169 y170).bind fun bt173 => (some (bt173.1, bt173.2.1, bt173.2.2))) = some (r1, r2, r3) := by first | (rw [hy170]; with_reducible exact H) | (have H2_ := (Option.bind_some _ _).symm.trans H; rw [hy170]; with_reducible exact H2_) | (have H2_ := (Option.bind_some _ _).symm.trans H; with_reducible exact H2_) | with_reducible exact H | (rw [hy170]; exact H) | exact H
  have Ny170 := aj.mk hy170
  clear hy170
  replace H := Option.bind_eq_some_iff.mp H
  obtain ⟨⟨t173, t174, t175⟩, A40, H⟩ := H
  replace H : (some (t173, t174, t175)) = some (r1, r2, r3) := H
  have A4 := aj.mk A40
  clear A40
  simp only [Option.some.injEq, Prod.mk.injEq] at H
  obtain ⟨rfl, rfl, rfl⟩ := H
  go_enter Try.func62, Try.ntmps62
  go_wp2_with (first | ((with_reducible refine bq (f := 120) rfl ?_); refine bT (some 5) rfl rfl Try.func120 (by kernel_rfl) rfl #[.pointer (some ⟨g, 0, none⟩)] rfl (by (try simp only [List.map_toArray, List.map_cons, List.map_nil]); first | done | rfl | (simp only [List.length_drop, List.length_take]; rfl)) ?_; (with_reducible refine (gy.calls g s0_0 s0_1 s0_2 t167 t168 t169 w0 _ ?side1 ?side2 A2.out).mono ?_); (case side1 => repeat (first | (with_reducible first | exact HI0.out | apply av.alloc | apply av.drewN | apply av.drew | apply av.bX | apply av.bW) | exact HI0.out)); (case side2 => repeat (first | (with_reducible first | exact HB.out | apply au | apply ah | apply ak | refine ay ?_ (av.ge HI0.out)) | exact HB.out)); rintro e w5 ⟨rfl, hi, hb, hk⟩; refine ⟨_, rfl, ?_⟩; have n0_ := aj.mk (bn.trans (by repeat (first | (with_reducible first | exact HK.out | apply bn.dX | apply bF | apply bH | apply bE) | exact HK.out)) hk (.inl rfl)); have n1_ := aj.mk (hb); have n2_ := aj.mk (hi); clear HK; clear HB; clear HI0; have HK := n0_; have HB := n1_; have HI0 := n2_; clear n0_ n1_ n2_; (try clear hb); (try clear hb2); (try clear hk); (try clear hi)) | ((with_reducible refine dz (N := 14) rfl ?_); refine Kd.kY Kd.string _ 9 ?hg (N := 14) ?hd (xs := ([t167, t167, t167, t167, t167, (⟨#[]⟩ : ByteArray), (⟨#[65]⟩ : ByteArray), (⟨#[97, 32, 98]⟩ : ByteArray), (⟨#[116, 111, 111, 108, 111, 110, 103, 101, 114]⟩ : ByteArray), (⟨#[116, 111, 111, 108, 111, 110, 103]⟩ : ByteArray), t167 ++ (⟨#[63]⟩ : ByteArray), (⟨#[122]⟩ : ByteArray)] : List ByteArray)) (inner := [.string t167, .string t167, .string t167, .string t167, .string t167, .string (⟨#[]⟩ : ByteArray), .string (⟨#[65]⟩ : ByteArray), .string (⟨#[97, 32, 98]⟩ : ByteArray), .string (⟨#[116, 111, 111, 108, 111, 110, 103, 101, 114]⟩ : ByteArray), .string (⟨#[116, 111, 111, 108, 111, 110, 103]⟩ : ByteArray), .string (t167 ++ (⟨#[63]⟩ : ByteArray)), .string (⟨#[122]⟩ : ByteArray)]) (ok := fun _ => True) (okp := fun _ => True) ?hr ?hp (fun _ hk => hk) trivial (Below.refl _ _) (Nat.le_refl _) (by simp) ?_; (case hd => rfl); (case hg => rfl); (case hr => first | (go_simp; done) | (go_simp; rfl)); (case hp => exact (bZ.one (show Kd.M Kd.string _ _ _ t167 [.string t167] from rfl) (bZ.one (show Kd.M Kd.string _ _ _ t167 [.string t167] from rfl) (bZ.one (show Kd.M Kd.string _ _ _ t167 [.string t167] from rfl) (bZ.one (show Kd.M Kd.string _ _ _ t167 [.string t167] from rfl) (bZ.one (show Kd.M Kd.string _ _ _ t167 [.string t167] from rfl) (bZ.one (show Kd.M Kd.string _ _ _ (⟨#[]⟩ : ByteArray) [.string (⟨#[]⟩ : ByteArray)] from rfl) (bZ.one (show Kd.M Kd.string _ _ _ (⟨#[65]⟩ : ByteArray) [.string (⟨#[65]⟩ : ByteArray)] from rfl) (bZ.one (show Kd.M Kd.string _ _ _ (⟨#[97, 32, 98]⟩ : ByteArray) [.string (⟨#[97, 32, 98]⟩ : ByteArray)] from rfl) (bZ.one (show Kd.M Kd.string _ _ _ (⟨#[116, 111, 111, 108, 111, 110, 103, 101, 114]⟩ : ByteArray) [.string (⟨#[116, 111, 111, 108, 111, 110, 103, 101, 114]⟩ : ByteArray)] from rfl) (bZ.one (show Kd.M Kd.string _ _ _ (⟨#[116, 111, 111, 108, 111, 110, 103]⟩ : ByteArray) [.string (⟨#[116, 111, 111, 108, 111, 110, 103]⟩ : ByteArray)] from rfl) (bZ.one (show Kd.M Kd.string _ _ _ (t167 ++ (⟨#[63]⟩ : ByteArray)) [.string (t167 ++ (⟨#[63]⟩ : ByteArray))] from rfl) (bZ.one (show Kd.M Kd.string _ _ _ (⟨#[122]⟩ : ByteArray) [.string (⟨#[122]⟩ : ByteArray)] from rfl) (bZ.none _ _)))))))))))))); intro v171 w6 ho7 hb hg_ hnew_; clear hg_ hnew_; (first | rw [← Ny170.out] at ho7 | (simp only [Int.reduceToNat] at ho7; rw [← Ny170.out] at ho7)); have n0_ := aj.mk (Kd.cK ho7 (fI (w := w) (g := g) (row := none) (by repeat (first | (with_reducible first | exact HK.out | apply bn.dX | apply bF | apply bH | apply bE) | exact HK.out)))); have n1_ := aj.mk (av.below (by repeat (first | (with_reducible first | exact HI0.out | apply av.alloc | apply av.drewN | apply av.drew | apply av.bX | apply av.bW) | exact HI0.out)) hb); have n2_ := aj.mk (bn.trans (by repeat (first | (with_reducible first | exact HK.out | apply bn.dX | apply bF | apply bH | apply bE) | exact HK.out)) (bn.of_below hb g none) (.inl rfl)); have n3_ := aj.mk (aY (by repeat (first | (with_reducible first | exact HB.out | apply au | apply ah | apply ak | refine ay ?_ (av.ge HI0.out)) | exact HB.out)) hb); clear HI0; clear HK; clear HB; have HO172 := n0_; have HI0 := n1_; have HK := n2_; have HB := n3_; clear n0_ n1_ n2_ n3_; clear hb ho7; obtain ⟨Ao8, co8, eo8⟩ := Kd.dO HO172.out; subst eo8) | ((with_reducible refine bq (f := 121) rfl ?_); refine bT (some 15) rfl rfl Try.func121 (by kernel_rfl) rfl #[.pointer (some ⟨g, 0, none⟩), .slice Ao8 y170.length co8] rfl (by (try simp only [List.map_toArray, List.map_cons, List.map_nil]); first | done | rfl | (simp only [List.length_drop, List.length_take]; rfl)) ?_; (with_reducible refine (fG.calls g s0_0 t168 t169 _ _ y170 t173 t174 t175 w0 _ ?side1 ?side2 ?side3 ?side4 ?side5 A4.out).mono ?_); (case side1 => repeat (first | (with_reducible first | exact HI0.out | apply av.alloc | apply av.drewN | apply av.drew | apply av.bX | apply av.bW) | exact HI0.out)); (case side2 => repeat (first | (with_reducible first | exact HB.out | apply au | apply ah | apply ak | refine ay ?_ (av.ge HI0.out)) | exact HB.out)); (case side3 => repeat (first | exact (Kd.bJ HO172.out).2.2 | (with_reducible refine Kd.bU ?_ _) | (with_reducible refine Kd.bV ?_ _) | (with_reducible refine Kd.cB ?_))); (case side4 => exact (Kd.bJ HO172.out).2.1); (case side5 => exact jK (av.own_ne HI0.out HO172.out (by decide))); rintro e w9 ⟨rfl, hi, hb, hk⟩; refine ⟨_, rfl, ?_⟩; have n0_ := aj.mk (Kd.bO (Kd.eP (av.apart (show av w0 _ g s0_0 t168 t169 from by repeat (first | (with_reducible first | exact HI0.out | apply av.alloc | apply av.drewN | apply av.drew | apply av.bX | apply av.bW) | exact HI0.out)) (by (with_reducible repeat (first | apply Kd.aN | apply Kd.aM | apply Kd.aW)); exact HO172.out) (by decide)) hk (fun _ h => h.2)) (fun _ h => h.1)); have n1_ := aj.mk (bn.trans (by repeat (first | (with_reducible first | exact HK.out | apply bn.dX | apply bF | apply bH | apply bE) | exact HK.out)) hk (.inl rfl)); have n2_ := aj.mk (hb); have n3_ := aj.mk (hi); clear HO172; clear HK; clear HB; clear HI0; have HO172 := n0_; have HK := n1_; have HB := n2_; have HI0 := n3_; clear n0_ n1_ n2_ n3_; (try clear hb); (try clear hb2); (try clear hk); (try clear hi)))
  go_ret
  exact ⟨by first | rfl | (simp [bA, bB] <;> rfl) | (simp [*, bA, bB] <;> rfl), by repeat (first | (with_reducible first | exact HI0.out | apply av.alloc | apply av.drewN | apply av.drew | apply av.bX | apply av.bW) | exact HI0.out), by repeat (first | (with_reducible first | exact HB.out | apply au | apply ah | apply ak | refine ay ?_ (av.ge HI0.out)) | exact HB.out), by repeat (first | (with_reducible first | exact HK.out | apply bn.dX | apply bF | apply bH | apply bE) | exact HK.out)⟩
 ·rw [if_neg c3] at H
  exact absurd H (by simp)
def eY.f (a0 : ByteArray) (a1 : ByteArray) : Option (Bool) := if (a0.size : Int) = (a1.size : Int) then (some (Op.bytesLess a0.toList a1.toList)) else (some (decide ((a0.size : Int) < (a1.size : Int))))
set_option maxHeartbeats 8000000 in
set_option maxRecDepth 100000 in
theorem eY.calls (a0 : ByteArray) (a1 : ByteArray) (r : Bool) (w : World) (h : eY.f a0 a1 = some r) :
  Calls Try.prog 111 #[.string a0, .string a1] w fun e w' => e = .returned (.bool r) ∧ bP w w' := by
 have H : (if (a0.size : Int) = (a1.size : Int) then (some (Op.bytesLess a0.toList a1.toList)) else (some (decide ((a0.size : Int) < (a1.size : Int))))) = some r := h
 clear h
 by_cases c3 : (a0.size : Int) = (a1.size : Int)
 ·rw [if_pos c3] at H
  have c3b0 : ((a0.size : Int) == (a1.size : Int)) = true := beq_iff_eq.mpr c3
  have c3b1 : ((a0.size : Int) != (a1.size : Int)) = false := bne_eq_false_iff_eq.mpr c3
  have c3b2 : (a0.size == a1.size) = true := by first | simpa using c3 | (simp at c3 ⊢; omega)
  clear c3
  obtain rfl := Option.some.inj H
  go_enter Try.func111, Try.ntmps111
  go_wp2
  go_ret
  exact ⟨by first | rfl | (simp; done) | (simp [*]; done), by repeat (first | exact bP.refl _ | apply bP.step)⟩
 ·rw [if_neg c3] at H
  have c3b0 : ((a0.size : Int) == (a1.size : Int)) = false := beq_eq_false_iff_ne.mpr c3
  have c3b1 : ((a0.size : Int) != (a1.size : Int)) = true := bne_iff_ne.mpr c3
  have c3b2 : (a0.size == a1.size) = false := by first | simpa using c3 | (simp at c3 ⊢; omega)
  obtain rfl := Option.some.inj H
  go_enter Try.func111, Try.ntmps111
  go_wp2
  go_ret
  exact ⟨by first | rfl | (simp; done) | (simp [*]; done), by repeat (first | exact bP.refl _ | apply bP.step)⟩
def dQ.f (sS : ByteArray) (a0_1 : Int) (sU : ByteArray) (sV : Int) : Option (Bool) := (eY.f sS sU).bind fun t178 => (if t178 = true then (some true) else (if sS.toList = sU.toList then (some (decide (a0_1 < sV))) else (some false)))
set_option maxHeartbeats 8000000 in
set_option maxRecDepth 100000 in
theorem dQ.calls (sS : ByteArray) (a0_1 : Int) (sU : ByteArray) (sV : Int) (r : Bool) (w : World) (h : dQ.f sS a0_1 sU sV = some r) :
  Calls Try.prog 51 #[.agg #[.string sS, .int .i64 a0_1], .agg #[.string sU, .int .i64 sV]] w fun e w' => e = .returned (.bool r) ∧ Below w.heap.size w w' := by
 have hu31 := Try.underlying31
 have HB := aj.mk (Below.refl w.heap.size w)
 have H : ((eY.f sS sU).bind fun t178 => (if t178 = true then (some true) else (if sS.toList = sU.toList then (some (decide (a0_1 < sV))) else (some false)))) = some r := h
 clear h
 replace H := Option.bind_eq_some_iff.mp H
 obtain ⟨t178, A30, H⟩ := H
 replace H : (if t178 = true then (some true) else (if sS.toList = sU.toList then (some (decide (a0_1 < sV))) else (some false))) = some r := H
 have A3 := aj.mk A30
 clear A30
 by_cases c4 : t178 = true
 ·subst c4
  have H1 : (some true) = some r := by rw [if_pos rfl] at H; exact H
  clear H
  have H := H1
  clear H1
  obtain rfl := Option.some.inj H
  go_enter Try.func51, Try.ntmps51
  go_wp2_with (first | ((with_reducible refine dz (N := 2) rfl ?_); refine dD ?hg (N := 2) ?hd (cs := #[.string sS, .int .i64 a0_1]) (t := 31) ?hr ?_; (case hd => rfl); (case hg => rfl); (case hr => first | (go_simp; done) | (go_simp; rfl)); intro gb176 hg w5 hbox hb; have n0_ := aj.mk (aY (by repeat (first | (with_reducible first | exact HB.out | apply au | apply ah | apply ak) | exact HB.out)) hb); have n1_ := aj.mk (hbox); have n2_ := aj.mk ((by rw [hg]; exact (bf (by repeat (first | (with_reducible first | exact HB.out | apply au | apply ah | apply ak) | exact HB.out))) : w.heap.size ≤ gb176)); have n3_ := aj.mk ((by rw [hg]; exact (bf (by repeat (first | (with_reducible first | exact HB.out | apply au | apply ah | apply ak) | exact HB.out))) : w.heap.size ≤ gb176)); clear HB; have HB := n0_; have BK176 := n1_; have GW176 := n2_; have GE176 := n3_; clear n0_ n1_ n2_ n3_; clear hb hbox hg) | ((with_reducible refine dz (N := 3) rfl ?_); refine dD ?hg (N := 3) ?hd (cs := #[.string sU, .int .i64 sV]) (t := 31) ?hr ?_; (case hd => rfl); (case hg => rfl); (case hr => first | (go_simp; done) | (go_simp; rfl)); intro gb177 hg w6 hbox hb; have n0_ := aj.mk (bI (g := gb176) (o := .cells #[.string sS, .int .i64 a0_1] 31 (0, 0)) (by (with_reducible repeat (first | refine aA ?_ _ | refine aD ?_ | refine aC ?_ _)); exact BK176.out) hb); have n1_ := aj.mk (aY (by repeat (first | (with_reducible first | exact HB.out | apply au | apply ah | apply ak | refine ay ?_ GE176.out) | exact HB.out)) hb); have n2_ := aj.mk (hbox); have n3_ := aj.mk ((by rw [hg]; exact (bf (by repeat (first | (with_reducible first | exact HB.out | apply au | apply ah | apply ak | refine ay ?_ GE176.out) | exact HB.out))) : w.heap.size ≤ gb177)); have n4_ := aj.mk ((by rw [hg]; exact (bf (by repeat (first | (with_reducible first | exact HB.out | apply au | apply ah | apply ak | refine ay ?_ GE176.out) | exact HB.out))) : w.heap.size ≤ gb177)); have n5_ := aj.mk ((by rw [hg]; exact Nat.ne_of_lt (gL (g := gb176) (o := .cells #[.string sS, .int .i64 a0_1] 31 (0, 0)) (by (with_reducible repeat (first | refine aA ?_ _ | refine aD ?_ | refine aC ?_ _)); exact BK176.out)) : gb176 ≠ gb177)); have n6_ := aj.mk ((by rw [hg]; exact Nat.ne_of_gt (gL (g := gb176) (o := .cells #[.string sS, .int .i64 a0_1] 31 (0, 0)) (by (with_reducible repeat (first | refine aA ?_ _ | refine aD ?_ | refine aC ?_ _)); exact BK176.out)) : gb177 ≠ gb176)); clear BK176; clear HB; have BK176 := n0_; have HB := n1_; have BK177 := n2_; have GW177 := n3_; have GE177 := n4_; have NB176_177 := n5_; have NB177_176 := n6_; clear n0_ n1_ n2_ n3_ n4_ n5_ n6_; clear hb hbox hg; have hnb7 := NB176_177.out; have hnc7 := NB177_176.out; have hcz8_0 : w6.cell? ⟨gb176, 0, none⟩ = some (.string sS) := (aT BK176.out 0).trans rfl; have hcz8_1 : w6.cell? ⟨gb176, 1, none⟩ = some (.int .i64 a0_1) := (aT BK176.out 1).trans rfl; have hfz8_0 := bG BK176.out 0; have hfz8_1 := bG BK176.out 1; have hcz9_0 : w6.cell? ⟨gb177, 0, none⟩ = some (.string sU) := (aT BK177.out 0).trans rfl; have hcz9_1 : w6.cell? ⟨gb177, 1, none⟩ = some (.int .i64 sV) := (aT BK177.out 1).trans rfl; have hfz9_0 := bG BK177.out 0; have hfz9_1 := bG BK177.out 1) | ((with_reducible refine bq (f := 111) rfl ?_); refine bT (some 9) rfl rfl Try.func111 (by kernel_rfl) rfl #[.string sS, .string sU] rfl (by (try simp only [List.map_toArray, List.map_cons, List.map_nil]); first | done | rfl | (simp only [List.length_drop, List.length_take]; rfl)) ?_; (with_reducible refine (eY.calls sS sU true _ A3.out).mono ?_); rintro e w' ⟨rfl, ⟨nd, rfl⟩⟩; refine ⟨_, rfl, ?_⟩))
  go_ret
  exact ⟨by first | rfl | (simp [bA, bB] <;> rfl) | (simp [*, bA, bB] <;> rfl), by repeat (first | (with_reducible first | exact HB.out | apply au | apply ah | apply ak | refine ay ?_ GE176.out | refine ay ?_ GE177.out) | exact HB.out)⟩
 ·replace c4 := Bool.eq_false_iff.mpr c4
  subst c4
  have H1 : (if sS.toList = sU.toList then (some (decide (a0_1 < sV))) else (some false)) = some r := by rw [if_neg (show ¬ (false = true) by decide)] at H; exact H
  clear H
  have H := H1
  clear H1
  by_cases c10 : sS.toList = sU.toList
  ·rw [if_pos c10] at H
   have c10b0 : (sS.toList == sU.toList) = true := beq_iff_eq.mpr c10
   have c10b1 : (sS.toList != sU.toList) = false := bne_eq_false_iff_eq.mpr c10
   clear c10
   obtain rfl := Option.some.inj H
   go_enter Try.func51, Try.ntmps51
   go_wp2_with (first | ((with_reducible refine dz (N := 2) rfl ?_); refine dD ?hg (N := 2) ?hd (cs := #[.string sS, .int .i64 a0_1]) (t := 31) ?hr ?_; (case hd => rfl); (case hg => rfl); (case hr => first | (go_simp; done) | (go_simp; rfl)); intro gb176 hg w11 hbox hb; have n0_ := aj.mk (aY (by repeat (first | (with_reducible first | exact HB.out | apply au | apply ah | apply ak) | exact HB.out)) hb); have n1_ := aj.mk (hbox); have n2_ := aj.mk ((by rw [hg]; exact (bf (by repeat (first | (with_reducible first | exact HB.out | apply au | apply ah | apply ak) | exact HB.out))) : w.heap.size ≤ gb176)); have n3_ := aj.mk ((by rw [hg]; exact (bf (by repeat (first | (with_reducible first | exact HB.out | apply au | apply ah | apply ak) | exact HB.out))) : w.heap.size ≤ gb176)); clear HB; have HB := n0_; have BK176 := n1_; have GW176 := n2_; have GE176 := n3_; clear n0_ n1_ n2_ n3_; clear hb hbox hg) | ((with_reducible refine dz (N := 3) rfl ?_); refine dD ?hg (N := 3) ?hd (cs := #[.string sU, .int .i64 sV]) (t := 31) ?hr ?_; (case hd => rfl); (case hg => rfl); (case hr => first | (go_simp; done) | (go_simp; rfl)); intro gb177 hg w12 hbox hb; have n0_ := aj.mk (bI (g := gb176) (o := .cells #[.string sS, .int .i64 a0_1] 31 (0, 0)) (by (with_reducible repeat (first | refine aA ?_ _ | refine aD ?_ | refine aC ?_ _)); exact BK176.out) hb); have n1_ := aj.mk (aY (by repeat (first | (with_reducible first | exact HB.out | apply au | apply ah | apply ak | refine ay ?_ GE176.out) | exact HB.out)) hb); have n2_ := aj.mk (hbox); have n3_ := aj.mk ((by rw [hg]; exact (bf (by repeat (first | (with_reducible first | exact HB.out | apply au | apply ah | apply ak | refine ay ?_ GE176.out) | exact HB.out))) : w.heap.size ≤ gb177)); have n4_ := aj.mk ((by rw [hg]; exact (bf (by repeat (first | (with_reducible first | exact HB.out | apply au | apply ah | apply ak | refine ay ?_ GE176.out) | exact HB.out))) : w.heap.size ≤ gb177)); have n5_ := aj.mk ((by rw [hg]; exact Nat.ne_of_lt (gL (g := gb176) (o := .cells #[.string sS, .int .i64 a0_1] 31 (0, 0)) (by (with_reducible repeat (first | refine aA ?_ _ | refine aD ?_ | refine aC ?_ _)); exact BK176.out)) : gb176 ≠ gb177)); have n6_ := aj.mk ((by rw [hg]; exact Nat.ne_of_gt (gL (g := gb176) (o := .cells #[.string sS, .int .i64 a0_1] 31 (0, 0)) (by (with_reducible repeat (first | refine aA ?_ _ | refine aD ?_ | refine aC ?_ _)); exact BK176.out)) : gb177 ≠ gb176)); clear BK176; clear HB; have BK176 := n0_; have HB := n1_; have BK177 := n2_; have GW177 := n3_; have GE177 := n4_; have NB176_177 := n5_; have NB177_176 := n6_; clear n0_ n1_ n2_ n3_ n4_ n5_ n6_; clear hb hbox hg; have hnb13 := NB176_177.out; have hnc13 := NB177_176.out; have hcz14_0 : w12.cell? ⟨gb176, 0, none⟩ = some (.string sS) := (aT BK176.out 0).trans rfl; have hcz14_1 : w12.cell? ⟨gb176, 1, none⟩ = some (.int .i64 a0_1) := (aT BK176.out 1).trans rfl; have hfz14_0 := bG BK176.out 0; have hfz14_1 := bG BK176.out 1; have hcz15_0 : w12.cell? ⟨gb177, 0, none⟩ = some (.string sU) := (aT BK177.out 0).trans rfl; have hcz15_1 : w12.cell? ⟨gb177, 1, none⟩ = some (.int .i64 sV) := (aT BK177.out 1).trans rfl; have hfz15_0 := bG BK177.out 0; have hfz15_1 := bG BK177.out 1) | ((with_reducible refine bq (f := 111) rfl ?_); refine bT (some 9) rfl rfl Try.func111 (by kernel_rfl) rfl #[.string sS, .string sU] rfl (by (try simp only [List.map_toArray, List.map_cons, List.map_nil]); first | done | rfl | (simp only [List.length_drop, List.length_take]; rfl)) ?_; (with_reducible refine (eY.calls sS sU false _ A3.out).mono ?_); rintro e w' ⟨rfl, ⟨nd, rfl⟩⟩; refine ⟨_, rfl, ?_⟩))
   go_ret
   exact ⟨by first | rfl | (simp [bA, bB] <;> rfl) | (simp [*, bA, bB] <;> rfl), by repeat (first | (with_reducible first | exact HB.out | apply au | apply ah | apply ak | refine ay ?_ GE176.out | refine ay ?_ GE177.out) | exact HB.out)⟩
  ·rw [if_neg c10] at H
   have c10b0 : (sS.toList == sU.toList) = false := beq_eq_false_iff_ne.mpr c10
   have c10b1 : (sS.toList != sU.toList) = true := bne_iff_ne.mpr c10
   obtain rfl := Option.some.inj H
   go_enter Try.func51, Try.ntmps51
   go_wp2_with (first | ((with_reducible refine dz (N := 2) rfl ?_); refine dD ?hg (N := 2) ?hd (cs := #[.string sS, .int .i64 a0_1]) (t := 31) ?hr ?_; (case hd => rfl); (case hg => rfl); (case hr => first | (go_simp; done) | (go_simp; rfl)); intro gb176 hg w16 hbox hb; have n0_ := aj.mk (aY (by repeat (first | (with_reducible first | exact HB.out | apply au | apply ah | apply ak) | exact HB.out)) hb); have n1_ := aj.mk (hbox); have n2_ := aj.mk ((by rw [hg]; exact (bf (by repeat (first | (with_reducible first | exact HB.out | apply au | apply ah | apply ak) | exact HB.out))) : w.heap.size ≤ gb176)); have n3_ := aj.mk ((by rw [hg]; exact (bf (by repeat (first | (with_reducible first | exact HB.out | apply au | apply ah | apply ak) | exact HB.out))) : w.heap.size ≤ gb176)); clear HB; have HB := n0_; have BK176 := n1_; have GW176 := n2_; have GE176 := n3_; clear n0_ n1_ n2_ n3_; clear hb hbox hg) | ((with_reducible refine dz (N := 3) rfl ?_); refine dD ?hg (N := 3) ?hd (cs := #[.string sU, .int .i64 sV]) (t := 31) ?hr ?_; (case hd => rfl); (case hg => rfl); (case hr => first | (go_simp; done) | (go_simp; rfl)); intro gb177 hg w17 hbox hb; have n0_ := aj.mk (bI (g := gb176) (o := .cells #[.string sS, .int .i64 a0_1] 31 (0, 0)) (by (with_reducible repeat (first | refine aA ?_ _ | refine aD ?_ | refine aC ?_ _)); exact BK176.out) hb); have n1_ := aj.mk (aY (by repeat (first | (with_reducible first | exact HB.out | apply au | apply ah | apply ak | refine ay ?_ GE176.out) | exact HB.out)) hb); have n2_ := aj.mk (hbox); have n3_ := aj.mk ((by rw [hg]; exact (bf (by repeat (first | (with_reducible first | exact HB.out | apply au | apply ah | apply ak | refine ay ?_ GE176.out) | exact HB.out))) : w.heap.size ≤ gb177)); have n4_ := aj.mk ((by rw [hg]; exact (bf (by repeat (first | (with_reducible first | exact HB.out | apply au | apply ah | apply ak | refine ay ?_ GE176.out) | exact HB.out))) : w.heap.size ≤ gb177)); have n5_ := aj.mk ((by rw [hg]; exact Nat.ne_of_lt (gL (g := gb176) (o := .cells #[.string sS, .int .i64 a0_1] 31 (0, 0)) (by (with_reducible repeat (first | refine aA ?_ _ | refine aD ?_ | refine aC ?_ _)); exact BK176.out)) : gb176 ≠ gb177)); have n6_ := aj.mk ((by rw [hg]; exact Nat.ne_of_gt (gL (g := gb176) (o := .cells #[.string sS, .int .i64 a0_1] 31 (0, 0)) (by (with_reducible repeat (first | refine aA ?_ _ | refine aD ?_ | refine aC ?_ _)); exact BK176.out)) : gb177 ≠ gb176)); clear BK176; clear HB; have BK176 := n0_; have HB := n1_; have BK177 := n2_; have GW177 := n3_; have GE177 := n4_; have NB176_177 := n5_; have NB177_176 := n6_; clear n0_ n1_ n2_ n3_ n4_ n5_ n6_; clear hb hbox hg; have hnb18 := NB176_177.out; have hnc18 := NB177_176.out; have hcz19_0 : w17.cell? ⟨gb176, 0, none⟩ = some (.string sS) := (aT BK176.out 0).trans rfl; have hcz19_1 : w17.cell? ⟨gb176, 1, none⟩ = some (.int .i64 a0_1) := (aT BK176.out 1).trans rfl; have hfz19_0 := bG BK176.out 0; have hfz19_1 := bG BK176.out 1; have hcz20_0 : w17.cell? ⟨gb177, 0, none⟩ = some (.string sU) := (aT BK177.out 0).trans rfl; have hcz20_1 : w17.cell? ⟨gb177, 1, none⟩ = some (.int .i64 sV) := (aT BK177.out 1).trans rfl; have hfz20_0 := bG BK177.out 0; have hfz20_1 := bG BK177.out 1) | ((with_reducible refine bq (f := 111) rfl ?_); refine bT (some 9) rfl rfl Try.func111 (by kernel_rfl) rfl #[.string sS, .string sU] rfl (by (try simp only [List.map_toArray, List.map_cons, List.map_nil]); first | done | rfl | (simp only [List.length_drop, List.length_take]; rfl)) ?_; (with_reducible refine (eY.calls sS sU false _ A3.out).mono ?_); rintro e w' ⟨rfl, ⟨nd, rfl⟩⟩; refine ⟨_, rfl, ?_⟩))
   go_ret
   exact ⟨by first | rfl | (simp [bA, bB] <;> rfl) | (simp [*, bA, bB] <;> rfl), by repeat (first | (with_reducible first | exact HB.out | apply au | apply ah | apply ak | refine ay ?_ GE176.out | refine ay ?_ GE177.out) | exact HB.out)⟩
def cZ.l0 : Nat → List (S31) → ByteArray → Int → Int → Option (Bool)
 | 0, _, _, _, _ => none
 | k + 1, x0, x1, x2, x7 => if x7 < (x0.length : Int) then (if 0 ≤ x7 then (if ((aJ x0 x7).f0).toList = x1.toList then (if ((aJ x0 x7).f1) = x2 then (some true) else (cZ.l0 k x0 x1 x2 (wrap64 (x7 + 1)))) else (cZ.l0 k x0 x1 x2 (wrap64 (x7 + 1)))) else (none)) else (some false)
def cZ.f (k : Nat) (l0 : List (S31)) (a1 : ByteArray) (a2 : Int) : Option (Bool) := cZ.l0 k l0 a1 a2 0
set_option maxHeartbeats 8000000 in
set_option maxRecDepth 100000 in
theorem cZ.calls (k : Nat) (A0 : Option Addr) (c0 : Nat) (l0 : List (S31)) (a1 : ByteArray) (a2 : Int) (r : Bool) (w : World) (hr0 : Kd.C k31 w A0 l0.length l0) (hc0 : l0.length ≤ c0) (h : cZ.f k l0 a1 a2 = some r) :
  Calls Try.prog 52 #[.slice A0 l0.length c0, .string a1, .int .i64 a2] w fun e w' => e = .returned (.bool r) ∧ bP w w' := by
 have HR0 := aj.mk hr0
 have HC0 := aj.mk hc0
 clear hr0 hc0
 have H : (cZ.l0 k l0 a1 a2 0) = some r := h
 clear h
 have H' := aj.mk H
 clear H
 go_enter Try.func52, Try.ntmps52
 go_wp2
 go_loopg [7] k (fun kq v7 w' => ∃ (x7_1 : Int), v7 = .int .i64 x7_1 ∧ aj (cZ.l0 kq l0 a1 a2 x7_1 = some r) ∧ aj (kq ≤ k) ∧ bP w w')
 case atStart => exact ⟨(0), (by first | rfl | (simp; done) | (simp [*]; done)), H', ⟨Nat.le_refl _⟩, by repeat (first | exact bP.refl _ | apply bP.step)⟩
 case round =>
  clear H'
  obtain ⟨x7_1, rfl, HA, HK1, ⟨m1, rfl⟩⟩ := hrel
  cases gk with
  | zero => exact absurd HA.out (by simp [cZ.l0])
  | succ k1 =>
   have H := HA.out
   clear HA
   simp only [cZ.l0] at H
   by_cases c4 : x7_1 < (l0.length : Int)
   ·rw [if_pos c4] at H
    have c4b0 : decide (x7_1 < (l0.length : Int)) = true := decide_eq_true c4
    clear c4
    by_cases c5 : 0 ≤ x7_1
    ·rw [if_pos c5] at H
     have c5b0 : decide (0 ≤ x7_1) = true := decide_eq_true c5
     clear c5
     by_cases c6 : ((aJ l0 x7_1).f0).toList = a1.toList
     ·rw [if_pos c6] at H
      have c6b0 : (((aJ l0 x7_1).f0).toList == a1.toList) = true := beq_iff_eq.mpr c6
      have c6b1 : (((aJ l0 x7_1).f0).toList != a1.toList) = false := bne_eq_false_iff_eq.mpr c6
      clear c6
      by_cases c7 : ((aJ l0 x7_1).f1) = a2
      ·rw [if_pos c7] at H
       have c7b0 : (((aJ l0 x7_1).f1) == a2) = true := beq_iff_eq.mpr c7
       have c7b1 : (((aJ l0 x7_1).f1) != a2) = false := bne_eq_false_iff_eq.mpr c7
       clear c7
       obtain rfl := Option.some.inj H
       have p179 : 0 ≤ (x7_1 : Int) := of_decide_eq_true (by first | (with_reducible assumption) | assumption)
       have q179 : x7_1 < (l0.length : Int) := of_decide_eq_true (by first | (with_reducible assumption) | assumption)
       obtain ⟨ad179, e179, hx179_0, hx179_1⟩ := eD HR0.out x7_1 p179 q179
       cases e179
       replace p179 := eq_true p179
       replace q179 := eq_true q179
       have p180 : 0 ≤ (x7_1 : Int) := of_decide_eq_true (by first | (with_reducible assumption) | assumption)
       have q180 : x7_1 < (l0.length : Int) := of_decide_eq_true (by first | (with_reducible assumption) | assumption)
       obtain ⟨ad180, e180, hx180_0, hx180_1⟩ := eD HR0.out x7_1 p180 q180
       obtain rfl : ad179 = ad180 := (by injection e180)
       replace p180 := eq_true p180
       replace q180 := eq_true q180
       go_wp2
       go_ret
       exact ⟨by first | rfl | (simp; done) | (simp [*]; done), by repeat (first | exact bP.refl _ | apply bP.step)⟩
      ·rw [if_neg c7] at H
       have c7b0 : (((aJ l0 x7_1).f1) == a2) = false := beq_eq_false_iff_ne.mpr c7
       have c7b1 : (((aJ l0 x7_1).f1) != a2) = true := bne_iff_ne.mpr c7
       have H' := aj.mk H
       clear H
       have p179 : 0 ≤ (x7_1 : Int) := of_decide_eq_true (by first | (with_reducible assumption) | assumption)
       have q179 : x7_1 < (l0.length : Int) := of_decide_eq_true (by first | (with_reducible assumption) | assumption)
       obtain ⟨ad179, e179, hx179_0, hx179_1⟩ := eD HR0.out x7_1 p179 q179
       cases e179
       replace p179 := eq_true p179
       replace q179 := eq_true q179
       have p180 : 0 ≤ (x7_1 : Int) := of_decide_eq_true (by first | (with_reducible assumption) | assumption)
       have q180 : x7_1 < (l0.length : Int) := of_decide_eq_true (by first | (with_reducible assumption) | assumption)
       obtain ⟨ad180, e180, hx180_0, hx180_1⟩ := eD HR0.out x7_1 p180 q180
       obtain rfl : ad179 = ad180 := (by injection e180)
       replace p180 := eq_true p180
       replace q180 := eq_true q180
       go_wp2
       go_roundg k1
       case measure => have := HK1.out; omega
       case rel => exact ⟨(wrap64 (x7_1 + 1)), (by first | rfl | (simp; done) | (simp [*]; done)), H', ⟨by have := HK1.out; omega⟩, by repeat (first | exact bP.refl _ | apply bP.step)⟩
     ·rw [if_neg c6] at H
      have c6b0 : (((aJ l0 x7_1).f0).toList == a1.toList) = false := beq_eq_false_iff_ne.mpr c6
      have c6b1 : (((aJ l0 x7_1).f0).toList != a1.toList) = true := bne_iff_ne.mpr c6
      have H' := aj.mk H
      clear H
      have p179 : 0 ≤ (x7_1 : Int) := of_decide_eq_true (by first | (with_reducible assumption) | assumption)
      have q179 : x7_1 < (l0.length : Int) := of_decide_eq_true (by first | (with_reducible assumption) | assumption)
      obtain ⟨ad179, e179, hx179_0, hx179_1⟩ := eD HR0.out x7_1 p179 q179
      cases e179
      replace p179 := eq_true p179
      replace q179 := eq_true q179
      go_wp2
      go_roundg k1
      case measure => have := HK1.out; omega
      case rel => exact ⟨(wrap64 (x7_1 + 1)), (by first | rfl | (simp; done) | (simp [*]; done)), H', ⟨by have := HK1.out; omega⟩, by repeat (first | exact bP.refl _ | apply bP.step)⟩
    ·rw [if_neg c5] at H
     exact absurd H (by simp)
   ·rw [if_neg c4] at H
    have c4b0 : decide (x7_1 < (l0.length : Int)) = false := decide_eq_false c4
    clear c4
    obtain rfl := Option.some.inj H
    go_wp2
    go_ret
    exact ⟨by first | rfl | (simp; done) | (simp [*]; done), by repeat (first | exact bP.refl _ | apply bP.step)⟩
def fH.f (a0 : Int) (a1 : Int) (a2 : Int) : Option (Bool) := if a0 ≥ a1 then (some (decide (a0 ≤ a2))) else (some false)
set_option maxHeartbeats 8000000 in
set_option maxRecDepth 100000 in
theorem fH.calls (a0 : Int) (a1 : Int) (a2 : Int) (r : Bool) (w : World) (h : fH.f a0 a1 a2 = some r) :
  Calls Try.prog 86 #[.int .i64 a0, .int .i64 a1, .int .i64 a2] w fun e w' => e = .returned (.bool r) ∧ bP w w' := by
 have H : (if a0 ≥ a1 then (some (decide (a0 ≤ a2))) else (some false)) = some r := h
 clear h
 by_cases c4 : a0 ≥ a1
 ·rw [if_pos c4] at H
  have c4b0 : decide (a1 ≤ a0) = true := decide_eq_true c4
  clear c4
  obtain rfl := Option.some.inj H
  go_enter Try.func86, Try.ntmps86
  go_wp2
  go_ret
  exact ⟨by first | rfl | (simp; done) | (simp [*]; done), by repeat (first | exact bP.refl _ | apply bP.step)⟩
 ·rw [if_neg c4] at H
  have c4b0 : decide (a1 ≤ a0) = false := decide_eq_false c4
  clear c4
  obtain rfl := Option.some.inj H
  go_enter Try.func86, Try.ntmps86
  go_wp2
  go_ret
  exact ⟨by first | rfl | (simp; done) | (simp [*]; done), by repeat (first | exact bP.refl _ | apply bP.step)⟩
def dN.l0 : Nat → ByteArray → Int → Option (Bool)
 | 0, _, _ => none
 | k + 1, x0, x3 => if x3 < (x0.size : Int) then (if 0 ≤ x3 then (if (bt x0 x3) < 97 then (some false) else (if (bt x0 x3) > 122 then (some false) else (dN.l0 k x0 (wrap64 (x3 + 1))))) else (none)) else (some true)
def dN.f (k : Nat) (a0 : ByteArray) : Option (Bool) := (fH.f (a0.size : Int) 1 8).bind fun t181 => (if t181 = true then (dN.l0 k a0 0) else (some false))
set_option maxHeartbeats 8000000 in
set_option maxRecDepth 100000 in
theorem dN.calls (k : Nat) (a0 : ByteArray) (r : Bool) (w : World) (h : dN.f k a0 = some r) :
  Calls Try.prog 112 #[.string a0] w fun e w' => e = .returned (.bool r) ∧ bP w w' := by
 have H : ((fH.f (a0.size : Int) 1 8).bind fun t181 => (if t181 = true then (dN.l0 k a0 0) else (some false))) = some r := h
 clear h
 replace H := Option.bind_eq_some_iff.mp H
 obtain ⟨t181, A20, H⟩ := H
 replace H : (if t181 = true then (dN.l0 k a0 0) else (some false)) = some r := H
 have A2 := aj.mk A20
 clear A20
 by_cases c3 : t181 = true
 ·subst c3
  have H1 : (dN.l0 k a0 0) = some r := by rw [if_pos rfl] at H; exact H
  clear H
  have H := H1
  clear H1
  have H' := aj.mk H
  clear H
  go_enter Try.func112, Try.ntmps112
  go_wp2_with (first | ((with_reducible refine bq (f := 86) rfl ?_); refine bT (some 6) rfl rfl Try.func86 (by kernel_rfl) rfl #[.int .i64 (a0.size : Int), .int .i64 1, .int .i64 8] rfl (by (try simp only [List.map_toArray, List.map_cons, List.map_nil]); first | done | rfl | (simp only [List.length_drop, List.length_take]; rfl)) ?_; (with_reducible refine (fH.calls (a0.size : Int) 1 8 true _ A2.out).mono ?_); rintro e w' ⟨rfl, ⟨nd, rfl⟩⟩; refine ⟨_, rfl, ?_⟩))
  go_loopg [3] k (fun kq v3 w' => ∃ (x3_1 : Int), v3 = .int .i64 x3_1 ∧ aj (dN.l0 kq a0 x3_1 = some r) ∧ aj (kq ≤ k) ∧ bP w w')
  case atStart => exact ⟨(0), (by first | rfl | (simp; done) | (simp [*]; done)), H', ⟨Nat.le_refl _⟩, by repeat (first | exact bP.refl _ | apply bP.step)⟩
  case round =>
   clear H'
   try clear c1
   try clear c3
   obtain ⟨x3_1, rfl, HA, HK1, ⟨m1, rfl⟩⟩ := hrel
   cases gk with
   | zero => exact absurd HA.out (by simp [dN.l0])
   | succ k1 =>
    have H := HA.out
    clear HA
    simp only [dN.l0] at H
    by_cases c4 : x3_1 < (a0.size : Int)
    ·rw [if_pos c4] at H
     have c4b0 : decide (x3_1 < (a0.size : Int)) = true := decide_eq_true c4
     clear c4
     by_cases c5 : 0 ≤ x3_1
     ·rw [if_pos c5] at H
      have c5b0 : decide (0 ≤ x3_1) = true := decide_eq_true c5
      clear c5
      by_cases c7 : (bt a0 x3_1) < 97
      ·rw [if_pos c7] at H
       have c7b0 : decide ((bt a0 x3_1) < 97) = true := decide_eq_true c7
       clear c7
       obtain rfl := Option.some.inj H
       have p6 : 0 ≤ (x3_1 : Int) := of_decide_eq_true (by first | (with_reducible assumption) | assumption)
       have q6 : x3_1 < (a0.size : Int) := of_decide_eq_true (by first | (with_reducible assumption) | assumption)
       have hx6 := mo a0 x3_1
       replace p6 := eq_true p6
       replace q6 := eq_true q6
       go_wp2
       go_ret
       exact ⟨by first | rfl | (simp; done) | (simp [*]; done), by repeat (first | exact bP.refl _ | apply bP.step)⟩
      ·rw [if_neg c7] at H
       have c7b0 : decide ((bt a0 x3_1) < 97) = false := decide_eq_false c7
       clear c7
       by_cases c9 : (bt a0 x3_1) > 122
       ·rw [if_pos c9] at H
        have c9b0 : decide (122 < (bt a0 x3_1)) = true := decide_eq_true c9
        clear c9
        obtain rfl := Option.some.inj H
        have p6 : 0 ≤ (x3_1 : Int) := of_decide_eq_true (by first | (with_reducible assumption) | assumption)
        have q6 : x3_1 < (a0.size : Int) := of_decide_eq_true (by first | (with_reducible assumption) | assumption)
        have hx6 := mo a0 x3_1
        replace p6 := eq_true p6
        replace q6 := eq_true q6
        have p8 : 0 ≤ (x3_1 : Int) := of_decide_eq_true (by first | (with_reducible assumption) | assumption)
        have q8 : x3_1 < (a0.size : Int) := of_decide_eq_true (by first | (with_reducible assumption) | assumption)
        have hx8 := mo a0 x3_1
        replace p8 := eq_true p8
        replace q8 := eq_true q8
        go_wp2
        go_ret
        exact ⟨by first | rfl | (simp; done) | (simp [*]; done), by repeat (first | exact bP.refl _ | apply bP.step)⟩
       ·rw [if_neg c9] at H
        have c9b0 : decide (122 < (bt a0 x3_1)) = false := decide_eq_false c9
        clear c9
        have H' := aj.mk H
        clear H
        have p6 : 0 ≤ (x3_1 : Int) := of_decide_eq_true (by first | (with_reducible assumption) | assumption)
        have q6 : x3_1 < (a0.size : Int) := of_decide_eq_true (by first | (with_reducible assumption) | assumption)
        have hx6 := mo a0 x3_1
        replace p6 := eq_true p6
        replace q6 := eq_true q6
        have p8 : 0 ≤ (x3_1 : Int) := of_decide_eq_true (by first | (with_reducible assumption) | assumption)
        have q8 : x3_1 < (a0.size : Int) := of_decide_eq_true (by first | (with_reducible assumption) | assumption)
        have hx8 := mo a0 x3_1
        replace p8 := eq_true p8
        replace q8 := eq_true q8
        go_wp2
        go_roundg k1
        case measure => have := HK1.out; omega
        case rel => exact ⟨(wrap64 (x3_1 + 1)), (by first | rfl | (simp; done) | (simp [*]; done)), H', ⟨by have := HK1.out; omega⟩, by repeat (first | exact bP.refl _ | apply bP.step)⟩
     ·rw [if_neg c5] at H
      exact absurd H (by simp)
    ·rw [if_neg c4] at H
     have c4b0 : decide (x3_1 < (a0.size : Int)) = false := decide_eq_false c4
     clear c4
     obtain rfl := Option.some.inj H
     go_wp2
     go_ret
     exact ⟨by first | rfl | (simp; done) | (simp [*]; done), by repeat (first | exact bP.refl _ | apply bP.step)⟩
 ·replace c3 := Bool.eq_false_iff.mpr c3
  subst c3
  have H1 : (some false) = some r := by rw [if_neg (show ¬ (false = true) by decide)] at H; exact H
  clear H
  have H := H1
  clear H1
  obtain rfl := Option.some.inj H
  go_enter Try.func112, Try.ntmps112
  go_wp2_with (first | ((with_reducible refine bq (f := 86) rfl ?_); refine bT (some 6) rfl rfl Try.func86 (by kernel_rfl) rfl #[.int .i64 (a0.size : Int), .int .i64 1, .int .i64 8] rfl (by (try simp only [List.map_toArray, List.map_cons, List.map_nil]); first | done | rfl | (simp only [List.length_drop, List.length_take]; rfl)) ?_; (with_reducible refine (fH.calls (a0.size : Int) 1 8 false _ A2.out).mono ?_); rintro e w' ⟨rfl, ⟨nd, rfl⟩⟩; refine ⟨_, rfl, ?_⟩))
  go_ret
  exact ⟨by first | rfl | (simp; done) | (simp [*]; done), by repeat (first | exact bP.refl _ | apply bP.step)⟩
end Go.Proofs.Ythjcicmmbmagbaa.PFnSenses
