/- Walks of functions: what each computes. -/
import Derived.Test.YthjcicmmbmagbaaZFnSensesG0
import Derived.Test.YthjcicmmbmagbaaZFnSensesG3
import Derived.Test.YthjcicmmbmagbaaZFnSensesG6
import Derived.Test.YthjcicmmbmagbaaZFnSensesW
import Derived.Test.YthjcicmmbmagbaaZFnSensesHandForm
import Derived.Test.YthjcicmmbmagbaaZFnSensesHandAlone
import Derived.Test.YthjcicmmbmagbaaZFnSensesHandIns
import Derived.Test.YthjcicmmbmagbaaZFnSensesHandRead
namespace Go.Proofs.Ythjcicmmbmagbaa.PFnSenses
open Go.RowKit Go.Proofs.YthjcicmmbmagbaaW.PrintWords Go.Proofs.YthjcicmmbmagbaaW.PrintLast Go.Proofs.YthjcicmmbmagbaaW.PrintMore
attribute [local go_sem] iF iG iR iQ ig gW iE iD
set_option linter.unusedVariables false
set_option linter.unusedSimpArgs false
def bQ.l0 : Nat → List Int → (Nat → Int → Option Bool) → Int → Int → Option (Int)
 | 0, _, _, _, _ => none
 | k + 1, x0, x1, x7, x8 => if x8 < x7 then (if 0 ≤ x8 then (if x8 < (x0.length : Int) then ((x1 k (rd x0 x8)).bind fun t322 => (if t322 = true then (some x8) else (bQ.l0 k x0 x1 x7 (wrap64 (x8 + 1))))) else (none)) else (none)) else (some (-1))
def bQ.f (k : Nat) (l0 : List Int) (a1 : (Nat → Int → Option Bool)) : Option (Int) := bQ.l0 k l0 a1 (l0.length : Int) 0
set_option maxHeartbeats 8000000 in
set_option maxRecDepth 100000 in
theorem bQ.calls (k : Nat) (A0 : Option Addr) (c0 : Nat) (l0 : List Int) (a1 : (Nat → Int → Option Bool)) (r : Int) (w : World) (hr0 : Kd.C (Kd.int .i64) w A0 l0.length l0) (hc0 : l0.length ≤ c0) (h : bQ.f k l0 a1 = some r) (g : FuncId) (lb : Array Value) (eg : ∀ args w, (callFunc g args).run Try.prog w = .ok (.enter g args) w) (hp : ∀ (j : Nat) (s : Int) (b : Bool) (W : World), Below w.heap.size w W → a1 j s = some b → Calls Try.prog g (#[.int .i64 s] ++ lb) W fun e w' => e = .returned (.bool b) ∧ Below W.heap.size W w') :
  Calls Try.prog 123 #[.slice A0 l0.length c0, .func (.func g) #[] lb] w fun e w' => e = .returned (.int .i64 r) ∧ Below w.heap.size w w' := by
 have HR0 := aj.mk hr0
 have HC0 := aj.mk hc0
 clear hr0 hc0
 have HB := aj.mk (Below.refl w.heap.size w)
 have HPP := aj.mk hp
 clear hp
 have H : (bQ.l0 k l0 a1 (l0.length : Int) 0) = some r := h
 clear h
 have H' := aj.mk H
 clear H
 go_enter Try.func123, Try.ntmps123
 go_wp2
 go_loopg [8] k (fun kq v8 w' => ∃ (x8_1 : Int), v8 = .int .i64 x8_1 ∧ aj (bQ.l0 kq l0 a1 (l0.length : Int) x8_1 = some r) ∧ aj (kq ≤ k) ∧ aj (Below w.heap.size w w'))
 case atStart => exact ⟨(0), (by first | rfl | (simp; done) | (simp [*]; done)), H', ⟨Nat.le_refl _⟩, ⟨by repeat (first | (with_reducible first | exact HB.out | apply au | apply ah | apply ak) | exact HB.out)⟩⟩
 case round =>
  clear H'
  obtain ⟨x8_1, rfl, HA, HK1, HB⟩ := hrel
  cases gk with
  | zero => exact absurd HA.out (by simp [bQ.l0])
  | succ k1 =>
   have H := HA.out
   clear HA
   simp only [bQ.l0] at H
   by_cases c3 : x8_1 < (l0.length : Int)
   ·rw [if_pos c3] at H
    have c3b0 : decide (x8_1 < (l0.length : Int)) = true := decide_eq_true c3
    clear c3
    by_cases c4 : 0 ≤ x8_1
    ·rw [if_pos c4] at H
     have c4b0 : decide (0 ≤ x8_1) = true := decide_eq_true c4
     clear c4
     by_cases c5 : x8_1 < (l0.length : Int)
     ·rw [if_pos c5] at H
      have c5b0 : decide (x8_1 < (l0.length : Int)) = true := decide_eq_true c5
      clear c5
      replace H := Option.bind_eq_some_iff.mp H
      obtain ⟨t322, A60, H⟩ := H
      replace H : (if t322 = true then (some x8_1) else (bQ.l0 k1 l0 a1 (l0.length : Int) (wrap64 (x8_1 + 1)))) = some r := H
      have A6 := aj.mk A60
      clear A60
      by_cases c7 : t322 = true
      ·subst c7
       have H1 : (some x8_1) = some r := by rw [if_pos rfl] at H; exact H
       clear H
       have H := H1
       clear H1
       obtain rfl := Option.some.inj H
       have p321 : 0 ≤ (x8_1 : Int) := of_decide_eq_true (by first | (with_reducible assumption) | assumption)
       have q321 : x8_1 < (l0.length : Int) := of_decide_eq_true (by first | (with_reducible assumption) | assumption)
       obtain ⟨ad321, e321, hx321_0⟩ := Kd.jX HR0.out x8_1 p321 q321
       cases e321
       try replace hx321_0 := (HB.out.cell (World.block_lt_of_cell? w _ hx321_0)).trans hx321_0
       replace p321 := eq_true p321
       replace q321 := eq_true q321
       go_wp2_with (first | (refine (HPP.out k1 (rd l0 x8_1) true _ (by repeat (first | (with_reducible first | exact HB.out | apply au | apply ah | apply ak) | exact HB.out)) A6.out).mono ?_; rintro e w8 ⟨rfl, hb⟩; have n0_ := aj.mk (aY (by repeat (first | (with_reducible first | exact HB.out | apply au | apply ah | apply ak) | exact HB.out)) hb); clear HB; have HB := n0_; clear n0_; (try clear hb); (try clear hb2); (try clear hk); (try clear hi)))
       go_ret
       exact ⟨by first | rfl | (simp [bA, bB] <;> rfl) | (simp [*, bA, bB] <;> rfl), by repeat (first | (with_reducible first | exact HB.out | apply au | apply ah | apply ak) | exact HB.out)⟩
      ·replace c7 := Bool.eq_false_iff.mpr c7
       subst c7
       have H1 : (bQ.l0 k1 l0 a1 (l0.length : Int) (wrap64 (x8_1 + 1))) = some r := by rw [if_neg (show ¬ (false = true) by decide)] at H; exact H
       clear H
       have H := H1
       clear H1
       have H' := aj.mk H
       clear H
       have p321 : 0 ≤ (x8_1 : Int) := of_decide_eq_true (by first | (with_reducible assumption) | assumption)
       have q321 : x8_1 < (l0.length : Int) := of_decide_eq_true (by first | (with_reducible assumption) | assumption)
       obtain ⟨ad321, e321, hx321_0⟩ := Kd.jX HR0.out x8_1 p321 q321
       cases e321
       try replace hx321_0 := (HB.out.cell (World.block_lt_of_cell? w _ hx321_0)).trans hx321_0
       replace p321 := eq_true p321
       replace q321 := eq_true q321
       go_wp2_with (first | (refine (HPP.out k1 (rd l0 x8_1) false _ (by repeat (first | (with_reducible first | exact HB.out | apply au | apply ah | apply ak) | exact HB.out)) A6.out).mono ?_; rintro e w9 ⟨rfl, hb⟩; have n0_ := aj.mk (aY (by repeat (first | (with_reducible first | exact HB.out | apply au | apply ah | apply ak) | exact HB.out)) hb); clear HB; have HB := n0_; clear n0_; (try clear hb); (try clear hb2); (try clear hk); (try clear hi)))
       go_roundg k1
       case measure => have := HK1.out; omega
       case rel => exact ⟨(wrap64 (x8_1 + 1)), (by first | rfl | (simp; done) | (simp [*]; done)), H', ⟨by have := HK1.out; omega⟩, ⟨by repeat (first | (with_reducible first | exact HB.out | apply au | apply ah | apply ak) | exact HB.out)⟩⟩
     ·rw [if_neg c5] at H
      exact absurd H (by simp)
    ·rw [if_neg c4] at H
     exact absurd H (by simp)
   ·rw [if_neg c3] at H
    have c3b0 : decide (x8_1 < (l0.length : Int)) = false := decide_eq_false c3
    clear c3
    obtain rfl := Option.some.inj H
    go_wp2
    go_ret
    exact ⟨by first | rfl | (simp [bA, bB] <;> rfl) | (simp [*, bA, bB] <;> rfl), by repeat (first | (with_reducible first | exact HB.out | apply au | apply ah | apply ak) | exact HB.out)⟩
def dY.f (k : Nat) (l0 : List Int) (a1 : (Nat → Int → Option Bool)) : Option (Bool) := (bQ.f k l0 a1).bind fun t323 => (some (decide (t323 ≥ 0)))
set_option maxHeartbeats 8000000 in
set_option maxRecDepth 100000 in
theorem dY.calls (k : Nat) (A0 : Option Addr) (c0 : Nat) (l0 : List Int) (a1 : (Nat → Int → Option Bool)) (r : Bool) (w : World) (hr0 : Kd.C (Kd.int .i64) w A0 l0.length l0) (hc0 : l0.length ≤ c0) (h : dY.f k l0 a1 = some r) (g : FuncId) (lb : Array Value) (eg : ∀ args w, (callFunc g args).run Try.prog w = .ok (.enter g args) w) (hp : ∀ (j : Nat) (s : Int) (b : Bool) (W : World), Below w.heap.size w W → a1 j s = some b → Calls Try.prog g (#[.int .i64 s] ++ lb) W fun e w' => e = .returned (.bool b) ∧ Below W.heap.size W w') :
  Calls Try.prog 66 #[.slice A0 l0.length c0, .func (.func g) #[] lb] w fun e w' => e = .returned (.bool r) ∧ Below w.heap.size w w' := by
 have HR0 := aj.mk hr0
 have HC0 := aj.mk hc0
 clear hr0 hc0
 have HB := aj.mk (Below.refl w.heap.size w)
 have HPP := aj.mk hp
 clear hp
 have H : ((bQ.f k l0 a1).bind fun t323 => (some (decide (t323 ≥ 0)))) = some r := h
 clear h
 replace H := Option.bind_eq_some_iff.mp H
 obtain ⟨t323, A30, H⟩ := H
 replace H : (some (decide (t323 ≥ 0))) = some r := H
 have A3 := aj.mk A30
 clear A30
 obtain rfl := Option.some.inj H
 go_enter Try.func66, Try.ntmps66
 go_wp2_with (first | ((with_reducible refine bq (f := 123) rfl ?_); refine bT (some 7) rfl rfl Try.func123 (by kernel_rfl) rfl #[.slice A0 l0.length c0, .func (.func g) #[] lb] rfl (by (try simp only [List.map_toArray, List.map_cons, List.map_nil]); first | done | rfl | (simp only [List.length_drop, List.length_take]; rfl)) ?_; (with_reducible refine (bQ.calls k _ _ l0 a1 t323 _ ?side1 ?side2 A3.out g lb eg (fun j s b W' hb_ h_ => HPP.out j s b W' (aY (by repeat (first | (with_reducible first | exact HB.out | apply au | apply ah | apply ak) | exact HB.out)) hb_) h_)).mono ?_); (case side1 => repeat (first | exact HR0.out | (with_reducible refine Kd.bU ?_ _) | (with_reducible refine Kd.bV ?_ _) | (with_reducible refine Kd.cB ?_))); (case side2 => exact HC0.out); rintro e w4 ⟨rfl, hb⟩; refine ⟨_, rfl, ?_⟩; have n0_ := aj.mk (aY (by repeat (first | (with_reducible first | exact HB.out | apply au | apply ah | apply ak) | exact HB.out)) hb); clear HB; have HB := n0_; clear n0_; (try clear hb); (try clear hb2); (try clear hk); (try clear hi)))
 go_ret
 exact ⟨by first | rfl | (simp [bA, bB] <;> rfl) | (simp [*, bA, bB] <;> rfl), by repeat (first | (with_reducible first | exact HB.out | apply au | apply ah | apply ak) | exact HB.out)⟩
def bL.f (k : Nat) (l0 : List (S31)) (a1 : ByteArray) (a2 : ByteArray) : Option (Bool) := (cu.f k l0 a1).bind fun t => dY.f k t (fun j n => cO.f j l0 a2 n)
theorem qF (P : Program) (fn : Fn) (first cap : Array Value) (w : World) : (Instr.makeFunc fn first cap).run P w = .ok (.func fn first cap) w := rfl
attribute [local go_sem] qF
set_option maxHeartbeats 8000000 in
set_option maxRecDepth 100000 in
theorem bL.closure (j : Nat) (A0 : Option Addr) (c0 : Nat) (l0 : List (S31)) (a2 : ByteArray) (s : Int) (b : Bool) (W : World) (g0 : Nat) (g1 : Nat) (h0 : W.heap[g0]? = some (.cells #[.slice A0 l0.length c0] 27 (0, 0))) (h1 : W.heap[g1]? = some (.cells #[.string a2] 9 (0, 0))) (hr0 : Kd.C k31 W A0 l0.length l0) (hc0 : l0.length ≤ c0) (h : cO.f j l0 a2 s = some b) :
  Calls Try.prog 67 #[.int .i64 s, .pointer (some ⟨g0, 0, none⟩), .pointer (some ⟨g1, 0, none⟩)] W fun e w' => e = .returned (.bool b) ∧ Below W.heap.size W w' := by
 have hcz0_0 : W.cell? ⟨g0, 0, none⟩ = some (.slice A0 l0.length c0) := (aT h0 0).trans rfl
 have hfz0_0 := bG h0 0
 have hcz1_0 : W.cell? ⟨g1, 0, none⟩ = some (.string a2) := (aT h1 0).trans rfl
 have hfz1_0 := bG h1 0
 go_enter Try.func67, Try.ntmps67
 go_wp2_with (first | ((with_reducible refine bq (f := 22) rfl ?_); refine bT _ rfl rfl Try.func22 (by kernel_rfl) rfl #[.slice A0 l0.length c0, .string a2, .int .i64 s] rfl (by (try simp only [List.map_toArray, List.map_cons, List.map_nil]); first | done | rfl | (simp only [List.length_drop, List.length_take]; rfl)) ?_; refine (cO.calls j _ _ l0 a2 s b _ hr0 hc0 h).mono ?_; rintro e w_ ⟨rfl, hb⟩; refine ⟨_, rfl, ?_⟩; skip))
 go_ret
 exact ⟨rfl, hb⟩
set_option maxHeartbeats 8000000 in
set_option maxRecDepth 100000 in
theorem bL.calls (k : Nat) (A0 : Option Addr) (c0 : Nat) (l0 : List (S31)) (a1 : ByteArray) (a2 : ByteArray) (r : Bool) (w : World) (hr0 : Kd.C k31 w A0 l0.length l0) (hc0 : l0.length ≤ c0) (h : bL.f k l0 a1 a2 = some r) :
  Calls Try.prog 23 #[.slice A0 l0.length c0, .string a1, .string a2] w fun e w' => e = .returned (.bool r) ∧ Below w.heap.size w w' := by
 obtain ⟨t, h1, h2⟩ := Option.bind_eq_some_iff.mp h
 have HR0 := aj.mk hr0
 have HC0 := aj.mk hc0
 have H1 := aj.mk h1
 have H2 := aj.mk h2
 have HB := aj.mk (Below.refl w.heap.size w)
 clear hr0 hc0 h h1 h2
 go_enter Try.func23, Try.ntmps23
 go_wp2_with (first | ((with_reducible refine dz (N := 3) rfl ?_); refine dD ?hg (N := 3) ?hd (cs := #[.slice A0 l0.length c0]) (t := 27) ?hr ?_; (case hd => rfl); (case hg => rfl); (case hr => first | (go_simp; done) | (go_simp; rfl)); intro gb3 hg w3 hbox hb; have n0_ := aj.mk (aY (by repeat (first | (with_reducible first | exact HB.out | apply au | apply ah | apply ak) | exact HB.out)) hb); have n1_ := aj.mk (hbox); clear HB; have HB := n0_; have BK3 := n1_; clear n0_ n1_; clear hb hbox hg) | ((with_reducible refine dz (N := 5) rfl ?_); refine dD ?hg (N := 5) ?hd (cs := #[.string a2]) (t := 9) ?hr ?_; (case hd => rfl); (case hg => rfl); (case hr => first | (go_simp; done) | (go_simp; rfl)); intro gb5 hg w5 hbox hb; have n0_ := aj.mk (aY (by repeat (first | (with_reducible first | exact HB.out | apply au | apply ah | apply ak) | exact HB.out)) hb); have n1_ := aj.mk (hbox); have n2_ := aj.mk (bI (g := gb3) (o := .cells #[.slice A0 l0.length c0] 27 (0, 0)) (by (with_reducible repeat (first | refine aA ?_ _ | refine aD ?_ | refine aC ?_ _)); exact BK3.out) hb); clear HB; have HB := n0_; have BK5 := n1_; clear n0_ n1_; clear BK3; have BK3 := n2_; clear n2_; clear hb hbox hg; have hcz3_5 : w5.cell? ⟨gb3, 0, none⟩ = some (.slice A0 l0.length c0) := (aT BK3.out 0).trans rfl; have hfz3_5 := bG BK3.out 0) | ((with_reducible refine bq (f := 25) rfl ?_); refine bT _ rfl rfl Try.func25 (by kernel_rfl) rfl #[.slice A0 l0.length c0, .string a1] rfl (by (try simp only [List.map_toArray, List.map_cons, List.map_nil]); first | done | rfl | (simp only [List.length_drop, List.length_take]; rfl)) ?_; refine (cu.calls k _ _ l0 a1 t _ (Kd.dS HR0.out (by repeat (first | (with_reducible first | exact HB.out | apply au | apply ah | apply ak) | exact HB.out))) HC0.out H1.out).mono ?_; rintro e w_ ⟨v_, rfl, ho0, hb⟩; refine ⟨_, rfl, ?_⟩; have n0_ := aj.mk (Kd.cK ho0 (bf (by repeat (first | (with_reducible first | exact HB.out | apply au | apply ah | apply ak) | exact HB.out)))); have n1_ := aj.mk (aY (by repeat (first | (with_reducible first | exact HB.out | apply au | apply ah | apply ak) | exact HB.out)) hb); have n2_ := aj.mk (bI (g := gb3) (o := .cells #[.slice A0 l0.length c0] 27 (0, 0)) (by (with_reducible repeat (first | refine aA ?_ _ | refine aD ?_ | refine aC ?_ _)); exact BK3.out) hb); have n3_ := aj.mk (bI (g := gb5) (o := .cells #[.string a2] 9 (0, 0)) (by (with_reducible repeat (first | refine aA ?_ _ | refine aD ?_ | refine aC ?_ _)); exact BK5.out) hb); clear HB BK3 BK5; have HO1 := n0_; have HB := n1_; have BK3 := n2_; have BK5 := n3_; clear n0_ n1_ n2_ n3_ hb ho0; obtain ⟨Ao, co, eo⟩ := Kd.dO HO1.out; subst eo) | ((with_reducible refine bq (f := 66) rfl ?_); refine bT _ rfl rfl Try.func66 (by kernel_rfl) rfl #[.slice Ao t.length co, .func (.func 67) #[] #[.pointer (some ⟨gb3, 0, none⟩), .pointer (some ⟨gb5, 0, none⟩)]] rfl (by (try simp only [List.map_toArray, List.map_cons, List.map_nil]); first | done | rfl | (simp only [List.length_drop, List.length_take]; rfl)) ?_; refine (dY.calls k _ _ t _ r _ ((Kd.bJ (by (with_reducible repeat (first | apply Kd.aN | apply Kd.aM | apply Kd.aW)); exact HO1.out)).2.2) ((Kd.bJ HO1.out).2.1) H2.out 67 #[.pointer (some ⟨gb3, 0, none⟩), .pointer (some ⟨gb5, 0, none⟩)] (fun args w => lQ Try.func67 (by kernel_rfl) rfl args w) (fun j s b W hb_ h_ => bL.closure j A0 c0 l0 a2 s b W gb3 gb5 (bI (g := gb3) (o := .cells #[.slice A0 l0.length c0] 27 (0, 0)) (by (with_reducible repeat (first | refine aA ?_ _ | refine aD ?_ | refine aC ?_ _)); exact BK3.out) hb_) (bI (g := gb5) (o := .cells #[.string a2] 9 (0, 0)) (by (with_reducible repeat (first | refine aA ?_ _ | refine aD ?_ | refine aC ?_ _)); exact BK5.out) hb_) (Kd.dS HR0.out (aY (by repeat (first | (with_reducible first | exact HB.out | apply au | apply ah | apply ak) | exact HB.out)) hb_)) HC0.out h_)).mono ?_; rintro e w_ ⟨rfl, hb⟩; refine ⟨_, rfl, ?_⟩; have n0_ := aj.mk (aY (by repeat (first | (with_reducible first | exact HB.out | apply au | apply ah | apply ak) | exact HB.out)) hb); clear HB; have HB := n0_; clear n0_ hb))
 go_ret
 exact ⟨rfl, (by repeat (first | (with_reducible first | exact HB.out | apply au | apply ah | apply ak) | exact HB.out))⟩
def eU.f (k : Nat) (l0 : List Int) : Option ((List (S31)) × ByteArray × ByteArray) := (dH.f k l0).bind fun bt324 => ((eH.f k bt324.1 bt324.2.1 bt324.2.2).bind fun bt328 => ((dn.f bt324.1 bt328.2.1 bt328.2.2).bind fun bt333 => ((dn.f bt324.1 bt333.2.1 bt333.2.2).bind fun bt336 => (some (bt328.1, bt333.1, bt336.1)))))
set_option maxHeartbeats 8000000 in
set_option maxRecDepth 100000 in
theorem eU.calls (k : Nat) (A0 : Option Addr) (c0 : Nat) (l0 : List Int) (r1 : List (S31)) (r2 : ByteArray) (r3 : ByteArray) (w : World) (hr0 : Kd.C (Kd.int .u8) w A0 l0.length l0) (hc0 : l0.length ≤ c0) (h : eU.f k l0 = some (r1, r2, r3)) :
  Calls Try.prog 24 #[.slice A0 l0.length c0] w fun e w' => ∃ v0_ : Value, e = .returned (.tuple #[v0_, .string r2, .string r3]) ∧ Kd.R k31 31 w' w.heap.size (fun _ => True) v0_ r1 ∧ Below w.heap.size w w' := by
 have HR0 := aj.mk hr0
 have HC0 := aj.mk hc0
 clear hr0 hc0
 have HB := aj.mk (Below.refl w.heap.size w)
 have H : ((dH.f k l0).bind fun bt324 => ((eH.f k bt324.1 bt324.2.1 bt324.2.2).bind fun bt328 => ((dn.f bt324.1 bt328.2.1 bt328.2.2).bind fun bt333 => ((dn.f bt324.1 bt333.2.1 bt333.2.2).bind fun bt336 => (some (bt328.1, bt333.1, bt336.1)))))) = some (r1, r2, r3) := h
 clear h
 replace H := Option.bind_eq_some_iff.mp H
 obtain ⟨⟨t324, t325, t326⟩, A20, H⟩ := H
 replace H : ((eH.f k t324 t325 t326).bind fun bt328 => ((dn.f t324 bt328.2.1 bt328.2.2).bind fun bt333 => ((dn.f t324 bt333.2.1 bt333.2.2).bind fun bt336 => (some (bt328.1, bt333.1, bt336.1))))) = some (r1, r2, r3) := H
 have A2 := aj.mk A20
 clear A20
 replace H := Option.bind_eq_some_iff.mp H
 obtain ⟨⟨t328, t331, t332⟩, A30, H⟩ := H
 replace H : ((dn.f t324 t331 t332).bind fun bt333 => ((dn.f t324 bt333.2.1 bt333.2.2).bind fun bt336 => (some (t328, bt333.1, bt336.1)))) = some (r1, r2, r3) := H
 have A3 := aj.mk A30
 clear A30
 replace H := Option.bind_eq_some_iff.mp H
 obtain ⟨⟨t333, t334, t335⟩, A40, H⟩ := H
 replace H : ((dn.f t324 t334 t335).bind fun bt336 => (some (t328, t333, bt336.1))) = some (r1, r2, r3) := H
 have A4 := aj.mk A40
 clear A40
 replace H := Option.bind_eq_some_iff.mp H
 obtain ⟨⟨t336, t337, t338⟩, A50, H⟩ := H
 replace H : (some (t328, t333, t336)) = some (r1, r2, r3) := H
 have A5 := aj.mk A50
 clear A50
 simp only [Option.some.injEq, Prod.mk.injEq] at H
 obtain ⟨rfl, rfl, rfl⟩ := H
 go_enter Try.func24, Try.ntmps24
 go_wp2_with (first | ((with_reducible refine bq (f := 60) rfl ?_); refine bT (some 9) rfl rfl Try.func60 (by kernel_rfl) rfl #[.slice A0 l0.length c0] rfl (by (try simp only [List.map_toArray, List.map_cons, List.map_nil]); first | done | rfl | (simp only [List.length_drop, List.length_take]; rfl)) ?_; (with_reducible refine (dH.calls k _ _ l0 t324 t325 t326 w _ ?side1 ?side2 ?side3 A2.out).mono ?_); (case side1 => repeat (first | (with_reducible first | exact HB.out | apply au | apply ah | apply ak) | exact HB.out)); (case side2 => exact HR0.out); (case side3 => exact HC0.out); rintro e w6 ⟨g327, rfl, hi, hb, hb2⟩; refine ⟨_, rfl, ?_⟩; have n0_ := aj.mk (hb); have n1_ := aj.mk (hi); clear HB; have HB := n0_; have HI327 := n1_; clear n0_ n1_; (try clear hb); (try clear hb2); (try clear hk); (try clear hi)) | ((with_reducible refine bq (f := 61) rfl ?_); refine bT (some 11) rfl rfl Try.func61 (by kernel_rfl) rfl #[.pointer (some ⟨g327, 0, none⟩)] rfl (by (try simp only [List.map_toArray, List.map_cons, List.map_nil]); first | done | rfl | (simp only [List.length_drop, List.length_take]; rfl)) ?_; (with_reducible refine (eH.calls k g327 t324 t325 t326 t328 t331 t332 w _ ?side1 ?side2 A3.out).mono ?_); (case side1 => repeat (first | (with_reducible first | exact HI327.out | apply av.alloc | apply av.drewN | apply av.drew | apply av.bX | apply av.bW) | exact HI327.out)); (case side2 => repeat (first | (with_reducible first | exact HB.out | apply au | apply ah | apply ak | refine ay ?_ (av.ge HI327.out)) | exact HB.out)); rintro e w7 ⟨v329, rfl, ho0, hi, hb, hk⟩; refine ⟨_, rfl, ?_⟩; have n0_ := aj.mk (Kd.cK ho0 (bf (by repeat (first | (with_reducible first | exact HB.out | apply au | apply ah | apply ak | refine ay ?_ (av.ge HI327.out)) | exact HB.out)))); have n1_ := aj.mk (hb); have n2_ := aj.mk (hi); clear HB; clear HI327; have HO330 := n0_; have HB := n1_; have HI327 := n2_; clear n0_ n1_ n2_; (try clear hb); (try clear hb2); (try clear hk); (try clear hi); (try clear ho0)) | ((with_reducible refine bq (f := 62) rfl ?_); refine bT (some 13) rfl rfl Try.func62 (by kernel_rfl) rfl #[.pointer (some ⟨g327, 0, none⟩)] rfl (by (try simp only [List.map_toArray, List.map_cons, List.map_nil]); first | done | rfl | (simp only [List.length_drop, List.length_take]; rfl)) ?_; (with_reducible refine (dn.calls g327 t324 t331 t332 t333 t334 t335 w _ ?side1 ?side2 A4.out).mono ?_); (case side1 => repeat (first | (with_reducible first | exact HI327.out | apply av.alloc | apply av.drewN | apply av.drew | apply av.bX | apply av.bW) | exact HI327.out)); (case side2 => repeat (first | (with_reducible first | exact HB.out | apply au | apply ah | apply ak | refine ay ?_ (av.ge HI327.out)) | exact HB.out)); rintro e w8 ⟨rfl, hi, hb, hk⟩; refine ⟨_, rfl, ?_⟩; have n0_ := aj.mk (Kd.bO (Kd.eP (av.apart (show av w _ g327 t324 t331 t332 from by repeat (first | (with_reducible first | exact HI327.out | apply av.alloc | apply av.drewN | apply av.drew | apply av.bX | apply av.bW) | exact HI327.out)) (by (with_reducible repeat (first | apply Kd.aN | apply Kd.aM | apply Kd.aW)); exact HO330.out) (by decide)) hk (fun _ h => h.2)) (fun _ h => h.1)); have n1_ := aj.mk (hb); have n2_ := aj.mk (hi); clear HO330; clear HB; clear HI327; have HO330 := n0_; have HB := n1_; have HI327 := n2_; clear n0_ n1_ n2_; (try clear hb); (try clear hb2); (try clear hk); (try clear hi)) | ((with_reducible refine bq (f := 62) rfl ?_); refine bT (some 17) rfl rfl Try.func62 (by kernel_rfl) rfl #[.pointer (some ⟨g327, 0, none⟩)] rfl (by (try simp only [List.map_toArray, List.map_cons, List.map_nil]); first | done | rfl | (simp only [List.length_drop, List.length_take]; rfl)) ?_; (with_reducible refine (dn.calls g327 t324 t334 t335 t336 t337 t338 w _ ?side1 ?side2 A5.out).mono ?_); (case side1 => repeat (first | (with_reducible first | exact HI327.out | apply av.alloc | apply av.drewN | apply av.drew | apply av.bX | apply av.bW) | exact HI327.out)); (case side2 => repeat (first | (with_reducible first | exact HB.out | apply au | apply ah | apply ak | refine ay ?_ (av.ge HI327.out)) | exact HB.out)); rintro e w9 ⟨rfl, hi, hb, hk⟩; refine ⟨_, rfl, ?_⟩; have n0_ := aj.mk (Kd.bO (Kd.eP (av.apart (show av w _ g327 t324 t334 t335 from by repeat (first | (with_reducible first | exact HI327.out | apply av.alloc | apply av.drewN | apply av.drew | apply av.bX | apply av.bW) | exact HI327.out)) (by (with_reducible repeat (first | apply Kd.aN | apply Kd.aM | apply Kd.aW)); exact HO330.out) (by decide)) hk (fun _ h => h.2)) (fun _ h => h.1)); have n1_ := aj.mk (hb); have n2_ := aj.mk (hi); clear HO330; clear HB; clear HI327; have HO330 := n0_; have HB := n1_; have HI327 := n2_; clear n0_ n1_ n2_; (try clear hb); (try clear hb2); (try clear hk); (try clear hi)))
 go_ret3
 exact ⟨_, by first | rfl | (simp [bA, bB] <;> rfl) | (simp [*, bA, bB] <;> rfl), by (with_reducible repeat (first | apply Kd.aN | apply Kd.aM | apply Kd.aW)); exact HO330.out, by repeat (first | (with_reducible first | exact HB.out | apply au | apply ah | apply ak | refine ay ?_ (av.ge HI327.out)) | exact HB.out)⟩
def eX.f (k : Nat) (l0 : List Int) : Option ((List (S31)) × ByteArray × Int) := (dH.f k l0).bind fun bt339 => ((eH.f k bt339.1 bt339.2.1 bt339.2.2).bind fun bt343 => ((dn.f bt339.1 bt343.2.1 bt343.2.2).bind fun bt348 => ((bM.f bt339.1 bt348.2.1 bt348.2.2 5).bind fun bt351 => (some (bt343.1, bt348.1, wrap64 (1 + bt351.1))))))
set_option maxHeartbeats 8000000 in
set_option maxRecDepth 100000 in
theorem eX.calls (k : Nat) (A0 : Option Addr) (c0 : Nat) (l0 : List Int) (r1 : List (S31)) (r2 : ByteArray) (r3 : Int) (w : World) (hr0 : Kd.C (Kd.int .u8) w A0 l0.length l0) (hc0 : l0.length ≤ c0) (h : eX.f k l0 = some (r1, r2, r3)) :
  Calls Try.prog 68 #[.slice A0 l0.length c0] w fun e w' => ∃ v0_ : Value, e = .returned (.tuple #[v0_, .string r2, .int .i64 r3]) ∧ Kd.R k31 31 w' w.heap.size (fun _ => True) v0_ r1 ∧ Below w.heap.size w w' := by
 have HR0 := aj.mk hr0
 have HC0 := aj.mk hc0
 clear hr0 hc0
 have HB := aj.mk (Below.refl w.heap.size w)
 have H : ((dH.f k l0).bind fun bt339 => ((eH.f k bt339.1 bt339.2.1 bt339.2.2).bind fun bt343 => ((dn.f bt339.1 bt343.2.1 bt343.2.2).bind fun bt348 => ((bM.f bt339.1 bt348.2.1 bt348.2.2 5).bind fun bt351 => (some (bt343.1, bt348.1, wrap64 (1 + bt351.1))))))) = some (r1, r2, r3) := h
 clear h
 replace H := Option.bind_eq_some_iff.mp H
 obtain ⟨⟨t339, t340, t341⟩, A20, H⟩ := H
 replace H : ((eH.f k t339 t340 t341).bind fun bt343 => ((dn.f t339 bt343.2.1 bt343.2.2).bind fun bt348 => ((bM.f t339 bt348.2.1 bt348.2.2 5).bind fun bt351 => (some (bt343.1, bt348.1, wrap64 (1 + bt351.1)))))) = some (r1, r2, r3) := H
 have A2 := aj.mk A20
 clear A20
 replace H := Option.bind_eq_some_iff.mp H
 obtain ⟨⟨t343, t346, t347⟩, A30, H⟩ := H
 replace H : ((dn.f t339 t346 t347).bind fun bt348 => ((bM.f t339 bt348.2.1 bt348.2.2 5).bind fun bt351 => (some (t343, bt348.1, wrap64 (1 + bt351.1))))) = some (r1, r2, r3) := H
 have A3 := aj.mk A30
 clear A30
 replace H := Option.bind_eq_some_iff.mp H
 obtain ⟨⟨t348, t349, t350⟩, A40, H⟩ := H
 replace H : ((bM.f t339 t349 t350 5).bind fun bt351 => (some (t343, t348, wrap64 (1 + bt351.1)))) = some (r1, r2, r3) := H
 have A4 := aj.mk A40
 clear A40
 replace H := Option.bind_eq_some_iff.mp H
 obtain ⟨⟨t351, t352, t353⟩, A50, H⟩ := H
 replace H : (some (t343, t348, wrap64 (1 + t351))) = some (r1, r2, r3) := H
 have A5 := aj.mk A50
 clear A50
 simp only [Option.some.injEq, Prod.mk.injEq] at H
 obtain ⟨rfl, rfl, rfl⟩ := H
 go_enter Try.func68, Try.ntmps68
 go_wp2_with (first | ((with_reducible refine bq (f := 60) rfl ?_); refine bT (some 9) rfl rfl Try.func60 (by kernel_rfl) rfl #[.slice A0 l0.length c0] rfl (by (try simp only [List.map_toArray, List.map_cons, List.map_nil]); first | done | rfl | (simp only [List.length_drop, List.length_take]; rfl)) ?_; (with_reducible refine (dH.calls k _ _ l0 t339 t340 t341 w _ ?side1 ?side2 ?side3 A2.out).mono ?_); (case side1 => repeat (first | (with_reducible first | exact HB.out | apply au | apply ah | apply ak) | exact HB.out)); (case side2 => exact HR0.out); (case side3 => exact HC0.out); rintro e w6 ⟨g342, rfl, hi, hb, hb2⟩; refine ⟨_, rfl, ?_⟩; have n0_ := aj.mk (hb); have n1_ := aj.mk (hi); clear HB; have HB := n0_; have HI342 := n1_; clear n0_ n1_; (try clear hb); (try clear hb2); (try clear hk); (try clear hi)) | ((with_reducible refine bq (f := 61) rfl ?_); refine bT (some 11) rfl rfl Try.func61 (by kernel_rfl) rfl #[.pointer (some ⟨g342, 0, none⟩)] rfl (by (try simp only [List.map_toArray, List.map_cons, List.map_nil]); first | done | rfl | (simp only [List.length_drop, List.length_take]; rfl)) ?_; (with_reducible refine (eH.calls k g342 t339 t340 t341 t343 t346 t347 w _ ?side1 ?side2 A3.out).mono ?_); (case side1 => repeat (first | (with_reducible first | exact HI342.out | apply av.alloc | apply av.drewN | apply av.drew | apply av.bX | apply av.bW) | exact HI342.out)); (case side2 => repeat (first | (with_reducible first | exact HB.out | apply au | apply ah | apply ak | refine ay ?_ (av.ge HI342.out)) | exact HB.out)); rintro e w7 ⟨v344, rfl, ho0, hi, hb, hk⟩; refine ⟨_, rfl, ?_⟩; have n0_ := aj.mk (Kd.cK ho0 (bf (by repeat (first | (with_reducible first | exact HB.out | apply au | apply ah | apply ak | refine ay ?_ (av.ge HI342.out)) | exact HB.out)))); have n1_ := aj.mk (hb); have n2_ := aj.mk (hi); clear HB; clear HI342; have HO345 := n0_; have HB := n1_; have HI342 := n2_; clear n0_ n1_ n2_; (try clear hb); (try clear hb2); (try clear hk); (try clear hi); (try clear ho0)) | ((with_reducible refine bq (f := 62) rfl ?_); refine bT (some 13) rfl rfl Try.func62 (by kernel_rfl) rfl #[.pointer (some ⟨g342, 0, none⟩)] rfl (by (try simp only [List.map_toArray, List.map_cons, List.map_nil]); first | done | rfl | (simp only [List.length_drop, List.length_take]; rfl)) ?_; (with_reducible refine (dn.calls g342 t339 t346 t347 t348 t349 t350 w _ ?side1 ?side2 A4.out).mono ?_); (case side1 => repeat (first | (with_reducible first | exact HI342.out | apply av.alloc | apply av.drewN | apply av.drew | apply av.bX | apply av.bW) | exact HI342.out)); (case side2 => repeat (first | (with_reducible first | exact HB.out | apply au | apply ah | apply ak | refine ay ?_ (av.ge HI342.out)) | exact HB.out)); rintro e w8 ⟨rfl, hi, hb, hk⟩; refine ⟨_, rfl, ?_⟩; have n0_ := aj.mk (Kd.bO (Kd.eP (av.apart (show av w _ g342 t339 t346 t347 from by repeat (first | (with_reducible first | exact HI342.out | apply av.alloc | apply av.drewN | apply av.drew | apply av.bX | apply av.bW) | exact HI342.out)) (by (with_reducible repeat (first | apply Kd.aN | apply Kd.aM | apply Kd.aW)); exact HO345.out) (by decide)) hk (fun _ h => h.2)) (fun _ h => h.1)); have n1_ := aj.mk (hb); have n2_ := aj.mk (hi); clear HO345; clear HB; clear HI342; have HO345 := n0_; have HB := n1_; have HI342 := n2_; clear n0_ n1_ n2_; (try clear hb); (try clear hb2); (try clear hk); (try clear hi)) | ((with_reducible refine bq (f := 118) rfl ?_); refine bT (some 17) rfl rfl Try.func118 (by kernel_rfl) rfl #[.pointer (some ⟨g342, 0, none⟩), .int .i64 5] rfl (by (try simp only [List.map_toArray, List.map_cons, List.map_nil]); first | done | rfl | (simp only [List.length_drop, List.length_take]; rfl)) ?_; (with_reducible refine (bM.calls g342 t339 t349 t350 5 t351 t352 t353 w _ ?side1 ?side2 A5.out).mono ?_); (case side1 => repeat (first | (with_reducible first | exact HI342.out | apply av.alloc | apply av.drewN | apply av.drew | apply av.bX | apply av.bW) | exact HI342.out)); (case side2 => repeat (first | (with_reducible first | exact HB.out | apply au | apply ah | apply ak | refine ay ?_ (av.ge HI342.out)) | exact HB.out)); rintro e w9 ⟨rfl, hi, hb, hk⟩; refine ⟨_, rfl, ?_⟩; have n0_ := aj.mk (Kd.bO (Kd.eP (av.apart (show av w _ g342 t339 t349 t350 from by repeat (first | (with_reducible first | exact HI342.out | apply av.alloc | apply av.drewN | apply av.drew | apply av.bX | apply av.bW) | exact HI342.out)) (by (with_reducible repeat (first | apply Kd.aN | apply Kd.aM | apply Kd.aW)); exact HO345.out) (by decide)) hk (fun _ h => h.2)) (fun _ h => h.1)); have n1_ := aj.mk (hb); have n2_ := aj.mk (hi); clear HO345; clear HB; clear HI342; have HO345 := n0_; have HB := n1_; have HI342 := n2_; clear n0_ n1_ n2_; (try clear hb); (try clear hb2); (try clear hk); (try clear hi)))
 go_ret3
 exact ⟨_, by first | rfl | (simp [bA, bB] <;> rfl) | (simp [*, bA, bB] <;> rfl), by (with_reducible repeat (first | apply Kd.aN | apply Kd.aM | apply Kd.aW)); exact HO345.out, by repeat (first | (with_reducible first | exact HB.out | apply au | apply ah | apply ak | refine ay ?_ (av.ge HI342.out)) | exact HB.out)⟩
def dI.l0 : Nat → List ByteArray → Int → List Int → Int → Int → Option (List ByteArray × Int × Int)
 | 0, _, _, _, _, _ => none
 | k + 1, x3, x4, x1000, x1001, x1002 => if x4 > 0 then ((dn.f x1000 x1001 x1002).bind fun bt360 => (if x3.length < 8796093022208 then (dI.l0 k (x3 ++ [bt360.1]) (wrap64 (x4 - 1)) x1000 bt360.2.1 bt360.2.2) else (none))) else (some (x3, x1001, x1002))
def dI.f (k : Nat) (s0_0 : List Int) (s0_1 : Int) (s0_2 : Int) : Option (List ByteArray × Int × Int) := (bM.f s0_0 s0_1 s0_2 6).bind fun bt357 => (dI.l0 k (([] : List ByteArray)) bt357.1 s0_0 bt357.2.1 bt357.2.2)
set_option maxHeartbeats 8000000 in
set_option maxRecDepth 100000 in
theorem dI.calls (k : Nat) (g : Nat) (s0_0 : List Int) (s0_1 : Int) (s0_2 : Int) (r1 : List ByteArray) (r2 : Int) (r3 : Int) (w0 w : World) (hI : av w0 w g s0_0 s0_1 s0_2) (hB : Below w0.heap.size w0 w) (h : dI.f k s0_0 s0_1 s0_2 = some (r1, r2, r3)) :
  Calls Try.prog 71 #[.pointer (some ⟨g, 0, none⟩)] w fun e w' => ∃ v0_ : Value, e = .returned (v0_) ∧ Kd.R Kd.string 9 w' w.heap.size (fun _ => True) v0_ r1 ∧ av w0 w' g s0_0 r2 r3 ∧ Below w0.heap.size w0 w' ∧ bn w w' g none := by
 have HI0 := aj.mk hI
 have HK := aj.mk (bn.refl w g none)
 have HL := aj.mk hB.size
 clear hI
 have HW0 := aj.mk hB.size
 have HB := aj.mk hB
 clear hB
 have H : ((bM.f s0_0 s0_1 s0_2 6).bind fun bt357 => (dI.l0 k (([] : List ByteArray)) bt357.1 s0_0 bt357.2.1 bt357.2.2)) = some (r1, r2, r3) := h
 clear h
 obtain ⟨y354, hy354⟩ : ∃ y_ : List ByteArray, y_ = (([] : List ByteArray)) := ⟨_, rfl⟩
 replace H : ((bM.f s0_0 s0_1 s0_2 6).bind fun bt357 => (dI.l0 k y354 bt357.1 s0_0 bt357.2.1 bt357.2.2)) = some (r1, r2, r3) := by first | (rw [hy354]; with_reducible exact H) | (have H2_ := (Option.bind_some _ _).symm.trans H; rw [hy354]; with_reducible exact H2_) | (have H2_ := (Option.bind_some _ _).symm.trans H; with_reducible exact H2_) | with_reducible exact H | (rw [hy354]; exact H) | exact H
 have Ny354 := aj.mk hy354
 clear hy354
 replace H := Option.bind_eq_some_iff.mp H
 obtain ⟨⟨t357, t358, t359⟩, A20, H⟩ := H
 replace H : (dI.l0 k y354 t357 s0_0 t358 t359) = some (r1, r2, r3) := H
 have A2 := aj.mk A20
 clear A20
 have H' := aj.mk H
 clear H
 go_enter Try.func71, Try.ntmps71
 go_wp2_with (first | ((with_reducible refine dz (N := 5) rfl ?_); refine Kd.kY Kd.string _ 9 ?hg (N := 5) ?hd (xs := ([] : List ByteArray)) (inner := []) (ok := fun _ => True) (okp := fun _ => True) ?hr ?hp (fun _ hk => hk) trivial (Below.refl _ _) (Nat.le_refl _) (by simp) ?_; (case hd => rfl); (case hg => rfl); (case hr => first | (go_simp; done) | (go_simp; rfl)); (case hp => exact (bZ.none _ _)); intro v355 w3 ho4 hb hg_ hnew_; clear hg_ hnew_; (first | rw [← Ny354.out] at ho4 | (simp only [Int.reduceToNat] at ho4; rw [← Ny354.out] at ho4)); have n0_ := aj.mk (Kd.cK ho4 (fI (w := w) (g := g) (row := none) (by repeat (first | (with_reducible first | exact HK.out | apply bn.dX | apply bF | apply bH | apply bE) | exact HK.out)))); have n1_ := aj.mk (av.below (by repeat (first | (with_reducible first | exact HI0.out | apply av.alloc | apply av.drewN | apply av.drew | apply av.bX | apply av.bW) | exact HI0.out)) hb); have n2_ := aj.mk (bn.trans (by repeat (first | (with_reducible first | exact HK.out | apply bn.dX | apply bF | apply bH | apply bE) | exact HK.out)) (bn.of_below hb g none) (.inl rfl)); have n3_ := aj.mk (aY (by repeat (first | (with_reducible first | exact HB.out | apply au | apply ah | apply ak | refine ay ?_ (av.ge HI0.out)) | exact HB.out)) hb); clear HI0; clear HK; clear HB; have HO356 := n0_; have HI0 := n1_; have HK := n2_; have HB := n3_; clear n0_ n1_ n2_ n3_; clear hb ho4) | ((with_reducible refine bq (f := 118) rfl ?_); refine bT (some 7) rfl rfl Try.func118 (by kernel_rfl) rfl #[.pointer (some ⟨g, 0, none⟩), .int .i64 6] rfl (by (try simp only [List.map_toArray, List.map_cons, List.map_nil]); first | done | rfl | (simp only [List.length_drop, List.length_take]; rfl)) ?_; (with_reducible refine (bM.calls g s0_0 s0_1 s0_2 6 t357 t358 t359 w0 _ ?side1 ?side2 A2.out).mono ?_); (case side1 => repeat (first | (with_reducible first | exact HI0.out | apply av.alloc | apply av.drewN | apply av.drew | apply av.bX | apply av.bW) | exact HI0.out)); (case side2 => repeat (first | (with_reducible first | exact HB.out | apply au | apply ah | apply ak | refine ay ?_ (av.ge HI0.out)) | exact HB.out)); rintro e w5 ⟨rfl, hi, hb, hk⟩; refine ⟨_, rfl, ?_⟩; have n0_ := aj.mk (Kd.bO (Kd.eP (av.apart (show av w0 _ g s0_0 s0_1 s0_2 from by repeat (first | (with_reducible first | exact HI0.out | apply av.alloc | apply av.drewN | apply av.drew | apply av.bX | apply av.bW) | exact HI0.out)) (by (with_reducible repeat (first | apply Kd.aN | apply Kd.aM | apply Kd.aW)); exact HO356.out) (by decide)) hk (fun _ h => h.2)) (fun _ h => h.1)); have n1_ := aj.mk (bn.trans (by repeat (first | (with_reducible first | exact HK.out | apply bn.dX | apply bF | apply bH | apply bE) | exact HK.out)) hk (.inl rfl)); have n2_ := aj.mk (hb); have n3_ := aj.mk (hi); clear HO356; clear HK; clear HB; clear HI0; have HO356 := n0_; have HK := n1_; have HB := n2_; have HI0 := n3_; clear n0_ n1_ n2_ n3_; (try clear hb); (try clear hb2); (try clear hk); (try clear hi)))
 go_loopg [3, 4] k (fun kq v3 v4 w' => ∃ (x3_1 : List ByteArray) (x4_1 : Int) (x1001_1 : Int) (x1002_1 : Int), v4 = .int .i64 x4_1 ∧ aj (dI.l0 kq x3_1 x4_1 s0_0 x1001_1 x1002_1 = some (r1, r2, r3)) ∧ aj (kq ≤ k) ∧ aj (Kd.R Kd.string 9 w' w.heap.size (fun _ => True) v3 x3_1) ∧ aj (av w0 w' g s0_0 x1001_1 x1002_1) ∧ aj (bn w w' g none) ∧ aj (Below w0.heap.size w0 w'))
 case atStart => exact ⟨(y354), (t357), (t358), (t359), (by first | rfl | (simp; done) | (simp [*]; done)), H', ⟨Nat.le_refl _⟩, ⟨by (with_reducible repeat (first | apply Kd.aN | apply Kd.aM | apply Kd.aW)); exact HO356.out⟩, ⟨by repeat (first | (with_reducible first | exact HI0.out | apply av.alloc | apply av.drewN | apply av.drew | apply av.bX | apply av.bW) | exact HI0.out)⟩, ⟨by repeat (first | (with_reducible first | exact HK.out | apply bn.dX | apply bF | apply bH | apply bE) | exact HK.out)⟩, ⟨by repeat (first | (with_reducible first | exact HB.out | apply au | apply ah | apply ak | refine ay ?_ (av.ge HI0.out)) | exact HB.out)⟩⟩
 case round =>
  clear H'
  obtain ⟨x3_1, x4_1, x1001_1, x1002_1, rfl, HA, HK1, HO_3, HI0, HK, HB⟩ := hrel
  cases gk with
  | zero => exact absurd HA.out (by simp [dI.l0])
  | succ k1 =>
   have H := HA.out
   clear HA
   simp only [dI.l0] at H
   by_cases c6 : x4_1 > 0
   ·rw [if_pos c6] at H
    have c6b0 : decide (0 < x4_1) = true := decide_eq_true c6
    clear c6
    replace H := Option.bind_eq_some_iff.mp H
    obtain ⟨⟨t360, t361, t362⟩, A70, H⟩ := H
    replace H : (if x3_1.length < 8796093022208 then (dI.l0 k1 (x3_1 ++ [t360]) (wrap64 (x4_1 - 1)) s0_0 t361 t362) else (none)) = some (r1, r2, r3) := H
    have A7 := aj.mk A70
    clear A70
    by_cases c8 : x3_1.length < 8796093022208
    ·rw [if_pos c8] at H
     have LMc8 := aj.mk c8
     clear c8
     obtain ⟨y363, hy363⟩ : ∃ y_ : List ByteArray, y_ = (x3_1 ++ [t360]) := ⟨_, rfl⟩
     replace H : (dI.l0 k1 y363 (wrap64 (x4_1 - 1)) s0_0 t361 t362) = some (r1, r2, r3) := by first | (rw [hy363]; with_reducible exact H) | (have H2_ := (Option.bind_some _ _).symm.trans H; rw [hy363]; with_reducible exact H2_) | (have H2_ := (Option.bind_some _ _).symm.trans H; with_reducible exact H2_) | with_reducible exact H | (rw [hy363]; exact H) | exact H
     have Ny363 := aj.mk hy363
     clear hy363
     have H' := aj.mk H
     clear H
     go_wp2_with (first | ((with_reducible refine bq (f := 62) rfl ?_); refine bT (some 14) rfl rfl Try.func62 (by kernel_rfl) rfl #[.pointer (some ⟨g, 0, none⟩)] rfl (by (try simp only [List.map_toArray, List.map_cons, List.map_nil]); first | done | rfl | (simp only [List.length_drop, List.length_take]; rfl)) ?_; (with_reducible refine (dn.calls g s0_0 x1001_1 x1002_1 t360 t361 t362 w0 _ ?side1 ?side2 A7.out).mono ?_); (case side1 => repeat (first | (with_reducible first | exact HI0.out | apply av.alloc | apply av.drewN | apply av.drew | apply av.bX | apply av.bW) | exact HI0.out)); (case side2 => repeat (first | (with_reducible first | exact HB.out | apply au | apply ah | apply ak | refine ay ?_ (av.ge HI0.out)) | exact HB.out)); rintro e w9 ⟨rfl, hi, hb, hk⟩; refine ⟨_, rfl, ?_⟩; have n0_ := aj.mk (Kd.bO (Kd.eP (av.apart (show av w0 _ g s0_0 x1001_1 x1002_1 from by repeat (first | (with_reducible first | exact HI0.out | apply av.alloc | apply av.drewN | apply av.drew | apply av.bX | apply av.bW) | exact HI0.out)) (by (with_reducible repeat (first | apply Kd.aN | apply Kd.aM | apply Kd.aW)); exact HO_3.out) (by decide)) hk (fun _ h => h.2)) (fun _ h => h.1)); have n1_ := aj.mk (bn.trans (by repeat (first | (with_reducible first | exact HK.out | apply bn.dX | apply bF | apply bH | apply bE) | exact HK.out)) hk (.inl rfl)); have n2_ := aj.mk (hb); have n3_ := aj.mk (hi); clear HO_3; clear HK; clear HB; clear HI0; have HO_3 := n0_; have HK := n1_; have HB := n2_; have HI0 := n3_; clear n0_ n1_ n2_ n3_; (try clear hb); (try clear hb2); (try clear hk); (try clear hi)) | ((with_reducible refine gX (b := .append) (xs := #[.tmp 12, .tmp 15]) rfl ?_); at_builtin; refine Kd.j5 Kd.string w.heap.size rfl (.tmp 12) (.tmp 15) 47 9 (.string ⟨#[]⟩) 16 rfl Try.underlying47 ru rfl (by decide) (by omega) u3 x3_1 t360 [.string t360] (fun _ => True) (fun _ => False) rfl rfl ?aP (fun _ hk => hk.elim) ?aF ?aO (Below.refl _ _) ?aS ?aL ?_; (case aP => exact rfl); (case aF => exact (fun _ _ => trivial)); (case aO => exact (by (with_reducible repeat (first | apply Kd.aN | apply Kd.aM | apply Kd.aW)); exact HO_3.out)); (case aS => exact (fI (w := w) (g := g) (row := none) (by repeat (first | (with_reducible first | exact HK.out | apply bn.dX | apply bF | apply bH | apply bE) | exact HK.out)))); (case aL => have := LMc8.out; omega); intro v364 w10 ho hb hg hat; rw [← Ny363.out] at ho; have n0_ := aj.mk (av.grown (by repeat (first | (with_reducible first | exact HI0.out | apply av.alloc | apply av.drewN | apply av.drew | apply av.bX | apply av.bW) | exact HI0.out)) hg (av.own_ne HI0.out HO_3.out (by decide))); have n1_ := aj.mk (kD (by repeat (first | (with_reducible first | exact HB.out | apply au | apply ah | apply ak | refine ay ?_ (av.ge HI0.out)) | exact HB.out)) HL.out hb); have n2_ := aj.mk (bn.trans (by repeat (first | (with_reducible first | exact HK.out | apply bn.dX | apply bF | apply bH | apply bE) | exact HK.out)) (bn.ji hg g) (Kd.lN HO_3.out)); have n3_ := aj.mk (ho); clear HI0; clear HB; clear HK; clear HO_3; have HI0 := n0_; have HB := n1_; have HK := n2_; have HO365 := n3_; clear n0_ n1_ n2_ n3_; clear ho hb hg hat))
     go_roundg k1
     case measure => have := HK1.out; omega
     case rel => exact ⟨(y363), (wrap64 (x4_1 - 1)), (t361), (t362), (by first | rfl | (simp; done) | (simp [*]; done)), H', ⟨by have := HK1.out; omega⟩, ⟨by (with_reducible repeat (first | apply Kd.aN | apply Kd.aM | apply Kd.aW)); exact HO365.out⟩, ⟨by repeat (first | (with_reducible first | exact HI0.out | apply av.alloc | apply av.drewN | apply av.drew | apply av.bX | apply av.bW) | exact HI0.out)⟩, ⟨by repeat (first | (with_reducible first | exact HK.out | apply bn.dX | apply bF | apply bH | apply bE) | exact HK.out)⟩, ⟨by repeat (first | (with_reducible first | exact HB.out | apply au | apply ah | apply ak | refine ay ?_ (av.ge HI0.out)) | exact HB.out)⟩⟩
    ·rw [if_neg c8] at H
     exact absurd H (by simp)
   ·rw [if_neg c6] at H
    have c6b0 : decide (0 < x4_1) = false := decide_eq_false c6
    clear c6
    simp only [Option.some.injEq, Prod.mk.injEq] at H
    obtain ⟨rfl, rfl, rfl⟩ := H
    go_wp2
    go_ret
    exact ⟨_, by first | rfl | (simp [bA, bB] <;> rfl) | (simp [*, bA, bB] <;> rfl), by (with_reducible repeat (first | apply Kd.aN | apply Kd.aM | apply Kd.aW)); exact HO_3.out, by repeat (first | (with_reducible first | exact HI0.out | apply av.alloc | apply av.drewN | apply av.drew | apply av.bX | apply av.bW) | exact HI0.out), by repeat (first | (with_reducible first | exact HB.out | apply au | apply ah | apply ak | refine ay ?_ (av.ge HI0.out)) | exact HB.out), by repeat (first | (with_reducible first | exact HK.out | apply bn.dX | apply bF | apply bH | apply bE) | exact HK.out)⟩
def fC.f (k : Nat) (l0 : List Int) : Option ((List (S31)) × List ByteArray × Int) := (eX.f k l0).bind fun bt366 => ((dH.f k l0).bind fun bt371 => ((fA.f bt371.1 bt371.2.1 bt371.2.2 2).bind fun bt375 => (if bt375.1 = true then ((dV.f).bind fun t378 => (some (bt366.1, t378, bt366.2.2))) else ((dI.f k bt371.1 bt375.2.1 bt375.2.2).bind fun bt381 => (some (bt366.1, bt381.1, bt366.2.2))))))
set_option maxHeartbeats 8000000 in
set_option maxRecDepth 100000 in
theorem fC.calls (k : Nat) (A0 : Option Addr) (c0 : Nat) (l0 : List Int) (r1 : List (S31)) (r2 : List ByteArray) (r3 : Int) (w : World) (hr0 : Kd.C (Kd.int .u8) w A0 l0.length l0) (hc0 : l0.length ≤ c0) (h : fC.f k l0 = some (r1, r2, r3)) :
  Calls Try.prog 26 #[.slice A0 l0.length c0] w fun e w' => ∃ v0_ v1_ : Value, e = .returned (.tuple #[v0_, v1_, .int .i64 r3]) ∧ Kd.R k31 31 w' w.heap.size (fun _ => True) v0_ r1 ∧ Kd.R Kd.string 9 w' w.heap.size (fun _ => True) v1_ r2 ∧ Below w.heap.size w w' := by
 have HR0 := aj.mk hr0
 have HC0 := aj.mk hc0
 clear hr0 hc0
 have HB := aj.mk (Below.refl w.heap.size w)
 have H : ((eX.f k l0).bind fun bt366 => ((dH.f k l0).bind fun bt371 => ((fA.f bt371.1 bt371.2.1 bt371.2.2 2).bind fun bt375 => (if bt375.1 = true then ((dV.f).bind fun t378 => (some (bt366.1, t378, bt366.2.2))) else ((dI.f k bt371.1 bt375.2.1 bt375.2.2).bind fun bt381 => (some (bt366.1, bt381.1, bt366.2.2))))))) = some (r1, r2, r3) := h
 clear h
 replace H := Option.bind_eq_some_iff.mp H
 obtain ⟨⟨t366, t367, t368⟩, A20, H⟩ := H
 replace H : ((dH.f k l0).bind fun bt371 => ((fA.f bt371.1 bt371.2.1 bt371.2.2 2).bind fun bt375 => (if bt375.1 = true then ((dV.f).bind fun t378 => (some (t366, t378, t368))) else ((dI.f k bt371.1 bt375.2.1 bt375.2.2).bind fun bt381 => (some (t366, bt381.1, t368)))))) = some (r1, r2, r3) := H
 have A2 := aj.mk A20
 clear A20
 replace H := Option.bind_eq_some_iff.mp H
 obtain ⟨⟨t371, t372, t373⟩, A30, H⟩ := H
 replace H : ((fA.f t371 t372 t373 2).bind fun bt375 => (if bt375.1 = true then ((dV.f).bind fun t378 => (some (t366, t378, t368))) else ((dI.f k t371 bt375.2.1 bt375.2.2).bind fun bt381 => (some (t366, bt381.1, t368))))) = some (r1, r2, r3) := H
 have A3 := aj.mk A30
 clear A30
 replace H := Option.bind_eq_some_iff.mp H
 obtain ⟨⟨t375, t376, t377⟩, A40, H⟩ := H
 replace H : (if t375 = true then ((dV.f).bind fun t378 => (some (t366, t378, t368))) else ((dI.f k t371 t376 t377).bind fun bt381 => (some (t366, bt381.1, t368)))) = some (r1, r2, r3) := H
 have A4 := aj.mk A40
 clear A40
 by_cases c5 : t375 = true
 ·subst c5
  have H1 : ((dV.f).bind fun t378 => (some (t366, t378, t368))) = some (r1, r2, r3) := by rw [if_pos rfl] at H; exact H
  clear H
  have H := H1
  clear H1
  replace H := Option.bind_eq_some_iff.mp H
  obtain ⟨t378, A60, H⟩ := H
  replace H : (some (t366, t378, t368)) = some (r1, r2, r3) := H
  have A6 := aj.mk A60
  clear A60
  simp only [Option.some.injEq, Prod.mk.injEq] at H
  obtain ⟨rfl, rfl, rfl⟩ := H
  go_enter Try.func26, Try.ntmps26
  go_wp2_with (first | ((with_reducible refine bq (f := 68) rfl ?_); refine bT (some 11) rfl rfl Try.func68 (by kernel_rfl) rfl #[.slice A0 l0.length c0] rfl (by (try simp only [List.map_toArray, List.map_cons, List.map_nil]); first | done | rfl | (simp only [List.length_drop, List.length_take]; rfl)) ?_; (with_reducible refine (eX.calls k _ _ l0 t366 t367 t368 _ ?side1 ?side2 A2.out).mono ?_); (case side1 => repeat (first | exact HR0.out | (with_reducible refine Kd.bU ?_ _) | (with_reducible refine Kd.bV ?_ _) | (with_reducible refine Kd.cB ?_))); (case side2 => exact HC0.out); rintro e w7 ⟨v369, rfl, ho0, hb⟩; refine ⟨_, rfl, ?_⟩; have n0_ := aj.mk (Kd.cK ho0 (bf (by repeat (first | (with_reducible first | exact HB.out | apply au | apply ah | apply ak) | exact HB.out)))); have n1_ := aj.mk (aY (by repeat (first | (with_reducible first | exact HB.out | apply au | apply ah | apply ak) | exact HB.out)) hb); clear HB; have HO370 := n0_; have HB := n1_; clear n0_ n1_; (try clear hb); (try clear hb2); (try clear hk); (try clear hi); (try clear ho0)) | ((with_reducible refine bq (f := 60) rfl ?_); refine bT (some 16) rfl rfl Try.func60 (by kernel_rfl) rfl #[.slice A0 l0.length c0] rfl (by (try simp only [List.map_toArray, List.map_cons, List.map_nil]); first | done | rfl | (simp only [List.length_drop, List.length_take]; rfl)) ?_; (with_reducible refine (dH.calls k _ _ l0 t371 t372 t373 w _ ?side1 ?side2 ?side3 A3.out).mono ?_); (case side1 => repeat (first | (with_reducible first | exact HB.out | apply au | apply ah | apply ak) | exact HB.out)); (case side2 => exact HR0.out); (case side3 => exact HC0.out); rintro e w8 ⟨g374, rfl, hi, hb, hb2⟩; refine ⟨_, rfl, ?_⟩; have n0_ := aj.mk (Kd.bY (by (with_reducible repeat (first | apply Kd.aN | apply Kd.aM | apply Kd.aW)); exact HO370.out) hb2); have n1_ := aj.mk (hb); have n2_ := aj.mk (hi); clear HO370; clear HB; have HO370 := n0_; have HB := n1_; have HI374 := n2_; clear n0_ n1_ n2_; (try clear hb); (try clear hb2); (try clear hk); (try clear hi)) | ((with_reducible refine bq (f := 69) rfl ?_); refine bT (some 18) rfl rfl Try.func69 (by kernel_rfl) rfl #[.pointer (some ⟨g374, 0, none⟩), .int .i64 2] rfl (by (try simp only [List.map_toArray, List.map_cons, List.map_nil]); first | done | rfl | (simp only [List.length_drop, List.length_take]; rfl)) ?_; (with_reducible refine (fA.calls g374 t371 t372 t373 2 true t376 t377 w _ ?side1 ?side2 A4.out).mono ?_); (case side1 => repeat (first | (with_reducible first | exact HI374.out | apply av.alloc | apply av.drewN | apply av.drew | apply av.bX | apply av.bW) | exact HI374.out)); (case side2 => repeat (first | (with_reducible first | exact HB.out | apply au | apply ah | apply ak | refine ay ?_ (av.ge HI374.out)) | exact HB.out)); rintro e w9 ⟨rfl, hi, hb, hk⟩; refine ⟨_, rfl, ?_⟩; have n0_ := aj.mk (Kd.bO (Kd.eP (av.apart (show av w _ g374 t371 t372 t373 from by repeat (first | (with_reducible first | exact HI374.out | apply av.alloc | apply av.drewN | apply av.drew | apply av.bX | apply av.bW) | exact HI374.out)) (by (with_reducible repeat (first | apply Kd.aN | apply Kd.aM | apply Kd.aW)); exact HO370.out) (by decide)) hk (fun _ h => h.2)) (fun _ h => h.1)); have n1_ := aj.mk (hb); have n2_ := aj.mk (hi); clear HO370; clear HB; clear HI374; have HO370 := n0_; have HB := n1_; have HI374 := n2_; clear n0_ n1_ n2_; (try clear hb); (try clear hb2); (try clear hk); (try clear hi)) | ((with_reducible refine bq (f := 70) rfl ?_); refine bT (some 20) rfl rfl Try.func70 (by kernel_rfl) rfl #[] rfl (by (try simp only [List.map_toArray, List.map_cons, List.map_nil]); first | done | rfl | (simp only [List.length_drop, List.length_take]; rfl)) ?_; (with_reducible refine (dV.calls  t378 _ A6.out).mono ?_); rintro e w10 ⟨v379, rfl, ho0, hb⟩; refine ⟨_, rfl, ?_⟩; have n0_ := aj.mk (Kd.bY (by (with_reducible repeat (first | apply Kd.aN | apply Kd.aM | apply Kd.aW)); exact HO370.out) hb); have n1_ := aj.mk (Kd.cK ho0 (bf (by repeat (first | (with_reducible first | exact HB.out | apply au | apply ah | apply ak | refine ay ?_ (av.ge HI374.out)) | exact HB.out)))); have n2_ := aj.mk (av.below (by repeat (first | (with_reducible first | exact HI374.out | apply av.alloc | apply av.drewN | apply av.drew | apply av.bX | apply av.bW) | exact HI374.out)) hb); have n3_ := aj.mk (aY (by repeat (first | (with_reducible first | exact HB.out | apply au | apply ah | apply ak | refine ay ?_ (av.ge HI374.out)) | exact HB.out)) hb); clear HO370; clear HI374; clear HB; have HO370 := n0_; have HO380 := n1_; have HI374 := n2_; have HB := n3_; clear n0_ n1_ n2_ n3_; (try clear hb); (try clear hb2); (try clear hk); (try clear hi); (try clear ho0)))
  go_ret3
  exact ⟨_, _, by first | rfl | (simp [bA, bB] <;> rfl) | (simp [*, bA, bB] <;> rfl), by (with_reducible repeat (first | apply Kd.aN | apply Kd.aM | apply Kd.aW)); exact HO370.out, by (with_reducible repeat (first | apply Kd.aN | apply Kd.aM | apply Kd.aW)); exact HO380.out, by repeat (first | (with_reducible first | exact HB.out | apply au | apply ah | apply ak | refine ay ?_ (av.ge HI374.out)) | exact HB.out)⟩
 ·replace c5 := Bool.eq_false_iff.mpr c5
  subst c5
  have H1 : ((dI.f k t371 t376 t377).bind fun bt381 => (some (t366, bt381.1, t368))) = some (r1, r2, r3) := by rw [if_neg (show ¬ (false = true) by decide)] at H; exact H
  clear H
  have H := H1
  clear H1
  replace H := Option.bind_eq_some_iff.mp H
  obtain ⟨⟨t381, t384, t385⟩, A110, H⟩ := H
  replace H : (some (t366, t381, t368)) = some (r1, r2, r3) := H
  have A11 := aj.mk A110
  clear A110
  simp only [Option.some.injEq, Prod.mk.injEq] at H
  obtain ⟨rfl, rfl, rfl⟩ := H
  go_enter Try.func26, Try.ntmps26
  go_wp2_with (first | ((with_reducible refine bq (f := 68) rfl ?_); refine bT (some 11) rfl rfl Try.func68 (by kernel_rfl) rfl #[.slice A0 l0.length c0] rfl (by (try simp only [List.map_toArray, List.map_cons, List.map_nil]); first | done | rfl | (simp only [List.length_drop, List.length_take]; rfl)) ?_; (with_reducible refine (eX.calls k _ _ l0 t366 t367 t368 _ ?side1 ?side2 A2.out).mono ?_); (case side1 => repeat (first | exact HR0.out | (with_reducible refine Kd.bU ?_ _) | (with_reducible refine Kd.bV ?_ _) | (with_reducible refine Kd.cB ?_))); (case side2 => exact HC0.out); rintro e w12 ⟨v369, rfl, ho0, hb⟩; refine ⟨_, rfl, ?_⟩; have n0_ := aj.mk (Kd.cK ho0 (bf (by repeat (first | (with_reducible first | exact HB.out | apply au | apply ah | apply ak) | exact HB.out)))); have n1_ := aj.mk (aY (by repeat (first | (with_reducible first | exact HB.out | apply au | apply ah | apply ak) | exact HB.out)) hb); clear HB; have HO370 := n0_; have HB := n1_; clear n0_ n1_; (try clear hb); (try clear hb2); (try clear hk); (try clear hi); (try clear ho0)) | ((with_reducible refine bq (f := 60) rfl ?_); refine bT (some 16) rfl rfl Try.func60 (by kernel_rfl) rfl #[.slice A0 l0.length c0] rfl (by (try simp only [List.map_toArray, List.map_cons, List.map_nil]); first | done | rfl | (simp only [List.length_drop, List.length_take]; rfl)) ?_; (with_reducible refine (dH.calls k _ _ l0 t371 t372 t373 w _ ?side1 ?side2 ?side3 A3.out).mono ?_); (case side1 => repeat (first | (with_reducible first | exact HB.out | apply au | apply ah | apply ak) | exact HB.out)); (case side2 => exact HR0.out); (case side3 => exact HC0.out); rintro e w13 ⟨g374, rfl, hi, hb, hb2⟩; refine ⟨_, rfl, ?_⟩; have n0_ := aj.mk (Kd.bY (by (with_reducible repeat (first | apply Kd.aN | apply Kd.aM | apply Kd.aW)); exact HO370.out) hb2); have n1_ := aj.mk (hb); have n2_ := aj.mk (hi); clear HO370; clear HB; have HO370 := n0_; have HB := n1_; have HI374 := n2_; clear n0_ n1_ n2_; (try clear hb); (try clear hb2); (try clear hk); (try clear hi)) | ((with_reducible refine bq (f := 69) rfl ?_); refine bT (some 18) rfl rfl Try.func69 (by kernel_rfl) rfl #[.pointer (some ⟨g374, 0, none⟩), .int .i64 2] rfl (by (try simp only [List.map_toArray, List.map_cons, List.map_nil]); first | done | rfl | (simp only [List.length_drop, List.length_take]; rfl)) ?_; (with_reducible refine (fA.calls g374 t371 t372 t373 2 false t376 t377 w _ ?side1 ?side2 A4.out).mono ?_); (case side1 => repeat (first | (with_reducible first | exact HI374.out | apply av.alloc | apply av.drewN | apply av.drew | apply av.bX | apply av.bW) | exact HI374.out)); (case side2 => repeat (first | (with_reducible first | exact HB.out | apply au | apply ah | apply ak | refine ay ?_ (av.ge HI374.out)) | exact HB.out)); rintro e w14 ⟨rfl, hi, hb, hk⟩; refine ⟨_, rfl, ?_⟩; have n0_ := aj.mk (Kd.bO (Kd.eP (av.apart (show av w _ g374 t371 t372 t373 from by repeat (first | (with_reducible first | exact HI374.out | apply av.alloc | apply av.drewN | apply av.drew | apply av.bX | apply av.bW) | exact HI374.out)) (by (with_reducible repeat (first | apply Kd.aN | apply Kd.aM | apply Kd.aW)); exact HO370.out) (by decide)) hk (fun _ h => h.2)) (fun _ h => h.1)); have n1_ := aj.mk (hb); have n2_ := aj.mk (hi); clear HO370; clear HB; clear HI374; have HO370 := n0_; have HB := n1_; have HI374 := n2_; clear n0_ n1_ n2_; (try clear hb); (try clear hb2); (try clear hk); (try clear hi)) | ((with_reducible refine bq (f := 71) rfl ?_); refine bT (some 24) rfl rfl Try.func71 (by kernel_rfl) rfl #[.pointer (some ⟨g374, 0, none⟩)] rfl (by (try simp only [List.map_toArray, List.map_cons, List.map_nil]); first | done | rfl | (simp only [List.length_drop, List.length_take]; rfl)) ?_; (with_reducible refine (dI.calls k g374 t371 t376 t377 t381 t384 t385 w _ ?side1 ?side2 A11.out).mono ?_); (case side1 => repeat (first | (with_reducible first | exact HI374.out | apply av.alloc | apply av.drewN | apply av.drew | apply av.bX | apply av.bW) | exact HI374.out)); (case side2 => repeat (first | (with_reducible first | exact HB.out | apply au | apply ah | apply ak | refine ay ?_ (av.ge HI374.out)) | exact HB.out)); rintro e w15 ⟨v382, rfl, ho0, hi, hb, hk⟩; refine ⟨_, rfl, ?_⟩; have n0_ := aj.mk (Kd.bO (Kd.eP (av.apart (show av w _ g374 t371 t376 t377 from by repeat (first | (with_reducible first | exact HI374.out | apply av.alloc | apply av.drewN | apply av.drew | apply av.bX | apply av.bW) | exact HI374.out)) (by (with_reducible repeat (first | apply Kd.aN | apply Kd.aM | apply Kd.aW)); exact HO370.out) (by decide)) hk (fun _ h => h.2)) (fun _ h => h.1)); have n1_ := aj.mk (Kd.cK ho0 (bf (by repeat (first | (with_reducible first | exact HB.out | apply au | apply ah | apply ak | refine ay ?_ (av.ge HI374.out)) | exact HB.out)))); have n2_ := aj.mk (hb); have n3_ := aj.mk (hi); clear HO370; clear HB; clear HI374; have HO370 := n0_; have HO383 := n1_; have HB := n2_; have HI374 := n3_; clear n0_ n1_ n2_ n3_; (try clear hb); (try clear hb2); (try clear hk); (try clear hi); (try clear ho0)))
  go_ret3
  exact ⟨_, _, by first | rfl | (simp [bA, bB] <;> rfl) | (simp [*, bA, bB] <;> rfl), by (with_reducible repeat (first | apply Kd.aN | apply Kd.aM | apply Kd.aW)); exact HO370.out, by (with_reducible repeat (first | apply Kd.aN | apply Kd.aM | apply Kd.aW)); exact HO383.out, by repeat (first | (with_reducible first | exact HB.out | apply au | apply ah | apply ak | refine ay ?_ (av.ge HI374.out)) | exact HB.out)⟩
def dW.l0 : Nat → (Nat → ByteArray → Option Bool) → List ByteArray → List ByteArray → Int → Int → Option (List ByteArray)
 | 0, _, _, _, _, _ => none
 | k + 1, x1, x5, x8, x9, x10 => if x10 < x9 then (if 0 ≤ x10 then (if x10 < (x8.length : Int) then ((x1 k (fO ByteArray.empty x8 x10)).bind fun t387 => (if t387 = true then (if x5.length < 8796093022208 then (dW.l0 k x1 (x5 ++ [fO ByteArray.empty x8 x10]) x8 x9 (wrap64 (x10 + 1))) else (none)) else (dW.l0 k x1 x5 x8 x9 (wrap64 (x10 + 1))))) else (none)) else (none)) else (some x5)
def dW.f (k : Nat) (l0 : List ByteArray) (a1 : (Nat → ByteArray → Option Bool)) : Option (List ByteArray) := dW.l0 k a1 ([] : List ByteArray) l0 (l0.length : Int) 0
set_option maxHeartbeats 8000000 in
set_option maxRecDepth 100000 in
theorem dW.calls (k : Nat) (A0 : Option Addr) (c0 : Nat) (l0 : List ByteArray) (a1 : (Nat → ByteArray → Option Bool)) (r : List ByteArray) (w : World) (hr0 : Kd.C Kd.string w A0 l0.length l0) (hc0 : l0.length ≤ c0) (h : dW.f k l0 a1 = some r) (g : FuncId) (lb : Array Value) (eg : ∀ args w, (callFunc g args).run Try.prog w = .ok (.enter g args) w) (hp : ∀ (j : Nat) (s : ByteArray) (b : Bool) (W : World), Below w.heap.size w W → a1 j s = some b → Calls Try.prog g (#[.string s] ++ lb) W fun e w' => e = .returned (.bool b) ∧ Below W.heap.size W w') :
  Calls Try.prog 72 #[.slice A0 l0.length c0, .func (.func g) #[] lb] w fun e w' => ∃ v0_ : Value, e = .returned (v0_) ∧ Kd.R Kd.string 9 w' w.heap.size (fun _ => True) v0_ r ∧ Below w.heap.size w w' := by
 have HR0 := aj.mk hr0
 have HC0 := aj.mk hc0
 clear hr0 hc0
 have HB := aj.mk (Below.refl w.heap.size w)
 have HPP := aj.mk hp
 clear hp
 have H : (dW.l0 k a1 ([] : List ByteArray) l0 (l0.length : Int) 0) = some r := h
 clear h
 have H' := aj.mk H
 clear H
 go_enter Try.func72, Try.ntmps72
 go_wp2
 go_loopg [5, 10] k (fun kq v5 v10 w' => ∃ (x5_1 : List ByteArray) (x10_1 : Int), v10 = .int .i64 x10_1 ∧ aj (dW.l0 kq a1 x5_1 l0 (l0.length : Int) x10_1 = some r) ∧ aj (kq ≤ k) ∧ aj (Kd.R Kd.string 9 w' w.heap.size (fun _ => True) v5 x5_1) ∧ aj (Below w.heap.size w w'))
 case atStart => exact ⟨(([] : List ByteArray)), (0), (by first | rfl | (simp; done) | (simp [*]; done)), H', ⟨Nat.le_refl _⟩, ⟨by first | exact Kd.nM _ _ _ _ _ | exact Kd.rE _ _ _ _ _ | exact Kd.q9 _ _ _ _ _ | exact Kd.rG _ _ _ _ _ | exact Kd.rz _ _ _ _ _⟩, ⟨by repeat (first | (with_reducible first | exact HB.out | apply au | apply ah | apply ak) | exact HB.out)⟩⟩
 case round =>
  clear H'
  obtain ⟨x5_1, x10_1, rfl, HA, HK1, HO_5, HB⟩ := hrel
  cases gk with
  | zero => exact absurd HA.out (by simp [dW.l0])
  | succ k1 =>
   have H := HA.out
   clear HA
   simp only [dW.l0] at H
   by_cases c3 : x10_1 < (l0.length : Int)
   ·rw [if_pos c3] at H
    have c3b0 : decide (x10_1 < (l0.length : Int)) = true := decide_eq_true c3
    clear c3
    by_cases c4 : 0 ≤ x10_1
    ·rw [if_pos c4] at H
     have c4b0 : decide (0 ≤ x10_1) = true := decide_eq_true c4
     clear c4
     by_cases c5 : x10_1 < (l0.length : Int)
     ·rw [if_pos c5] at H
      have c5b0 : decide (x10_1 < (l0.length : Int)) = true := decide_eq_true c5
      clear c5
      replace H := Option.bind_eq_some_iff.mp H
      obtain ⟨t387, A60, H⟩ := H
      replace H : (if t387 = true then (if x5_1.length < 8796093022208 then (dW.l0 k1 a1 (x5_1 ++ [fO ByteArray.empty l0 x10_1]) l0 (l0.length : Int) (wrap64 (x10_1 + 1))) else (none)) else (dW.l0 k1 a1 x5_1 l0 (l0.length : Int) (wrap64 (x10_1 + 1)))) = some r := H
      have A6 := aj.mk A60
      clear A60
      by_cases c7 : t387 = true
      ·subst c7
       have H1 : (if x5_1.length < 8796093022208 then (dW.l0 k1 a1 (x5_1 ++ [fO ByteArray.empty l0 x10_1]) l0 (l0.length : Int) (wrap64 (x10_1 + 1))) else (none)) = some r := by rw [if_pos rfl] at H; exact H
       clear H
       have H := H1
       clear H1
       by_cases c8 : x5_1.length < 8796093022208
       ·rw [if_pos c8] at H
        have LMc8 := aj.mk c8
        clear c8
        obtain ⟨y388, hy388⟩ : ∃ y_ : List ByteArray, y_ = (x5_1 ++ [fO ByteArray.empty l0 x10_1]) := ⟨_, rfl⟩
        replace H : (dW.l0 k1 a1 y388 l0 (l0.length : Int) (wrap64 (x10_1 + 1))) = some r := by first | (rw [hy388]; with_reducible exact H) | (have H2_ := (Option.bind_some _ _).symm.trans H; rw [hy388]; with_reducible exact H2_) | (have H2_ := (Option.bind_some _ _).symm.trans H; with_reducible exact H2_) | with_reducible exact H | (rw [hy388]; exact H) | exact H
        have Ny388 := aj.mk hy388
        clear hy388
        have H' := aj.mk H
        clear H
        have p386 : 0 ≤ (x10_1 : Int) := of_decide_eq_true (by first | (with_reducible assumption) | assumption)
        have q386 : x10_1 < (l0.length : Int) := of_decide_eq_true (by first | (with_reducible assumption) | assumption)
        obtain ⟨ad386, e386, hx386_0⟩ := Kd.fU HR0.out x10_1 p386 q386
        cases e386
        try replace hx386_0 := (HB.out.cell (World.block_lt_of_cell? w _ hx386_0)).trans hx386_0
        replace p386 := eq_true p386
        replace q386 := eq_true q386
        go_wp2_with (first | (refine (HPP.out k1 (fO ByteArray.empty l0 x10_1) true _ (by repeat (first | (with_reducible first | exact HB.out | apply au | apply ah | apply ak) | exact HB.out)) A6.out).mono ?_; rintro e w9 ⟨rfl, hb⟩; have n0_ := aj.mk (Kd.bY (by (with_reducible repeat (first | apply Kd.aN | apply Kd.aM | apply Kd.aW)); exact HO_5.out) hb); have n1_ := aj.mk (aY (by repeat (first | (with_reducible first | exact HB.out | apply au | apply ah | apply ak) | exact HB.out)) hb); clear HO_5; clear HB; have HO_5 := n0_; have HB := n1_; clear n0_ n1_; (try clear hb); (try clear hb2); (try clear hk); (try clear hi)) | ((with_reducible refine gX (b := .append) (xs := #[.tmp 17, .tmp 19]) rfl ?_); at_builtin; refine Kd.j5 Kd.string (w0 := w) w.heap.size rfl (.tmp 17) (.tmp 19) 47 9 (.string ⟨#[]⟩) 16 rfl Try.underlying47 ru rfl (by decide) (by omega) u5 x5_1 (fO ByteArray.empty l0 x10_1) [.string (fO ByteArray.empty l0 x10_1)] (fun _ => True) (fun _ => False) rfl rfl ?aP (fun _ hk => hk.elim) ?aF ?aO ?aB ?aS ?aL ?_; (case aP => exact rfl); (case aB => exact (by repeat (first | (with_reducible first | exact HB.out | apply au | apply ah | apply ak) | exact HB.out))); (case aF => exact (fun _ _ => trivial)); (case aO => exact (by (with_reducible repeat (first | apply Kd.aN | apply Kd.aM | apply Kd.aW)); exact HO_5.out)); (case aS => exact (bf (by repeat (first | (with_reducible first | exact HB.out | apply au | apply ah | apply ak) | exact HB.out)))); (case aL => have := LMc8.out; omega); intro v389 w10 ho hb hg hat; rw [← Ny388.out] at ho; have n0_ := aj.mk (hb); have n1_ := aj.mk (ho); clear HB; clear HO_5; have HB := n0_; have HO390 := n1_; clear n0_ n1_; clear ho hb hg hat))
        go_roundg k1
        case measure => have := HK1.out; omega
        case rel => exact ⟨(y388), (wrap64 (x10_1 + 1)), (by first | rfl | (simp; done) | (simp [*]; done)), H', ⟨by have := HK1.out; omega⟩, ⟨by (with_reducible repeat (first | apply Kd.aN | apply Kd.aM | apply Kd.aW)); exact HO390.out⟩, ⟨by repeat (first | (with_reducible first | exact HB.out | apply au | apply ah | apply ak) | exact HB.out)⟩⟩
       ·rw [if_neg c8] at H
        exact absurd H (by simp)
      ·replace c7 := Bool.eq_false_iff.mpr c7
       subst c7
       have H1 : (dW.l0 k1 a1 x5_1 l0 (l0.length : Int) (wrap64 (x10_1 + 1))) = some r := by rw [if_neg (show ¬ (false = true) by decide)] at H; exact H
       clear H
       have H := H1
       clear H1
       have H' := aj.mk H
       clear H
       have p386 : 0 ≤ (x10_1 : Int) := of_decide_eq_true (by first | (with_reducible assumption) | assumption)
       have q386 : x10_1 < (l0.length : Int) := of_decide_eq_true (by first | (with_reducible assumption) | assumption)
       obtain ⟨ad386, e386, hx386_0⟩ := Kd.fU HR0.out x10_1 p386 q386
       cases e386
       try replace hx386_0 := (HB.out.cell (World.block_lt_of_cell? w _ hx386_0)).trans hx386_0
       replace p386 := eq_true p386
       replace q386 := eq_true q386
       go_wp2_with (first | (refine (HPP.out k1 (fO ByteArray.empty l0 x10_1) false _ (by repeat (first | (with_reducible first | exact HB.out | apply au | apply ah | apply ak) | exact HB.out)) A6.out).mono ?_; rintro e w11 ⟨rfl, hb⟩; have n0_ := aj.mk (Kd.bY (by (with_reducible repeat (first | apply Kd.aN | apply Kd.aM | apply Kd.aW)); exact HO_5.out) hb); have n1_ := aj.mk (aY (by repeat (first | (with_reducible first | exact HB.out | apply au | apply ah | apply ak) | exact HB.out)) hb); clear HO_5; clear HB; have HO_5 := n0_; have HB := n1_; clear n0_ n1_; (try clear hb); (try clear hb2); (try clear hk); (try clear hi)))
       go_roundg k1
       case measure => have := HK1.out; omega
       case rel => exact ⟨(x5_1), (wrap64 (x10_1 + 1)), (by first | rfl | (simp; done) | (simp [*]; done)), H', ⟨by have := HK1.out; omega⟩, ⟨by (with_reducible repeat (first | apply Kd.aN | apply Kd.aM | apply Kd.aW)); exact HO_5.out⟩, ⟨by repeat (first | (with_reducible first | exact HB.out | apply au | apply ah | apply ak) | exact HB.out)⟩⟩
     ·rw [if_neg c5] at H
      exact absurd H (by simp)
    ·rw [if_neg c4] at H
     exact absurd H (by simp)
   ·rw [if_neg c3] at H
    have c3b0 : decide (x10_1 < (l0.length : Int)) = false := decide_eq_false c3
    clear c3
    obtain rfl := Option.some.inj H
    go_wp2
    go_ret
    exact ⟨_, by first | rfl | (simp [bA, bB] <;> rfl) | (simp [*, bA, bB] <;> rfl), by (with_reducible repeat (first | apply Kd.aN | apply Kd.aM | apply Kd.aW)); exact HO_5.out, by repeat (first | (with_reducible first | exact HB.out | apply au | apply ah | apply ak) | exact HB.out)⟩
def fJ.f (k : Nat) (l0 : List (S31)) (l1 : List ByteArray) (a2 : Int) : Option (List ByteArray) := dW.f k l1 (fun j s => cO.f j l0 s a2)
theorem qg (P : Program) (fn : Fn) (first cap : Array Value) (w : World) : (Instr.makeFunc fn first cap).run P w = .ok (.func fn first cap) w := rfl
attribute [local go_sem] qg
set_option maxHeartbeats 8000000 in
set_option maxRecDepth 100000 in
theorem fJ.closure (j : Nat) (A0 : Option Addr) (c0 : Nat) (l0 : List (S31)) (a2 : Int) (s : ByteArray) (b : Bool) (W : World) (g0 : Nat) (g1 : Nat) (h0 : W.heap[g0]? = some (.cells #[.slice A0 l0.length c0] 27 (0, 0))) (h1 : W.heap[g1]? = some (.cells #[.int .i64 a2] 3 (0, 0))) (hr0 : Kd.C k31 W A0 l0.length l0) (hc0 : l0.length ≤ c0) (h : cO.f j l0 s a2 = some b) :
  Calls Try.prog 73 #[.string s, .pointer (some ⟨g0, 0, none⟩), .pointer (some ⟨g1, 0, none⟩)] W fun e w' => e = .returned (.bool b) ∧ Below W.heap.size W w' := by
 have hcz0_0 : W.cell? ⟨g0, 0, none⟩ = some (.slice A0 l0.length c0) := (aT h0 0).trans rfl
 have hfz0_0 := bG h0 0
 have hcz1_0 : W.cell? ⟨g1, 0, none⟩ = some (.int .i64 a2) := (aT h1 0).trans rfl
 have hfz1_0 := bG h1 0
 go_enter Try.func73, Try.ntmps73
 go_wp2_with (first | ((with_reducible refine bq (f := 22) rfl ?_); refine bT _ rfl rfl Try.func22 (by kernel_rfl) rfl #[.slice A0 l0.length c0, .string s, .int .i64 a2] rfl (by (try simp only [List.map_toArray, List.map_cons, List.map_nil]); first | done | rfl | (simp only [List.length_drop, List.length_take]; rfl)) ?_; refine (cO.calls j _ _ l0 s a2 b _ hr0 hc0 h).mono ?_; rintro e w_ ⟨rfl, hb⟩; refine ⟨_, rfl, ?_⟩; skip))
 go_ret
 exact ⟨rfl, hb⟩
set_option maxHeartbeats 8000000 in
set_option maxRecDepth 100000 in
theorem fJ.calls (k : Nat) (A0 : Option Addr) (c0 : Nat) (l0 : List (S31)) (A1 : Option Addr) (c1 : Nat) (l1 : List ByteArray) (a2 : Int) (r : List ByteArray) (w : World) (hr0 : Kd.C k31 w A0 l0.length l0) (hc0 : l0.length ≤ c0) (hr1 : Kd.C Kd.string w A1 l1.length l1) (hc1 : l1.length ≤ c1) (h : fJ.f k l0 l1 a2 = some r) :
  Calls Try.prog 27 #[.slice A0 l0.length c0, .slice A1 l1.length c1, .int .i64 a2] w fun e w' => ∃ v0_ : Value, e = .returned (v0_) ∧ Kd.R Kd.string 9 w' w.heap.size (fun _ => True) v0_ r ∧ Below w.heap.size w w' := by
 have HR0 := aj.mk hr0
 have HC0 := aj.mk hc0
 have HR1 := aj.mk hr1
 have HC1 := aj.mk hc1
 have HH := aj.mk h
 have HB := aj.mk (Below.refl w.heap.size w)
 clear hr0 hc0 hr1 hc1 h
 go_enter Try.func27, Try.ntmps27
 go_wp2_with (first | ((with_reducible refine dz (N := 3) rfl ?_); refine dD ?hg (N := 3) ?hd (cs := #[.slice A0 l0.length c0]) (t := 27) ?hr ?_; (case hd => rfl); (case hg => rfl); (case hr => first | (go_simp; done) | (go_simp; rfl)); intro gb3 hg w3 hbox hb; have n0_ := aj.mk (aY (by repeat (first | (with_reducible first | exact HB.out | apply au | apply ah | apply ak) | exact HB.out)) hb); have n1_ := aj.mk (hbox); clear HB; have HB := n0_; have BK3 := n1_; clear n0_ n1_; clear hb hbox hg) | ((with_reducible refine dz (N := 5) rfl ?_); refine dD ?hg (N := 5) ?hd (cs := #[.int .i64 a2]) (t := 3) ?hr ?_; (case hd => rfl); (case hg => rfl); (case hr => first | (go_simp; done) | (go_simp; rfl)); intro gb5 hg w5 hbox hb; have n0_ := aj.mk (aY (by repeat (first | (with_reducible first | exact HB.out | apply au | apply ah | apply ak) | exact HB.out)) hb); have n1_ := aj.mk (hbox); have n2_ := aj.mk (bI (g := gb3) (o := .cells #[.slice A0 l0.length c0] 27 (0, 0)) (by (with_reducible repeat (first | refine aA ?_ _ | refine aD ?_ | refine aC ?_ _)); exact BK3.out) hb); clear HB; have HB := n0_; have BK5 := n1_; clear n0_ n1_; clear BK3; have BK3 := n2_; clear n2_; clear hb hbox hg) | ((with_reducible refine bq (f := 72) rfl ?_); refine bT _ rfl rfl Try.func72 (by kernel_rfl) rfl #[.slice A1 l1.length c1, .func (.func 73) #[] #[.pointer (some ⟨gb3, 0, none⟩), .pointer (some ⟨gb5, 0, none⟩)]] rfl (by (try simp only [List.map_toArray, List.map_cons, List.map_nil]); first | done | rfl | (simp only [List.length_drop, List.length_take]; rfl)) ?_; refine (dW.calls k _ _ l1 _ r _ (Kd.dS HR1.out (by repeat (first | (with_reducible first | exact HB.out | apply au | apply ah | apply ak) | exact HB.out))) HC1.out HH.out 73 #[.pointer (some ⟨gb3, 0, none⟩), .pointer (some ⟨gb5, 0, none⟩)] (fun args w => lQ Try.func73 (by kernel_rfl) rfl args w) (fun j s b W hb_ h_ => fJ.closure j A0 c0 l0 a2 s b W gb3 gb5 (bI (g := gb3) (o := .cells #[.slice A0 l0.length c0] 27 (0, 0)) (by (with_reducible repeat (first | refine aA ?_ _ | refine aD ?_ | refine aC ?_ _)); exact BK3.out) hb_) (bI (g := gb5) (o := .cells #[.int .i64 a2] 3 (0, 0)) (by (with_reducible repeat (first | refine aA ?_ _ | refine aD ?_ | refine aC ?_ _)); exact BK5.out) hb_) (Kd.dS HR0.out (aY (by repeat (first | (with_reducible first | exact HB.out | apply au | apply ah | apply ak) | exact HB.out)) hb_)) HC0.out h_)).mono ?_; rintro e w_ ⟨v_, rfl, ho0, hb⟩; refine ⟨_, rfl, ?_⟩; have n0_ := aj.mk (Kd.cK ho0 (bf (by repeat (first | (with_reducible first | exact HB.out | apply au | apply ah | apply ak) | exact HB.out)))); have n1_ := aj.mk (aY (by repeat (first | (with_reducible first | exact HB.out | apply au | apply ah | apply ak) | exact HB.out)) hb); clear HB; have HO1 := n0_; have HB := n1_; clear n0_ n1_ hb ho0))
 go_ret
 exact ⟨_, rfl, (by (with_reducible repeat (first | apply Kd.aN | apply Kd.aM | apply Kd.aW)); exact HO1.out), (by repeat (first | (with_reducible first | exact HB.out | apply au | apply ah | apply ak) | exact HB.out))⟩
def dJ.l0 : Nat → List Int → Int → Int → Option (Bool)
 | 0, _, _, _ => none
 | k + 1, x0, x1, x5 => if x5 < (x0.length : Int) then (if 0 ≤ x5 then (if (rd x0 x5) = x1 then (some true) else (dJ.l0 k x0 x1 (wrap64 (x5 + 1)))) else (none)) else (some false)
def dJ.f (k : Nat) (l0 : List Int) (a1 : Int) : Option (Bool) := dJ.l0 k l0 a1 0
set_option maxHeartbeats 8000000 in
set_option maxRecDepth 100000 in
theorem dJ.calls (k : Nat) (A0 : Option Addr) (c0 : Nat) (l0 : List Int) (a1 : Int) (r : Bool) (w : World) (hr0 : Kd.C (Kd.int .i64) w A0 l0.length l0) (hc0 : l0.length ≤ c0) (h : dJ.f k l0 a1 = some r) :
  Calls Try.prog 28 #[.slice A0 l0.length c0, .int .i64 a1] w fun e w' => e = .returned (.bool r) ∧ bP w w' := by
 have HR0 := aj.mk hr0
 have HC0 := aj.mk hc0
 clear hr0 hc0
 have H : (dJ.l0 k l0 a1 0) = some r := h
 clear h
 have H' := aj.mk H
 clear H
 go_enter Try.func28, Try.ntmps28
 go_wp2
 go_loopg [5] k (fun kq v5 w' => ∃ (x5_1 : Int), v5 = .int .i64 x5_1 ∧ aj (dJ.l0 kq l0 a1 x5_1 = some r) ∧ aj (kq ≤ k) ∧ bP w w')
 case atStart => exact ⟨(0), (by first | rfl | (simp; done) | (simp [*]; done)), H', ⟨Nat.le_refl _⟩, by repeat (first | exact bP.refl _ | apply bP.step)⟩
 case round =>
  clear H'
  obtain ⟨x5_1, rfl, HA, HK1, ⟨m1, rfl⟩⟩ := hrel
  cases gk with
  | zero => exact absurd HA.out (by simp [dJ.l0])
  | succ k1 =>
   have H := HA.out
   clear HA
   simp only [dJ.l0] at H
   by_cases c3 : x5_1 < (l0.length : Int)
   ·rw [if_pos c3] at H
    have c3b0 : decide (x5_1 < (l0.length : Int)) = true := decide_eq_true c3
    clear c3
    by_cases c4 : 0 ≤ x5_1
    ·rw [if_pos c4] at H
     have c4b0 : decide (0 ≤ x5_1) = true := decide_eq_true c4
     clear c4
     by_cases c5 : (rd l0 x5_1) = a1
     ·rw [if_pos c5] at H
      have c5b0 : ((rd l0 x5_1) == a1) = true := beq_iff_eq.mpr c5
      have c5b1 : ((rd l0 x5_1) != a1) = false := bne_eq_false_iff_eq.mpr c5
      clear c5
      obtain rfl := Option.some.inj H
      have p391 : 0 ≤ (x5_1 : Int) := of_decide_eq_true (by first | (with_reducible assumption) | assumption)
      have q391 : x5_1 < (l0.length : Int) := of_decide_eq_true (by first | (with_reducible assumption) | assumption)
      obtain ⟨ad391, e391, hx391_0⟩ := Kd.jX HR0.out x5_1 p391 q391
      cases e391
      replace p391 := eq_true p391
      replace q391 := eq_true q391
      go_wp2
      go_ret
      exact ⟨by first | rfl | (simp; done) | (simp [*]; done), by repeat (first | exact bP.refl _ | apply bP.step)⟩
     ·rw [if_neg c5] at H
      have c5b0 : ((rd l0 x5_1) == a1) = false := beq_eq_false_iff_ne.mpr c5
      have c5b1 : ((rd l0 x5_1) != a1) = true := bne_iff_ne.mpr c5
      have H' := aj.mk H
      clear H
      have p391 : 0 ≤ (x5_1 : Int) := of_decide_eq_true (by first | (with_reducible assumption) | assumption)
      have q391 : x5_1 < (l0.length : Int) := of_decide_eq_true (by first | (with_reducible assumption) | assumption)
      obtain ⟨ad391, e391, hx391_0⟩ := Kd.jX HR0.out x5_1 p391 q391
      cases e391
      replace p391 := eq_true p391
      replace q391 := eq_true q391
      go_wp2
      go_roundg k1
      case measure => have := HK1.out; omega
      case rel => exact ⟨(wrap64 (x5_1 + 1)), (by first | rfl | (simp; done) | (simp [*]; done)), H', ⟨by have := HK1.out; omega⟩, by repeat (first | exact bP.refl _ | apply bP.step)⟩
    ·rw [if_neg c4] at H
     exact absurd H (by simp)
   ·rw [if_neg c3] at H
    have c3b0 : decide (x5_1 < (l0.length : Int)) = false := decide_eq_false c3
    clear c3
    obtain rfl := Option.some.inj H
    go_wp2
    go_ret
    exact ⟨by first | rfl | (simp; done) | (simp [*]; done), by repeat (first | exact bP.refl _ | apply bP.step)⟩
def bR.l0 : Nat → List ByteArray → ByteArray → Int → Int → Option (Int)
 | 0, _, _, _, _ => none
 | k + 1, x0, x1, x7, x8 => if x8 < x7 then (if 0 ≤ x8 then (if x8 < (x0.length : Int) then (if x1.toList = (fO ByteArray.empty x0 x8).toList then (some x8) else (bR.l0 k x0 x1 x7 (wrap64 (x8 + 1)))) else (none)) else (none)) else (some (-1))
def bR.f (k : Nat) (l0 : List ByteArray) (a1 : ByteArray) : Option (Int) := bR.l0 k l0 a1 (l0.length : Int) 0
set_option maxHeartbeats 8000000 in
set_option maxRecDepth 100000 in
theorem bR.calls (k : Nat) (A0 : Option Addr) (c0 : Nat) (l0 : List ByteArray) (a1 : ByteArray) (r : Int) (w : World) (hr0 : Kd.C Kd.string w A0 l0.length l0) (hc0 : l0.length ≤ c0) (h : bR.f k l0 a1 = some r) :
  Calls Try.prog 165 #[.slice A0 l0.length c0, .string a1] w fun e w' => e = .returned (.int .i64 r) ∧ bP w w' := by
 have HR0 := aj.mk hr0
 have HC0 := aj.mk hc0
 clear hr0 hc0
 have H : (bR.l0 k l0 a1 (l0.length : Int) 0) = some r := h
 clear h
 have H' := aj.mk H
 clear H
 go_enter Try.func165, Try.ntmps165
 go_wp2
 go_loopg [8] k (fun kq v8 w' => ∃ (x8_1 : Int), v8 = .int .i64 x8_1 ∧ aj (bR.l0 kq l0 a1 (l0.length : Int) x8_1 = some r) ∧ aj (kq ≤ k) ∧ bP w w')
 case atStart => exact ⟨(0), (by first | rfl | (simp; done) | (simp [*]; done)), H', ⟨Nat.le_refl _⟩, by repeat (first | exact bP.refl _ | apply bP.step)⟩
 case round =>
  clear H'
  try clear c1
  obtain ⟨x8_1, rfl, HA, HK1, ⟨m1, rfl⟩⟩ := hrel
  cases gk with
  | zero => exact absurd HA.out (by simp [bR.l0])
  | succ k1 =>
   have H := HA.out
   clear HA
   simp only [bR.l0] at H
   by_cases c3 : x8_1 < (l0.length : Int)
   ·rw [if_pos c3] at H
    have c3b0 : decide (x8_1 < (l0.length : Int)) = true := decide_eq_true c3
    clear c3
    by_cases c4 : 0 ≤ x8_1
    ·rw [if_pos c4] at H
     have c4b0 : decide (0 ≤ x8_1) = true := decide_eq_true c4
     clear c4
     by_cases c5 : x8_1 < (l0.length : Int)
     ·rw [if_pos c5] at H
      have c5b0 : decide (x8_1 < (l0.length : Int)) = true := decide_eq_true c5
      clear c5
      by_cases c6 : a1.toList = (fO ByteArray.empty l0 x8_1).toList
      ·rw [if_pos c6] at H
       have c6b0 : (a1.toList == (fO ByteArray.empty l0 x8_1).toList) = true := beq_iff_eq.mpr c6
       have c6b1 : (a1.toList != (fO ByteArray.empty l0 x8_1).toList) = false := bne_eq_false_iff_eq.mpr c6
       clear c6
       obtain rfl := Option.some.inj H
       have p392 : 0 ≤ (x8_1 : Int) := of_decide_eq_true (by first | (with_reducible assumption) | assumption)
       have q392 : x8_1 < (l0.length : Int) := of_decide_eq_true (by first | (with_reducible assumption) | assumption)
       obtain ⟨ad392, e392, hx392_0⟩ := Kd.fU HR0.out x8_1 p392 q392
       cases e392
       replace p392 := eq_true p392
       replace q392 := eq_true q392
       go_wp2
       go_ret
       exact ⟨by first | rfl | (simp; done) | (simp [*]; done), by repeat (first | exact bP.refl _ | apply bP.step)⟩
      ·rw [if_neg c6] at H
       have c6b0 : (a1.toList == (fO ByteArray.empty l0 x8_1).toList) = false := beq_eq_false_iff_ne.mpr c6
       have c6b1 : (a1.toList != (fO ByteArray.empty l0 x8_1).toList) = true := bne_iff_ne.mpr c6
       have H' := aj.mk H
       clear H
       have p392 : 0 ≤ (x8_1 : Int) := of_decide_eq_true (by first | (with_reducible assumption) | assumption)
       have q392 : x8_1 < (l0.length : Int) := of_decide_eq_true (by first | (with_reducible assumption) | assumption)
       obtain ⟨ad392, e392, hx392_0⟩ := Kd.fU HR0.out x8_1 p392 q392
       cases e392
       replace p392 := eq_true p392
       replace q392 := eq_true q392
       go_wp2
       go_roundg k1
       case measure => have := HK1.out; omega
       case rel => exact ⟨(wrap64 (x8_1 + 1)), (by first | rfl | (simp; done) | (simp [*]; done)), H', ⟨by have := HK1.out; omega⟩, by repeat (first | exact bP.refl _ | apply bP.step)⟩
     ·rw [if_neg c5] at H
      exact absurd H (by simp)
    ·rw [if_neg c4] at H
     exact absurd H (by simp)
   ·rw [if_neg c3] at H
    have c3b0 : decide (x8_1 < (l0.length : Int)) = false := decide_eq_false c3
    clear c3
    obtain rfl := Option.some.inj H
    go_wp2
    go_ret
    exact ⟨by first | rfl | (simp; done) | (simp [*]; done), by repeat (first | exact bP.refl _ | apply bP.step)⟩
def dM.f (k : Nat) (l0 : List ByteArray) (a1 : ByteArray) : Option (Bool) := (bR.f k l0 a1).bind fun t393 => (some (decide (t393 ≥ 0)))
set_option maxHeartbeats 8000000 in
set_option maxRecDepth 100000 in
theorem dM.calls (k : Nat) (A0 : Option Addr) (c0 : Nat) (l0 : List ByteArray) (a1 : ByteArray) (r : Bool) (w : World) (hr0 : Kd.C Kd.string w A0 l0.length l0) (hc0 : l0.length ≤ c0) (h : dM.f k l0 a1 = some r) :
  Calls Try.prog 124 #[.slice A0 l0.length c0, .string a1] w fun e w' => e = .returned (.bool r) ∧ bP w w' := by
 have HR0 := aj.mk hr0
 have HC0 := aj.mk hc0
 clear hr0 hc0
 have H : ((bR.f k l0 a1).bind fun t393 => (some (decide (t393 ≥ 0)))) = some r := h
 clear h
 replace H := Option.bind_eq_some_iff.mp H
 obtain ⟨t393, A30, H⟩ := H
 replace H : (some (decide (t393 ≥ 0))) = some r := H
 have A3 := aj.mk A30
 clear A30
 obtain rfl := Option.some.inj H
 go_enter Try.func124, Try.ntmps124
 go_wp2_with (first | ((with_reducible refine bq (f := 165) rfl ?_); refine bT (some 7) rfl rfl Try.func165 (by kernel_rfl) rfl #[.slice A0 l0.length c0, .string a1] rfl (by (try simp only [List.map_toArray, List.map_cons, List.map_nil]); first | done | rfl | (simp only [List.length_drop, List.length_take]; rfl)) ?_; (with_reducible refine (bR.calls k _ _ l0 a1 t393 _ ?side1 ?side2 A3.out).mono ?_); (case side1 => repeat (first | exact HR0.out | (with_reducible refine Kd.bU ?_ _) | (with_reducible refine Kd.bV ?_ _) | (with_reducible refine Kd.cB ?_))); (case side2 => exact HC0.out); rintro e w' ⟨rfl, ⟨nd, rfl⟩⟩; refine ⟨_, rfl, ?_⟩))
 go_ret
 exact ⟨by first | rfl | (simp; done) | (simp [*]; done), by repeat (first | exact bP.refl _ | apply bP.step)⟩
def gQ.f (k : Nat) (l0 : List ByteArray) (a1 : ByteArray) : Option (Bool) := (dM.f k l0 a1).bind fun t394 => (some t394)
set_option maxHeartbeats 8000000 in
set_option maxRecDepth 100000 in
theorem gQ.calls (k : Nat) (A0 : Option Addr) (c0 : Nat) (l0 : List ByteArray) (a1 : ByteArray) (r : Bool) (w : World) (hr0 : Kd.C Kd.string w A0 l0.length l0) (hc0 : l0.length ≤ c0) (h : gQ.f k l0 a1 = some r) :
  Calls Try.prog 74 #[.slice A0 l0.length c0, .string a1] w fun e w' => e = .returned (.bool r) ∧ bP w w' := by
 have HR0 := aj.mk hr0
 have HC0 := aj.mk hc0
 clear hr0 hc0
 have H : ((dM.f k l0 a1).bind fun t394 => (some t394)) = some r := h
 clear h
 replace H := Option.bind_eq_some_iff.mp H
 obtain ⟨t394, A30, H⟩ := H
 replace H : (some t394) = some r := H
 have A3 := aj.mk A30
 clear A30
 obtain rfl := Option.some.inj H
 go_enter Try.func74, Try.ntmps74
 go_wp2_with (first | ((with_reducible refine bq (f := 124) rfl ?_); refine bT (some 7) rfl rfl Try.func124 (by kernel_rfl) rfl #[.slice A0 l0.length c0, .string a1] rfl (by (try simp only [List.map_toArray, List.map_cons, List.map_nil]); first | done | rfl | (simp only [List.length_drop, List.length_take]; rfl)) ?_; (with_reducible refine (dM.calls k _ _ l0 a1 t394 _ ?side1 ?side2 A3.out).mono ?_); (case side1 => repeat (first | exact HR0.out | (with_reducible refine Kd.bU ?_ _) | (with_reducible refine Kd.bV ?_ _) | (with_reducible refine Kd.cB ?_))); (case side2 => exact HC0.out); rintro e w' ⟨rfl, ⟨nd, rfl⟩⟩; refine ⟨_, rfl, ?_⟩))
 go_ret
 exact ⟨by first | rfl | (simp; done) | (simp [*]; done), by repeat (first | exact bP.refl _ | apply bP.step)⟩
def dZ.l0 : Nat → List ByteArray → List ByteArray → Int → Option (Bool)
 | 0, _, _, _ => none
 | k + 1, x0, x1, x5 => if x5 < (x0.length : Int) then (if 0 ≤ x5 then ((gQ.f k x1 (fO ByteArray.empty x0 x5)).bind fun t396 => (if t396 = true then (dZ.l0 k x0 x1 (wrap64 (x5 + 1))) else (some false))) else (none)) else (some true)
def dZ.f (k : Nat) (l0 : List ByteArray) (l1 : List ByteArray) : Option (Bool) := dZ.l0 k l0 l1 0
set_option maxHeartbeats 8000000 in
set_option maxRecDepth 100000 in
theorem dZ.calls (k : Nat) (A0 : Option Addr) (c0 : Nat) (l0 : List ByteArray) (A1 : Option Addr) (c1 : Nat) (l1 : List ByteArray) (r : Bool) (w : World) (hr0 : Kd.C Kd.string w A0 l0.length l0) (hc0 : l0.length ≤ c0) (hr1 : Kd.C Kd.string w A1 l1.length l1) (hc1 : l1.length ≤ c1) (h : dZ.f k l0 l1 = some r) :
  Calls Try.prog 29 #[.slice A0 l0.length c0, .slice A1 l1.length c1] w fun e w' => e = .returned (.bool r) ∧ bP w w' := by
 have HR0 := aj.mk hr0
 have HC0 := aj.mk hc0
 clear hr0 hc0
 have HR1 := aj.mk hr1
 have HC1 := aj.mk hc1
 clear hr1 hc1
 have H : (dZ.l0 k l0 l1 0) = some r := h
 clear h
 have H' := aj.mk H
 clear H
 go_enter Try.func29, Try.ntmps29
 go_wp2
 go_loopg [5] k (fun kq v5 w' => ∃ (x5_1 : Int), v5 = .int .i64 x5_1 ∧ aj (dZ.l0 kq l0 l1 x5_1 = some r) ∧ aj (kq ≤ k) ∧ bP w w')
 case atStart => exact ⟨(0), (by first | rfl | (simp; done) | (simp [*]; done)), H', ⟨Nat.le_refl _⟩, by repeat (first | exact bP.refl _ | apply bP.step)⟩
 case round =>
  clear H'
  try clear c1
  obtain ⟨x5_1, rfl, HA, HK1, ⟨m1, rfl⟩⟩ := hrel
  cases gk with
  | zero => exact absurd HA.out (by simp [dZ.l0])
  | succ k1 =>
   have H := HA.out
   clear HA
   simp only [dZ.l0] at H
   by_cases c3 : x5_1 < (l0.length : Int)
   ·rw [if_pos c3] at H
    have c3b0 : decide (x5_1 < (l0.length : Int)) = true := decide_eq_true c3
    clear c3
    by_cases c4 : 0 ≤ x5_1
    ·rw [if_pos c4] at H
     have c4b0 : decide (0 ≤ x5_1) = true := decide_eq_true c4
     clear c4
     replace H := Option.bind_eq_some_iff.mp H
     obtain ⟨t396, A50, H⟩ := H
     replace H : (if t396 = true then (dZ.l0 k1 l0 l1 (wrap64 (x5_1 + 1))) else (some false)) = some r := H
     have A5 := aj.mk A50
     clear A50
     by_cases c6 : t396 = true
     ·subst c6
      have H1 : (dZ.l0 k1 l0 l1 (wrap64 (x5_1 + 1))) = some r := by rw [if_pos rfl] at H; exact H
      clear H
      have H := H1
      clear H1
      have H' := aj.mk H
      clear H
      have p395 : 0 ≤ (x5_1 : Int) := of_decide_eq_true (by first | (with_reducible assumption) | assumption)
      have q395 : x5_1 < (l0.length : Int) := of_decide_eq_true (by first | (with_reducible assumption) | assumption)
      obtain ⟨ad395, e395, hx395_0⟩ := Kd.fU HR0.out x5_1 p395 q395
      cases e395
      replace p395 := eq_true p395
      replace q395 := eq_true q395
      go_wp2_with (first | ((with_reducible refine bq (f := 74) rfl ?_); refine bT (some 17) rfl rfl Try.func74 (by kernel_rfl) rfl #[.slice A1 l1.length c1, .string (fO ByteArray.empty l0 x5_1)] rfl (by (try simp only [List.map_toArray, List.map_cons, List.map_nil]); first | done | rfl | (simp only [List.length_drop, List.length_take]; rfl)) ?_; (with_reducible refine (gQ.calls k1 _ _ l1 (fO ByteArray.empty l0 x5_1) true _ ?side1 ?side2 A5.out).mono ?_); (case side1 => repeat (first | exact HR1.out | (with_reducible refine Kd.bU ?_ _) | (with_reducible refine Kd.bV ?_ _) | (with_reducible refine Kd.cB ?_))); (case side2 => exact HC1.out); rintro e w' ⟨rfl, ⟨nd, rfl⟩⟩; refine ⟨_, rfl, ?_⟩))
      go_roundg k1
      case measure => have := HK1.out; omega
      case rel => exact ⟨(wrap64 (x5_1 + 1)), (by first | rfl | (simp; done) | (simp [*]; done)), H', ⟨by have := HK1.out; omega⟩, by repeat (first | exact bP.refl _ | apply bP.step)⟩
     ·replace c6 := Bool.eq_false_iff.mpr c6
      subst c6
      have H1 : (some false) = some r := by rw [if_neg (show ¬ (false = true) by decide)] at H; exact H
      clear H
      have H := H1
      clear H1
      obtain rfl := Option.some.inj H
      have p395 : 0 ≤ (x5_1 : Int) := of_decide_eq_true (by first | (with_reducible assumption) | assumption)
      have q395 : x5_1 < (l0.length : Int) := of_decide_eq_true (by first | (with_reducible assumption) | assumption)
      obtain ⟨ad395, e395, hx395_0⟩ := Kd.fU HR0.out x5_1 p395 q395
      cases e395
      replace p395 := eq_true p395
      replace q395 := eq_true q395
      go_wp2_with (first | ((with_reducible refine bq (f := 74) rfl ?_); refine bT (some 17) rfl rfl Try.func74 (by kernel_rfl) rfl #[.slice A1 l1.length c1, .string (fO ByteArray.empty l0 x5_1)] rfl (by (try simp only [List.map_toArray, List.map_cons, List.map_nil]); first | done | rfl | (simp only [List.length_drop, List.length_take]; rfl)) ?_; (with_reducible refine (gQ.calls k1 _ _ l1 (fO ByteArray.empty l0 x5_1) false _ ?side1 ?side2 A5.out).mono ?_); (case side1 => repeat (first | exact HR1.out | (with_reducible refine Kd.bU ?_ _) | (with_reducible refine Kd.bV ?_ _) | (with_reducible refine Kd.cB ?_))); (case side2 => exact HC1.out); rintro e w' ⟨rfl, ⟨nd, rfl⟩⟩; refine ⟨_, rfl, ?_⟩))
      go_ret
      exact ⟨by first | rfl | (simp; done) | (simp [*]; done), by repeat (first | exact bP.refl _ | apply bP.step)⟩
    ·rw [if_neg c4] at H
     exact absurd H (by simp)
   ·rw [if_neg c3] at H
    have c3b0 : decide (x5_1 < (l0.length : Int)) = false := decide_eq_false c3
    clear c3
    obtain rfl := Option.some.inj H
    go_wp2
    go_ret
    exact ⟨by first | rfl | (simp; done) | (simp [*]; done), by repeat (first | exact bP.refl _ | apply bP.step)⟩
end Go.Proofs.Ythjcicmmbmagbaa.PFnSenses
