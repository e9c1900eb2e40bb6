/- Walks of functions: what each computes. -/
import Derived.Test.YtikmdgmnhbodjaaGreatZSoPuG0
import Derived.Test.YtikmdgmnhbodjaaGreatZSoPuG2
namespace Go.Proofs.YtikmdgmnhbodjaaGreat.PFnExactSolvePuzzle
open Go.RowKit Go.Proofs.Yw.PrintWords Go.Proofs.Yw.PrintLast Go.Proofs.Yw.PrintMore Go.Proofs.YtikmdgmnhbodjaaGreat.Sq
attribute [local go_sem] jk jm jP jQ iP iQ jl jo
set_option maxHeartbeats 8000000
set_option maxRecDepth 100000
set_option linter.unusedVariables false
set_option linter.unusedSimpArgs false
def dS.l0 : Nat → List S73 → Int → Int → Option (Int × (List S73))
 | 0, _, _, _ => none
 | k + 1, a, b, c => if c < (a.length : Int) then ((dK.f k b).bind fun d => (if 0 ≤ c then ((some (a.set (c : Int).toNat (⟨d, (dN a c).f1⟩ : S73) : List S73)).bind fun e => (dS.l0 k (e.set (c : Int).toNat (⟨(dN e c).f0, wrap64 (b + 1)⟩ : S73)) (wrap64 ((wrap64 (b + 1)) + 1)) (wrap64 (c + 1)))) else none)) else some (b, a)
def dS.f (k : Nat) (l0 : List S73) (a1 : Int) : Option (Int × (List S73)) := dS.l0 k l0 a1 0
theorem dS.calls (k : Nat) (P0_ : Nat → Prop) (u9000_ : Value) (l0 : List S73) (a1 r1 : Int) (r2 : List S73) (w0 w : World) (hB : Below w0.heap.size w0 w) (xc : Kd.R k73 73 w w0.heap.size P0_ u9000_ l0) (h : dS.f k l0 a1 = some (r1, r2)) :
  Calls Tryz.prog 20 #[u9000_, .int .i64 a1] w fun e w' => e = .returned (.int .i64 r1) ∧ Kd.R k73 73 w' w0.heap.size (fun k_ => (P0_ k_ ∨ w.heap.size ≤ k_)) u9000_ r2 ∧ Below w0.heap.size w0 w' ∧ Kept w w' (fun k_ => P0_ k_) := by
 have xd := ah.mk (show Kd.R k73 73 w w0.heap.size (fun k_ => (P0_ k_ ∨ w.heap.size ≤ k_)) u9000_ l0 from Kd.aU xc (fun k_ hk => (.inl hk)));have HK := ah.mk (Kept.refl w (fun k_ => P0_ k_));have HW0 := ah.mk hB.size;have HB := ah.mk hB;clear hB;unfold dS.f at h;have H := h;clear h;have H' := ah.mk H;clear H;go_enter Tryz.func20, Tryz.ntmps20;go_wp2
 go_loopg [1, 5] k (fun kq v1 v5 w' => ∃ (m : List S73) (x : Int) (a : Int), v1 = .int .i64 x ∧ v5 = .int .i64 a ∧ ah (dS.l0 kq m x a = some (r1, r2)) ∧ ah (kq ≤ k) ∧ ah (Kd.R k73 73 w' w0.heap.size (fun k_ => (P0_ k_ ∨ w.heap.size ≤ k_)) u9000_ m) ∧ ah (Kept w w' (fun k_ => P0_ k_)) ∧ ah (Below w0.heap.size w0 w'))
 case atStart => exact ⟨_, _, _, EQ, EQ, H', ⟨nR _⟩, ⟨(RR xd)⟩, ⟨by repeat (first | (with_reducible first | exact HK.out | apply Kept.alloc | apply Kept.drewN | apply Kept.drew) | exact HK.out)⟩, ⟨BL⟩⟩
 case round =>
  clear H';obtain ⟨m, x, a, rfl, rfl, HA, X, o, HK, HB⟩ := hrel
  cases gk with
  | zero => exact absurd HA.out (by simp [dS.l0])
  | succ k1 =>
   have H := HA.out;clear HA;simp only [dS.l0] at H;obtain ⟨xa, A, K⟩ := Kd.bE o.out;subst K;replace H := ifD H; rcases H with ⟨Y, H⟩ | ⟨Y, H⟩
   ·replace H := be H; obtain ⟨G, A4, H⟩ := H;replace H := ifN H; obtain ⟨xm, H⟩ := H;obtain ⟨y, D⟩ : ∃ y_ : List S73, y_ = (m.set (a : Int).toNat (⟨G, (dN m a).f1⟩ : S73)) := ⟨_, rfl⟩;replace H : (dS.l0 k1 (y.set (a : Int).toNat (⟨(dN y a).f0, wrap64 (x + 1)⟩ : S73)) (wrap64 ((wrap64 (x + 1)) + 1)) (wrap64 (a + 1))) = some (r1, r2) := cW D H
    have P := ah.mk D;clear D;obtain ⟨O, E⟩ : ∃ y_ : List S73, y_ = (y.set (a : Int).toNat (⟨(dN y a).f0, wrap64 (x + 1)⟩ : S73)) := ⟨_, rfl⟩;replace H : (dS.l0 k1 O (wrap64 ((wrap64 (x + 1)) + 1)) (wrap64 (a + 1))) = some (r1, r2) := cW E H
    have U := ah.mk E;clear E;have H' := ah.mk H;clear H;go_wp2_with (first | ((with_reducible refine au (f := 53) rfl ?_); refine aK (some 15) Tryz.func53 #[.int .i64 x] ?_; (with_reducible refine (dK.calls k1 x G _ A4.out).mono ?_); rintro e z ⟨rfl, hb⟩; refine ⟨_, rfl, ?_⟩; replace o := RB o hb; replace HK := ah.mk (Kept.below (S := (fun k_ => P0_ k_)) (by repeat (first | (with_reducible first | exact HK.out | apply Kept.alloc | apply Kept.drewN | apply Kept.drew) | exact HK.out)) hb); replace HB := BS (w := w0) hb; (try clear hb); (try clear hk); have p6 : 0 ≤ (a : Int) := OD; have q6 : (a : Int) < ((m.length : Int) : Int) := OD; obtain ⟨go6, xb, J, Z, gl6, cl6, HG6⟩ := Kd.mE o.out (by omega); (first | cases J | (injection J with ea_ en_ ec_; (first | subst ea_ | (injection ea_ with ea_; subst ea_)); subst ec_; clear en_)); have GB6 := ah.mk Z; have GG6 := ah.mk HG6; clear Z gl6 HG6; have HMgo6 := ah.mk (show (P0_ go6 ∨ w.heap.size ≤ go6) from (o.out.1 _ rfl)); obtain ⟨ce6, hcl6, hM6, hcc6, hfr6⟩ := Kd.jW o.out z73 (a : Int) p6 q6; obtain rfl := mJ hM6; have xg : z.cell? ⟨go6, (a : Int).toNat * 2, none⟩ = some (.string ((dN m a).f0)) := hcc6 0 _ rfl; have xh : z.cell? ⟨go6, (a : Int).toNat * 2 + 1, none⟩ = some (.int .i64 ((dN m a).f1)) := hcc6 1 _ rfl; have hf6_0 : z.frozen? ⟨go6, (a : Int).toNat * 2, none⟩ = false := hfr6 0; have hf6_1 : z.frozen? ⟨go6, (a : Int).toNat * 2 + 1, none⟩ = false := hfr6 1; clear hcl6 hcc6 hfr6 hM6; replace p6 := eq_true p6; replace q6 := eq_true q6; have HX10 := ah.mk (show Kd.R k73 73 z w0.heap.size (fun k_ => (P0_ k_ ∨ w.heap.size ≤ k_)) (.slice (some ⟨go6, 0, none⟩) m.length A) m from (RR o)); obtain ⟨ce10, hcl10, hM10, hcc10, hfr10⟩ := Kd.jW HX10.out z73 (a : Int) (OD) (by have h_ : (a : Int) < ((m.length : Int) : Int) := OD; first | exact h_ | (have e_ := (Kd.aQ o.out).1; omega) | simpa using h_); obtain rfl := mJ hM10; have HP10 := Kd.oK HX10.out (a : Int) (OD) (by have h_ : (a : Int) < ((m.length : Int) : Int) := OD; first | exact h_ | (have e_ := (Kd.aQ o.out).1; omega) | simpa using h_) (seg := [.string G]) (j := 0) hcl10 hcc10 (show 1 ≤ 2 from by decide) (x' := (⟨G, (dN m a).f1⟩ : S73)) (qg _ _ _ (⟨G, (dN m a).f1⟩ : S73) ) (fun _ hk => hk); have L := hcc10 0 _ rfl; (try simp only [show (k73).sz = 2 from rfl, Nat.mul_one, Nat.add_zero] at L); have hf10_0 := hfr10 0; (try simp only [show (k73).sz = 2 from rfl, Nat.mul_one, Nat.add_zero] at hf10_0); clear hcl10 hcc10 hfr10 hM10) | ((with_reducible refine fI (t := 9) (p := 17) rfl ?_); refine eU (t := 9) (p := 17) (v := ?vo_w11) (w1 := (z.setCell ⟨go6, (a : Int).toNat * 2, none⟩ (.string G))) ?hg ?ho ?hn ?hr ?_; (case ho => rfl); (case hg => rfl); (case hn => rfl); (case hr => first | (go_simp; done) | (go_simp; rfl)); intro u hw; have hg : z.grownBy u (some go6) := (by rw [hw]; exact HP10.2); have hp_ : Kd.R k73 73 u w0.heap.size (fun k_ => (P0_ k_ ∨ w.heap.size ≤ k_)) (.slice (some ⟨go6, 0, none⟩) m.length A) y := (by rw [hw, P.out]; exact HP10.1); clear HP10; replace HK := ah.mk (Kept.jK (S := (fun k_ => P0_ k_)) hg (by repeat (first | (with_reducible first | exact HK.out | apply Kept.alloc | apply Kept.drewN | apply Kept.drew) | exact HK.out)) (fun k_ e_ => (o.out.1 k_ e_))); replace o := ah.mk (hp_); replace HB := ah.mk ((by rw [hw]; exact dx (HB.out) GB6.out : Below w0.heap.size w0 u)); clear hg hw hp_; have p7 : 0 ≤ (a : Int) := OD; have q7 : (a : Int) < ((m.length : Int) : Int) := OD; obtain ⟨ce7, hcl7, hM7, hcc7, hfr7⟩ := Kd.jW o.out z73 (a : Int) p7 q7; obtain rfl := mJ hM7; have xk : u.cell? ⟨go6, (a : Int).toNat * 2, none⟩ = some (.string ((dN y a).f0)) := hcc7 0 _ rfl; have xl : u.cell? ⟨go6, (a : Int).toNat * 2 + 1, none⟩ = some (.int .i64 ((dN y a).f1)) := hcc7 1 _ rfl; have hf7_0 : u.frozen? ⟨go6, (a : Int).toNat * 2, none⟩ = false := hfr7 0; have hf7_1 : u.frozen? ⟨go6, (a : Int).toNat * 2 + 1, none⟩ = false := hfr7 1; clear hcl7 hcc7 hfr7 hM7; replace p7 := eq_true p7; replace q7 := eq_true q7; have HX12 := ah.mk (show Kd.R k73 73 u w0.heap.size (fun k_ => (P0_ k_ ∨ w.heap.size ≤ k_)) (.slice (some ⟨go6, 0, none⟩) m.length A) y from (RR o)); obtain ⟨ce12, hcl12, hM12, hcc12, hfr12⟩ := Kd.jW HX12.out z73 (a : Int) (OD) (by have h_ : (a : Int) < ((m.length : Int) : Int) := OD; first | exact h_ | (have e_ := (Kd.aQ o.out).1; omega) | simpa using h_); obtain rfl := mJ hM12; have HP12 := Kd.oK HX12.out (a : Int) (OD) (by have h_ : (a : Int) < ((m.length : Int) : Int) := OD; first | exact h_ | (have e_ := (Kd.aQ o.out).1; omega) | simpa using h_) (seg := [.int .i64 (wrap64 (x + 1))]) (j := 1) hcl12 hcc12 (show 2 ≤ 2 from by decide) (x' := (⟨(dN y a).f0, wrap64 (x + 1)⟩ : S73)) (qg _ _ _ (⟨(dN y a).f0, wrap64 (x + 1)⟩ : S73) ) (fun _ hk => hk); have M := hcc12 1 _ rfl; (try simp only [show (k73).sz = 2 from rfl, Nat.mul_one, Nat.add_zero] at M); have hf12_1 := hfr12 1; (try simp only [show (k73).sz = 2 from rfl, Nat.mul_one, Nat.add_zero] at hf12_1); clear hcl12 hcc12 hfr12 hM12) | ((with_reducible refine fI (t := 3) (p := 24) rfl ?_); refine eU (t := 3) (p := 24) (v := ?vo_w13) (w1 := (u.setCell ⟨go6, (a : Int).toNat * 2 + 1, none⟩ (.int .i64 (wrap64 (x + 1))))) ?hg ?ho ?hn ?hr ?_; (case ho => rfl); (case hg => rfl); (case hn => rfl); (case hr => first | (go_simp; done) | (go_simp; rfl)); intro I hw; have hg : u.grownBy I (some go6) := (by rw [hw]; exact HP12.2); have hp_ : Kd.R k73 73 I w0.heap.size (fun k_ => (P0_ k_ ∨ w.heap.size ≤ k_)) (.slice (some ⟨go6, 0, none⟩) m.length A) O := (by rw [hw, U.out]; exact HP12.1); clear HP12; replace HK := ah.mk (Kept.jK (S := (fun k_ => P0_ k_)) hg (by repeat (first | (with_reducible first | exact HK.out | apply Kept.alloc | apply Kept.drewN | apply Kept.drew) | exact HK.out)) (fun k_ e_ => (o.out.1 k_ e_))); replace o := ah.mk (hp_); replace HB := ah.mk ((by rw [hw]; exact dx (HB.out) GB6.out : Below w0.heap.size w0 I)); clear hg hw hp_));go_roundg k1;case measure => have := X.out; omega
    case rel => exact ⟨_, _, _, EQ, EQ, H', ks X, ⟨(RR o)⟩, ⟨by repeat (first | (with_reducible first | exact HK.out | apply Kept.alloc | apply Kept.drewN | apply Kept.drew) | exact HK.out)⟩, ⟨BL⟩⟩
   ·simp only [Option.some.injEq, Prod.mk.injEq] at H;obtain ⟨rfl, rfl⟩ := H;go_wp2;go_ret;exact ⟨EWW, (RR o), BL, by repeat (first | (with_reducible first | exact HK.out | apply Kept.alloc | apply Kept.drewN | apply Kept.drew) | exact HK.out)⟩
def dU.l0 : Nat → List Oo → Int → Int → Option (Int × List Oo)
 | 0, _, _, _ => none
 | k + 1, a, b, c => if c < (a.length : Int) then (dK.f k b).bind fun d => if 0 ≤ c then dU.l0 k (a.set (c : Int).toNat d) (wrap64 (b + 1)) (wrap64 (c + 1)) else none else some (b, a)
def dU.f (k : Nat) (l0 : List Oo) (a1 : Int) : Option (Int × List Oo) := dU.l0 k l0 a1 0
theorem dU.calls (k : Nat) (P0_ : Nat → Prop) (u9000_ : Value) (l0 : List Oo) (a1 r1 : Int) (r2 : List Oo) (w0 w : World) (hB : Below w0.heap.size w0 w) (U : Kd.R Kd.string 9 w w0.heap.size P0_ u9000_ l0) (h : dU.f k l0 a1 = some (r1, r2)) :
  Calls Tryz.prog 21 #[u9000_, .int .i64 a1] w fun e w' => e = .returned (.int .i64 r1) ∧ Kd.R Kd.string 9 w' w0.heap.size (fun k_ => (P0_ k_ ∨ w.heap.size ≤ k_)) u9000_ r2 ∧ Below w0.heap.size w0 w' ∧ Kept w w' (fun k_ => P0_ k_) := by
 have X := ah.mk (show Kd.R Kd.string 9 w w0.heap.size (fun k_ => (P0_ k_ ∨ w.heap.size ≤ k_)) u9000_ l0 from Kd.aU U (fun k_ hk => (.inl hk)));have HK := ah.mk (Kept.refl w (fun k_ => P0_ k_));have HW0 := ah.mk hB.size;have HB := ah.mk hB;clear hB;unfold dU.f at h;have H := h;clear h;have H' := ah.mk H;clear H;go_enter Tryz.func21, Tryz.ntmps21;go_wp2
 go_loopg [1, 5] k (fun kq v1 v5 w' => ∃ (u : List Oo) (x : Int) (m : Int), v1 = .int .i64 x ∧ v5 = .int .i64 m ∧ ah (dU.l0 kq u x m = some (r1, r2)) ∧ ah (kq ≤ k) ∧ ah (Kd.R Kd.string 9 w' w0.heap.size (fun k_ => (P0_ k_ ∨ w.heap.size ≤ k_)) u9000_ u) ∧ ah (Kept w w' (fun k_ => P0_ k_)) ∧ ah (Below w0.heap.size w0 w'))
 case atStart => exact ⟨_, _, _, EQ, EQ, H', ⟨nR _⟩, ⟨(RR X)⟩, ⟨by repeat (first | (with_reducible first | exact HK.out | apply Kept.alloc | apply Kept.drewN | apply Kept.drew) | exact HK.out)⟩, ⟨BL⟩⟩
 case round =>
  clear H';obtain ⟨u, x, m, rfl, rfl, HA, K, a, HK, HB⟩ := hrel
  cases gk with
  | zero => exact absurd HA.out (by simp [dU.l0])
  | succ k1 =>
   have H := HA.out;clear HA;simp only [dU.l0] at H;obtain ⟨O, E, G⟩ := Kd.bE a.out;subst G;replace H := ifD H; rcases H with ⟨L, H⟩ | ⟨L, H⟩
   ·replace H := be H; obtain ⟨z, A4, H⟩ := H;replace H := ifN H; obtain ⟨xb, H⟩ := H;obtain ⟨I, o⟩ : ∃ y_ : List Oo, y_ = (u.set (m : Int).toNat z) := ⟨_, rfl⟩;replace H : (dU.l0 k1 I (wrap64 (x + 1)) (wrap64 (m + 1))) = some (r1, r2) := cW o H
    have J := ah.mk o;clear o;have H' := ah.mk H;clear H;go_wp2_with (first | ((with_reducible refine au (f := 53) rfl ?_); refine aK (some 15) Tryz.func53 #[.int .i64 x] ?_; (with_reducible refine (dK.calls k1 x z _ A4.out).mono ?_); rintro e D ⟨rfl, hb⟩; refine ⟨_, rfl, ?_⟩; replace a := RB a hb; replace HK := ah.mk (Kept.below (S := (fun k_ => P0_ k_)) (by repeat (first | (with_reducible first | exact HK.out | apply Kept.alloc | apply Kept.drewN | apply Kept.drew) | exact HK.out)) hb); replace HB := BS (w := w0) hb; (try clear hb); have Y : 0 ≤ (m : Int) := OD; have Z : (m : Int) < ((u.length : Int) : Int) := OD; obtain ⟨go6, P, A, M, gl6, cl6, HG6⟩ := Kd.mE a.out (by omega); (first | cases A | (injection A with ea_ en_ ec_; (first | subst ea_ | (injection ea_ with ea_; subst ea_)); subst ec_; clear en_)); have GB6 := ah.mk M; have GG6 := ah.mk HG6; clear M gl6 HG6; have HMgo6 := ah.mk (show (P0_ go6 ∨ w.heap.size ≤ go6) from (a.out.1 _ rfl)); obtain ⟨xa, hf6_0⟩ := Kd.jZ (⟨#[]⟩ : Oo) a.out (m : Int) Y Z; replace Y := eq_true Y; replace Z := eq_true Z; obtain ⟨hy9_, hz9_⟩ := Kd.jZ (⟨#[]⟩ : Oo) a.out (m : Int) (OD) (OD); have HP9 := Kd.nO a.out (m : Int) z) | ((with_reducible refine fI (t := 9) (p := 16) rfl ?_); refine eU (t := 9) (p := 16) (v := ?vo_w10) (w1 := (D.setCell ⟨go6, (m : Int).toNat, none⟩ (.string z))) ?hg ?ho ?hn ?hr ?_; (case ho => rfl); (case hg => rfl); (case hn => rfl); (case hr => first | (go_simp; done) | (go_simp; rfl)); intro y hw; have hg : D.grownBy y (some go6) := (by rw [hw]; exact HP9.2); have hp_ : Kd.R Kd.string 9 y w0.heap.size (fun k_ => (P0_ k_ ∨ w.heap.size ≤ k_)) (.slice (some ⟨go6, 0, none⟩) u.length E) I := (by rw [hw, J.out]; exact HP9.1); clear HP9; replace HK := ah.mk (Kept.jK (S := (fun k_ => P0_ k_)) hg (by repeat (first | (with_reducible first | exact HK.out | apply Kept.alloc | apply Kept.drewN | apply Kept.drew) | exact HK.out)) (fun k_ e_ => (a.out.1 k_ e_))); replace a := ah.mk (hp_); replace HB := ah.mk ((by rw [hw]; exact dx (HB.out) GB6.out : Below w0.heap.size w0 y)); clear hg hw hp_));go_roundg k1;case measure => have := K.out; omega
    case rel => exact ⟨_, _, _, EQ, EQ, H', ks K, ⟨(RR a)⟩, ⟨by repeat (first | (with_reducible first | exact HK.out | apply Kept.alloc | apply Kept.drewN | apply Kept.drew) | exact HK.out)⟩, ⟨BL⟩⟩
   ·simp only [Option.some.injEq, Prod.mk.injEq] at H;obtain ⟨rfl, rfl⟩ := H;go_wp2;go_ret;exact ⟨EWW, (RR a), BL, by repeat (first | (with_reducible first | exact HK.out | apply Kept.alloc | apply Kept.drewN | apply Kept.drew) | exact HK.out)⟩
def aW.f (a0 a1 a2 : Int) : Option (Bool) := if a0 ≥ a1 then some (decide (a0 ≤ a2)) else some false
theorem aW.calls (a a1 o : Int) (r : Bool) (w : World) (h : aW.f a a1 o = some r) :
  Calls Tryz.prog 58 #[.int .i64 a, .int .i64 a1, .int .i64 o] w fun e w' => e = .returned (.bool r) ∧ bU w w' := by
 unfold aW.f at h;have H := h;clear h;replace H := ah.mk H;go_enter Tryz.func58, Tryz.ntmps58;replace H := H.out;by_cases c4 : a ≥ a1
 ·rw [if_pos c4] at H;have m : decide (a1 ≤ a) = true := dT c4;clear c4;obtain rfl := sI H;(try go_wp2);go_ret;exact ⟨EQ, DR⟩
 ·rw [if_neg c4] at H;have m : decide (a1 ≤ a) = false := dF c4;clear c4;obtain rfl := sI H;(try go_wp2);go_ret;exact ⟨EQ, DR⟩
def bg.l0 : Nat → Oo → Int → Option (Bool)
 | 0, _, _ => none
 | k + 1, a, b => if b < (a.size : Int) then if 0 ≤ b then if (bt a b) < 97 then some false else if (bt a b) > 122 then some false else bg.l0 k a (wrap64 (b + 1)) else none else some true
def bg.f (k : Nat) (a0 : Oo) : Option (Bool) := (aW.f (a0.size : Int) 1 8).bind fun t224 => if t224 = true then bg.l0 k a0 0 else some false
theorem bg.calls (k : Nat) (m : Oo) (r : Bool) (w : World) (h : bg.f k m = some r) :
  Calls Tryz.prog 97 #[.string m] w fun e w' => e = .returned (.bool r) ∧ bU w w' := by
 unfold bg.f at h;have H := h;clear h;replace H := be H; obtain ⟨z, A2, H⟩ := H;replace H := ah.mk H;go_enter Tryz.func97, Tryz.ntmps97;go_wp2_with (first | ((with_reducible refine au (f := 58) rfl ?_); refine aK (some 6) Tryz.func58 #[.int .i64 (m.size : Int), .int .i64 1, .int .i64 8] ?_; (with_reducible refine (aW.calls (m.size : Int) 1 8 _ _ A2.out).mono ?_); rintro e w' ⟨rfl, ⟨nd, rfl⟩⟩; refine ⟨_, rfl, ?_⟩; refine bI ?_));refine Hide.mk ?_;replace H := H.out;replace H := ifB H; rcases H with ⟨rfl, H⟩ | ⟨rfl, H⟩
 ·have H' := ah.mk H;clear H;try go_wp2
  go_loopg [3] k (fun kq D w' => ∃ (a : Int), D = .int .i64 a ∧ ah (bg.l0 kq m a = some r) ∧ ah (kq ≤ k) ∧ bU w w')
  case atStart => exact ⟨_, EQ, H', ⟨nR _⟩, DR⟩
  case round =>
   clear H';obtain ⟨a, rfl, HA, o, ⟨m1, rfl⟩⟩ := hrel
   cases gk with
   | zero => exact absurd HA.out (by simp [bg.l0])
   | succ k1 =>
    have H := HA.out;clear HA;simp only [bg.l0] at H;replace H := ifD H; rcases H with ⟨u, H⟩ | ⟨u, H⟩
    ·replace H := ifN H; obtain ⟨A, H⟩ := H;have E : (0 ≤ (a : Int)) = True := OT;have G : (a < (m.size : Int)) = True := OT;have hx6 := fF m a;replace H := ifD H; rcases H with ⟨x, H⟩ | ⟨x, H⟩
     ·obtain rfl := sI H;go_wp2;go_ret;exact ⟨EQ, DR⟩
     ·have I : (0 ≤ (a : Int)) = True := OT;have J : (a < (m.size : Int)) = True := OT;have hx8 := fF m a;by_cases c9 : (bt m a) > 122
      ·rw [if_pos c9] at H;have y : decide (122 < (bt m a)) = true := dT c9;clear c9;obtain rfl := sI H;go_wp2;go_ret;exact ⟨EQ, DR⟩
      ·rw [if_neg c9] at H;have y : decide (122 < (bt m a)) = false := dF c9;clear c9;have H' := ah.mk H;clear H;go_wp2;go_roundg k1;case measure => have := o.out; omega
       case rel => exact ⟨_, EQ, H', ks o, DR⟩
    ·obtain rfl := sI H;go_wp2;go_ret;exact ⟨EQ, DR⟩
 ·obtain rfl := sI H;(try go_wp2);go_ret;exact ⟨EQ, DR⟩
mutual
def gq.j0 : Nat → List bY → Int → Bool → Int → Oo → Int → Int → Option (Bool)
 | 0, _, _, _, _, _, _, _ => none
 | k + 1, a, b, c, d, e, f, g => if c = true then some false else if d = 4 then gq.j1 k a b true d e f g else gq.j1 k a b (d == 5) d e f g
def gq.j1 : Nat → List bY → Int → Bool → Int → Oo → Int → Int → Option (Bool)
 | 0, _, _, _, _, _, _, _ => none
 | k + 1, a, b, c, d, e, f, g => if d = 1 then if f = 0 then some (g == 0) else some false else (aW.f f 0 (wrap64 (b - 1))).bind fun h => if h = true then if c = true then (aW.f g 0 (wrap64 (b - 1))).bind fun i => if i = true then some true else some false else if g = 0 then if d = 2 then some true else if 0 ≤ f then if f < (a.length : Int) then some (((aj a f).f0) == 1) else none else none else some false else some false
end
def gq.f (k : Nat) (l0 : List bY) (a1 : Int) : Option (Bool) := if 0 ≤ a1 then if a1 < (l0.length : Int) then (aW.f ((aj l0 a1).f0) 1 9).bind fun t227 => if t227 = true then (bg.f k ((aj l0 a1).f1)).bind fun t228 => if ((((aj l0 a1).f0) == 1) != t228) = true then gq.j0 k l0 a1 true ((aj l0 a1).f0) ((aj l0 a1).f1) ((aj l0 a1).f2) ((aj l0 a1).f3) else if ((aj l0 a1).f0) = 1 then gq.j0 k l0 a1 false ((aj l0 a1).f0) ((aj l0 a1).f1) ((aj l0 a1).f2) ((aj l0 a1).f3) else gq.j0 k l0 a1 (((aj l0 a1).f1).toList != ([] : List UInt8)) ((aj l0 a1).f0) ((aj l0 a1).f1) ((aj l0 a1).f2) ((aj l0 a1).f3) else gq.j0 k l0 a1 true ((aj l0 a1).f0) ((aj l0 a1).f1) ((aj l0 a1).f2) ((aj l0 a1).f3) else none else none
theorem gq.calls (k : Nat) (A0 : Option Addr) (c0 : Nat) (l0 : List bY) (a1 : Int) (r : Bool) (w : World) (yh : Kd.C gV w A0 l0.length l0) (yi : l0.length ≤ c0) (h : gq.f k l0 a1 = some r) :
  Calls Tryz.prog 171 #[.slice A0 l0.length c0, .int .i64 a1] w fun e w' => e = .returned (.bool r) ∧ Below w.heap.size w w' := by
 have yl := Tryz.underlying127;have xt := ah.mk yh;have yy := ah.mk yi;clear yh yi;have HB := ah.mk (bR w.heap.size w);unfold gq.f at h;have H := h;clear h;replace H := ifN H; obtain ⟨xu, H⟩ := H;replace H := ifN H; obtain ⟨xv, H⟩ := H;have xw := ah.mk H;clear H;have xc : 0 ≤ (a1 : Int) := OD;have xd : a1 < (l0.length : Int) := OD;obtain ⟨xj, yj, xe, xf, xg, xh⟩ := jF xt.out a1 xc xd
 cases yj
 replace xc := eq_true xc;replace xd := eq_true xd;go_enter Tryz.func171, Tryz.ntmps171;go_upto_region 2 with (first | ((with_reducible refine aG (N := 5) rfl ?_); refine aN (N := 5) (cs := #[.int .i64 0, .string (⟨#[]⟩ : Oo), .int .i64 0, .int .i64 0]) (t := 127) ?_; intro xa hg xq hbox hb; have x := ah.mk hbox; have U := SZ (w := w) hg; have xr := U; replace HB := BS (w := w) hb; clear hb hbox hg; obtain ⟨z, A, D, E, G, I, J, K⟩ := cz4 x.out))
 repeat (go_quiet (first | ((with_reducible refine aG (N := 5) rfl ?_); refine aN (N := 5) (cs := #[.int .i64 0, .string (⟨#[]⟩ : Oo), .int .i64 0, .int .i64 0]) (t := 127) ?_; intro xa hg xq hbox hb; have x := ah.mk hbox; have U := SZ (w := w) hg; have xr := U; replace HB := BS (w := w) hb; clear hb hbox hg; obtain ⟨z, A, D, E, G, I, J, K⟩ := cz4 x.out)); go_upto_region 2 with (first | ((with_reducible refine aG (N := 5) rfl ?_); refine aN (N := 5) (cs := #[.int .i64 0, .string (⟨#[]⟩ : Oo), .int .i64 0, .int .i64 0]) (t := 127) ?_; intro xa hg xq hbox hb; have x := ah.mk hbox; have U := SZ (w := w) hg; have xr := U; replace HB := BS (w := w) hb; clear hb hbox hg; obtain ⟨z, A, D, E, G, I, J, K⟩ := cz4 x.out)))
 (try simp only [Act.put, List.setIfInBounds_toArray, List.set_cons_zero, List.set_cons_succ])
 go_cut [33] (fun ym wc => ∃ (kq : Nat) (xk : Bool), ym = .bool xk ∧ ah (gq.j0 kq l0 a1 xk ((aj l0 a1).f0) ((aj l0 a1).f1) ((aj l0 a1).f2) ((aj l0 a1).f3) = some r) ∧ ah (kq ≤ k) ∧ ah (wc.heap[xa]? = some (.cells #[.int .i64 ((aj l0 a1).f0), .string ((aj l0 a1).f1), .int .i64 ((aj l0 a1).f2), .int .i64 ((aj l0 a1).f3)] 127 (0, 0))) ∧ ah (Below w.heap.size w wc))
 case first =>
  have H := xw.out;clear xw;replace H := be H; obtain ⟨yt, A8, H⟩ := H;obtain ⟨xx, xy, xz, xA, xB, xC, xD, xE⟩ := cz4 x.out;replace H := ifB H; rcases H with ⟨rfl, H⟩ | ⟨rfl, H⟩
  ·replace H := be H; obtain ⟨y, xb, H⟩ := H;by_cases X : ((((aj l0 a1).f0) == 1) != y) = true
   ·rw [if_pos X] at H;have P : ((((aj l0 a1).f0) == 1) != y) = true := X;(try (have xF : decide ((((aj l0 a1).f0) == 1) = y) = false := by simpa using X));(try (have xG : ((((aj l0 a1).f0) == 1) == y) = false := by simpa using X));(try (have yn : ¬ ((((aj l0 a1).f0) == 1) = y) := by simpa using X));clear X;(first | rw [P] | (simp only [gH, iE]; rw [P]) | skip);have H' := ah.mk H;clear H
    repeat (go_wp2_with (first | (go_at_call 58; (with_reducible refine (aW.calls ((aj l0 a1).f0) 1 9 _ _ A8.out).mono ?_); rintro e w' ⟨rfl, ⟨nd, rfl⟩⟩; (try first | exact da | exact DD)) | (go_at_call 97; (with_reducible refine (bg.calls k ((aj l0 a1).f1) y _ xb.out).mono ?_); rintro e w' ⟨rfl, ⟨nd, rfl⟩⟩; (try first | exact da | exact DD))); go_quiet (first | (go_at_call 58; (with_reducible refine (aW.calls ((aj l0 a1).f0) 1 9 _ _ A8.out).mono ?_); rintro e w' ⟨rfl, ⟨nd, rfl⟩⟩; (try first | exact da | exact DD)) | (go_at_call 97; (with_reducible refine (bg.calls k ((aj l0 a1).f1) y _ xb.out).mono ?_); rintro e w' ⟨rfl, ⟨nd, rfl⟩⟩; (try first | exact da | exact DD))))
    go_wp2_with (first | (go_at_call 58; (with_reducible refine (aW.calls ((aj l0 a1).f0) 1 9 _ _ A8.out).mono ?_); rintro e w' ⟨rfl, ⟨nd, rfl⟩⟩; (try first | exact da | exact DD)) | (go_at_call 97; (with_reducible refine (bg.calls k ((aj l0 a1).f1) y _ xb.out).mono ?_); rintro e w' ⟨rfl, ⟨nd, rfl⟩⟩; (try first | exact da | exact DD)));go_meet;case rel => exact ⟨_, (true), (by first | rfl | (simp; done) | (simp [*]; rw [Bool.eq_iff_iff]; simp [bne, List.isEmpty_iff]; done) | (simp [*]; done)), H', ⟨by first | omega | exact nR _⟩, ⟨by (with_reducible repeat (first | refine ay ?_ _ | refine aC ?_ | refine av ?_ _ | apply aI)); exact x.out; all_goals rfl⟩, ⟨BL⟩⟩
   ·rw [if_neg X] at H;have P : ((((aj l0 a1).f0) == 1) != y) = false := by simpa using X
    (try (have xF : decide ((((aj l0 a1).f0) == 1) = y) = true := by simpa using X));(try (have xG : ((((aj l0 a1).f0) == 1) == y) = true := by simpa using X));clear X;(first | rw [P] | (simp only [gH, iE]; rw [P]) | skip);by_cases xl : ((aj l0 a1).f0) = 1
    ·rw [if_pos xl] at H;have xm : (((aj l0 a1).f0) == 1) = true := beq_iff_eq.mpr xl;have xH : (((aj l0 a1).f0) != 1) = false := bne_eq_false_iff_eq.mpr xl;have cw_ : y = true := by simpa [xm] using P   -- mended
     clear xl;have H' := ah.mk H;clear H
     repeat (go_wp2_with (first | (go_at_call 58; (with_reducible refine (aW.calls ((aj l0 a1).f0) 1 9 _ _ A8.out).mono ?_); rintro e w' ⟨rfl, ⟨nd, rfl⟩⟩; (try first | exact da | exact DD)) | (go_at_call 97; (with_reducible refine (bg.calls k ((aj l0 a1).f1) y _ xb.out).mono ?_); rintro e w' ⟨rfl, ⟨nd, rfl⟩⟩; (try first | exact da | exact DD))); go_quiet (first | (go_at_call 58; (with_reducible refine (aW.calls ((aj l0 a1).f0) 1 9 _ _ A8.out).mono ?_); rintro e w' ⟨rfl, ⟨nd, rfl⟩⟩; (try first | exact da | exact DD)) | (go_at_call 97; (with_reducible refine (bg.calls k ((aj l0 a1).f1) y _ xb.out).mono ?_); rintro e w' ⟨rfl, ⟨nd, rfl⟩⟩; (try first | exact da | exact DD))))
     go_wp2_with (first | (go_at_call 58; (with_reducible refine (aW.calls ((aj l0 a1).f0) 1 9 _ _ A8.out).mono ?_); rintro e w' ⟨rfl, ⟨nd, rfl⟩⟩; (try first | exact da | exact DD)) | (go_at_call 97; (with_reducible refine (bg.calls k ((aj l0 a1).f1) y _ xb.out).mono ?_); rintro e w' ⟨rfl, ⟨nd, rfl⟩⟩; (try first | exact da | exact DD)));go_meet;case rel => exact ⟨_, (false), (by first | rfl | (simp; done) | (simp [*]; rw [Bool.eq_iff_iff]; simp [bne, List.isEmpty_iff]; done) | (simp [*]; done)), H', ⟨by first | omega | exact nR _⟩, ⟨by (with_reducible repeat (first | refine ay ?_ _ | refine aC ?_ | refine av ?_ _ | apply aI)); exact x.out; all_goals rfl⟩, ⟨BL⟩⟩
    ·rw [if_neg xl] at H;have xm : (((aj l0 a1).f0) == 1) = false := beq_eq_false_iff_ne.mpr xl;have xH : (((aj l0 a1).f0) != 1) = true := bne_iff_ne.mpr xl;have cw_ : y = false := by simpa [xm] using P   -- mended
     have H' := ah.mk H;clear H
     repeat (go_wp2_with (first | (go_at_call 58; (with_reducible refine (aW.calls ((aj l0 a1).f0) 1 9 _ _ A8.out).mono ?_); rintro e w' ⟨rfl, ⟨nd, rfl⟩⟩; (try first | exact da | exact DD)) | (go_at_call 97; (with_reducible refine (bg.calls k ((aj l0 a1).f1) y _ xb.out).mono ?_); rintro e w' ⟨rfl, ⟨nd, rfl⟩⟩; (try first | exact da | exact DD))); go_quiet (first | (go_at_call 58; (with_reducible refine (aW.calls ((aj l0 a1).f0) 1 9 _ _ A8.out).mono ?_); rintro e w' ⟨rfl, ⟨nd, rfl⟩⟩; (try first | exact da | exact DD)) | (go_at_call 97; (with_reducible refine (bg.calls k ((aj l0 a1).f1) y _ xb.out).mono ?_); rintro e w' ⟨rfl, ⟨nd, rfl⟩⟩; (try first | exact da | exact DD))))
     go_wp2_with (first | (go_at_call 58; (with_reducible refine (aW.calls ((aj l0 a1).f0) 1 9 _ _ A8.out).mono ?_); rintro e w' ⟨rfl, ⟨nd, rfl⟩⟩; (try first | exact da | exact DD)) | (go_at_call 97; (with_reducible refine (bg.calls k ((aj l0 a1).f1) y _ xb.out).mono ?_); rintro e w' ⟨rfl, ⟨nd, rfl⟩⟩; (try first | exact da | exact DD)));go_meet;case rel => exact ⟨_, ((((aj l0 a1).f1).toList != ([] : List UInt8))), (by first | rfl | (simp; done) | (simp [*]; rw [Bool.eq_iff_iff]; simp [bne, List.isEmpty_iff]; done) | (simp [*]; done)), H', ⟨by first | omega | exact nR _⟩, ⟨by (with_reducible repeat (first | refine ay ?_ _ | refine aC ?_ | refine av ?_ _ | apply aI)); exact x.out; all_goals rfl⟩, ⟨BL⟩⟩
  ·have H' := ah.mk H;clear H
   repeat (go_wp2_with (first | (go_at_call 58; (with_reducible refine (aW.calls ((aj l0 a1).f0) 1 9 _ _ A8.out).mono ?_); rintro e w' ⟨rfl, ⟨nd, rfl⟩⟩; (try first | exact da | exact DD))); go_quiet (first | (go_at_call 58; (with_reducible refine (aW.calls ((aj l0 a1).f0) 1 9 _ _ A8.out).mono ?_); rintro e w' ⟨rfl, ⟨nd, rfl⟩⟩; (try first | exact da | exact DD))))
   go_wp2_with (first | (go_at_call 58; (with_reducible refine (aW.calls ((aj l0 a1).f0) 1 9 _ _ A8.out).mono ?_); rintro e w' ⟨rfl, ⟨nd, rfl⟩⟩; (try first | exact da | exact DD)));go_meet;case rel => exact ⟨_, (true), (by first | rfl | (simp; done) | (simp [*]; rw [Bool.eq_iff_iff]; simp [bne, List.isEmpty_iff]; done) | (simp [*]; done)), H', ⟨by first | omega | exact nR _⟩, ⟨by (with_reducible repeat (first | refine ay ?_ _ | refine aC ?_ | refine av ?_ _ | apply aI)); exact x.out; all_goals rfl⟩, ⟨BL⟩⟩
 case rest =>
  clear xw;(try clear xu);(try clear xv);(try clear z A D E G I J K);(try clear xe);(try clear xf);(try clear xg);(try clear xh);(try clear xc);(try clear xd);obtain ⟨kq, xk, rfl, HA, yk, x, HB⟩ := hcut
  cases kq with
  | zero => exact absurd HA.out (by simp [gq.j0])
  | succ yo =>
   have H := HA.out;clear HA;simp only [gq.j0] at H;replace H := ifB H; rcases H with ⟨rfl, H⟩ | ⟨rfl, H⟩
   ·obtain rfl := sI H;go_wp2
    repeat (go_quiet (fail); try go_wp2)
    go_ret;exact ⟨EWW, BL⟩
   ·have xs := ah.mk H;clear H;go_upto_region 4 with (fail)
    repeat (go_quiet (fail); go_upto_region 4 with (fail))
    go_cut [6] (fun v6 wc => ∃ (kq : Nat) (xn : Bool), v6 = .bool xn ∧ ah (gq.j1 kq l0 a1 xn ((aj l0 a1).f0) ((aj l0 a1).f1) ((aj l0 a1).f2) ((aj l0 a1).f3) = some r) ∧ ah (kq ≤ yo) ∧ ah (wc.heap[xa]? = some (.cells #[.int .i64 ((aj l0 a1).f0), .string ((aj l0 a1).f1), .int .i64 ((aj l0 a1).f2), .int .i64 ((aj l0 a1).f3)] 127 (0, 0))) ∧ ah (Below w.heap.size w wc))
    case first =>
     have H := xs.out;clear xs;obtain ⟨xI, xJ, xK, xL, xM, xN, xO, xP⟩ := cz4 x.out;replace H := ifE H; rcases H with ⟨Y, xQ, H⟩ | ⟨yA, Y, xQ, H⟩
     ·(first | rw [Y] | (simp only [gH, iE]; rw [Y]) | skip);have H' := ah.mk H;clear H;go_wp2
      repeat (go_quiet (fail); try go_wp2)
      go_meet;case rel => exact ⟨_, (true), (by first | rfl | (simp; done) | (simp [*]; rw [Bool.eq_iff_iff]; simp [bne, List.isEmpty_iff]; done) | (simp [*]; done)), H', ⟨by have := yk.out; first | omega | exact nR _⟩, ⟨BK⟩, ⟨BL⟩⟩
     ·(first | rw [Y] | (simp only [gH, iE]; rw [Y]) | skip);have H' := ah.mk H;clear H;go_wp2
      repeat (go_quiet (fail); try go_wp2)
      go_meet;case rel => exact ⟨_, ((((aj l0 a1).f0) == 5)), (by first | rfl | (simp; done) | (simp [*]; rw [Bool.eq_iff_iff]; simp [bne, List.isEmpty_iff]; done) | (simp [*]; done)), H', ⟨by have := yk.out; first | omega | exact nR _⟩, ⟨BK⟩, ⟨BL⟩⟩
    case rest =>
     clear xs;(try clear xu);(try clear xv);(try clear z A D E G I J K);(try clear xe);(try clear xf);(try clear xg);(try clear xh);(try clear xc);(try clear xd);obtain ⟨kq, xn, rfl, HA, yu, x, HB⟩ := hcut
     cases kq with
     | zero => exact absurd HA.out (by simp [gq.j1])
     | succ yv =>
      have H := HA.out;clear HA;simp only [gq.j1] at H;obtain ⟨xR, xS, xT, xU, xV, xW, xX, xY⟩ := cz4 x.out;replace H := ifE H; rcases H with ⟨xZ, ya, H⟩ | ⟨yC, xZ, ya, H⟩
      ·replace H := ifE H; rcases H with ⟨yb, yc, H⟩ | ⟨yD, yb, yc, H⟩
       ·obtain rfl := sI H;go_wp2
        repeat (go_quiet (fail); try go_wp2)
        go_ret;exact ⟨EWW, BL⟩
       ·obtain rfl := sI H;go_wp2
        repeat (go_quiet (fail); try go_wp2)
        go_ret;exact ⟨EWW, BL⟩
      ·replace H := be H; obtain ⟨yw, L, H⟩ := H;replace H := ifB H; rcases H with ⟨rfl, H⟩ | ⟨rfl, H⟩
       ·replace H := ifB H; rcases H with ⟨rfl, H⟩ | ⟨rfl, H⟩
        ·replace H := be H; obtain ⟨yx, xo, H⟩ := H;replace H := ifB H; rcases H with ⟨rfl, H⟩ | ⟨rfl, H⟩
         ·obtain rfl := sI H
          repeat (go_wp2_with (first | (go_at_call 58; (with_reducible refine (aW.calls ((aj l0 a1).f2) 0 (wrap64 (a1 - 1)) _ _ L.out).mono ?_); rintro e w' ⟨rfl, ⟨nd, rfl⟩⟩; (try first | exact da | exact DD)) | (go_at_call 58; (with_reducible refine (aW.calls ((aj l0 a1).f3) 0 (wrap64 (a1 - 1)) _ _ xo.out).mono ?_); rintro e w' ⟨rfl, ⟨nd, rfl⟩⟩; (try first | exact da | exact DD))); go_quiet (first | (go_at_call 58; (with_reducible refine (aW.calls ((aj l0 a1).f2) 0 (wrap64 (a1 - 1)) _ _ L.out).mono ?_); rintro e w' ⟨rfl, ⟨nd, rfl⟩⟩; (try first | exact da | exact DD)) | (go_at_call 58; (with_reducible refine (aW.calls ((aj l0 a1).f3) 0 (wrap64 (a1 - 1)) _ _ xo.out).mono ?_); rintro e w' ⟨rfl, ⟨nd, rfl⟩⟩; (try first | exact da | exact DD))))
          go_wp2_with (first | (go_at_call 58; (with_reducible refine (aW.calls ((aj l0 a1).f2) 0 (wrap64 (a1 - 1)) _ _ L.out).mono ?_); rintro e w' ⟨rfl, ⟨nd, rfl⟩⟩; (try first | exact da | exact DD)) | (go_at_call 58; (with_reducible refine (aW.calls ((aj l0 a1).f3) 0 (wrap64 (a1 - 1)) _ _ xo.out).mono ?_); rintro e w' ⟨rfl, ⟨nd, rfl⟩⟩; (try first | exact da | exact DD)));go_ret;exact ⟨EWW, BL⟩
         ·obtain rfl := sI H
          repeat (go_wp2_with (first | (go_at_call 58; (with_reducible refine (aW.calls ((aj l0 a1).f2) 0 (wrap64 (a1 - 1)) _ _ L.out).mono ?_); rintro e w' ⟨rfl, ⟨nd, rfl⟩⟩; (try first | exact da | exact DD)) | (go_at_call 58; (with_reducible refine (aW.calls ((aj l0 a1).f3) 0 (wrap64 (a1 - 1)) _ _ xo.out).mono ?_); rintro e w' ⟨rfl, ⟨nd, rfl⟩⟩; (try first | exact da | exact DD))); go_quiet (first | (go_at_call 58; (with_reducible refine (aW.calls ((aj l0 a1).f2) 0 (wrap64 (a1 - 1)) _ _ L.out).mono ?_); rintro e w' ⟨rfl, ⟨nd, rfl⟩⟩; (try first | exact da | exact DD)) | (go_at_call 58; (with_reducible refine (aW.calls ((aj l0 a1).f3) 0 (wrap64 (a1 - 1)) _ _ xo.out).mono ?_); rintro e w' ⟨rfl, ⟨nd, rfl⟩⟩; (try first | exact da | exact DD))))
          go_wp2_with (first | (go_at_call 58; (with_reducible refine (aW.calls ((aj l0 a1).f2) 0 (wrap64 (a1 - 1)) _ _ L.out).mono ?_); rintro e w' ⟨rfl, ⟨nd, rfl⟩⟩; (try first | exact da | exact DD)) | (go_at_call 58; (with_reducible refine (aW.calls ((aj l0 a1).f3) 0 (wrap64 (a1 - 1)) _ _ xo.out).mono ?_); rintro e w' ⟨rfl, ⟨nd, rfl⟩⟩; (try first | exact da | exact DD)));go_ret;exact ⟨EWW, BL⟩
        ·replace H := ifE H; rcases H with ⟨yd, ye, H⟩ | ⟨yE, yd, ye, H⟩
         ·replace H := ifE H; rcases H with ⟨yf, yg, H⟩ | ⟨yF, yf, yg, H⟩
          ·obtain rfl := sI H
           repeat (go_wp2_with (first | (go_at_call 58; (with_reducible refine (aW.calls ((aj l0 a1).f2) 0 (wrap64 (a1 - 1)) _ _ L.out).mono ?_); rintro e w' ⟨rfl, ⟨nd, rfl⟩⟩; (try first | exact da | exact DD))); go_quiet (first | (go_at_call 58; (with_reducible refine (aW.calls ((aj l0 a1).f2) 0 (wrap64 (a1 - 1)) _ _ L.out).mono ?_); rintro e w' ⟨rfl, ⟨nd, rfl⟩⟩; (try first | exact da | exact DD))))
           go_wp2_with (first | (go_at_call 58; (with_reducible refine (aW.calls ((aj l0 a1).f2) 0 (wrap64 (a1 - 1)) _ _ L.out).mono ?_); rintro e w' ⟨rfl, ⟨nd, rfl⟩⟩; (try first | exact da | exact DD)));go_ret;exact ⟨EWW, BL⟩
          ·replace H := ifN H; obtain ⟨yp, H⟩ := H;replace H := ifN H; obtain ⟨yq, H⟩ := H;obtain rfl := sI H
           repeat (go_wp2_with (first | (go_at_call 58; (with_reducible refine (aW.calls ((aj l0 a1).f2) 0 (wrap64 (a1 - 1)) _ _ L.out).mono ?_); rintro e w' ⟨rfl, ⟨nd, rfl⟩⟩; (try first | exact da | exact DD); have M : 0 ≤ (((aj l0 a1).f2) : Int) := OD; have O : ((aj l0 a1).f2) < (l0.length : Int) := OD; obtain ⟨Z, xi, a, m, o, u⟩ := jF xt.out ((aj l0 a1).f2) M O; obtain rfl : xj = Z := (by injection xi); replace a := (HB.out.cell (wB w _ a)).trans a; replace m := (HB.out.cell (wB w _ m)).trans m; replace o := (HB.out.cell (wB w _ o)).trans o; replace u := (HB.out.cell (wB w _ u)).trans u; replace M := eq_true M; replace O := eq_true O)); go_quiet (first | (go_at_call 58; (with_reducible refine (aW.calls ((aj l0 a1).f2) 0 (wrap64 (a1 - 1)) _ _ L.out).mono ?_); rintro e w' ⟨rfl, ⟨nd, rfl⟩⟩; (try first | exact da | exact DD); have M : 0 ≤ (((aj l0 a1).f2) : Int) := OD; have O : ((aj l0 a1).f2) < (l0.length : Int) := OD; obtain ⟨Z, xi, a, m, o, u⟩ := jF xt.out ((aj l0 a1).f2) M O; obtain rfl : xj = Z := (by injection xi); replace a := (HB.out.cell (wB w _ a)).trans a; replace m := (HB.out.cell (wB w _ m)).trans m; replace o := (HB.out.cell (wB w _ o)).trans o; replace u := (HB.out.cell (wB w _ u)).trans u; replace M := eq_true M; replace O := eq_true O)))
           go_wp2_with (first | (go_at_call 58; (with_reducible refine (aW.calls ((aj l0 a1).f2) 0 (wrap64 (a1 - 1)) _ _ L.out).mono ?_); rintro e w' ⟨rfl, ⟨nd, rfl⟩⟩; (try first | exact da | exact DD); have M : 0 ≤ (((aj l0 a1).f2) : Int) := OD; have O : ((aj l0 a1).f2) < (l0.length : Int) := OD; obtain ⟨Z, xi, a, m, o, u⟩ := jF xt.out ((aj l0 a1).f2) M O; obtain rfl : xj = Z := (by injection xi); replace a := (HB.out.cell (wB w _ a)).trans a; replace m := (HB.out.cell (wB w _ m)).trans m; replace o := (HB.out.cell (wB w _ o)).trans o; replace u := (HB.out.cell (wB w _ u)).trans u; replace M := eq_true M; replace O := eq_true O));go_ret;exact ⟨EWW, BL⟩
         ·obtain rfl := sI H
          repeat (go_wp2_with (first | (go_at_call 58; (with_reducible refine (aW.calls ((aj l0 a1).f2) 0 (wrap64 (a1 - 1)) _ _ L.out).mono ?_); rintro e w' ⟨rfl, ⟨nd, rfl⟩⟩; (try first | exact da | exact DD))); go_quiet (first | (go_at_call 58; (with_reducible refine (aW.calls ((aj l0 a1).f2) 0 (wrap64 (a1 - 1)) _ _ L.out).mono ?_); rintro e w' ⟨rfl, ⟨nd, rfl⟩⟩; (try first | exact da | exact DD))))
          go_wp2_with (first | (go_at_call 58; (with_reducible refine (aW.calls ((aj l0 a1).f2) 0 (wrap64 (a1 - 1)) _ _ L.out).mono ?_); rintro e w' ⟨rfl, ⟨nd, rfl⟩⟩; (try first | exact da | exact DD)));go_ret;exact ⟨EWW, BL⟩
       ·obtain rfl := sI H
        repeat (go_wp2_with (first | (go_at_call 58; (with_reducible refine (aW.calls ((aj l0 a1).f2) 0 (wrap64 (a1 - 1)) _ _ L.out).mono ?_); rintro e w' ⟨rfl, ⟨nd, rfl⟩⟩; (try first | exact da | exact DD))); go_quiet (first | (go_at_call 58; (with_reducible refine (aW.calls ((aj l0 a1).f2) 0 (wrap64 (a1 - 1)) _ _ L.out).mono ?_); rintro e w' ⟨rfl, ⟨nd, rfl⟩⟩; (try first | exact da | exact DD))))
        go_wp2_with (first | (go_at_call 58; (with_reducible refine (aW.calls ((aj l0 a1).f2) 0 (wrap64 (a1 - 1)) _ _ L.out).mono ?_); rintro e w' ⟨rfl, ⟨nd, rfl⟩⟩; (try first | exact da | exact DD)));go_ret;exact ⟨EWW, BL⟩
mutual
def fD.l0 : Nat → List bY → Int → Option (Bool)
 | 0, _, _ => none
 | k + 1, a, b => if b < (a.length : Int) then fD.j1 k a b (decide ((a.length : Int) ≤ 9)) else fD.j1 k a b false
def fD.j1 : Nat → List bY → Int → Bool → Option (Bool)
 | 0, _, _, _ => none
 | k + 1, a, b, c => if c = true then (gq.f k a b).bind fun d => if d = true then fD.l0 k a (wrap64 (b + 1)) else some false else (aW.f (a.length : Int) 1 9).bind fun e => some e
end
def fD.f (k : Nat) (l0 : List bY) : Option (Bool) := fD.l0 k l0 0
theorem fD.calls (k : Nat) (G : Option Addr) (I : Nat) (l0 : List bY) (r : Bool) (w : World) (y : Kd.C gV w G l0.length l0) (z : l0.length ≤ I) (h : fD.f k l0 = some r) :
  Calls Tryz.prog 129 #[.slice G l0.length I] w fun e w' => e = .returned (.bool r) ∧ Below w.heap.size w w' := by
 have J := ah.mk y;have K := ah.mk z;clear y z;have HB := ah.mk (bR w.heap.size w);have H : (fD.l0 k l0 0) = some r := h;clear h;have H' := ah.mk H;clear H;go_enter Tryz.func129, Tryz.ntmps129;go_wp2
 go_loopg [3] k (fun kq P w' => ∃ (a : Int), P = .int .i64 a ∧ ah (fD.l0 kq l0 a = some r) ∧ ah (kq ≤ k) ∧ ah (Below w.heap.size w w'))
 case atStart => exact ⟨_, EQ, H', ⟨nR _⟩, ⟨BL⟩⟩
 case round =>
  clear H';obtain ⟨a, rfl, HA, u, HB⟩ := hrel
  cases gk with
  | zero => exact absurd HA.out (by simp [fD.l0])
  | succ k1 =>
   have H := HA.out;clear HA;simp only [fD.l0] at H;have x := ah.mk H;clear H;go_upto_region 2 with (fail)
   go_cut [12] (fun L wc => ∃ (kq : Nat) (o : Bool), L = .bool o ∧ ah (fD.j1 kq l0 a o = some r) ∧ ah (kq ≤ k1) ∧ ah (Below w.heap.size w wc))
   case first =>
    have H := x.out;clear x;replace H := ifD H; rcases H with ⟨m, H⟩ | ⟨m, H⟩
    ·(first | rw [m] | (simp only [gH, iE]; rw [m]) | skip);have H' := ah.mk H;clear H;go_wp2;go_meet;case rel => exact ⟨_, _, EQ, H', ⟨by have := u.out; first | omega | exact nR _⟩, ⟨BL⟩⟩
    ·(first | rw [m] | (simp only [gH, iE]; rw [m]) | skip);have H' := ah.mk H;clear H;go_wp2;go_meet;case rel => exact ⟨_, _, EQ, H', ⟨by have := u.out; first | omega | exact nR _⟩, ⟨BL⟩⟩
   case rest =>
    clear x;obtain ⟨kq, o, rfl, HA, A, HB⟩ := hcut
    cases kq with
    | zero => exact absurd HA.out (by simp [fD.j1])
    | succ D =>
     have H := HA.out;clear HA;simp only [fD.j1] at H;replace H := ifB H; rcases H with ⟨rfl, H⟩ | ⟨rfl, H⟩
     ·replace H := be H; obtain ⟨O, U, H⟩ := H;replace H := ah.mk H;go_wp2_with (first | ((with_reducible refine au (f := 171) rfl ?_); refine aK (some 17) Tryz.func171 #[.slice G l0.length I, .int .i64 a] ?_; (with_reducible refine (gq.calls D _ _ l0 a _ _ ?s1_ ?s2_ U.out).mono ?_); (case s1_ => exact CB J); (case s2_ => exact K.out); rintro e M ⟨rfl, hb⟩; refine ⟨_, rfl, ?_⟩; replace HB := BS (w := w) hb; (try clear hb); refine bI ?_));refine Hide.mk ?_;replace H := H.out;replace H := ifB H; rcases H with ⟨rfl, H⟩ | ⟨rfl, H⟩
      ·have H' := ah.mk H;clear H;(try go_wp2);go_roundg D;case measure => have := u.out; have := A.out; omega
       case rel => exact ⟨_, EQ, H', kt u A, ⟨BL⟩⟩
      ·obtain rfl := sI H;(try go_wp2);go_ret;exact ⟨EWW, BL⟩
     ·replace H := be H; obtain ⟨E, X, H⟩ := H;obtain rfl := sI H;go_wp2_with (first | ((with_reducible refine au (f := 58) rfl ?_); refine aK (some 21) Tryz.func58 #[.int .i64 (l0.length : Int), .int .i64 1, .int .i64 9] ?_; (with_reducible refine (aW.calls (l0.length : Int) 1 9 E _ X.out).mono ?_); rintro e w' ⟨rfl, ⟨nd, rfl⟩⟩; refine ⟨_, rfl, ?_⟩));go_ret;exact ⟨EWW, BL⟩
def mD.f (k : Nat) (Dp : Int) (l0_1 : List bY) : Option (Bool) := (aW.f Dp 1 99).bind fun t235 => if t235 = true then (fD.f k l0_1).bind fun t236 => some t236 else some false
theorem mD.calls (k : Nat) (Dp : Int) (o : Option Addr) (u : Nat) (a : List bY) (r : Bool) (w : World) (x : Kd.C gV w o a.length a) (y : a.length ≤ u) (h : mD.f k Dp a = some r) :
  Calls Tryz.prog 74 #[.agg #[.int .i64 Dp, .slice o a.length u]] w fun e w' => e = .returned (.bool r) ∧ Below w.heap.size w w' := by
 have U := Tryz.underlying70;have z := ah.mk x;have A := ah.mk y;clear x y;have HB := ah.mk (bR w.heap.size w);unfold mD.f at h;have H := h;clear h;replace H := be H; obtain ⟨X, A2, H⟩ := H;replace H := ah.mk H;go_enter Tryz.func74, Tryz.ntmps74;go_wp2_with (first | ((with_reducible refine aG (N := 1) rfl ?_); refine aN (N := 1) (cs := #[.int .i64 Dp, .slice o a.length u]) (t := 70) ?_; intro L hg M hbox hb; have m := ah.mk hbox; have D := SZ (w := w) hg; have O := D; replace HB := BS (w := w) hb; clear hb hbox hg; obtain ⟨E, G, I, J⟩ := cz2 m.out) | ((with_reducible refine au (f := 58) rfl ?_); refine aK (some 5) Tryz.func58 #[.int .i64 Dp, .int .i64 1, .int .i64 99] ?_; (with_reducible refine (aW.calls Dp 1 99 _ _ A2.out).mono ?_); rintro e w' ⟨rfl, ⟨nd, rfl⟩⟩; refine ⟨_, rfl, ?_⟩; refine bI ?_));refine Hide.mk ?_;replace H := H.out;replace H := ifB H; rcases H with ⟨rfl, H⟩ | ⟨rfl, H⟩
 ·replace H := be H; obtain ⟨K, Y, H⟩ := H;obtain rfl := sI H;(try go_wp2_with (first | (go_at_call 129; (with_reducible refine (fD.calls k _ _ a K _ ?s1_ ?s2_ Y.out).mono ?_); (case s1_ => repeat (first | exact (Kd.dz z.out BL) | (with_reducible refine Kd.fU ?_ _) | (with_reducible refine Kd.fV ?_ _) | (with_reducible refine Kd.iy ?_))); (case s2_ => exact A.out); rintro e P ⟨rfl, hb⟩; replace m := KB m hb; replace HB := BS (w := w) hb; (try clear hb))));go_ret;exact ⟨EWW, BL⟩
 ·obtain rfl := sI H;(try go_wp2);go_ret;exact ⟨EWW, BL⟩
mutual
def bQ.j0 : Nat → Bool → Int → Int → Oo → Option (Bool)
 | 0, _, _, _, _ => none
 | k + 1, a, b, c, d => if a = true then some false else bQ.l0 k 0 b c d
def bQ.l0 : Nat → Int → Int → Int → Oo → Option (Bool)
 | 0, _, _, _, _ => none
 | k + 1, a, b, c, d => if a < (d.size : Int) then if 0 ≤ a then if (bt d a) = 35 then bQ.l0 k (wrap64 (a + 1)) b c d else if (bt d a) = 46 then bQ.l0 k (wrap64 (a + 1)) b c d else some false else none else some true
end
def bQ.f (k : Nat) (Dp Dq : Int) (Dr : Oo) : Option (Bool) := (aW.f Dp 2 6).bind fun t238 => if t238 = true then (aW.f Dq 2 6).bind fun t239 => if t239 = true then bQ.j0 k ((Dr.size : Int) != (wrap64 (Dp * Dq))) Dp Dq Dr else bQ.j0 k true Dp Dq Dr else bQ.j0 k true Dp Dq Dr
theorem bQ.calls (k : Nat) (Dp Dq : Int) (Dr : Oo) (r : Bool) (w : World) (h : bQ.f k Dp Dq Dr = some r) :
  Calls Tryz.prog 77 #[.agg #[.int .i64 Dp, .int .i64 Dq, .string Dr]] w fun e w' => e = .returned (.bool r) ∧ Below w.heap.size w w' := by
 have xh := Tryz.underlying35;have HB := ah.mk (bR w.heap.size w);unfold bQ.f at h;have H := h;clear h;have z := ah.mk H;clear H;go_enter Tryz.func77, Tryz.ntmps77;go_upto_region 1 with (first | ((with_reducible refine aG (N := 1) rfl ?_); (try (refine iO (by rfl) ?_; dsimp only)); refine aN (N := 1) (cs := #[.int .i64 Dp, .int .i64 Dq, .string Dr]) (t := 35) ?_; intro u hg w3 hbox hb; have m := ah.mk hbox; have A := SZ (w := w) hg; have xe := A; replace HB := BS (w := w) hb; clear hb hbox hg));(try simp only [Act.put, List.setIfInBounds_toArray, List.set_cons_zero, List.set_cons_succ])
 go_cut [24] (fun xf wc => ∃ (kq : Nat) (o : Bool), xf = .bool o ∧ ah (bQ.j0 kq o Dp Dq Dr = some r) ∧ ah (kq ≤ k) ∧ ah (wc.heap[u]? = some (.cells #[.int .i64 Dp, .int .i64 Dq, .string Dr] 35 (0, 0))) ∧ ah (Below w.heap.size w wc))
 case first =>
  have H := z.out;clear z;replace H := be H; obtain ⟨xi, A4, H⟩ := H;obtain ⟨D, E, G, I, J, K⟩ := cz3 m.out;replace H := ah.mk H;go_wp2_with (first | ((with_reducible refine au (f := 58) rfl ?_); refine aK (some 6) Tryz.func58 #[.int .i64 Dp, .int .i64 2, .int .i64 6] ?_; (with_reducible refine (aW.calls Dp 2 6 _ _ A4.out).mono ?_); rintro e w' ⟨rfl, ⟨nd, rfl⟩⟩; refine ⟨_, rfl, ?_⟩; refine bI ?_));refine Hide.mk ?_;replace H := H.out;replace H := ifB H; rcases H with ⟨rfl, H⟩ | ⟨rfl, H⟩
  ·replace H := be H; obtain ⟨xj, A6, H⟩ := H;replace H := ah.mk H;go_wp2_with (first | (go_at_call 58; (with_reducible refine (aW.calls Dq 2 6 _ _ A6.out).mono ?_); rintro e w' ⟨rfl, ⟨nd, rfl⟩⟩; refine bI ?_));refine Hide.mk ?_;replace H := H.out;replace H := ifB H; rcases H with ⟨rfl, H⟩ | ⟨rfl, H⟩
   ·have H' := ah.mk H;clear H;(try go_wp2);go_meet;case rel => exact ⟨_, _, EQ, H', ⟨by first | omega | exact nR _⟩, ⟨BK⟩, ⟨BL⟩⟩
   ·have H' := ah.mk H;clear H;(try go_wp2);go_meet;case rel => exact ⟨_, _, EQ, H', ⟨by first | omega | exact nR _⟩, ⟨BK⟩, ⟨BL⟩⟩
  ·have H' := ah.mk H;clear H;(try go_wp2);go_meet;case rel => exact ⟨_, _, EQ, H', ⟨by first | omega | exact nR _⟩, ⟨BK⟩, ⟨BL⟩⟩
 case rest =>
  clear z;obtain ⟨kq, o, rfl, HA, x, m, HB⟩ := hcut
  cases kq with
  | zero => exact absurd HA.out (by simp [bQ.j0])
  | succ xd =>
   have H := HA.out;clear HA;simp only [bQ.j0] at H;replace H := ifB H; rcases H with ⟨rfl, H⟩ | ⟨rfl, H⟩
   ·obtain rfl := sI H;go_wp2;go_ret;exact ⟨EWW, BL⟩
   ·have H' := ah.mk H;clear H;go_wp2
    go_loopg [3] xd (fun kq v3 w' => ∃ (a : Int), v3 = .int .i64 a ∧ ah (bQ.l0 kq a Dp Dq Dr = some r) ∧ ah (kq ≤ xd) ∧ ah (w'.heap[u]? = some (.cells #[.int .i64 Dp, .int .i64 Dq, .string Dr] 35 (0, 0))) ∧ ah (Below w.heap.size w w'))
    case atStart => exact ⟨_, EQ, H', ⟨nR _⟩, ⟨BK⟩, ⟨BL⟩⟩
    case round =>
     clear H';obtain ⟨a, rfl, HA, y, m, HB⟩ := hrel
     cases gk with
     | zero => exact absurd HA.out (by simp [bQ.l0])
     | succ k2 =>
      have H := HA.out;clear HA;simp only [bQ.l0] at H;obtain ⟨L, M, O, P, U, X⟩ := cz3 m.out;replace H := ifD H; rcases H with ⟨Y, H⟩ | ⟨Y, H⟩
      ·replace H := ifN H; obtain ⟨xg, H⟩ := H;have xo : (0 ≤ (a : Int)) = True := OT;have xp : (a < (Dr.size : Int)) = True := OT;have hx14 := fF Dr a;replace H := ifE H; rcases H with ⟨Z, xa, H⟩ | ⟨xq, Z, xa, H⟩
       ·have H' := ah.mk H;clear H;go_wp2;go_roundg k2;case measure => have := x.out; have := y.out; omega
        case rel => exact ⟨_, EQ, H', ⟨by have := x.out; have := y.out; omega⟩, ⟨BK⟩, ⟨BL⟩⟩
       ·have xr : (0 ≤ (a : Int)) = True := OT;have xs : (a < (Dr.size : Int)) = True := OT;have hx17 := fF Dr a;replace H := ifE H; rcases H with ⟨xb, xc, H⟩ | ⟨xt, xb, xc, H⟩
        ·have H' := ah.mk H;clear H;go_wp2;go_roundg k2;case measure => have := x.out; have := y.out; omega
         case rel => exact ⟨_, EQ, H', ⟨by have := x.out; have := y.out; omega⟩, ⟨BK⟩, ⟨BL⟩⟩
        ·obtain rfl := sI H;go_wp2;go_ret;exact ⟨EWW, BL⟩
      ·obtain rfl := sI H;go_wp2;go_ret;exact ⟨EWW, BL⟩
mutual
def dh.j0 : Nat → Int → Int → Int → Int → Int → Int → Oo → Option (Int)
 | 0, _, _, _, _, _, _, _ => none
 | k + 1, a, b, c, d, e, f, g => if 0 ≤ a then if a < (g.size : Int) then if (bt g a) = 46 then if c > 0 then if 0 ≤ (wrap64 (a - b)) then if (wrap64 (a - b)) < (g.size : Int) then dh.j1 k a b c d ((bt g (wrap64 (a - b))) == 46) e f g else none else none else dh.j1 k a b c d false e f g else dh.j1 k a b c d true e f g else none else none
def dh.j1 : Nat → Int → Int → Int → Int → Bool → Int → Int → Oo → Option (Int)
 | 0, _, _, _, _, _, _, _, _ => none
 | k + 1, a, b, c, d, e, f, g, h => if e = true then some 0 else dh.l0 k a b c d 0 f g h
def dh.l0 : Nat → Int → Int → Int → Int → Int → Int → Int → Oo → Option (Int)
 | 0, _, _, _, _, _, _, _, _ => none
 | k + 1, a, b, c, d, e, f, g, h => if (wrap64 (c + e)) < d then if 0 ≤ (wrap64 (a + (wrap64 (e * b)))) then if (wrap64 (a + (wrap64 (e * b)))) < (h.size : Int) then if (bt h (wrap64 (a + (wrap64 (e * b))))) = 46 then dh.l0 k a b c d (wrap64 (e + 1)) f g h else some e else none else none else some e
end
def dh.f (k : Nat) (Dp Dq : Int) (Dr : Oo) (a1 : Int) (a2 : Bool) : Option (Int) := if Dq = 0 then none else if a2 = true then dh.j0 k a1 Dq (wrap64 (Int.tdiv a1 Dq)) Dp Dp Dq Dr else dh.j0 k a1 1 (Int.tmod a1 Dq) Dq Dp Dq Dr
theorem dh.calls (k : Nat) (Dp Dq : Int) (Dr : Oo) (a1 : Int) (a2 : Bool) (r : Int) (w : World) (h : dh.f k Dp Dq Dr a1 a2 = some r) :
  Calls Tryz.prog 130 #[.agg #[.int .i64 Dp, .int .i64 Dq, .string Dr], .int .i64 a1, .bool a2] w fun e w' => e = .returned (.int .i64 r) ∧ Below w.heap.size w w' := by
 have xL := Tryz.underlying35;have HB := ah.mk (bR w.heap.size w);unfold dh.f at h;have H := h;clear h;by_cases c4 : Dq = 0
 ·rw [if_pos c4] at H;exact absurd H (by simp)
 ·rw [if_neg c4] at H;have L : (Dq == 0) = false := beq_eq_false_iff_ne.mpr c4;have M : (Dq != 0) = true := bne_iff_ne.mpr c4;have X := ah.mk H;clear H;go_enter Tryz.func130, Tryz.ntmps130;go_upto_if 17 with (first | ((with_reducible refine aG (N := 3) rfl ?_); refine aN (N := 3) (cs := #[.int .i64 Dp, .int .i64 Dq, .string Dr]) (t := 35) ?_; intro I hg xC hbox hb; have o := ah.mk hbox; have Y := SZ (w := w) hg; have xD := Y; replace HB := BS (w := w) hb; clear hb hbox hg; obtain ⟨u, x, y, z, A, D⟩ := cz3 o.out));(try simp only [Act.put, List.setIfInBounds_toArray, List.set_cons_zero, List.set_cons_succ])
  go_cut [7, 8, 9] (fun v7 v8 v9 wc => ∃ (kq : Nat) (a : Int) (m : Int) (G : Int), v7 = .int .i64 a ∧ v8 = .int .i64 m ∧ v9 = .int .i64 G ∧ ah (dh.j0 kq a1 a m G Dp Dq Dr = some r) ∧ ah (kq ≤ k) ∧ ah (wc.heap[I]? = some (.cells #[.int .i64 Dp, .int .i64 Dq, .string Dr] 35 (0, 0))) ∧ ah (Below w.heap.size w wc))
  case first =>
   have H := X.out;clear X;by_cases c8 : a2 = true
   ·subst c8;rw [if_pos rfl] at H;have H' := ah.mk H;clear H;obtain ⟨Z, xa, xb, xc, xd, xe⟩ := cz3 o.out;go_wp2;go_meet;case rel => exact ⟨_, _, _, _, EQ, EQ, EQ, H', ⟨by first | omega | exact nR _⟩, ⟨BK⟩, ⟨BL⟩⟩
   ·replace c8 := Bool.eq_false_iff.mpr c8;subst c8;rw [if_neg Bool.false_ne_true] at H;have H' := ah.mk H;clear H;go_wp2;go_meet;case rel => exact ⟨_, _, _, _, EQ, EQ, EQ, H', ⟨by first | omega | exact nR _⟩, ⟨BK⟩, ⟨BL⟩⟩
  case rest =>
   clear X;(try clear c4);(try clear L);(try clear M);(try clear u x y z A D);obtain ⟨kq, a, m, G, rfl, rfl, rfl, HA, O, o, HB⟩ := hcut
   cases kq with
   | zero => exact absurd HA.out (by simp [dh.j0])
   | succ xx =>
    have H := HA.out;clear HA;simp only [dh.j0] at H;have P := ah.mk H;clear H;go_upto_region 8 with (fail)
    go_cut [43] (fun xE wc => ∃ (kq : Nat) (J : Bool), xE = .bool J ∧ ah (dh.j1 kq a1 a m G J Dp Dq Dr = some r) ∧ ah (kq ≤ xx) ∧ ah (wc.heap[I]? = some (.cells #[.int .i64 Dp, .int .i64 Dq, .string Dr] 35 (0, 0))) ∧ ah (Below w.heap.size w wc))
    case first =>
     have H := P.out;clear P;replace H := ifN H; obtain ⟨U, H⟩ := H;(first | rw [U] | (simp only [gH, iE]; rw [U]) | skip);replace H := ifN H; obtain ⟨xF, H⟩ := H;obtain ⟨xf, xg, xh, xi, xj, xk⟩ := cz3 o.out;have xP : (0 ≤ (a1 : Int)) = True := OT;have xQ : (a1 < (Dr.size : Int)) = True := OT;have hx13 := fF Dr a1;replace H := ifE H; rcases H with ⟨xl, xm, H⟩ | ⟨xR, xl, xm, H⟩
     ·by_cases K : m > 0
      ·rw [if_pos K] at H;have xn : decide (0 < m) = true := dT K;clear K;obtain ⟨ji16, hji16⟩ : ∃ j_ : Int, (wrap64 (a1 - a)) = j_ := ⟨_, rfl⟩;replace H : (if 0 ≤ (ji16) then (if (ji16) < (Dr.size : Int) then (dh.j1 xx a1 a m G ((bt Dr (ji16)) == 46) Dp Dq Dr) else (none)) else (none)) = some r := by first | (rw [hji16] at H; exact H) | (simp only [hji16] at H ⊢; exact H)
       have hji16w : (IntKind.i64.wrap (a1 - a)) = ji16 := (gH _).trans hji16;replace H := ifN H; obtain ⟨xG, H⟩ := H;replace H := ifN H; obtain ⟨xH, H⟩ := H;have H' := ah.mk H;clear H;have xS : (0 ≤ ((ji16) : Int)) = True := OT;have xT : ((ji16) < (Dr.size : Int)) = True := OT;have hx19 := fF Dr (ji16);go_wp2;go_meet;case rel => exact ⟨_, (((bt Dr (ji16)) == 46)), (by first | rfl | (simp; done) | (simp only [← hji16] <;> (first | rfl | simp)) | (simp [*]; done)), H', ⟨by have := O.out; first | omega | exact nR _⟩, ⟨BK⟩, ⟨BL⟩⟩
      ·rw [if_neg K] at H;have xn : decide (0 < m) = false := dF K;clear K;have H' := ah.mk H;clear H;go_wp2;go_meet;case rel => exact ⟨_, _, EQ, H', ⟨by have := O.out; first | omega | exact nR _⟩, ⟨BK⟩, ⟨BL⟩⟩
     ·have H' := ah.mk H;clear H;go_wp2;go_meet;case rel => exact ⟨_, _, EQ, H', ⟨by have := O.out; first | omega | exact nR _⟩, ⟨BK⟩, ⟨BL⟩⟩
    case rest =>
     clear P;(try clear c4);(try clear L);(try clear M);(try clear u x y z A D);obtain ⟨kq, J, rfl, HA, xy, o, HB⟩ := hcut
     cases kq with
     | zero => exact absurd HA.out (by simp [dh.j1])
     | succ xz =>
      have H := HA.out;clear HA;simp only [dh.j1] at H;replace H := ifB H; rcases H with ⟨rfl, H⟩ | ⟨rfl, H⟩
      ·obtain rfl := sI H;go_wp2;go_ret;exact ⟨EWW, BL⟩
      ·have H' := ah.mk H;clear H;go_wp2
       go_loopg [10] xz (fun kq xI w' => ∃ (E : Int), xI = .int .i64 E ∧ ah (dh.l0 kq a1 a m G E Dp Dq Dr = some r) ∧ ah (kq ≤ xz) ∧ ah (w'.heap[I]? = some (.cells #[.int .i64 Dp, .int .i64 Dq, .string Dr] 35 (0, 0))) ∧ ah (Below w.heap.size w w'))
       case atStart => exact ⟨_, EQ, H', ⟨nR _⟩, ⟨BK⟩, ⟨BL⟩⟩
       case round =>
        clear H';(try clear c4);(try clear L);(try clear M);(try clear u x y z A D);obtain ⟨E, rfl, HA, xA, o, HB⟩ := hrel
        cases gk with
        | zero => exact absurd HA.out (by simp [dh.l0])
        | succ k3 =>
         have H := HA.out;clear HA;simp only [dh.l0] at H;replace H := ifD H; rcases H with ⟨xo, H⟩ | ⟨xo, H⟩
         ·obtain ⟨ji25, hji25⟩ : ∃ j_ : Int, (wrap64 (a1 + (wrap64 (E * a)))) = j_ := ⟨_, rfl⟩;replace H : (if 0 ≤ (ji25) then (if (ji25) < (Dr.size : Int) then (if (bt Dr (ji25)) = 46 then (dh.l0 k3 a1 a m G (wrap64 (E + 1)) Dp Dq Dr) else (some E)) else (none)) else (none)) = some r := by first | (rw [hji25] at H; exact H) | (simp only [hji25] at H ⊢; exact H)
          have hji25w : (IntKind.i64.wrap (a1 + (wrap64 (E * a)))) = ji25 := (gH _).trans hji25;replace H := ifN H; obtain ⟨xJ, H⟩ := H;replace H := ifN H; obtain ⟨xK, H⟩ := H;obtain ⟨xp, xq, xr, xs, xt, xu⟩ := cz3 o.out;have xV : (0 ≤ ((ji25) : Int)) = True := OT;have xW : ((ji25) < (Dr.size : Int)) = True := OT;have hx28 := fF Dr (ji25);replace H := ifE H; rcases H with ⟨xv, xw, H⟩ | ⟨xX, xv, xw, H⟩
          ·have H' := ah.mk H;clear H;go_wp2;go_roundg k3;case measure => have := O.out; have := xy.out; have := xA.out; omega
           case rel => exact ⟨_, EQ, H', ⟨by have := O.out; have := xy.out; have := xA.out; omega⟩, ⟨BK⟩, ⟨BL⟩⟩
          ·obtain rfl := sI H;go_wp2;go_ret;exact ⟨by first | rfl | (simp [kU, kV] <;> rfl) | (simp only [← hji25]; first | rfl | (simp [kU, kV] <;> rfl)) | (simp [*, kU, kV] <;> rfl), BL⟩
         ·obtain rfl := sI H;go_wp2;go_ret;exact ⟨EWW, BL⟩
theorem BD (d : Nat) (w : World) (x0 a : Int) (x1 e : Int) (x2 m : Oo) :
  (Op.equalIn (d + 2) 35 (.agg #[.int .i64 x0, .int .i64 x1, .string x2]) (.agg #[.int .i64 a, .int .i64 e, .string m])).run Tryz.prog w = .ok (x0 == a && (x1 == e && (x2.toList == m.toList))) w := by
 refine Ol Tryz.underlying35 (by kernel_rfl) ?_;refine mZ (by rfl) (by go_simp; rfl) (by go_simp; rfl) (by go_simp) ?_;refine mZ (by rfl) (by go_simp; rfl) (by go_simp; rfl) (by go_simp) ?_;exact qw (by rfl) (by go_simp; rfl) (by go_simp; rfl) (by go_simp)
end Go.Proofs.YtikmdgmnhbodjaaGreat.PFnExactSolvePuzzle
