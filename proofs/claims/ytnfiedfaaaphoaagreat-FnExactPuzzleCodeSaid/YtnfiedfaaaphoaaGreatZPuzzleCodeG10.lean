/- Walks of functions: what each computes. -/
import Derived.Test.YtnfiedfaaaphoaaGreatZPuzzleCodeG0
import Derived.Test.YtnfiedfaaaphoaaGreatZPuzzleCodeG9
import Derived.Test.YtnfiedfaaaphoaaGreatZPuzzleCodeW
import Derived.Test.YtnfiedfaaaphoaaGreatZPuzzleCodeShelf
import Derived.Test.YtnfiedfaaaphoaaGreatZPuzzleCodeHandSort
import Derived.Test.YtnfiedfaaaphoaaGreatZPuzzleCodeHandForm
import Derived.Test.YtnfiedfaaaphoaaGreatZPuzzleCodeHandAlone
import Derived.Test.YtnfiedfaaaphoaaGreatZPuzzleCodeHandReach
import Derived.Test.YtnfiedfaaaphoaaGreatZPuzzleCodeHandPut
namespace Go.Proofs.YtnfiedfaaaphoaaGreat.PFnExactPuzzleCode
open Go.RowKit Go.Proofs.YtnfiedfaaaphoaaGreatW.PrintWords Go.Proofs.YtnfiedfaaaphoaaGreatW.PrintLast Go.Proofs.YtnfiedfaaaphoaaGreatW.PrintMore Go.Proofs.YtnfiedfaaaphoaaGreat.Sq
attribute [local go_sem] iH iJ jD jC gV gU iK iG
set_option maxHeartbeats 8000000
set_option maxRecDepth 100000
set_option linter.unusedVariables false
set_option linter.unusedSimpArgs false
def dR.l0 : Nat → List (S68) → List (S82) → Int → Option ((List (S82)))
 | 0, _, _, _ => none
 | k + 1, a, b, c => if c < (a.length : Int) then (if 0 ≤ c then ((kR.f k ((ku a c).f0) ((ku a c).f1)).bind fun d => (if c < (b.length : Int) then (dR.l0 k a (b.set (c : Int).toNat (⟨d.1, d.2⟩ : S82)) (wrap64 (c + 1))) else (none))) else (none)) else (some b)
def dR.f (k : Nat) (l0 : List (S68)) : Option ((List (S82))) := if 0 ≤ (l0.length : Int) then (if ((l0.length : Int) : Int).toNat ≤ 8796093022208 then (dR.l0 k l0 (List.replicate ((l0.length : Int) : Int).toNat z82) 0) else (none)) else (none)
theorem dR.calls (k : Nat) (A0 : Option Addr) (c0 : Nat) (l0 : List (S68)) (r : List (S82)) (w : World) (hr0 : Kd.C k68 w A0 l0.length l0) (hc0 : l0.length ≤ c0) (h : dR.f k l0 = some r) :
  Calls Tryz.prog 15 #[.slice A0 l0.length c0] w fun e w' => ∃ v0_ : Value, e = .returned (v0_) ∧ Kd.S k82 82 w' w.heap.size (fun _ => True) v0_ r ∧ Below w.heap.size w w' := by
 have hu68 := Tryz.underlying68
 have hu82 := Tryz.underlying82
 have HR0 := ah.mk hr0
 have HC0 := ah.mk hc0
 clear hr0 hc0
 have HB := ah.mk (Below.refl w.heap.size w)
 unfold dR.f at h
 have H := h
 clear h
 replace H := ifP H; obtain ⟨c2, H⟩ := H
 have c2b0 := eq_true c2
 have c2b1 : decide (0 ≤ (l0.length : Int)) = true := decide_eq_true c2
 clear c2
 replace H := ifP H; obtain ⟨c3, H⟩ := H
 have c3b0 := eq_true c3
 have c3b1 : decide (((l0.length : Int) : Int).toNat ≤ 8796093022208) = true := decide_eq_true c3
 clear c3
 obtain ⟨y425, hy425⟩ : ∃ y_ : List (S82), y_ = (List.replicate ((l0.length : Int) : Int).toNat z82) := ⟨_, rfl⟩
 replace H : (dR.l0 k l0 y425 0) = some r := by first | (rw [hy425]; with_reducible exact H) | (have H2_ := (Option.bind_some _ _).symm.trans H; rw [hy425]; with_reducible exact H2_) | (have H2_ := (Option.bind_some _ _).symm.trans H; with_reducible exact H2_) | with_reducible exact H | (rw [hy425]; exact H) | exact H
 have Ny425 := ah.mk hy425
 clear hy425
 have H' := ah.mk H
 clear H
 go_enter Tryz.func15, Tryz.ntmps15
 go_wp2_with (first | ((with_reducible refine aN (N := 7) rfl ?_); refine Kd.DN k82 _ 82 rfl (N := 7) rfl 34 _ _ rfl (l0.length : Int) rfl rfl Tryz.underlying34 (.agg #[(.int .i64 0), (.slice none 0 0)]) 32 D6 rfl (by decide) (by omega) z82 (ok := fun _ => True) (okp := fun _ => True) (zU _ _ _ z82 (Kd.ni _ _ _ _ _)) (fun _ hk => hk) trivial (OD) (Nat.le_trans (Nat.mul_le_mul_right _ (OD : (l0.length : Int).toNat ≤ 8796093022208)) (by omega)) (Below.refl _ _) (Nat.le_refl _) ?_; intro v426 w9000 ho5 hb hg_ hnew_; clear hg_ hnew_; (first | rw [← Ny425.out] at ho5 | (simp only [Int.reduceToNat] at ho5; rw [← Ny425.out] at ho5)); have n0_ := ah.mk (Kd.oG ho5 (aQ BL)); replace HB := BS (w := w) hb; have HO427 := n0_; clear n0_; clear hb ho5))
 go_loopg [4] k (fun kq v4 w' => ∃ (x3_1 : List (S82)) (x4_1 : Int), v4 = .int .i64 x4_1 ∧ ah (dR.l0 kq l0 x3_1 x4_1 = some r) ∧ ah (kq ≤ k) ∧ ah (Kd.S k82 82 w' w.heap.size (fun _ => True) v426 x3_1) ∧ ah (Below w.heap.size w w'))
 case atStart => exact ⟨(y425), (0), EQ, H', ⟨Nat.le_refl _⟩, ⟨(SR HO427)⟩, ⟨BL⟩⟩
 case round =>
  clear H'
  try clear c2
  try clear c2b0
  try clear c2b1
  try clear c3
  try clear c3b0
  try clear c3b1
  obtain ⟨x3_1, x4_1, rfl, HA, HK1, HO_3, HB⟩ := hrel
  cases gk with
  | zero => exact absurd HA.out (by simp [dR.l0])
  | succ k1 =>
   have H := HA.out
   clear HA
   simp only [dR.l0] at H
   replace H := ifD H; rcases H with ⟨c6b0, H⟩ | ⟨c6b0, H⟩
   ·replace H := ifN H; obtain ⟨c7b0, H⟩ := H
    replace H := be H; obtain ⟨⟨t429, t430⟩, A8, H⟩ := H
    dsimp only at H
    replace H := ifN H; obtain ⟨c9b0, H⟩ := H
    obtain ⟨y433, hy433⟩ : ∃ y_ : List (S82), y_ = (x3_1.set (x4_1 : Int).toNat (⟨t429, t430⟩ : S82)) := ⟨_, rfl⟩
    replace H : (dR.l0 k1 l0 y433 (wrap64 (x4_1 + 1))) = some r := by first | (rw [hy433]; with_reducible exact H) | (have H2_ := (Option.bind_some _ _).symm.trans H; rw [hy433]; with_reducible exact H2_) | (have H2_ := (Option.bind_some _ _).symm.trans H; with_reducible exact H2_) | with_reducible exact H | (rw [hy433]; exact H) | exact H
    have Ny433 := ah.mk hy433
    clear hy433
    have H' := ah.mk H
    clear H
    have p428 : 0 ≤ (x4_1 : Int) := OD
    have q428 : x4_1 < (l0.length : Int) := OD
    obtain ⟨ad428, A428_1, c428_1, e428, hx428_0, hx428_1, hl428_1, hi428_1⟩ := Bq HR0.out x4_1 p428 q428
    cases e428
    try replace hx428_0 := (HB.out.cell (World.block_lt_of_cell? w _ hx428_0)).trans hx428_0
    try replace hx428_1 := (HB.out.cell (World.block_lt_of_cell? w _ hx428_1)).trans hx428_1
    have HR428_1 := ah.mk hi428_1
    have HC428_1 := ah.mk hl428_1
    clear hi428_1 hl428_1
    replace p428 := eq_true p428
    replace q428 := eq_true q428
    go_wp2_with (first | ((with_reducible refine ay (f := 53) rfl ?_); refine bq (some 20) Tryz.func53 #[.agg #[.int .i64 ((ku l0 x4_1).f0), .slice A428_1 ((ku l0 x4_1).f1).length c428_1]] ?_; (with_reducible refine (kR.calls k1 ((ku l0 x4_1).f0) _ _ ((ku l0 x4_1).f1) t429 t430 _ ?side1 ?side2 A8.out).mono ?_); (case side1 => exact CB HR428_1); (case side2 => exact HC428_1.out); rintro e w9001 ⟨v431, rfl, ho0, hb⟩; refine ⟨_, rfl, ?_⟩; have n0_ := ah.mk (Kd.pR (SR HO_3) (Kd.kK ho0) hb); have n1_ := ah.mk (Kd.cO ho0 (aQ BL)); replace HB := BS (w := w) hb; clear HO_3; have HO_3 := n0_; have HO432 := n1_; clear n0_ n1_; (try clear hb); (try clear hk); (try clear ho0); have p10 : 0 ≤ (x4_1 : Int) := OD; have q10 : (x4_1 : Int) < ((x3_1.length : Int) : Int) := OD; obtain ⟨go10, co9002, eo9002, gb10, gl10, cl10, HG10⟩ := Kd.DT HO_3.out (by omega); (first | cases eo9002 | (injection eo9002 with ea_ en_ ec_; (first | subst ea_ | (injection ea_ with ea_; subst ea_)); subst ec_; clear en_)); have GB10 := ah.mk gb10; have GG10 := ah.mk HG10; clear gb10 gl10 HG10; obtain ⟨_, ce10, hcl10, hM10, hcc10, hfr10, _, _⟩ := Kd.Cn HO_3.out z82 (x4_1 : Int) p10 q10; obtain ⟨ve10_1, rfl, ge10_1⟩ := xH hM10; have hx10_0 : w9001.cell? ⟨go10, (x4_1 : Int).toNat * 2, none⟩ = some (.int .i64 ((dW x3_1 x4_1).f0)) := hcc10 0 _ rfl; have hx10_1 : w9001.cell? ⟨go10, (x4_1 : Int).toNat * 2 + 1, none⟩ = some (ve10_1) := hcc10 1 _ rfl; have hf10_0 : w9001.frozen? ⟨go10, (x4_1 : Int).toNat * 2, none⟩ = false := hfr10 0; have hf10_1 : w9001.frozen? ⟨go10, (x4_1 : Int).toNat * 2 + 1, none⟩ = false := hfr10 1; clear hcl10 hcc10 hfr10 hM10; replace p10 := eq_true p10; replace q10 := eq_true q10; have n_ := ah.mk (Kd.oL (ok' := (fun k_ => some k_ ≠ (v431 : Value).ownBlock)) HO_3.out (fun k_ hk => hk.2)); clear HO_3; have HO_3 := n_; clear n_; have HX12 := ah.mk (show Kd.S k82 82 w9001 w.heap.size (fun k_ => ((fun _ => True)) k_ ∧ ¬ ((fun k_ => some k_ = (v431 : Value).ownBlock)) k_) (.slice (some ⟨go10, 0, none⟩) x3_1.length co9002) x3_1 from (by (with_reducible repeat (first | apply Kd.oC | apply Kd.oK | apply Kd.rF)); exact Kd.oL HO_3.out (fun k_ hk => ⟨trivial, fun e_ => hk e_⟩))); obtain ⟨oki12, ce12, hcl12, hM12, hcc12, hfr12, hoki12, hH12⟩ := Kd.Cn HX12.out z82 (x4_1 : Int) (OD) (by have h_ : (x4_1 : Int) < ((x3_1.length : Int) : Int) := OD; first | exact h_ | (have e_ := (Kd.iX HO_3.out).1; omega) | simpa using h_); obtain ⟨ve12_1, rfl, ge12_1⟩ := xH hM12; have HP12 := Kd.EF hH12 (OD) (by have h_ : (x4_1 : Int) < ((x3_1.length : Int) : Int) := OD; first | exact h_ | (have e_ := (Kd.iX HO_3.out).1; omega) | simpa using h_) (seg := [.int .i64 t429, v431]) (j := 0) (show 2 ≤ 2 from by decide) (x' := (⟨t429, t430⟩ : S82)) (zU _ _ _ (⟨t429, t430⟩ : S82) (Kd.eF (Kd.yu rfl (Kd.eF (ok' := fun k_ => ((fun _ => True)) k_ ∧ k_ ≠ go10) (Kd.sM (HO432.out) (Kd.sZ HO_3.out) (by decide)) (fun k_ hk => ⟨trivial, fun e_ => (hk.2) (by rw [e_]; rfl)⟩))) (fun _ h_ => Or.inr (h_)))) (fun _ hk => hk) (fun k_ hk_ => ((Kd.eF (ok' := fun k_ => ((fun _ => True)) k_ ∧ k_ ≠ go10) (Kd.sM (HO432.out) (Kd.sZ HO_3.out) (by decide)) (fun k_ hk => ⟨trivial, fun e_ => (hk.2) (by rw [e_]; rfl)⟩))).1 k_ hk_.symm); have hs12_0 : ∀ (P_ : Program) (w_ : World) (a_ : Addr) (m_ : Mode), (store a_ v431 m_).run P_ w_ = stored P_ w_ a_ v431 m_ := fun P_ w_ a_ m_ => run_store P_ w_ a_ _ m_ (by obtain ⟨_, _, e_⟩ := Kd.dH HO432.out; rw [e_]; rfl); have hx12_0 := hcc12 0 _ rfl; (try simp only [show (k82).sz = 2 from rfl, Nat.mul_one, Nat.add_zero] at hx12_0); have hf12_0 := hfr12 0; (try simp only [show (k82).sz = 2 from rfl, Nat.mul_one, Nat.add_zero] at hf12_0); have hx12_1 := hcc12 1 _ rfl; (try simp only [show (k82).sz = 2 from rfl, Nat.mul_one, Nat.add_zero] at hx12_1); have hf12_1 := hfr12 1; (try simp only [show (k82).sz = 2 from rfl, Nat.mul_one, Nat.add_zero] at hf12_1); clear hcl12 hcc12 hfr12 hM12 hoki12 hH12) | ((with_reducible refine kI (t := 82) (p := 21) rfl ?_); refine jW (t := 82) (p := 21) (v := ?vo_w13) (w1 := ((w9001.setCell ⟨go10, (x4_1 : Int).toNat * 2, none⟩ (.int .i64 t429)).setCell ⟨go10, (x4_1 : Int).toNat * 2 + 1, none⟩ (v431))) ?hg ?ho ?hn ?hr ?_; (case ho => rfl); (case hg => rfl); (case hn => rfl); (case hr => first | (go_simp; done) | (go_simp; rfl)); intro w9003 hw; have hg : w9001.grownBy w9003 (some go10) := (by rw [hw]; exact HP12.2); have hp_ : Kd.S k82 82 w9003 w.heap.size (fun _ => True) (.slice (some ⟨go10, 0, none⟩) x3_1.length co9002) y433 := (by rw [hw, Ny433.out]; exact HP12.1); clear HP12; have n0_ := ah.mk (hp_); have n1_ := ah.mk ((by rw [hw]; exact gQ (gQ (HB.out) GB10.out) GB10.out : Below w.heap.size w w9003)); clear HO_3 HB HO432; have HO_3 := n0_; have HB := n1_; clear n0_ n1_; clear hg hw hp_))
    go_roundg k1
    case measure => have := HK1.out; omega
    case rel => exact ⟨(y433), (wrap64 (x4_1 + 1)), EQ, H', ⟨by have := HK1.out; omega⟩, ⟨(SR HO_3)⟩, ⟨BL⟩⟩
   ·obtain rfl := Option.some.inj H
    go_wp2
    go_ret
    exact ⟨_, EWW, (SR HO_3), BL⟩
def kE.f (EU : ByteArray) (EW : Int) : Option (ByteArray × Int) := some (EU, EW)
theorem kE.calls (EU : ByteArray) (EW : Int) (r1 : ByteArray) (r2 : Int) (w : World) (h : kE.f EU EW = some (r1, r2)) :
  Calls Tryz.prog 54 #[.agg #[.string EU, .int .i64 EW]] w fun e w' => e = .returned (.agg #[.string r1, .int .i64 r2]) ∧ Below w.heap.size w w' := by
 have hu71 := Tryz.underlying71
 have hu84 := Tryz.underlying84
 have HB := ah.mk (Below.refl w.heap.size w)
 have H : (some (EU, EW)) = some (r1, r2) := h
 clear h
 simp only [Option.some.injEq, Prod.mk.injEq] at H
 obtain ⟨rfl, rfl⟩ := H
 go_enter Tryz.func54, Tryz.ntmps54
 go_wp2_with (first | ((with_reducible refine aN (N := 1) rfl ?_); refine bC (N := 1) (cs := #[.string EU, .int .i64 EW]) (t := 71) ?_; intro gb434 hg w2 hbox hb; have BK434 := ah.mk hbox; have GW434 := SZ (w := w) hg; have GE434 := GW434; replace HB := BS (w := w) hb; clear hb hbox hg) | ((with_reducible refine aN (N := 2) rfl ?_); refine bC (N := 2) (cs := #[.string (⟨#[]⟩ : ByteArray), .int .i64 0]) (t := 84) ?_; intro gb435 hg w3 hbox hb; have n0_ := KB BK434 hb; have n1_ := BS (w := w) hb; have n2_ := ah.mk (hbox); have n3_ := SZ (w := w) hg; have n4_ := SZ (w := w) hg; have n5_ := NL BK434 hg; have n6_ := NG BK434 hg; clear BK434 HB; have BK434 := n0_; have HB := n1_; have BK435 := n2_; have GW435 := n3_; have GE435 := n4_; have NB434_435 := n5_; have NB435_434 := n6_; clear n0_ n1_ n2_ n3_ n4_ n5_ n6_; clear hb hbox hg) | ((with_reducible refine aN (N := 3) rfl ?_); refine bC (N := 3) (cs := #[.string (⟨#[]⟩ : ByteArray), .int .i64 0]) (t := 84) ?_; intro gb436 hg w4 hbox hb; have n0_ := KB BK434 hb; have n1_ := KB BK435 hb; have n2_ := BS (w := w) hb; have n3_ := ah.mk (hbox); have n4_ := SZ (w := w) hg; have n5_ := SZ (w := w) hg; have n6_ := NL BK434 hg; have n7_ := NG BK434 hg; have n8_ := NL BK435 hg; have n9_ := NG BK435 hg; clear BK434 BK435 HB; have BK434 := n0_; have BK435 := n1_; have HB := n2_; have BK436 := n3_; have GW436 := n4_; have GE436 := n5_; have NB434_436 := n6_; have NB436_434 := n7_; have NB435_436 := n8_; have NB436_435 := n9_; clear n0_ n1_ n2_ n3_ n4_ n5_ n6_ n7_ n8_ n9_; clear hb hbox hg; have hnb5 := NB434_435.out; have hnc5 := NB435_434.out; have hnb6 := NB434_436.out; have hnc6 := NB436_434.out; obtain ⟨hcz7_0, hcz7_1, hfz7_0, hfz7_1⟩ := cz2 BK434.out; have hnb8 := NB436_435.out; have hnc8 := NB435_436.out; obtain ⟨hcz9_0, hcz9_1, hfz9_0, hfz9_1⟩ := cz2 BK436.out; obtain ⟨hcz10_0, hcz10_1, hfz10_0, hfz10_1⟩ := cz2 BK435.out))
 refine bodyPost_ret (results_cell_row rfl _ _ gb435 84 #[.string EU, .int .i64 EW] (0, 0) _ rfl (by (with_reducible repeat (first | refine aG ?_ _ | refine aI ?_ | refine aD ?_ _)); refine aX (cs := #[.string EU, .int .i64 0]) ?_ 1 _ rfl; (with_reducible repeat (first | refine aG ?_ _ | refine aI ?_ | refine aD ?_ _)); refine aX (cs := #[.string (⟨#[]⟩ : ByteArray), .int .i64 0]) ?_ 0 _ rfl; (with_reducible repeat (first | refine aG ?_ _ | refine aI ?_ | refine aD ?_ _)); refine fI ?_ NB435_436.out _; (with_reducible repeat (first | refine aG ?_ _ | refine aI ?_ | refine aD ?_ _)); refine fI ?_ NB435_436.out _; (with_reducible repeat (first | refine aG ?_ _ | refine aI ?_ | refine aD ?_ _)); exact BK435.out) Tryz.underlying84 rfl (by kernel_rfl)) rfl ?_
 exact ⟨EWW, BL⟩
def bX.l0 : Nat → List (S71) → List (S84) → Int → Option ((List (S84)))
 | 0, _, _, _ => none
 | k + 1, a, b, c => if c < (a.length : Int) then (if 0 ≤ c then ((kE.f ((kW a c).f0) ((kW a c).f1)).bind fun d => (if c < (b.length : Int) then (bX.l0 k a (b.set (c : Int).toNat (⟨d.1, d.2⟩ : S84)) (wrap64 (c + 1))) else (none))) else (none)) else (some b)
def bX.f (k : Nat) (l0 : List (S71)) : Option ((List (S84))) := if 0 ≤ (l0.length : Int) then (if ((l0.length : Int) : Int).toNat ≤ 11728124029610 then (bX.l0 k l0 (List.replicate ((l0.length : Int) : Int).toNat z84) 0) else (none)) else (none)
theorem bX.calls (k : Nat) (A0 : Option Addr) (c0 : Nat) (l0 : List (S71)) (r : List (S84)) (w : World) (hr0 : Kd.C k71 w A0 l0.length l0) (hc0 : l0.length ≤ c0) (h : bX.f k l0 = some r) :
  Calls Tryz.prog 16 #[.slice A0 l0.length c0] w fun e w' => ∃ v0_ : Value, e = .returned (v0_) ∧ Kd.R k84 84 w' w.heap.size (fun _ => True) v0_ r ∧ Below w.heap.size w w' := by
 have hu71 := Tryz.underlying71
 have hu84 := Tryz.underlying84
 have HR0 := ah.mk hr0
 have HC0 := ah.mk hc0
 clear hr0 hc0
 have HB := ah.mk (Below.refl w.heap.size w)
 unfold bX.f at h
 have H := h
 clear h
 replace H := ifP H; obtain ⟨c2, H⟩ := H
 have c2b0 := eq_true c2
 have c2b1 : decide (0 ≤ (l0.length : Int)) = true := decide_eq_true c2
 clear c2
 replace H := ifP H; obtain ⟨c3, H⟩ := H
 have c3b0 := eq_true c3
 have c3b1 : decide (((l0.length : Int) : Int).toNat ≤ 11728124029610) = true := decide_eq_true c3
 clear c3
 obtain ⟨y437, hy437⟩ : ∃ y_ : List (S84), y_ = (List.replicate ((l0.length : Int) : Int).toNat z84) := ⟨_, rfl⟩
 replace H : (bX.l0 k l0 y437 0) = some r := by first | (rw [hy437]; with_reducible exact H) | (have H2_ := (Option.bind_some _ _).symm.trans H; rw [hy437]; with_reducible exact H2_) | (have H2_ := (Option.bind_some _ _).symm.trans H; with_reducible exact H2_) | with_reducible exact H | (rw [hy437]; exact H) | exact H
 have Ny437 := ah.mk hy437
 clear hy437
 have H' := ah.mk H
 clear H
 go_enter Tryz.func16, Tryz.ntmps16
 go_wp2_with (first | ((with_reducible refine aN (N := 7) rfl ?_); refine Kd.vY k84 _ 84 rfl (N := 7) rfl 36 _ _ rfl (l0.length : Int) rfl rfl Tryz.underlying36 (.agg #[(.string ⟨#[]⟩), (.int .i64 0)]) 24 Dz rfl (by decide) (by omega) z84 (ok := fun _ => True) (okp := fun _ => True) (Ah _ _ _ z84 ) (fun _ hk => hk) trivial (OD) (Nat.le_trans (Nat.mul_le_mul_right _ (OD : (l0.length : Int).toNat ≤ 11728124029610)) (by omega)) (Below.refl _ _) (Nat.le_refl _) ?_; intro v438 w9000 ho5 hb hg_ hnew_; clear hg_ hnew_; (first | rw [← Ny437.out] at ho5 | (simp only [Int.reduceToNat] at ho5; rw [← Ny437.out] at ho5)); have n0_ := ah.mk (Kd.cO ho5 (aQ BL)); replace HB := BS (w := w) hb; have HO439 := n0_; clear n0_; clear hb ho5))
 go_loopg [4] k (fun kq v4 w' => ∃ (x3_1 : List (S84)) (x4_1 : Int), v4 = .int .i64 x4_1 ∧ ah (bX.l0 kq l0 x3_1 x4_1 = some r) ∧ ah (kq ≤ k) ∧ ah (Kd.R k84 84 w' w.heap.size (fun _ => True) v438 x3_1) ∧ ah (Below w.heap.size w w'))
 case atStart => exact ⟨(y437), (0), EQ, H', ⟨Nat.le_refl _⟩, ⟨(RR HO439)⟩, ⟨BL⟩⟩
 case round =>
  clear H'
  try clear c2
  try clear c2b0
  try clear c2b1
  try clear c3
  try clear c3b0
  try clear c3b1
  obtain ⟨x3_1, x4_1, rfl, HA, HK1, HO_3, HB⟩ := hrel
  cases gk with
  | zero => exact absurd HA.out (by simp [bX.l0])
  | succ k1 =>
   have H := HA.out
   clear HA
   simp only [bX.l0] at H
   replace H := ifD H; rcases H with ⟨c6b0, H⟩ | ⟨c6b0, H⟩
   ·replace H := ifN H; obtain ⟨c7b0, H⟩ := H
    replace H := be H; obtain ⟨⟨t441, t442⟩, A8, H⟩ := H
    dsimp only at H
    replace H := ifN H; obtain ⟨c9b0, H⟩ := H
    obtain ⟨y443, hy443⟩ : ∃ y_ : List (S84), y_ = (x3_1.set (x4_1 : Int).toNat (⟨t441, t442⟩ : S84)) := ⟨_, rfl⟩
    replace H : (bX.l0 k1 l0 y443 (wrap64 (x4_1 + 1))) = some r := by first | (rw [hy443]; with_reducible exact H) | (have H2_ := (Option.bind_some _ _).symm.trans H; rw [hy443]; with_reducible exact H2_) | (have H2_ := (Option.bind_some _ _).symm.trans H; with_reducible exact H2_) | with_reducible exact H | (rw [hy443]; exact H) | exact H
    have Ny443 := ah.mk hy443
    clear hy443
    have H' := ah.mk H
    clear H
    have p440 : 0 ≤ (x4_1 : Int) := OD
    have q440 : x4_1 < (l0.length : Int) := OD
    obtain ⟨ad440, e440, hx440_0, hx440_1⟩ := Ce HR0.out x4_1 p440 q440
    cases e440
    try replace hx440_0 := (HB.out.cell (World.block_lt_of_cell? w _ hx440_0)).trans hx440_0
    try replace hx440_1 := (HB.out.cell (World.block_lt_of_cell? w _ hx440_1)).trans hx440_1
    replace p440 := eq_true p440
    replace q440 := eq_true q440
    go_wp2_with (first | ((with_reducible refine ay (f := 54) rfl ?_); refine bq (some 20) Tryz.func54 #[.agg #[.string ((kW l0 x4_1).f0), .int .i64 ((kW l0 x4_1).f1)]] ?_; (with_reducible refine (kE.calls ((kW l0 x4_1).f0) ((kW l0 x4_1).f1) t441 t442 _ A8.out).mono ?_); rintro e w9001 ⟨rfl, hb⟩; refine ⟨_, rfl, ?_⟩; replace HO_3 := RB HO_3 hb; replace HB := BS (w := w) hb; (try clear hb); (try clear hk); have p10 : 0 ≤ (x4_1 : Int) := OD; have q10 : (x4_1 : Int) < ((x3_1.length : Int) : Int) := OD; obtain ⟨go10, co9002, eo9002, gb10, gl10, cl10, HG10⟩ := Kd.rG HO_3.out (by omega); (first | cases eo9002 | (injection eo9002 with ea_ en_ ec_; (first | subst ea_ | (injection ea_ with ea_; subst ea_)); subst ec_; clear en_)); have GB10 := ah.mk gb10; have GG10 := ah.mk HG10; clear gb10 gl10 HG10; obtain ⟨ce10, hcl10, hM10, hcc10, hfr10⟩ := Kd.tC HO_3.out z84 (x4_1 : Int) p10 q10; obtain rfl := xI hM10; have hx10_0 : w9001.cell? ⟨go10, (x4_1 : Int).toNat * 2, none⟩ = some (.string ((fK x3_1 x4_1).f0)) := hcc10 0 _ rfl; have hx10_1 : w9001.cell? ⟨go10, (x4_1 : Int).toNat * 2 + 1, none⟩ = some (.int .i64 ((fK x3_1 x4_1).f1)) := hcc10 1 _ rfl; have hf10_0 : w9001.frozen? ⟨go10, (x4_1 : Int).toNat * 2, none⟩ = false := hfr10 0; have hf10_1 : w9001.frozen? ⟨go10, (x4_1 : Int).toNat * 2 + 1, none⟩ = false := hfr10 1; clear hcl10 hcc10 hfr10 hM10; replace p10 := eq_true p10; replace q10 := eq_true q10; have HX12 := ah.mk (show Kd.R k84 84 w9001 w.heap.size (fun _ => True) (.slice (some ⟨go10, 0, none⟩) x3_1.length co9002) x3_1 from (RR HO_3)); obtain ⟨ce12, hcl12, hM12, hcc12, hfr12⟩ := Kd.tC HX12.out z84 (x4_1 : Int) (OD) (by have h_ : (x4_1 : Int) < ((x3_1.length : Int) : Int) := OD; first | exact h_ | (have e_ := (Kd.bN HO_3.out).1; omega) | simpa using h_); obtain rfl := xI hM12; have HP12 := Kd.BG HX12.out (x4_1 : Int) (OD) (by have h_ : (x4_1 : Int) < ((x3_1.length : Int) : Int) := OD; first | exact h_ | (have e_ := (Kd.bN HO_3.out).1; omega) | simpa using h_) (seg := [.string t441, .int .i64 t442]) (j := 0) hcl12 hcc12 (show 2 ≤ 2 from by decide) (x' := (⟨t441, t442⟩ : S84)) (Ah _ _ _ (⟨t441, t442⟩ : S84) ) (fun _ hk => hk); have hx12_0 := hcc12 0 _ rfl; (try simp only [show (k84).sz = 2 from rfl, Nat.mul_one, Nat.add_zero] at hx12_0); have hf12_0 := hfr12 0; (try simp only [show (k84).sz = 2 from rfl, Nat.mul_one, Nat.add_zero] at hf12_0); have hx12_1 := hcc12 1 _ rfl; (try simp only [show (k84).sz = 2 from rfl, Nat.mul_one, Nat.add_zero] at hx12_1); have hf12_1 := hfr12 1; (try simp only [show (k84).sz = 2 from rfl, Nat.mul_one, Nat.add_zero] at hf12_1); clear hcl12 hcc12 hfr12 hM12) | ((with_reducible refine kI (t := 84) (p := 21) rfl ?_); refine jW (t := 84) (p := 21) (v := ?vo_w13) (w1 := ((w9001.setCell ⟨go10, (x4_1 : Int).toNat * 2, none⟩ (.string t441)).setCell ⟨go10, (x4_1 : Int).toNat * 2 + 1, none⟩ (.int .i64 t442))) ?hg ?ho ?hn ?hr ?_; (case ho => rfl); (case hg => rfl); (case hn => rfl); (case hr => first | (go_simp; done) | (go_simp; rfl)); intro w9003 hw; have hg : w9001.grownBy w9003 (some go10) := (by rw [hw]; exact HP12.2); have hp_ : Kd.R k84 84 w9003 w.heap.size (fun _ => True) (.slice (some ⟨go10, 0, none⟩) x3_1.length co9002) y443 := (by rw [hw, Ny443.out]; exact HP12.1); clear HP12; have n0_ := ah.mk (hp_); have n1_ := ah.mk ((by rw [hw]; exact gQ (gQ (HB.out) GB10.out) GB10.out : Below w.heap.size w w9003)); clear HO_3 HB; have HO_3 := n0_; have HB := n1_; clear n0_ n1_; clear hg hw hp_))
    go_roundg k1
    case measure => have := HK1.out; omega
    case rel => exact ⟨(y443), (wrap64 (x4_1 + 1)), EQ, H', ⟨by have := HK1.out; omega⟩, ⟨(RR HO_3)⟩, ⟨BL⟩⟩
   ·obtain rfl := Option.some.inj H
    go_wp2
    go_ret
    exact ⟨_, EWW, (RR HO_3), BL⟩
def dh.l0 : Nat → List ByteArray → List ByteArray → Int → Option (List ByteArray)
 | 0, _, _, _ => none
 | k + 1, a, b, c => if c < (a.length : Int) then (if 0 ≤ c then (if c < (b.length : Int) then (dh.l0 k a (b.set (c : Int).toNat (dD ByteArray.empty a c)) (wrap64 (c + 1))) else (none)) else (none)) else (some b)
def dh.f (k : Nat) (l0 : List ByteArray) : Option (List ByteArray) := if 0 ≤ (l0.length : Int) then (if ((l0.length : Int) : Int).toNat ≤ 17592186044416 then (dh.l0 k l0 (List.replicate ((l0.length : Int) : Int).toNat (⟨#[]⟩ : ByteArray)) 0) else (none)) else (none)
theorem dh.calls (k : Nat) (A0 : Option Addr) (c0 : Nat) (l0 r : List ByteArray) (w : World) (hr0 : Kd.C Kd.string w A0 l0.length l0) (hc0 : l0.length ≤ c0) (h : dh.f k l0 = some r) :
  Calls Tryz.prog 17 #[.slice A0 l0.length c0] w fun e w' => ∃ v0_ : Value, e = .returned (v0_) ∧ Kd.R Kd.string 9 w' w.heap.size (fun _ => True) v0_ r ∧ Below w.heap.size w w' := by
 have HR0 := ah.mk hr0
 have HC0 := ah.mk hc0
 clear hr0 hc0
 have HB := ah.mk (Below.refl w.heap.size w)
 unfold dh.f at h
 have H := h
 clear h
 replace H := ifP H; obtain ⟨c2, H⟩ := H
 have c2b0 := eq_true c2
 have c2b1 : decide (0 ≤ (l0.length : Int)) = true := decide_eq_true c2
 clear c2
 replace H := ifP H; obtain ⟨c3, H⟩ := H
 have c3b0 := eq_true c3
 have c3b1 : decide (((l0.length : Int) : Int).toNat ≤ 17592186044416) = true := decide_eq_true c3
 clear c3
 obtain ⟨y444, hy444⟩ : ∃ y_ : List ByteArray, y_ = (List.replicate ((l0.length : Int) : Int).toNat (⟨#[]⟩ : ByteArray)) := ⟨_, rfl⟩
 replace H : (dh.l0 k l0 y444 0) = some r := by first | (rw [hy444]; with_reducible exact H) | (have H2_ := (Option.bind_some _ _).symm.trans H; rw [hy444]; with_reducible exact H2_) | (have H2_ := (Option.bind_some _ _).symm.trans H; with_reducible exact H2_) | with_reducible exact H | (rw [hy444]; exact H) | exact H
 have Ny444 := ah.mk hy444
 clear hy444
 have H' := ah.mk H
 clear H
 go_enter Tryz.func17, Tryz.ntmps17
 go_wp2_with (first | ((with_reducible refine aN (N := 7) rfl ?_); refine Kd.vY Kd.string _ 9 rfl (N := 7) rfl 26 _ _ rfl (l0.length : Int) rfl rfl Tryz.underlying26 (.string ⟨#[]⟩) 16 qX rfl (by decide) (by omega) (⟨#[]⟩ : ByteArray) (ok := fun _ => True) (okp := fun _ => True) rfl (fun _ hk => hk) trivial (OD) (Nat.le_trans (Nat.mul_le_mul_right _ (OD : (l0.length : Int).toNat ≤ 17592186044416)) (by omega)) (Below.refl _ _) (Nat.le_refl _) ?_; intro v445 w9000 ho5 hb hg_ hnew_; clear hg_ hnew_; (first | rw [← Ny444.out] at ho5 | (simp only [Int.reduceToNat] at ho5; rw [← Ny444.out] at ho5)); have n0_ := ah.mk (Kd.cO ho5 (aQ BL)); replace HB := BS (w := w) hb; have HO446 := n0_; clear n0_; clear hb ho5))
 go_loopg [4] k (fun kq v4 w' => ∃ (x3_1 : List ByteArray) (x4_1 : Int), v4 = .int .i64 x4_1 ∧ ah (dh.l0 kq l0 x3_1 x4_1 = some r) ∧ ah (kq ≤ k) ∧ ah (Kd.R Kd.string 9 w' w.heap.size (fun _ => True) v445 x3_1) ∧ ah (Below w.heap.size w w'))
 case atStart => exact ⟨(y444), (0), EQ, H', ⟨Nat.le_refl _⟩, ⟨(RR HO446)⟩, ⟨BL⟩⟩
 case round =>
  clear H'
  try clear c2
  try clear c2b0
  try clear c2b1
  try clear c3
  try clear c3b0
  try clear c3b1
  obtain ⟨x3_1, x4_1, rfl, HA, HK1, HO_3, HB⟩ := hrel
  cases gk with
  | zero => exact absurd HA.out (by simp [dh.l0])
  | succ k1 =>
   have H := HA.out
   clear HA
   simp only [dh.l0] at H
   replace H := ifD H; rcases H with ⟨c6b0, H⟩ | ⟨c6b0, H⟩
   ·replace H := ifN H; obtain ⟨c7b0, H⟩ := H
    replace H := ifN H; obtain ⟨c8b0, H⟩ := H
    obtain ⟨y448, hy448⟩ : ∃ y_ : List ByteArray, y_ = (x3_1.set (x4_1 : Int).toNat (dD ByteArray.empty l0 x4_1)) := ⟨_, rfl⟩
    replace H : (dh.l0 k1 l0 y448 (wrap64 (x4_1 + 1))) = some r := by first | (rw [hy448]; with_reducible exact H) | (have H2_ := (Option.bind_some _ _).symm.trans H; rw [hy448]; with_reducible exact H2_) | (have H2_ := (Option.bind_some _ _).symm.trans H; with_reducible exact H2_) | with_reducible exact H | (rw [hy448]; exact H) | exact H
    have Ny448 := ah.mk hy448
    clear hy448
    have H' := ah.mk H
    clear H
    have p447 : 0 ≤ (x4_1 : Int) := OD
    have q447 : x4_1 < (l0.length : Int) := OD
    obtain ⟨ad447, e447, hx447_0⟩ := Kd.gG HR0.out x4_1 p447 q447
    cases e447
    try replace hx447_0 := (HB.out.cell (World.block_lt_of_cell? w _ hx447_0)).trans hx447_0
    replace p447 := eq_true p447
    replace q447 := eq_true q447
    have p9 : 0 ≤ (x4_1 : Int) := OD
    have q9 : (x4_1 : Int) < ((x3_1.length : Int) : Int) := OD
    obtain ⟨go9, co9001, eo9001, gb9, gl9, cl9, HG9⟩ := Kd.rG HO_3.out (by omega)
    (first | cases eo9001 | (injection eo9001 with ea_ en_ ec_; (first | subst ea_ | (injection ea_ with ea_; subst ea_)); subst ec_; clear en_))
    have GB9 := ah.mk gb9
    have GG9 := ah.mk HG9
    clear gb9 gl9 HG9
    obtain ⟨hx9_0, hf9_0⟩ := Kd.mE (⟨#[]⟩ : ByteArray) HO_3.out (x4_1 : Int) p9 q9
    replace p9 := eq_true p9
    replace q9 := eq_true q9
    have HP10 := Kd.vP HO_3.out (x4_1 : Int) (dD ByteArray.empty l0 x4_1)
    go_wp2_with (first | ((with_reducible refine kI (t := 9) (p := 20) rfl ?_); refine jW (t := 9) (p := 20) (v := ?vo_w11) (w1 := (wr.setCell ⟨go9, (x4_1 : Int).toNat, none⟩ (.string (dD ByteArray.empty l0 x4_1)))) ?hg ?ho ?hn ?hr ?_; (case ho => rfl); (case hg => rfl); (case hn => rfl); (case hr => first | (go_simp; done) | (go_simp; rfl)); intro w9002 hw; have hg : wr.grownBy w9002 (some go9) := (by rw [hw]; exact HP10.2); have hp_ : Kd.R Kd.string 9 w9002 w.heap.size (fun _ => True) (.slice (some ⟨go9, 0, none⟩) x3_1.length co9001) y448 := (by rw [hw, Ny448.out]; exact HP10.1); clear HP10; have n0_ := ah.mk (hp_); have n1_ := ah.mk ((by rw [hw]; exact gQ (HB.out) GB9.out : Below w.heap.size w w9002)); clear HO_3 HB; have HO_3 := n0_; have HB := n1_; clear n0_ n1_; clear hg hw hp_))
    go_roundg k1
    case measure => have := HK1.out; omega
    case rel => exact ⟨(y448), (wrap64 (x4_1 + 1)), EQ, H', ⟨by have := HK1.out; omega⟩, ⟨(RR HO_3)⟩, ⟨BL⟩⟩
   ·obtain rfl := Option.some.inj H
    go_wp2
    go_ret
    exact ⟨_, EWW, (RR HO_3), BL⟩
def fq.f (a0 a1 a2 : Int) : Option (Bool) := if a1 ≤ a0 then (some (decide (a0 ≤ a2))) else (some false)
theorem fq.calls (a0 a1 a2 : Int) (r : Bool) (w : World) (h : fq.f a0 a1 a2 = some r) :
  Calls Tryz.prog 89 #[.int .i64 a0, .int .i64 a1, .int .i64 a2] w fun e w' => e = .returned (.bool r) ∧ aC w w' := by
 unfold fq.f at h
 have H := h
 clear h
 replace H := ah.mk H
 go_enter Tryz.func89, Tryz.ntmps89
 replace H := H.out
 replace H := ifD H; rcases H with ⟨c4b0, H⟩ | ⟨c4b0, H⟩
 ·obtain rfl := Option.some.inj H
  try go_wp2
  go_ret
  exact ⟨by first | rfl | (simp; done) | (simp [*]; done), by repeat (first | exact aC.refl _ | apply aC.step)⟩
 ·obtain rfl := Option.some.inj H
  try go_wp2
  go_ret
  exact ⟨by first | rfl | (simp; done) | (simp [*]; done), by repeat (first | exact aC.refl _ | apply aC.step)⟩
mutual
def bn.j0 : Nat → Bool → Int → Int → ByteArray → Option (Bool)
 | 0, _, _, _, _ => none
 | k + 1, a, b, c, d => if a = true then (some false) else (bn.l0 k (d.size : Int) 0 b c d)
def bn.l0 : Nat → Int → Int → Int → Int → ByteArray → Option (Bool)
 | 0, _, _, _, _, _ => none
 | k + 1, a, b, c, d, e => if b < a then (if 0 ≤ b then (if b < (e.size : Int) then (if (bt e b) = 35 then (bn.l0 k a (wrap64 (b + 1)) c d e) else (if (bt e b) = 46 then (bn.l0 k a (wrap64 (b + 1)) c d e) else (some false))) else (none)) else (none)) else (some true)
end
def bn.f (k : Nat) (EU EW : Int) (EX : ByteArray) : Option (Bool) := (fq.f EU 2 6).bind fun t450 => (if t450 = true then ((fq.f EW 2 6).bind fun t451 => (if t451 = true then (bn.j0 k ((EX.size : Int) != (wrap64 (EU * EW))) EU EW EX) else (bn.j0 k true EU EW EX))) else (bn.j0 k true EU EW EX))
theorem bn.calls (k : Nat) (EU EW : Int) (EX : ByteArray) (r : Bool) (w : World) (h : bn.f k EU EW EX = some r) :
  Calls Tryz.prog 110 #[.agg #[.int .i64 EU, .int .i64 EW, .string EX]] w fun e w' => e = .returned (.bool r) ∧ Below w.heap.size w w' := by
 have hu32 := Tryz.underlying32
 have HB := ah.mk (Below.refl w.heap.size w)
 unfold bn.f at h
 have H := h
 clear h
 have HC2 := ah.mk H
 clear H
 go_enter Tryz.func110, Tryz.ntmps110
 go_upto_region 1 with (first | ((with_reducible refine aN (N := 1) rfl ?_); (try (refine jX (by rfl) ?_; dsimp only)); refine bC (N := 1) (cs := #[.int .i64 EU, .int .i64 EW, .string EX]) (t := 32) ?_; intro gb449 hg w3 hbox hb; have BK449 := ah.mk hbox; have GW449 := SZ (w := w) hg; have GE449 := GW449; replace HB := BS (w := w) hb; clear hb hbox hg))
 (try simp only [Act.put, List.setIfInBounds_toArray, List.set_cons_zero, List.set_cons_succ])
 go_cut [24] (fun v24 wc => ∃ (kq : Nat) (x24_1 : Bool), v24 = .bool x24_1 ∧ ah (bn.j0 kq x24_1 EU EW EX = some r) ∧ ah (kq ≤ k) ∧ ah (wc.heap[gb449]? = some (.cells #[.int .i64 EU, .int .i64 EW, .string EX] 32 (0, 0))) ∧ ah (Below w.heap.size w wc))
 case first =>
  have H := HC2.out
  clear HC2
  replace H := be H; obtain ⟨t450, A4, H⟩ := H
  obtain ⟨hcz8000_0, hcz8000_1, hcz8000_2, hfz8000_0, hfz8000_1, hfz8000_2⟩ := cz3 BK449.out
  replace H := ah.mk H
  go_wp2_with (first | ((with_reducible refine ay (f := 89) rfl ?_); refine bq (some 6) Tryz.func89 #[.int .i64 EU, .int .i64 2, .int .i64 6] ?_; (with_reducible refine (fq.calls EU 2 6 _ _ A4.out).mono ?_); rintro e w' ⟨rfl, ⟨nd, rfl⟩⟩; refine ⟨_, rfl, ?_⟩; refine bP ?_))
  refine Hide.mk ?_
  replace H := H.out
  replace H := ifB H; rcases H with ⟨rfl, H⟩ | ⟨rfl, H⟩
  ·replace H := be H; obtain ⟨t451, A6, H⟩ := H
   replace H := ah.mk H
   go_wp2_with (first | (go_at_call 89; (with_reducible refine (fq.calls EW 2 6 _ _ A6.out).mono ?_); rintro e w' ⟨rfl, ⟨nd, rfl⟩⟩; refine bP ?_))
   refine Hide.mk ?_
   replace H := H.out
   replace H := ifB H; rcases H with ⟨rfl, H⟩ | ⟨rfl, H⟩
   ·have H' := ah.mk H
    clear H
    try go_wp2
    go_meet
    case rel => exact ⟨_, (((EX.size : Int) != (wrap64 (EU * EW)))), EQ, H', ⟨by first | omega | exact Nat.le_refl _⟩, ⟨BK⟩, ⟨BL⟩⟩
   ·have H' := ah.mk H
    clear H
    try go_wp2
    go_meet
    case rel => exact ⟨_, (true), EQ, H', ⟨by first | omega | exact Nat.le_refl _⟩, ⟨BK⟩, ⟨BL⟩⟩
  ·have H' := ah.mk H
   clear H
   try go_wp2
   go_meet
   case rel => exact ⟨_, (true), EQ, H', ⟨by first | omega | exact Nat.le_refl _⟩, ⟨BK⟩, ⟨BL⟩⟩
 case rest =>
  clear HC2
  obtain ⟨kq, x24_1, rfl, HA, HJ1, BK449, HB⟩ := hcut
  cases kq with
  | zero => exact absurd HA.out (by simp [bn.j0])
  | succ kj1 =>
   have H := HA.out
   clear HA
   simp only [bn.j0] at H
   replace H := ifB H; rcases H with ⟨rfl, H⟩ | ⟨rfl, H⟩
   ·obtain rfl := Option.some.inj H
    go_wp2
    go_ret
    exact ⟨EWW, BL⟩
   ·have H' := ah.mk H
    clear H
    obtain ⟨hcz7000_0, hcz7000_1, hcz7000_2, hfz7000_0, hfz7000_1, hfz7000_2⟩ := cz3 BK449.out
    go_wp2
    go_loopg [28] kj1 (fun kq v28 w' => ∃ (x28_2 : Int), v28 = .int .i64 x28_2 ∧ ah (bn.l0 kq (EX.size : Int) x28_2 EU EW EX = some r) ∧ ah (kq ≤ kj1) ∧ ah (w'.heap[gb449]? = some (.cells #[.int .i64 EU, .int .i64 EW, .string EX] 32 (0, 0))) ∧ ah (Below w.heap.size w w'))
    case atStart => exact ⟨(0), EQ, H', ⟨Nat.le_refl _⟩, ⟨BK⟩, ⟨BL⟩⟩
    case round =>
     clear H'
     try clear c11
     try clear hcz7000_0
     try clear hcz7000_1
     try clear hcz7000_2
     try clear hfz7000_0
     try clear hfz7000_1
     try clear hfz7000_2
     obtain ⟨x28_2, rfl, HA, HK2, BK449, HB⟩ := hrel
     cases gk with
     | zero => exact absurd HA.out (by simp [bn.l0])
     | succ k2 =>
      have H := HA.out
      clear HA
      simp only [bn.l0] at H
      replace H := ifD H; rcases H with ⟨c13b0, H⟩ | ⟨c13b0, H⟩
      ·replace H := ifN H; obtain ⟨c14b0, H⟩ := H
       replace H := ifN H; obtain ⟨c15b0, H⟩ := H
       obtain ⟨hcz7001_0, hcz7001_1, hcz7001_2, hfz7001_0, hfz7001_1, hfz7001_2⟩ := cz3 BK449.out
       have p16 : (0 ≤ (x28_2 : Int)) = True := OT
       have q16 : (x28_2 < (EX.size : Int)) = True := OT
       have hx16 := gI EX x28_2
       replace H := ifE H; rcases H with ⟨c17b0, c17b1, H⟩ | ⟨c17, c17b0, c17b1, H⟩
       ·have H' := ah.mk H
        clear H
        go_wp2
        go_roundg k2
        case measure => have := HJ1.out; have := HK2.out; omega
        case rel => exact ⟨(wrap64 (x28_2 + 1)), EQ, H', ⟨by have := HJ1.out; have := HK2.out; omega⟩, ⟨BK⟩, ⟨BL⟩⟩
       ·have p19 : (0 ≤ (x28_2 : Int)) = True := OT
        have q19 : (x28_2 < (EX.size : Int)) = True := OT
        have hx19 := gI EX x28_2
        replace H := ifE H; rcases H with ⟨c20b0, c20b1, H⟩ | ⟨c20, c20b0, c20b1, H⟩
        ·have H' := ah.mk H
         clear H
         go_wp2
         go_roundg k2
         case measure => have := HJ1.out; have := HK2.out; omega
         case rel => exact ⟨(wrap64 (x28_2 + 1)), EQ, H', ⟨by have := HJ1.out; have := HK2.out; omega⟩, ⟨BK⟩, ⟨BL⟩⟩
        ·obtain rfl := Option.some.inj H
         go_wp2
         go_ret
         exact ⟨EWW, BL⟩
      ·obtain rfl := Option.some.inj H
       go_wp2
       go_ret
       exact ⟨EWW, BL⟩
def eP.f (a0 : Int) : Option (Bool) := if a0 ≥ 97 then (some (decide (a0 ≤ 122))) else (some false)
theorem eP.calls (a0 : Int) (r : Bool) (w : World) (h : eP.f a0 = some r) :
  Calls Tryz.prog 134 #[.int .u8 a0] w fun e w' => e = .returned (.bool r) ∧ aC w w' := by
 unfold eP.f at h
 have H := h
 clear h
 replace H := ah.mk H
 go_enter Tryz.func134, Tryz.ntmps134
 replace H := H.out
 by_cases c2 : a0 ≥ 97
 ·rw [if_pos c2] at H
  have c2b0 : decide (97 ≤ a0) = true := decide_eq_true c2
  clear c2
  obtain rfl := Option.some.inj H
  try go_wp2
  go_ret
  exact ⟨by first | rfl | (simp; done) | (simp [*]; done), by repeat (first | exact aC.refl _ | apply aC.step)⟩
 ·rw [if_neg c2] at H
  have c2b0 : decide (97 ≤ a0) = false := decide_eq_false c2
  clear c2
  obtain rfl := Option.some.inj H
  try go_wp2
  go_ret
  exact ⟨by first | rfl | (simp; done) | (simp [*]; done), by repeat (first | exact aC.refl _ | apply aC.step)⟩
mutual
def bY.j0 : Nat → ByteArray → Bool → Int → Int → ByteArray → Option (Bool)
 | 0, _, _, _, _, _ => none
 | k + 1, a, b, c, d, e => if b = true then (some false) else (bY.l0 k a (a.size : Int) 0 c d e)
def bY.l0 : Nat → ByteArray → Int → Int → Int → Int → ByteArray → Option (Bool)
 | 0, _, _, _, _, _, _ => none
 | k + 1, a, b, c, d, e, f => if c < b then (if 0 ≤ c then (if c < (f.size : Int) then (if c < (a.size : Int) then (if (((bt f c) == 35) != ((bt a c) == 35)) = true then (some false) else (if (bt a c) = 35 then (bY.l0 k a b (wrap64 (c + 1)) d e f) else (if (bt a c) = 63 then (bY.l0 k a b (wrap64 (c + 1)) d e f) else ((eP.f (bt a c)).bind fun g => (if g = true then (bY.l0 k a b (wrap64 (c + 1)) d e f) else (some false)))))) else (none)) else (none)) else (none)) else (some true)
end
def bY.f (k : Nat) (EU EW : Int) (EX a1 : ByteArray) : Option (Bool) := (bn.f k EU EW EX).bind fun t453 => (if t453 = true then (bY.j0 k a1 ((a1.size : Int) != (EX.size : Int)) EU EW EX) else (bY.j0 k a1 true EU EW EX))
theorem bY.calls (k : Nat) (EU EW : Int) (EX a1 : ByteArray) (r : Bool) (w : World) (h : bY.f k EU EW EX a1 = some r) :
  Calls Tryz.prog 81 #[.agg #[.int .i64 EU, .int .i64 EW, .string EX], .string a1] w fun e w' => e = .returned (.bool r) ∧ Below w.heap.size w w' := by
 have hu32 := Tryz.underlying32
 have HB := ah.mk (Below.refl w.heap.size w)
 unfold bY.f at h
 have H := h
 clear h
 have HC3 := ah.mk H
 clear H
 go_enter Tryz.func81, Tryz.ntmps81
 go_upto_region 1 with (first | ((with_reducible refine aN (N := 2) rfl ?_); (try (refine jX (by rfl) ?_; dsimp only)); refine bC (N := 2) (cs := #[.int .i64 EU, .int .i64 EW, .string EX]) (t := 32) ?_; intro gb452 hg w4 hbox hb; have BK452 := ah.mk hbox; have GW452 := SZ (w := w) hg; have GE452 := GW452; replace HB := BS (w := w) hb; clear hb hbox hg))
 repeat (go_quiet (first | ((with_reducible refine aN (N := 2) rfl ?_); (try (refine jX (by rfl) ?_; dsimp only)); refine bC (N := 2) (cs := #[.int .i64 EU, .int .i64 EW, .string EX]) (t := 32) ?_; intro gb452 hg w4 hbox hb; have BK452 := ah.mk hbox; have GW452 := SZ (w := w) hg; have GE452 := GW452; replace HB := BS (w := w) hb; clear hb hbox hg)); go_upto_region 1 with (first | ((with_reducible refine aN (N := 2) rfl ?_); (try (refine jX (by rfl) ?_; dsimp only)); refine bC (N := 2) (cs := #[.int .i64 EU, .int .i64 EW, .string EX]) (t := 32) ?_; intro gb452 hg w4 hbox hb; have BK452 := ah.mk hbox; have GW452 := SZ (w := w) hg; have GE452 := GW452; replace HB := BS (w := w) hb; clear hb hbox hg)))
 (try simp only [Act.put, List.setIfInBounds_toArray, List.set_cons_zero, List.set_cons_succ])
 go_cut [16] (fun v16 wc => ∃ (kq : Nat) (x16_2 : Bool), v16 = .bool x16_2 ∧ ah (bY.j0 kq a1 x16_2 EU EW EX = some r) ∧ ah (kq ≤ k) ∧ ah (wc.heap[gb452]? = some (.cells #[.int .i64 EU, .int .i64 EW, .string EX] 32 (0, 0))) ∧ ah (Below w.heap.size w wc))
 case first =>
  have H := HC3.out
  clear HC3
  replace H := be H; obtain ⟨t453, A5, H⟩ := H
  obtain ⟨hcz8000_0, hcz8000_1, hcz8000_2, hfz8000_0, hfz8000_1, hfz8000_2⟩ := cz3 BK452.out
  replace H := ifB H; rcases H with ⟨rfl, H⟩ | ⟨rfl, H⟩
  ·have H' := ah.mk H
   clear H
   go_wp2_with (first | (go_at_call 110; (with_reducible refine (bn.calls k EU EW EX _ _ A5.out).mono ?_); rintro e w8001 ⟨rfl, hb⟩; replace BK452 := KB BK452 hb; replace HB := BS (w := w) hb; (try clear hb); (try clear hb2); (try clear hk); (try clear hi); obtain ⟨hcz8002_0, hcz8002_1, hcz8002_2, hfz8002_0, hfz8002_1, hfz8002_2⟩ := cz3 BK452.out))
   repeat (go_quiet (first | (go_at_call 110; (with_reducible refine (bn.calls k EU EW EX _ _ A5.out).mono ?_); rintro e w8001 ⟨rfl, hb⟩; replace BK452 := KB BK452 hb; replace HB := BS (w := w) hb; (try clear hb); (try clear hb2); (try clear hk); (try clear hi); obtain ⟨hcz8002_0, hcz8002_1, hcz8002_2, hfz8002_0, hfz8002_1, hfz8002_2⟩ := cz3 BK452.out)); try go_wp2_with (first | (go_at_call 110; (with_reducible refine (bn.calls k EU EW EX _ _ A5.out).mono ?_); rintro e w8001 ⟨rfl, hb⟩; replace BK452 := KB BK452 hb; replace HB := BS (w := w) hb; (try clear hb); (try clear hb2); (try clear hk); (try clear hi); obtain ⟨hcz8002_0, hcz8002_1, hcz8002_2, hfz8002_0, hfz8002_1, hfz8002_2⟩ := cz3 BK452.out)))
   go_meet
   case rel => exact ⟨_, (((a1.size : Int) != (EX.size : Int))), EQ, H', ⟨by first | omega | exact Nat.le_refl _⟩, ⟨BK⟩, ⟨BL⟩⟩
  ·have H' := ah.mk H
   clear H
   go_wp2_with (first | (go_at_call 110; (with_reducible refine (bn.calls k EU EW EX _ _ A5.out).mono ?_); rintro e w8001 ⟨rfl, hb⟩; replace BK452 := KB BK452 hb; replace HB := BS (w := w) hb; (try clear hb); (try clear hb2); (try clear hk); (try clear hi)))
   repeat (go_quiet (first | (go_at_call 110; (with_reducible refine (bn.calls k EU EW EX _ _ A5.out).mono ?_); rintro e w8001 ⟨rfl, hb⟩; replace BK452 := KB BK452 hb; replace HB := BS (w := w) hb; (try clear hb); (try clear hb2); (try clear hk); (try clear hi))); try go_wp2_with (first | (go_at_call 110; (with_reducible refine (bn.calls k EU EW EX _ _ A5.out).mono ?_); rintro e w8001 ⟨rfl, hb⟩; replace BK452 := KB BK452 hb; replace HB := BS (w := w) hb; (try clear hb); (try clear hb2); (try clear hk); (try clear hi))))
   go_meet
   case rel => exact ⟨_, (true), EQ, H', ⟨by first | omega | exact Nat.le_refl _⟩, ⟨BK⟩, ⟨BL⟩⟩
 case rest =>
  clear HC3
  obtain ⟨kq, x16_2, rfl, HA, HJ2, BK452, HB⟩ := hcut
  cases kq with
  | zero => exact absurd HA.out (by simp [bY.j0])
  | succ kj2 =>
   have H := HA.out
   clear HA
   simp only [bY.j0] at H
   replace H := ifB H; rcases H with ⟨rfl, H⟩ | ⟨rfl, H⟩
   ·obtain rfl := Option.some.inj H
    go_wp2
    repeat (go_quiet (fail); try go_wp2)
    go_ret
    exact ⟨EWW, BL⟩
   ·have H' := ah.mk H
    clear H
    go_wp2
    repeat (go_quiet (fail); try go_wp2)
    go_loopg [19] kj2 (fun kq v19 w' => ∃ (x19_2 : Int), v19 = .int .i64 x19_2 ∧ ah (bY.l0 kq a1 (a1.size : Int) x19_2 EU EW EX = some r) ∧ ah (kq ≤ kj2) ∧ ah (w'.heap[gb452]? = some (.cells #[.int .i64 EU, .int .i64 EW, .string EX] 32 (0, 0))) ∧ ah (Below w.heap.size w w'))
    case atStart => exact ⟨(0), EQ, H', ⟨Nat.le_refl _⟩, ⟨BK⟩, ⟨BL⟩⟩
    case round =>
     clear H'
     try clear c12
     obtain ⟨x19_2, rfl, HA, HK2, BK452, HB⟩ := hrel
     cases gk with
     | zero => exact absurd HA.out (by simp [bY.l0])
     | succ k2 =>
      have H := HA.out
      clear HA
      simp only [bY.l0] at H
      replace H := ifD H; rcases H with ⟨c13b0, H⟩ | ⟨c13b0, H⟩
      ·replace H := ifN H; obtain ⟨c14b0, H⟩ := H
       replace H := ifN H; obtain ⟨c15b0, H⟩ := H
       replace H := ifN H; obtain ⟨c17b0, H⟩ := H
       obtain ⟨hcz7000_0, hcz7000_1, hcz7000_2, hfz7000_0, hfz7000_1, hfz7000_2⟩ := cz3 BK452.out
       have p16 : (0 ≤ (x19_2 : Int)) = True := OT
       have q16 : (x19_2 < (EX.size : Int)) = True := OT
       have hx16 := gI EX x19_2
       have p18 : (0 ≤ (x19_2 : Int)) = True := OT
       have q18 : (x19_2 < (a1.size : Int)) = True := OT
       have hx18 := gI a1 x19_2
       by_cases c19 : (((bt EX x19_2) == 35) != ((bt a1 x19_2) == 35)) = true
       ·rw [if_pos c19] at H
        have c19b0 : (((bt EX x19_2) == 35) != ((bt a1 x19_2) == 35)) = true := c19
        (try (have c19b1 : decide (((bt EX x19_2) == 35) = ((bt a1 x19_2) == 35)) = false := by simpa using c19))
        (try (have c19b2 : (((bt EX x19_2) == 35) == ((bt a1 x19_2) == 35)) = false := by simpa using c19))
        (try (have c19b3 : ¬ (((bt EX x19_2) == 35) = ((bt a1 x19_2) == 35)) := by simpa using c19))
        clear c19
        obtain rfl := Option.some.inj H
        go_wp2
        repeat (go_quiet (fail); try go_wp2)
        go_ret
        exact ⟨EWW, BL⟩
       ·rw [if_neg c19] at H
        have c19b0 : (((bt EX x19_2) == 35) != ((bt a1 x19_2) == 35)) = false := by simpa using c19
        (try (have c19b1 : decide (((bt EX x19_2) == 35) = ((bt a1 x19_2) == 35)) = true := by simpa using c19))
        (try (have c19b2 : (((bt EX x19_2) == 35) == ((bt a1 x19_2) == 35)) = true := by simpa using c19))
        clear c19
        have p21 : (0 ≤ (x19_2 : Int)) = True := OT
        have q21 : (x19_2 < (a1.size : Int)) = True := OT
        have hx21 := gI a1 x19_2
        by_cases c22 : (bt a1 x19_2) = 35
        ·rw [if_pos c22] at H
         have c22b0 : ((bt a1 x19_2) == 35) = true := beq_iff_eq.mpr c22
         have cwc19_ : ((bt EX x19_2) == 35) = true := (bne_eq_false_iff_eq.mp c19b0).trans c22b0
         have c22b1 : ((bt a1 x19_2) != 35) = false := bne_eq_false_iff_eq.mpr c22
         clear c22
         have H' := ah.mk H
         clear H
         go_wp2
         repeat (go_quiet (fail); try go_wp2)
         go_roundg k2
         case measure => have := HJ2.out; have := HK2.out; omega
         case rel => exact ⟨(wrap64 (x19_2 + 1)), EQ, H', ⟨by have := HJ2.out; have := HK2.out; omega⟩, ⟨BK⟩, ⟨BL⟩⟩
        ·rw [if_neg c22] at H
         have c22b0 : ((bt a1 x19_2) == 35) = false := beq_eq_false_iff_ne.mpr c22
         have cwc19_ : ((bt EX x19_2) == 35) = false := (bne_eq_false_iff_eq.mp c19b0).trans c22b0
         have c22b1 : ((bt a1 x19_2) != 35) = true := bne_iff_ne.mpr c22
         have p24 : (0 ≤ (x19_2 : Int)) = True := OT
         have q24 : (x19_2 < (a1.size : Int)) = True := OT
         have hx24 := gI a1 x19_2
         replace H := ifE H; rcases H with ⟨c25b0, c25b1, H⟩ | ⟨c25, c25b0, c25b1, H⟩
         ·have H' := ah.mk H
          clear H
          go_wp2
          repeat (go_quiet (fail); try go_wp2)
          go_roundg k2
          case measure => have := HJ2.out; have := HK2.out; omega
          case rel => exact ⟨(wrap64 (x19_2 + 1)), EQ, H', ⟨by have := HJ2.out; have := HK2.out; omega⟩, ⟨BK⟩, ⟨BL⟩⟩
         ·replace H := be H; obtain ⟨t454, A28, H⟩ := H
          have p27 : (0 ≤ (x19_2 : Int)) = True := OT
          have q27 : (x19_2 < (a1.size : Int)) = True := OT
          have hx27 := gI a1 x19_2
          replace H := ifB H; rcases H with ⟨rfl, H⟩ | ⟨rfl, H⟩
          ·have H' := ah.mk H
           clear H
           go_wp2_with (first | (go_at_call 134; (with_reducible refine (eP.calls (bt a1 x19_2) _ _ A28.out).mono ?_); rintro e w' ⟨rfl, ⟨nd, rfl⟩⟩; (try first | exact ⟨rfl, _, World.drewN_drewN _ _ _⟩ | exact ⟨rfl, _, Eq.trans (World.drewN_drewN _ _ _) (congrArg (World.drewN _) (Nat.add_assoc _ _ _))⟩)))
           repeat (go_quiet (first | (go_at_call 134; (with_reducible refine (eP.calls (bt a1 x19_2) _ _ A28.out).mono ?_); rintro e w' ⟨rfl, ⟨nd, rfl⟩⟩; (try first | exact ⟨rfl, _, World.drewN_drewN _ _ _⟩ | exact ⟨rfl, _, Eq.trans (World.drewN_drewN _ _ _) (congrArg (World.drewN _) (Nat.add_assoc _ _ _))⟩))); try go_wp2_with (first | (go_at_call 134; (with_reducible refine (eP.calls (bt a1 x19_2) _ _ A28.out).mono ?_); rintro e w' ⟨rfl, ⟨nd, rfl⟩⟩; (try first | exact ⟨rfl, _, World.drewN_drewN _ _ _⟩ | exact ⟨rfl, _, Eq.trans (World.drewN_drewN _ _ _) (congrArg (World.drewN _) (Nat.add_assoc _ _ _))⟩))))
           go_roundg k2
           case measure => have := HJ2.out; have := HK2.out; omega
           case rel => exact ⟨(wrap64 (x19_2 + 1)), EQ, H', ⟨by have := HJ2.out; have := HK2.out; omega⟩, ⟨BK⟩, ⟨BL⟩⟩
          ·obtain rfl := Option.some.inj H
           go_wp2_with (first | (go_at_call 134; (with_reducible refine (eP.calls (bt a1 x19_2) _ _ A28.out).mono ?_); rintro e w' ⟨rfl, ⟨nd, rfl⟩⟩; (try first | exact ⟨rfl, _, World.drewN_drewN _ _ _⟩ | exact ⟨rfl, _, Eq.trans (World.drewN_drewN _ _ _) (congrArg (World.drewN _) (Nat.add_assoc _ _ _))⟩)))
           repeat (go_quiet (first | (go_at_call 134; (with_reducible refine (eP.calls (bt a1 x19_2) _ _ A28.out).mono ?_); rintro e w' ⟨rfl, ⟨nd, rfl⟩⟩; (try first | exact ⟨rfl, _, World.drewN_drewN _ _ _⟩ | exact ⟨rfl, _, Eq.trans (World.drewN_drewN _ _ _) (congrArg (World.drewN _) (Nat.add_assoc _ _ _))⟩))); try go_wp2_with (first | (go_at_call 134; (with_reducible refine (eP.calls (bt a1 x19_2) _ _ A28.out).mono ?_); rintro e w' ⟨rfl, ⟨nd, rfl⟩⟩; (try first | exact ⟨rfl, _, World.drewN_drewN _ _ _⟩ | exact ⟨rfl, _, Eq.trans (World.drewN_drewN _ _ _) (congrArg (World.drewN _) (Nat.add_assoc _ _ _))⟩))))
           go_ret
           exact ⟨EWW, BL⟩
      ·obtain rfl := Option.some.inj H
       go_wp2
       repeat (go_quiet (fail); try go_wp2)
       go_ret
       exact ⟨EWW, BL⟩
mutual
def dX.j0 : Nat → Int → Int → Int → Int → Int → Int → ByteArray → Option (Int)
 | 0, _, _, _, _, _, _, _ => none
 | k + 1, a, b, c, d, e, f, g => if 0 ≤ a then (if a < (g.size : Int) then (if (bt g a) = 46 then (if c > 0 then (if 0 ≤ (wrap64 (a - b)) then (if (wrap64 (a - b)) < (g.size : Int) then (dX.j1 k a b c d ((bt g (wrap64 (a - b))) == 46) e f g) else (none)) else (none)) else (dX.j1 k a b c d false e f g)) else (dX.j1 k a b c d true e f g)) else (none)) else (none)
def dX.j1 : Nat → Int → Int → Int → Int → Bool → Int → Int → ByteArray → Option (Int)
 | 0, _, _, _, _, _, _, _, _ => none
 | k + 1, a, b, c, d, e, f, g, h => if e = true then (some 0) else (dX.l0 k a b c d 0 f g h)
def dX.l0 : Nat → Int → Int → Int → Int → Int → Int → Int → ByteArray → Option (Int)
 | 0, _, _, _, _, _, _, _, _ => none
 | k + 1, a, b, c, d, e, f, g, h => if (wrap64 (c + e)) < d then (if 0 ≤ (wrap64 (a + (wrap64 (e * b)))) then (if (wrap64 (a + (wrap64 (e * b)))) < (h.size : Int) then (if (bt h (wrap64 (a + (wrap64 (e * b))))) = 46 then (dX.l0 k a b c d (wrap64 (e + 1)) f g h) else (some e)) else (none)) else (none)) else (some e)
end
def dX.f (k : Nat) (EU EW : Int) (EX : ByteArray) (a1 : Int) (a2 : Bool) : Option (Int) := if EW = 0 then (none) else (if a2 = true then (dX.j0 k a1 EW (wrap64 (Int.tdiv a1 EW)) EU EU EW EX) else (dX.j0 k a1 1 (Int.tmod a1 EW) EW EU EW EX))
theorem dX.calls (k : Nat) (EU EW : Int) (EX : ByteArray) (a1 : Int) (a2 : Bool) (r : Int) (w : World) (h : dX.f k EU EW EX a1 a2 = some r) :
  Calls Tryz.prog 164 #[.agg #[.int .i64 EU, .int .i64 EW, .string EX], .int .i64 a1, .bool a2] w fun e w' => e = .returned (.int .i64 r) ∧ Below w.heap.size w w' := by
 have hu32 := Tryz.underlying32
 have HB := ah.mk (Below.refl w.heap.size w)
 unfold dX.f at h
 have H := h
 clear h
 by_cases c4 : EW = 0
 ·rw [if_pos c4] at H
  exact absurd H (by simp)
 ·rw [if_neg c4] at H
  have c4b0 : (EW == 0) = false := beq_eq_false_iff_ne.mpr c4
  have c4b1 : (EW != 0) = true := bne_iff_ne.mpr c4
  have HC5 := ah.mk H
  clear H
  go_enter Tryz.func164, Tryz.ntmps164
  go_upto_if 17 with (first | ((with_reducible refine aN (N := 3) rfl ?_); refine bC (N := 3) (cs := #[.int .i64 EU, .int .i64 EW, .string EX]) (t := 32) ?_; intro gb455 hg w9000 hbox hb; have BK455 := ah.mk hbox; have GW455 := SZ (w := w) hg; have GE455 := GW455; replace HB := BS (w := w) hb; clear hb hbox hg; obtain ⟨hcz9001_0, hcz9001_1, hcz9001_2, hfz9001_0, hfz9001_1, hfz9001_2⟩ := cz3 BK455.out))
  repeat (go_quiet (first | ((with_reducible refine aN (N := 3) rfl ?_); refine bC (N := 3) (cs := #[.int .i64 EU, .int .i64 EW, .string EX]) (t := 32) ?_; intro gb455 hg w9000 hbox hb; have BK455 := ah.mk hbox; have GW455 := SZ (w := w) hg; have GE455 := GW455; replace HB := BS (w := w) hb; clear hb hbox hg; obtain ⟨hcz9001_0, hcz9001_1, hcz9001_2, hfz9001_0, hfz9001_1, hfz9001_2⟩ := cz3 BK455.out)); go_upto_if 17 with (first | ((with_reducible refine aN (N := 3) rfl ?_); refine bC (N := 3) (cs := #[.int .i64 EU, .int .i64 EW, .string EX]) (t := 32) ?_; intro gb455 hg w9000 hbox hb; have BK455 := ah.mk hbox; have GW455 := SZ (w := w) hg; have GE455 := GW455; replace HB := BS (w := w) hb; clear hb hbox hg; obtain ⟨hcz9001_0, hcz9001_1, hcz9001_2, hfz9001_0, hfz9001_1, hfz9001_2⟩ := cz3 BK455.out)))
  (try simp only [Act.put, List.setIfInBounds_toArray, List.set_cons_zero, List.set_cons_succ])
  go_cut [7, 8, 9] (fun v7 v8 v9 wc => ∃ (kq : Nat) (x7_4 : Int) (x8_4 : Int) (x9_4 : Int), v7 = .int .i64 x7_4 ∧ v8 = .int .i64 x8_4 ∧ v9 = .int .i64 x9_4 ∧ ah (dX.j0 kq a1 x7_4 x8_4 x9_4 EU EW EX = some r) ∧ ah (kq ≤ k) ∧ ah (wc.heap[gb455]? = some (.cells #[.int .i64 EU, .int .i64 EW, .string EX] 32 (0, 0))) ∧ ah (Below w.heap.size w wc))
  case first =>
   have H := HC5.out
   clear HC5
   by_cases c8 : a2 = true
   ·subst c8
    rw [if_pos rfl] at H
    have H' := ah.mk H
    clear H
    obtain ⟨hcz9002_0, hcz9002_1, hcz9002_2, hfz9002_0, hfz9002_1, hfz9002_2⟩ := cz3 BK455.out
    go_wp2
    repeat (go_quiet (fail); try go_wp2)
    go_meet
    case rel => exact ⟨_, (EW), (wrap64 (Int.tdiv a1 EW)), (EU), EQ, EQ, EQ, H', ⟨by first | omega | exact Nat.le_refl _⟩, ⟨BK⟩, ⟨BL⟩⟩
   ·replace c8 := Bool.eq_false_iff.mpr c8
    subst c8
    rw [if_neg Bool.false_ne_true] at H
    have H' := ah.mk H
    clear H
    go_wp2
    repeat (go_quiet (fail); try go_wp2)
    go_meet
    case rel => exact ⟨_, (1), (Int.tmod a1 EW), (EW), EQ, EQ, EQ, H', ⟨by first | omega | exact Nat.le_refl _⟩, ⟨BK⟩, ⟨BL⟩⟩
  case rest =>
   clear HC5
   try clear c4
   try clear c4b0
   try clear c4b1
   try clear hcz9001_0
   try clear hcz9001_1
   try clear hcz9001_2
   try clear hfz9001_0
   try clear hfz9001_1
   try clear hfz9001_2
   obtain ⟨kq, x7_4, x8_4, x9_4, rfl, rfl, rfl, HA, HJ4, BK455, HB⟩ := hcut
   cases kq with
   | zero => exact absurd HA.out (by simp [dX.j0])
   | succ kj4 =>
    have H := HA.out
    clear HA
    simp only [dX.j0] at H
    have HC10 := ah.mk H
    clear H
    go_upto_region 4 with (fail)
    repeat (go_quiet (fail); go_upto_region 4 with (fail))
    go_cut [43] (fun v43 wc => ∃ (kq : Nat) (x43_9 : Bool), v43 = .bool x43_9 ∧ ah (dX.j1 kq a1 x7_4 x8_4 x9_4 x43_9 EU EW EX = some r) ∧ ah (kq ≤ kj4) ∧ ah (wc.heap[gb455]? = some (.cells #[.int .i64 EU, .int .i64 EW, .string EX] 32 (0, 0))) ∧ ah (Below w.heap.size w wc))
    case first =>
     have H := HC10.out
     clear HC10
     replace H := ifN H; obtain ⟨c11b0, H⟩ := H
     (first | rw [c11b0] | (simp only [iV, jQ]; rw [c11b0]) | skip)
     replace H := ifN H; obtain ⟨c12b0, H⟩ := H
     obtain ⟨hcz9003_0, hcz9003_1, hcz9003_2, hfz9003_0, hfz9003_1, hfz9003_2⟩ := cz3 BK455.out
     have p13 : (0 ≤ (a1 : Int)) = True := OT
     have q13 : (a1 < (EX.size : Int)) = True := OT
     have hx13 := gI EX a1
     replace H := ifE H; rcases H with ⟨c14b0, c14b1, H⟩ | ⟨c14, c14b0, c14b1, H⟩
     ·by_cases c15 : x8_4 > 0
      ·rw [if_pos c15] at H
       have c15b0 : decide (0 < x8_4) = true := decide_eq_true c15
       clear c15
       obtain ⟨ji16, hji16⟩ : ∃ j_ : Int, (wrap64 (a1 - x7_4)) = j_ := ⟨_, rfl⟩
       replace H : (if 0 ≤ (ji16) then (if (ji16) < (EX.size : Int) then (dX.j1 kj4 a1 x7_4 x8_4 x9_4 ((bt EX (ji16)) == 46) EU EW EX) else (none)) else (none)) = some r := by first | (rw [hji16] at H; exact H) | (simp only [hji16] at H ⊢; exact H)
       have hji16w : (IntKind.i64.wrap (a1 - x7_4)) = ji16 := (iV _).trans hji16
       replace H := ifN H; obtain ⟨c17b0, H⟩ := H
       replace H := ifN H; obtain ⟨c18b0, H⟩ := H
       have H' := ah.mk H
       clear H
       have p19 : (0 ≤ ((ji16) : Int)) = True := OT
       have q19 : ((ji16) < (EX.size : Int)) = True := OT
       have hx19 := gI EX (ji16)
       go_wp2
       repeat (go_quiet (fail); try go_wp2)
       go_meet
       case rel => exact ⟨_, (((bt EX (ji16)) == 46)), (by first | rfl | (simp; done) | (simp only [← hji16] <;> (first | rfl | simp)) | (simp [*]; done)), H', ⟨by have := HJ4.out; first | omega | exact Nat.le_refl _⟩, ⟨BK⟩, ⟨BL⟩⟩
      ·rw [if_neg c15] at H
       have c15b0 : decide (0 < x8_4) = false := decide_eq_false c15
       clear c15
       have H' := ah.mk H
       clear H
       go_wp2
       repeat (go_quiet (fail); try go_wp2)
       go_meet
       case rel => exact ⟨_, (false), EQ, H', ⟨by have := HJ4.out; first | omega | exact Nat.le_refl _⟩, ⟨BK⟩, ⟨BL⟩⟩
     ·have H' := ah.mk H
      clear H
      go_wp2
      repeat (go_quiet (fail); try go_wp2)
      go_meet
      case rel => exact ⟨_, (true), EQ, H', ⟨by have := HJ4.out; first | omega | exact Nat.le_refl _⟩, ⟨BK⟩, ⟨BL⟩⟩
    case rest =>
     clear HC10
     try clear c4
     try clear c4b0
     try clear c4b1
     try clear hcz9001_0
     try clear hcz9001_1
     try clear hcz9001_2
     try clear hfz9001_0
     try clear hfz9001_1
     try clear hfz9001_2
     obtain ⟨kq, x43_9, rfl, HA, HJ9, BK455, HB⟩ := hcut
     cases kq with
     | zero => exact absurd HA.out (by simp [dX.j1])
     | succ kj9 =>
      have H := HA.out
      clear HA
      simp only [dX.j1] at H
      replace H := ifB H; rcases H with ⟨rfl, H⟩ | ⟨rfl, H⟩
      ·obtain rfl := Option.some.inj H
       go_wp2
       repeat (go_quiet (fail); try go_wp2)
       go_ret
       exact ⟨EWW, BL⟩
      ·have H' := ah.mk H
       clear H
       go_wp2
       repeat (go_quiet (fail); try go_wp2)
       go_loopg [10] kj9 (fun kq v10 w' => ∃ (x10_3 : Int), v10 = .int .i64 x10_3 ∧ ah (dX.l0 kq a1 x7_4 x8_4 x9_4 x10_3 EU EW EX = some r) ∧ ah (kq ≤ kj9) ∧ ah (w'.heap[gb455]? = some (.cells #[.int .i64 EU, .int .i64 EW, .string EX] 32 (0, 0))) ∧ ah (Below w.heap.size w w'))
       case atStart => exact ⟨(0), EQ, H', ⟨Nat.le_refl _⟩, ⟨BK⟩, ⟨BL⟩⟩
       case round =>
        clear H'
        try clear c4
        try clear c4b0
        try clear c4b1
        try clear c23
        try clear hcz9001_0
        try clear hcz9001_1
        try clear hcz9001_2
        try clear hfz9001_0
        try clear hfz9001_1
        try clear hfz9001_2
        obtain ⟨x10_3, rfl, HA, HK3, BK455, HB⟩ := hrel
        cases gk with
        | zero => exact absurd HA.out (by simp [dX.l0])
        | succ k3 =>
         have H := HA.out
         clear HA
         simp only [dX.l0] at H
         replace H := ifD H; rcases H with ⟨c24b0, H⟩ | ⟨c24b0, H⟩
         ·obtain ⟨ji25, hji25⟩ : ∃ j_ : Int, (wrap64 (a1 + (wrap64 (x10_3 * x7_4)))) = j_ := ⟨_, rfl⟩
          replace H : (if 0 ≤ (ji25) then (if (ji25) < (EX.size : Int) then (if (bt EX (ji25)) = 46 then (dX.l0 k3 a1 x7_4 x8_4 x9_4 (wrap64 (x10_3 + 1)) EU EW EX) else (some x10_3)) else (none)) else (none)) = some r := by first | (rw [hji25] at H; exact H) | (simp only [hji25] at H ⊢; exact H)
          have hji25w : (IntKind.i64.wrap (a1 + (wrap64 (x10_3 * x7_4)))) = ji25 := (iV _).trans hji25
          replace H := ifN H; obtain ⟨c26b0, H⟩ := H
          replace H := ifN H; obtain ⟨c27b0, H⟩ := H
          obtain ⟨hcz9004_0, hcz9004_1, hcz9004_2, hfz9004_0, hfz9004_1, hfz9004_2⟩ := cz3 BK455.out
          have p28 : (0 ≤ ((ji25) : Int)) = True := OT
          have q28 : ((ji25) < (EX.size : Int)) = True := OT
          have hx28 := gI EX (ji25)
          replace H := ifE H; rcases H with ⟨c29b0, c29b1, H⟩ | ⟨c29, c29b0, c29b1, H⟩
          ·have H' := ah.mk H
           clear H
           go_wp2
           repeat (go_quiet (fail); try go_wp2)
           go_roundg k3
           case measure => have := HJ4.out; have := HJ9.out; have := HK3.out; omega
           case rel => exact ⟨(wrap64 (x10_3 + 1)), EQ, H', ⟨by have := HJ4.out; have := HJ9.out; have := HK3.out; omega⟩, ⟨BK⟩, ⟨BL⟩⟩
          ·obtain rfl := Option.some.inj H
           go_wp2
           repeat (go_quiet (fail); try go_wp2)
           go_ret
           exact ⟨by first | rfl | (simp [lN, lJ] <;> rfl) | (simp only [← hji25]; first | rfl | (simp [lN, lJ] <;> rfl)) | (simp [*, lN, lJ] <;> rfl), BL⟩
         ·obtain rfl := Option.some.inj H
          go_wp2
          repeat (go_quiet (fail); try go_wp2)
          go_ret
          exact ⟨EWW, BL⟩
end Go.Proofs.YtnfiedfaaaphoaaGreat.PFnExactPuzzleCode
