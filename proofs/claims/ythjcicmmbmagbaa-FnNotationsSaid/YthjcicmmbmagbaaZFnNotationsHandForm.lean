/- The closure of PartsOf: what a visit leaves in the row of cells that are met. Plain contracts. -/
import Derived.Test.YthjcicmmbmagbaaProg
import Derived.Sort.WalkA
import Derived.WalkKit
import Derived.BigGuard
import Derived.BigCall
import Derived.CellFam
import Derived.Deep.Draws
import Derived.Deep.QuietTactic
import Derived.BigQuiet
import Derived.Below
import Derived.StillTailTactics
import Derived.Lib.OwnBridge
import Derived.Test.YthjcicmmbmagbaaZFnNotationsW
namespace Go.Proofs.Ythjcicmmbmagbaa.HandForm
open Go.RowKit Go.Sort Go.Proofs Go.Proofs.YthjcicmmbmagbaaW.PrintWords Go.Proofs.YthjcicmmbmagbaaW.PrintLast Go.Proofs.YthjcicmmbmagbaaW.PrintMore
set_option linter.unusedVariables false
set_option linter.unusedSimpArgs false
structure St (R C : Int) (s : ByteArray) (gg gm gv b cap n : Nat) (W : World) (d : Array Bool) : Prop where
 c0 : W.cell? ⟨gg, 0, none⟩ = some (.int .i64 R)
 c1 : W.cell? ⟨gg, 1, none⟩ = some (.int .i64 C)
 c2 : W.cell? ⟨gg, 2, none⟩ = some (.string s)
 cm : W.cell? ⟨gm, 0, none⟩ = some (.slice (some ⟨b, 0, none⟩) n cap)
 cv : W.cell? ⟨gv, 0, none⟩ = some (.func (.func 199) #[] #[.pointer (some ⟨gg, 0, none⟩), .pointer (some ⟨gm, 0, none⟩), .pointer (some ⟨gv, 0, none⟩)])
 hd : d.size = n
 hg : gg ≠ b
 hm : gm ≠ b
 hv : gv ≠ b
 hH : Holds Value.bool W b 0 d
theorem St.next {R C : Int} {s : ByteArray} {gg gm gv b cap n : Nat} {W : World} {d : Array Bool} (h : St R C s gg gm gv b cap n W d) (d' : Array Bool) (hd : d'.size = d.size) : St R C s gg gm gv b cap n (putRow Value.bool W b 0 d') d' where
 c0 := (cell?_putRow_other _ _ _ _ _ _ (.inl h.hg)).trans h.c0
 c1 := (cell?_putRow_other _ _ _ _ _ _ (.inl h.hg)).trans h.c1
 c2 := (cell?_putRow_other _ _ _ _ _ _ (.inl h.hg)).trans h.c2
 cm := (cell?_putRow_other _ _ _ _ _ _ (.inl h.hm)).trans h.cm
 cv := (cell?_putRow_other _ _ _ _ _ _ (.inl h.hv)).trans h.cv
 hd := hd.trans h.hd
 hg := h.hg
 hm := h.hm
 hv := h.hv
 hH := holds_putRow _ _ _ _ d d' h.hH hd
theorem vP (P : Program) (fn : Fn) (first cap : Array Value) (w : World) : (Instr.makeFunc fn first cap).run P w = .ok (.func fn first cap) w := rfl
attribute [local go_sem] vP
end Go.Proofs.Ythjcicmmbmagbaa.HandForm
