/-
  DERIVED. GIVEN WITH THE SEED: THE CARDS: each row of YtddacmgigolcbaaDoorRows.lean that lists a variable, with what it lists TIED to the program's text (the seventh form; the later family's looks); each row that meets fmt, with fmt's text TOLD by the authors' own Lean function (tested against real Go, not proved from fmt's source: count such statements apart). THE CARD IS WHAT COUNTS. Prove the row's statement (the work); the ties are given (YtddacmgigolcbaaDoorTie.lean); close each card by the builder's one call (the guide's Derived/Test/ToyasCard.lean, 'card_holds'). Laid BY PROGRAM, IN A SANDBOX (cutbox-door.mjs). By AI agents, Wed Nov 11 2026. No macro, syntax, notation, axiom, sorry.
-/
import Derived.Test.YtddacmgigolcbaaDoorRows
import GoSem.ClaimSeven
namespace Go.Proofs.YtddacmgigolcbaaDoor
namespace Rows

/-- THE TIED CARD OF 'laws.FnExactClueText'. -/
def fnExactClueTextCard : Claim7 := { stood := { row := fnExactClueTextRow, standIns := [], harness := (true, "27e2dda1e477cf7109344ccbc528364ab26afe4f4280f2a837b392d4b25f783d"), looks := false }, kinds := [], alts := [], laidByText := true, laidKinds := [.data, .data, .data], laidTests := true, laidLooks := .later }
def FnExactClueTextCardSaid : Prop := Claim7.holds Tryd.pinned (.plain (OpenSpec.ofChange fnExactClueTextSpec)) fnExactClueTextCard

/-- THE TIED CARD OF 'laws.FnExactHintFor'. -/
def fnExactHintForCard : Claim7 := { stood := { row := fnExactHintForRow, standIns := [], harness := (true, "27e2dda1e477cf7109344ccbc528364ab26afe4f4280f2a837b392d4b25f783d"), looks := false }, kinds := [], alts := [], laidByText := true, laidKinds := [.data, .data, .data], laidTests := true, laidLooks := .later }
def FnExactHintForCardSaid : Prop := Claim7.holds Tryd.pinned (.plain (OpenSpec.ofChange fnExactHintForSpec)) fnExactHintForCard

/-- THE TIED CARD OF 'laws.FnExactFitsHint'. -/
def fnExactFitsHintCard : Claim7 := { stood := { row := fnExactFitsHintRow, standIns := [], harness := (true, "27e2dda1e477cf7109344ccbc528364ab26afe4f4280f2a837b392d4b25f783d"), looks := false }, kinds := [], alts := [], laidByText := true, laidKinds := [.data, .data, .data], laidTests := true, laidLooks := .later }
def FnExactFitsHintCardSaid : Prop := Claim7.holds Tryd.pinned (.plain (OpenSpec.ofChange fnExactFitsHintSpec)) fnExactFitsHintCard

/-- THE SECOND FORM's CARD OF 'laws.FnExactClueText'. -/
def fnExactClueTextUptoCard : Claim7 := { stood := { row := fnExactClueTextUptoRow, standIns := [], harness := (true, "27e2dda1e477cf7109344ccbc528364ab26afe4f4280f2a837b392d4b25f783d"), looks := false }, kinds := [], alts := [], laidByText := true, laidKinds := [.data, .data, .data], laidTests := true, laidLooks := .later }
def FnExactClueTextUptoCardSaid : Prop := Claim7.holds Tryd.pinned (.plain (OpenSpec.upto fnExactClueTextSpec)) fnExactClueTextUptoCard

/-- THE SECOND FORM's CARD OF 'laws.FnExactHintFor'. -/
def fnExactHintForUptoCard : Claim7 := { stood := { row := fnExactHintForUptoRow, standIns := [], harness := (true, "27e2dda1e477cf7109344ccbc528364ab26afe4f4280f2a837b392d4b25f783d"), looks := false }, kinds := [], alts := [], laidByText := true, laidKinds := [.data, .data, .data], laidTests := true, laidLooks := .later }
def FnExactHintForUptoCardSaid : Prop := Claim7.holds Tryd.pinned (.plain (OpenSpec.upto fnExactHintForSpec)) fnExactHintForUptoCard

/-- THE SECOND FORM's CARD OF 'laws.FnExactFitsHint'. -/
def fnExactFitsHintUptoCard : Claim7 := { stood := { row := fnExactFitsHintUptoRow, standIns := [], harness := (true, "27e2dda1e477cf7109344ccbc528364ab26afe4f4280f2a837b392d4b25f783d"), looks := false }, kinds := [], alts := [], laidByText := true, laidKinds := [.data, .data, .data], laidTests := true, laidLooks := .later }
def FnExactFitsHintUptoCardSaid : Prop := Claim7.holds Tryd.pinned (.plain (OpenSpec.upto fnExactFitsHintSpec)) fnExactFitsHintUptoCard
end Rows
end Go.Proofs.YtddacmgigolcbaaDoor
