/-
  DERIVED. GIVEN WITH THE SEED: THE CARDS: each row of YthjcicmmbmagbaaGreatDoorRows.lean that lists a variable, with what it lists TIED to the program's text (the seventh form; the later family's looks); each row that meets fmt, with fmt's text TOLD by the authors' own Lean function (tested against real Go, not proved from fmt's source: count such statements apart). THE CARD IS WHAT COUNTS. Prove the row's statement (the work); the ties are given (YthjcicmmbmagbaaGreatDoorTie.lean); close each card by the builder's one call (the guide's Derived/Test/ToyasCard.lean, 'card_holds'). Laid BY PROGRAM, IN A SANDBOX (cutbox-door.mjs). By AI agents, Wed Nov 11 2026. No macro, syntax, notation, axiom, sorry.
-/
import Derived.Test.YthjcicmmbmagbaaGreatDoorRows
import GoSem.ClaimSeven
namespace Go.Proofs.YthjcicmmbmagbaaGreatDoor
namespace Rows

/-- THE TIED CARD OF 'laws.FnClues'. -/
def fnCluesCard : Claim7 := { stood := { row := fnCluesRow, standIns := [], harness := (true, "3f59b3d0ccf7eb2dab76b41f3bab6b734320714f7497f06d249f24c8e4a8543c"), looks := false }, kinds := [], alts := [], laidByText := true, laidKinds := [.data, .data, .data], laidTests := true, laidLooks := .later }
def FnCluesCardSaid : Prop := Claim7.holds Tryz.pinned (.plain (OpenSpec.ofChange fnCluesSpec)) fnCluesCard

/-- THE SECOND FORM's CARD OF 'laws.FnClues'. -/
def fnCluesUptoCard : Claim7 := { stood := { row := fnCluesUptoRow, standIns := [], harness := (true, "3f59b3d0ccf7eb2dab76b41f3bab6b734320714f7497f06d249f24c8e4a8543c"), looks := false }, kinds := [], alts := [], laidByText := true, laidKinds := [.data, .data, .data], laidTests := true, laidLooks := .later }
def FnCluesUptoCardSaid : Prop := Claim7.holds Tryz.pinned (.plain (OpenSpec.upto fnCluesSpec)) fnCluesUptoCard
end Rows
end Go.Proofs.YthjcicmmbmagbaaGreatDoor
