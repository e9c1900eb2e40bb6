/-
  DERIVED. GIVEN WITH THE SEED: THE CARDS: each row of YtdbefmkcondbgaaGreatDoorRows.lean that lists a variable, with what it lists TIED to the program's text (the seventh form; the later family's looks); each row that meets fmt, with fmt's text TOLD by the authors' own Lean function (tested against real Go, not proved from fmt's source: count such statements apart). THE CARD IS WHAT COUNTS. Prove the row's statement (the work); the ties are given (YtdbefmkcondbgaaGreatDoorTie.lean); close each card by the builder's one call (the guide's Derived/Test/ToyasCard.lean, 'card_holds'). Laid BY PROGRAM, IN A SANDBOX (cutbox-door.mjs). By AI agents, Wed Nov 11 2026. No macro, syntax, notation, axiom, sorry.
-/
import Derived.Test.YtdbefmkcondbgaaGreatDoorRows
import GoSem.ClaimSeven
namespace Go.Proofs.YtdbefmkcondbgaaGreatDoor
namespace Rows

/-- THE TIED CARD OF 'laws.FnExactHasOneSolution'. -/
def fnExactHasOneSolutionCard : Claim7 := { stood := { row := fnExactHasOneSolutionRow, standIns := [], harness := (true, "5b18802742fbab83e0b68c14476b744b9a8c27f15ea0412aa0d17e0404884a67"), looks := false }, kinds := [], alts := [], laidByText := true, laidKinds := [.data, .pinned], laidTests := true, laidLooks := .later }
def FnExactHasOneSolutionCardSaid : Prop := Claim7.holds Tryz.pinned (.plain (OpenSpec.ofChange fnExactHasOneSolutionSpec)) fnExactHasOneSolutionCard

/-- THE SECOND FORM's CARD OF 'laws.FnExactHasOneSolution'. -/
def fnExactHasOneSolutionUptoCard : Claim7 := { stood := { row := fnExactHasOneSolutionUptoRow, standIns := [], harness := (true, "5b18802742fbab83e0b68c14476b744b9a8c27f15ea0412aa0d17e0404884a67"), looks := false }, kinds := [], alts := [], laidByText := true, laidKinds := [.data, .pinned], laidTests := true, laidLooks := .later }
def FnExactHasOneSolutionUptoCardSaid : Prop := Claim7.holds Tryz.pinned (.plain (OpenSpec.upto fnExactHasOneSolutionSpec)) fnExactHasOneSolutionUptoCard
end Rows
end Go.Proofs.YtdbefmkcondbgaaGreatDoor
