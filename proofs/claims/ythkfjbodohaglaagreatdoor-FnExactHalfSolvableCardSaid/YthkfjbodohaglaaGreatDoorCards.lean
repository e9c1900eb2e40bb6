/-
  DERIVED. GIVEN WITH THE SEED: THE CARDS: each row of YthkfjbodohaglaaGreatDoorRows.lean that lists a variable, with what it lists TIED to the program's text (the seventh form; the later family's looks); each row that meets fmt, with fmt's text TOLD by the authors' own Lean function (tested against real Go, not proved from fmt's source: count such statements apart). THE CARD IS WHAT COUNTS. Prove the row's statement (the work); the ties are given (YthkfjbodohaglaaGreatDoorTie.lean); close each card by the builder's one call (the guide's Derived/Test/ToyasCard.lean, 'card_holds'). Laid BY PROGRAM, IN A SANDBOX (cutbox-door.mjs). By AI agents, Wed Nov 11 2026. No macro, syntax, notation, axiom, sorry.
-/
import Derived.Test.YthkfjbodohaglaaGreatDoorRows
import GoSem.ClaimSeven
namespace Go.Proofs.YthkfjbodohaglaaGreatDoor
namespace Rows

/-- THE TIED CARD OF 'laws.FnExactGradeOf'. -/
def fnExactGradeOfCard : Claim7 := { stood := { row := fnExactGradeOfRow, standIns := [], harness := (true, "305034b9ae9204033ffbe97a626b4725e467eaaa1f1f1536ddf9303150913475"), looks := false }, kinds := [], alts := [], laidByText := true, laidKinds := [.data, .pinned], laidTests := true, laidLooks := .later }
def FnExactGradeOfCardSaid : Prop := Claim7.holds Tryz.pinned (.plain (OpenSpec.ofChange fnExactGradeOfSpec)) fnExactGradeOfCard

/-- THE TIED CARD OF 'laws.FnExactHalfSolvable'. -/
def fnExactHalfSolvableCard : Claim7 := { stood := { row := fnExactHalfSolvableRow, standIns := [], harness := (true, "305034b9ae9204033ffbe97a626b4725e467eaaa1f1f1536ddf9303150913475"), looks := false }, kinds := [], alts := [], laidByText := true, laidKinds := [.data, .pinned], laidTests := true, laidLooks := .later }
def FnExactHalfSolvableCardSaid : Prop := Claim7.holds Tryz.pinned (.plain (OpenSpec.ofChange fnExactHalfSolvableSpec)) fnExactHalfSolvableCard

/-- THE TIED CARD OF 'laws.FnExactRoundsNeeded'. -/
def fnExactRoundsNeededCard : Claim7 := { stood := { row := fnExactRoundsNeededRow, standIns := [], harness := (true, "305034b9ae9204033ffbe97a626b4725e467eaaa1f1f1536ddf9303150913475"), looks := false }, kinds := [], alts := [], laidByText := true, laidKinds := [.data, .pinned], laidTests := true, laidLooks := .later }
def FnExactRoundsNeededCardSaid : Prop := Claim7.holds Tryz.pinned (.plain (OpenSpec.ofChange fnExactRoundsNeededSpec)) fnExactRoundsNeededCard

/-- THE SECOND FORM's CARD OF 'laws.FnExactGradeOf'. -/
def fnExactGradeOfUptoCard : Claim7 := { stood := { row := fnExactGradeOfUptoRow, standIns := [], harness := (true, "305034b9ae9204033ffbe97a626b4725e467eaaa1f1f1536ddf9303150913475"), looks := false }, kinds := [], alts := [], laidByText := true, laidKinds := [.data, .pinned], laidTests := true, laidLooks := .later }
def FnExactGradeOfUptoCardSaid : Prop := Claim7.holds Tryz.pinned (.plain (OpenSpec.upto fnExactGradeOfSpec)) fnExactGradeOfUptoCard

/-- THE SECOND FORM's CARD OF 'laws.FnExactHalfSolvable'. -/
def fnExactHalfSolvableUptoCard : Claim7 := { stood := { row := fnExactHalfSolvableUptoRow, standIns := [], harness := (true, "305034b9ae9204033ffbe97a626b4725e467eaaa1f1f1536ddf9303150913475"), looks := false }, kinds := [], alts := [], laidByText := true, laidKinds := [.data, .pinned], laidTests := true, laidLooks := .later }
def FnExactHalfSolvableUptoCardSaid : Prop := Claim7.holds Tryz.pinned (.plain (OpenSpec.upto fnExactHalfSolvableSpec)) fnExactHalfSolvableUptoCard

/-- THE SECOND FORM's CARD OF 'laws.FnExactRoundsNeeded'. -/
def fnExactRoundsNeededUptoCard : Claim7 := { stood := { row := fnExactRoundsNeededUptoRow, standIns := [], harness := (true, "305034b9ae9204033ffbe97a626b4725e467eaaa1f1f1536ddf9303150913475"), looks := false }, kinds := [], alts := [], laidByText := true, laidKinds := [.data, .pinned], laidTests := true, laidLooks := .later }
def FnExactRoundsNeededUptoCardSaid : Prop := Claim7.holds Tryz.pinned (.plain (OpenSpec.upto fnExactRoundsNeededSpec)) fnExactRoundsNeededUptoCard
end Rows
end Go.Proofs.YthkfjbodohaglaaGreatDoor
