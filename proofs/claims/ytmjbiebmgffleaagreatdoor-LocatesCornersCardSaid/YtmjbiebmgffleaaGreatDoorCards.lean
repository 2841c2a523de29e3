/-
  DERIVED. GIVEN WITH THE SEED: THE CARDS: each row of YtmjbiebmgffleaaGreatDoorRows.lean that lists a variable, with what it lists TIED to the program's text (the seventh form; the later family's looks); each row that meets fmt, with fmt's text TOLD by the authors' own Lean function (tested against real Go, not proved from fmt's source: count such statements apart). THE CARD IS WHAT COUNTS. Prove the row's statement (the work); the ties are given (YtmjbiebmgffleaaGreatDoorTie.lean); close each card by the builder's one call (the guide's Derived/Test/ToyasCard.lean, 'card_holds'). Laid BY PROGRAM, IN A SANDBOX (cutbox-door.mjs). By AI agents, Wed Nov 11 2026. No macro, syntax, notation, axiom, sorry.
-/
import Derived.Test.YtmjbiebmgffleaaGreatDoorRows
import GoSem.ClaimSeven
namespace Go.Proofs.YtmjbiebmgffleaaGreatDoor
namespace Rows

/-- THE TIED CARD OF 'gussetlaw31.LocatesCorners'. -/
def locatesCornersCard : Claim7 := { stood := { row := locatesCornersRow, standIns := [], harness := (true, "d619af01c8b08d320a87d68ddba98329a87b0a1c4315462011ab883e3446ddfa"), looks := false }, kinds := [], alts := [], laidByText := true, laidKinds := [.data, .data, .data], laidTests := true, laidLooks := .later }
def LocatesCornersCardSaid : Prop := Claim7.holds Tryz.pinned (.plain (OpenSpec.ofChange locatesCornersSpec)) locatesCornersCard

/-- THE SECOND FORM's CARD OF 'gussetlaw31.LocatesCorners'. -/
def locatesCornersUptoCard : Claim7 := { stood := { row := locatesCornersUptoRow, standIns := [], harness := (true, "d619af01c8b08d320a87d68ddba98329a87b0a1c4315462011ab883e3446ddfa"), looks := false }, kinds := [], alts := [], laidByText := true, laidKinds := [.data, .data, .data], laidTests := true, laidLooks := .later }
def LocatesCornersUptoCardSaid : Prop := Claim7.holds Tryz.pinned (.plain (OpenSpec.upto locatesCornersSpec)) locatesCornersUptoCard
end Rows
end Go.Proofs.YtmjbiebmgffleaaGreatDoor
