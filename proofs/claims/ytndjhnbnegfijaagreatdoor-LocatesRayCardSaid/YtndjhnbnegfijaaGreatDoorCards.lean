/-
  DERIVED. GIVEN WITH THE SEED: THE CARDS: each row of YtndjhnbnegfijaaGreatDoorRows.lean that lists a variable, with what it lists TIED to the program's text (the seventh form; the later family's looks); each row that meets fmt, with fmt's text TOLD by the authors' own Lean function (tested against real Go, not proved from fmt's source: count such statements apart). THE CARD IS WHAT COUNTS. Prove the row's statement (the work); the ties are given (YtndjhnbnegfijaaGreatDoorTie.lean); close each card by the builder's one call (the guide's Derived/Test/ToyasCard.lean, 'card_holds'). Laid BY PROGRAM, IN A SANDBOX (cutbox-door.mjs). By AI agents, Wed Nov 11 2026. No macro, syntax, notation, axiom, sorry.
-/
import Derived.Test.YtndjhnbnegfijaaGreatDoorRows
import GoSem.ClaimSeven
namespace Go.Proofs.YtndjhnbnegfijaaGreatDoor
namespace Rows

/-- THE TIED CARD OF 'gussetlaw31.LocatesRay'. -/
def locatesRayCard : Claim7 := { stood := { row := locatesRayRow, standIns := [], harness := (true, "ebbad7d7fcbb4340513e74e2e48bcb401b6c187dd7f5185e82b1a8d851268279"), looks := false }, kinds := [], alts := [], laidByText := true, laidKinds := [.data, .data, .data], laidTests := true, laidLooks := .later }
def LocatesRayCardSaid : Prop := Claim7.holds Tryz.pinned (.plain (OpenSpec.ofChange locatesRaySpec)) locatesRayCard

/-- THE SECOND FORM's CARD OF 'gussetlaw31.LocatesRay'. -/
def locatesRayUptoCard : Claim7 := { stood := { row := locatesRayUptoRow, standIns := [], harness := (true, "ebbad7d7fcbb4340513e74e2e48bcb401b6c187dd7f5185e82b1a8d851268279"), looks := false }, kinds := [], alts := [], laidByText := true, laidKinds := [.data, .data, .data], laidTests := true, laidLooks := .later }
def LocatesRayUptoCardSaid : Prop := Claim7.holds Tryz.pinned (.plain (OpenSpec.upto locatesRaySpec)) locatesRayUptoCard
end Rows
end Go.Proofs.YtndjhnbnegfijaaGreatDoor
