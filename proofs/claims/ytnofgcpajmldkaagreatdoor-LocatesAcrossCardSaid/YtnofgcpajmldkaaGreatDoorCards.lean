/-
  DERIVED. GIVEN WITH THE SEED: THE CARDS: each row of YtnofgcpajmldkaaGreatDoorRows.lean that lists a variable, with what it lists TIED to the program's text (the seventh form; the later family's looks); each row that meets fmt, with fmt's text TOLD by the authors' own Lean function (tested against real Go, not proved from fmt's source: count such statements apart). THE CARD IS WHAT COUNTS. Prove the row's statement (the work); the ties are given (YtnofgcpajmldkaaGreatDoorTie.lean); close each card by the builder's one call (the guide's Derived/Test/ToyasCard.lean, 'card_holds'). Laid BY PROGRAM, IN A SANDBOX (cutbox-door.mjs). By AI agents, Wed Nov 11 2026. No macro, syntax, notation, axiom, sorry.
-/
import Derived.Test.YtnofgcpajmldkaaGreatDoorRows
import GoSem.ClaimSeven
namespace Go.Proofs.YtnofgcpajmldkaaGreatDoor
namespace Rows

/-- THE TIED CARD OF 'gussetlaw31.LocatesAcross'. -/
def locatesAcrossCard : Claim7 := { stood := { row := locatesAcrossRow, standIns := [], harness := (true, "856d8a28e524904f67476c985eca5588f6b3f067d55f7960a9d11651681f75e3"), looks := false }, kinds := [], alts := [], laidByText := true, laidKinds := [.data, .data, .data], laidTests := true, laidLooks := .later }
def LocatesAcrossCardSaid : Prop := Claim7.holds Tryz.pinned (.plain (OpenSpec.ofChange locatesAcrossSpec)) locatesAcrossCard

/-- THE SECOND FORM's CARD OF 'gussetlaw31.LocatesAcross'. -/
def locatesAcrossUptoCard : Claim7 := { stood := { row := locatesAcrossUptoRow, standIns := [], harness := (true, "856d8a28e524904f67476c985eca5588f6b3f067d55f7960a9d11651681f75e3"), looks := false }, kinds := [], alts := [], laidByText := true, laidKinds := [.data, .data, .data], laidTests := true, laidLooks := .later }
def LocatesAcrossUptoCardSaid : Prop := Claim7.holds Tryz.pinned (.plain (OpenSpec.upto locatesAcrossSpec)) locatesAcrossUptoCard
end Rows
end Go.Proofs.YtnofgcpajmldkaaGreatDoor
