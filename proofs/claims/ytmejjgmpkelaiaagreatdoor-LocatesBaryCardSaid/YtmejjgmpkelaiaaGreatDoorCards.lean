/-
  DERIVED. GIVEN WITH THE SEED: THE CARDS: each row of YtmejjgmpkelaiaaGreatDoorRows.lean that lists a variable, with what it lists TIED to the program's text (the seventh form; the later family's looks); each row that meets fmt, with fmt's text TOLD by the authors' own Lean function (tested against real Go, not proved from fmt's source: count such statements apart). THE CARD IS WHAT COUNTS. Prove the row's statement (the work); the ties are given (YtmejjgmpkelaiaaGreatDoorTie.lean); close each card by the builder's one call (the guide's Derived/Test/ToyasCard.lean, 'card_holds'). Laid BY PROGRAM, IN A SANDBOX (cutbox-door.mjs). By AI agents, Wed Nov 11 2026. No macro, syntax, notation, axiom, sorry.
-/
import Derived.Test.YtmejjgmpkelaiaaGreatDoorRows
import GoSem.ClaimSeven
namespace Go.Proofs.YtmejjgmpkelaiaaGreatDoor
namespace Rows

/-- THE TIED CARD OF 'gussetlaw31.LocatesBary'. -/
def locatesBaryCard : Claim7 := { stood := { row := locatesBaryRow, standIns := [], harness := (true, "7dbfd1d4d4bcd22b91f59d86edad013173bf9a3437214a721852727c5d714815"), looks := false }, kinds := [], alts := [], laidByText := true, laidKinds := [.data, .data, .data], laidTests := true, laidLooks := .later }
def LocatesBaryCardSaid : Prop := Claim7.holds Tryz.pinned (.plain (OpenSpec.ofChange locatesBarySpec)) locatesBaryCard

/-- THE SECOND FORM's CARD OF 'gussetlaw31.LocatesBary'. -/
def locatesBaryUptoCard : Claim7 := { stood := { row := locatesBaryUptoRow, standIns := [], harness := (true, "7dbfd1d4d4bcd22b91f59d86edad013173bf9a3437214a721852727c5d714815"), looks := false }, kinds := [], alts := [], laidByText := true, laidKinds := [.data, .data, .data], laidTests := true, laidLooks := .later }
def LocatesBaryUptoCardSaid : Prop := Claim7.holds Tryz.pinned (.plain (OpenSpec.upto locatesBarySpec)) locatesBaryUptoCard
end Rows
end Go.Proofs.YtmejjgmpkelaiaaGreatDoor
