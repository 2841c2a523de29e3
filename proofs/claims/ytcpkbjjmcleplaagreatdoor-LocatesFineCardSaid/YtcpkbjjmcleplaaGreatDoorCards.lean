/-
  DERIVED. GIVEN WITH THE SEED: THE CARDS: each row of YtcpkbjjmcleplaaGreatDoorRows.lean that lists a variable, with what it lists TIED to the program's text (the seventh form; the later family's looks); each row that meets fmt, with fmt's text TOLD by the authors' own Lean function (tested against real Go, not proved from fmt's source: count such statements apart). THE CARD IS WHAT COUNTS. Prove the row's statement (the work); the ties are given (YtcpkbjjmcleplaaGreatDoorTie.lean); close each card by the builder's one call (the guide's Derived/Test/ToyasCard.lean, 'card_holds'). Laid BY PROGRAM, IN A SANDBOX (cutbox-door.mjs). By AI agents, Wed Nov 11 2026. No macro, syntax, notation, axiom, sorry.
-/
import Derived.Test.YtcpkbjjmcleplaaGreatDoorRows
import GoSem.ClaimSeven
namespace Go.Proofs.YtcpkbjjmcleplaaGreatDoor
namespace Rows

/-- THE TIED CARD OF 'gussetlaw31.LocatesAny'. -/
def locatesAnyCard : Claim7 := { stood := { row := locatesAnyRow, standIns := [], harness := (true, "f9ec742c97081c703e4e88bf3d12285226f8e8a0cc3cfaf9253c9ddf344d3087"), looks := false }, kinds := [], alts := [], laidByText := true, laidKinds := [.data, .data, .data], laidTests := true, laidLooks := .later }
def LocatesAnyCardSaid : Prop := Claim7.holds Tryz.pinned (.plain (OpenSpec.ofChange locatesAnySpec)) locatesAnyCard

/-- THE TIED CARD OF 'gussetlaw31.LocatesFine'. -/
def locatesFineCard : Claim7 := { stood := { row := locatesFineRow, standIns := [], harness := (true, "f9ec742c97081c703e4e88bf3d12285226f8e8a0cc3cfaf9253c9ddf344d3087"), looks := false }, kinds := [], alts := [], laidByText := true, laidKinds := [.data, .data, .data], laidTests := true, laidLooks := .later }
def LocatesFineCardSaid : Prop := Claim7.holds Tryz.pinned (.plain (OpenSpec.ofChange locatesFineSpec)) locatesFineCard

/-- THE SECOND FORM's CARD OF 'gussetlaw31.LocatesAny'. -/
def locatesAnyUptoCard : Claim7 := { stood := { row := locatesAnyUptoRow, standIns := [], harness := (true, "f9ec742c97081c703e4e88bf3d12285226f8e8a0cc3cfaf9253c9ddf344d3087"), looks := false }, kinds := [], alts := [], laidByText := true, laidKinds := [.data, .data, .data], laidTests := true, laidLooks := .later }
def LocatesAnyUptoCardSaid : Prop := Claim7.holds Tryz.pinned (.plain (OpenSpec.upto locatesAnySpec)) locatesAnyUptoCard

/-- THE SECOND FORM's CARD OF 'gussetlaw31.LocatesFine'. -/
def locatesFineUptoCard : Claim7 := { stood := { row := locatesFineUptoRow, standIns := [], harness := (true, "f9ec742c97081c703e4e88bf3d12285226f8e8a0cc3cfaf9253c9ddf344d3087"), looks := false }, kinds := [], alts := [], laidByText := true, laidKinds := [.data, .data, .data], laidTests := true, laidLooks := .later }
def LocatesFineUptoCardSaid : Prop := Claim7.holds Tryz.pinned (.plain (OpenSpec.upto locatesFineSpec)) locatesFineUptoCard
end Rows
end Go.Proofs.YtcpkbjjmcleplaaGreatDoor
