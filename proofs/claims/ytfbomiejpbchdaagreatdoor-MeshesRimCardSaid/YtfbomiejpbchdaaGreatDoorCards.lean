/-
  DERIVED. GIVEN WITH THE SEED: THE CARDS: each row of YtfbomiejpbchdaaGreatDoorRows.lean that lists a variable, with what it lists TIED to the program's text (the seventh form; the later family's looks); each row that meets fmt, with fmt's text TOLD by the authors' own Lean function (tested against real Go, not proved from fmt's source: count such statements apart). THE CARD IS WHAT COUNTS. Prove the row's statement (the work); the ties are given (YtfbomiejpbchdaaGreatDoorTie.lean); close each card by the builder's one call (the guide's Derived/Test/ToyasCard.lean, 'card_holds'). Laid BY PROGRAM, IN A SANDBOX (cutbox-door.mjs). By AI agents, Wed Nov 11 2026. No macro, syntax, notation, axiom, sorry.
-/
import Derived.Test.YtfbomiejpbchdaaGreatDoorRows
import GoSem.ClaimSeven
namespace Go.Proofs.YtfbomiejpbchdaaGreatDoor
namespace Rows

/-- THE TIED CARD OF 'gussetlaw26.RimsMarks'. -/
def rimsMarksCard : Claim7 := { stood := { row := rimsMarksRow, standIns := [], harness := (true, "39c0fd36cada841b2c0019a5e501ad6b18d4804ee3b5b4ca5ca4d32c5077bab6"), looks := false }, kinds := [], alts := [], laidByText := true, laidKinds := [.data, .data, .data], laidTests := true, laidLooks := .later }
def RimsMarksCardSaid : Prop := Claim7.holds Tryz.pinned (.plain (OpenSpec.ofChange rimsMarksSpec)) rimsMarksCard

/-- THE TIED CARD OF 'gussetlaw25.MeshesRim'. -/
def meshesRimCard : Claim7 := { stood := { row := meshesRimRow, standIns := [], harness := (true, "39c0fd36cada841b2c0019a5e501ad6b18d4804ee3b5b4ca5ca4d32c5077bab6"), looks := false }, kinds := [], alts := [], laidByText := true, laidKinds := [.data, .data, .data], laidTests := true, laidLooks := .later }
def MeshesRimCardSaid : Prop := Claim7.holds Tryz.pinned (.plain (OpenSpec.ofChange meshesRimSpec)) meshesRimCard

/-- THE TIED CARD OF 'gussetlaw25.MeshesParts'. -/
def meshesPartsCard : Claim7 := { stood := { row := meshesPartsRow, standIns := [], harness := (true, "39c0fd36cada841b2c0019a5e501ad6b18d4804ee3b5b4ca5ca4d32c5077bab6"), looks := false }, kinds := [], alts := [], laidByText := true, laidKinds := [.data, .data, .data], laidTests := true, laidLooks := .later }
def MeshesPartsCardSaid : Prop := Claim7.holds Tryz.pinned (.plain (OpenSpec.ofChange meshesPartsSpec)) meshesPartsCard

/-- THE TIED CARD OF 'gussetlaw25.MeshesOrder'. -/
def meshesOrderCard : Claim7 := { stood := { row := meshesOrderRow, standIns := [], harness := (true, "39c0fd36cada841b2c0019a5e501ad6b18d4804ee3b5b4ca5ca4d32c5077bab6"), looks := false }, kinds := [], alts := [], laidByText := true, laidKinds := [.data, .data, .data], laidTests := true, laidLooks := .later }
def MeshesOrderCardSaid : Prop := Claim7.holds Tryz.pinned (.plain (OpenSpec.ofChange meshesOrderSpec)) meshesOrderCard

/-- THE SECOND FORM's CARD OF 'gussetlaw26.RimsMarks'. -/
def rimsMarksUptoCard : Claim7 := { stood := { row := rimsMarksUptoRow, standIns := [], harness := (true, "39c0fd36cada841b2c0019a5e501ad6b18d4804ee3b5b4ca5ca4d32c5077bab6"), looks := false }, kinds := [], alts := [], laidByText := true, laidKinds := [.data, .data, .data], laidTests := true, laidLooks := .later }
def RimsMarksUptoCardSaid : Prop := Claim7.holds Tryz.pinned (.plain (OpenSpec.upto rimsMarksSpec)) rimsMarksUptoCard

/-- THE SECOND FORM's CARD OF 'gussetlaw25.MeshesRim'. -/
def meshesRimUptoCard : Claim7 := { stood := { row := meshesRimUptoRow, standIns := [], harness := (true, "39c0fd36cada841b2c0019a5e501ad6b18d4804ee3b5b4ca5ca4d32c5077bab6"), looks := false }, kinds := [], alts := [], laidByText := true, laidKinds := [.data, .data, .data], laidTests := true, laidLooks := .later }
def MeshesRimUptoCardSaid : Prop := Claim7.holds Tryz.pinned (.plain (OpenSpec.upto meshesRimSpec)) meshesRimUptoCard

/-- THE SECOND FORM's CARD OF 'gussetlaw25.MeshesParts'. -/
def meshesPartsUptoCard : Claim7 := { stood := { row := meshesPartsUptoRow, standIns := [], harness := (true, "39c0fd36cada841b2c0019a5e501ad6b18d4804ee3b5b4ca5ca4d32c5077bab6"), looks := false }, kinds := [], alts := [], laidByText := true, laidKinds := [.data, .data, .data], laidTests := true, laidLooks := .later }
def MeshesPartsUptoCardSaid : Prop := Claim7.holds Tryz.pinned (.plain (OpenSpec.upto meshesPartsSpec)) meshesPartsUptoCard

/-- THE SECOND FORM's CARD OF 'gussetlaw25.MeshesOrder'. -/
def meshesOrderUptoCard : Claim7 := { stood := { row := meshesOrderUptoRow, standIns := [], harness := (true, "39c0fd36cada841b2c0019a5e501ad6b18d4804ee3b5b4ca5ca4d32c5077bab6"), looks := false }, kinds := [], alts := [], laidByText := true, laidKinds := [.data, .data, .data], laidTests := true, laidLooks := .later }
def MeshesOrderUptoCardSaid : Prop := Claim7.holds Tryz.pinned (.plain (OpenSpec.upto meshesOrderSpec)) meshesOrderUptoCard
end Rows
end Go.Proofs.YtfbomiejpbchdaaGreatDoor
