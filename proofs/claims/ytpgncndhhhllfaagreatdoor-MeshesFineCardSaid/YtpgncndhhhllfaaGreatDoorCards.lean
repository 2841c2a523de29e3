/-
  DERIVED. GIVEN WITH THE SEED: THE CARDS: each row of YtpgncndhhhllfaaGreatDoorRows.lean that lists a variable, with what it lists TIED to the program's text (the seventh form; the later family's looks); each row that meets fmt, with fmt's text TOLD by the authors' own Lean function (tested against real Go, not proved from fmt's source: count such statements apart). THE CARD IS WHAT COUNTS. Prove the row's statement (the work); the ties are given (YtpgncndhhhllfaaGreatDoorTie.lean); close each card by the builder's one call (the guide's Derived/Test/ToyasCard.lean, 'card_holds'). Laid BY PROGRAM, IN A SANDBOX (cutbox-door.mjs). By AI agents, Wed Nov 11 2026. No macro, syntax, notation, axiom, sorry.
-/
import Derived.Test.YtpgncndhhhllfaaGreatDoorRows
import GoSem.ClaimSeven
namespace Go.Proofs.YtpgncndhhhllfaaGreatDoor
namespace Rows

/-- THE TIED CARD OF 'gussetlaw25.MeshesCopy'. -/
def meshesCopyCard : Claim7 := { stood := { row := meshesCopyRow, standIns := [], harness := (true, "8799c38879a2b2333de4f9ed73dabc17f2b19adcdf6ffa598adaac61b797e868"), looks := false }, kinds := [], alts := [], laidByText := true, laidKinds := [.data, .data, .data], laidTests := true, laidLooks := .later }
def MeshesCopyCardSaid : Prop := Claim7.holds Tryz.pinned (.plain (OpenSpec.ofChange meshesCopySpec)) meshesCopyCard

/-- THE TIED CARD OF 'gussetlaw26.RimsMarks'. -/
def rimsMarksCard : Claim7 := { stood := { row := rimsMarksRow, standIns := [], harness := (true, "8799c38879a2b2333de4f9ed73dabc17f2b19adcdf6ffa598adaac61b797e868"), looks := false }, kinds := [], alts := [], laidByText := true, laidKinds := [.data, .data, .data], laidTests := true, laidLooks := .later }
def RimsMarksCardSaid : Prop := Claim7.holds Tryz.pinned (.plain (OpenSpec.ofChange rimsMarksSpec)) rimsMarksCard

/-- THE TIED CARD OF 'gussetlaw25.MeshesFine'. -/
def meshesFineCard : Claim7 := { stood := { row := meshesFineRow, standIns := [], harness := (true, "8799c38879a2b2333de4f9ed73dabc17f2b19adcdf6ffa598adaac61b797e868"), looks := false }, kinds := [], alts := [], laidByText := true, laidKinds := [.data, .data, .data], laidTests := true, laidLooks := .later }
def MeshesFineCardSaid : Prop := Claim7.holds Tryz.pinned (.plain (OpenSpec.ofChange meshesFineSpec)) meshesFineCard

/-- THE TIED CARD OF 'gussetlaw28.RefinesHalves'. -/
def refinesHalvesCard : Claim7 := { stood := { row := refinesHalvesRow, standIns := [], harness := (true, "8799c38879a2b2333de4f9ed73dabc17f2b19adcdf6ffa598adaac61b797e868"), looks := false }, kinds := [], alts := [], laidByText := true, laidKinds := [.data, .data, .data], laidTests := true, laidLooks := .later }
def RefinesHalvesCardSaid : Prop := Claim7.holds Tryz.pinned (.plain (OpenSpec.ofChange refinesHalvesSpec)) refinesHalvesCard

/-- THE SECOND FORM's CARD OF 'gussetlaw25.MeshesCopy'. -/
def meshesCopyUptoCard : Claim7 := { stood := { row := meshesCopyUptoRow, standIns := [], harness := (true, "8799c38879a2b2333de4f9ed73dabc17f2b19adcdf6ffa598adaac61b797e868"), looks := false }, kinds := [], alts := [], laidByText := true, laidKinds := [.data, .data, .data], laidTests := true, laidLooks := .later }
def MeshesCopyUptoCardSaid : Prop := Claim7.holds Tryz.pinned (.plain (OpenSpec.upto meshesCopySpec)) meshesCopyUptoCard

/-- THE SECOND FORM's CARD OF 'gussetlaw26.RimsMarks'. -/
def rimsMarksUptoCard : Claim7 := { stood := { row := rimsMarksUptoRow, standIns := [], harness := (true, "8799c38879a2b2333de4f9ed73dabc17f2b19adcdf6ffa598adaac61b797e868"), looks := false }, kinds := [], alts := [], laidByText := true, laidKinds := [.data, .data, .data], laidTests := true, laidLooks := .later }
def RimsMarksUptoCardSaid : Prop := Claim7.holds Tryz.pinned (.plain (OpenSpec.upto rimsMarksSpec)) rimsMarksUptoCard

/-- THE SECOND FORM's CARD OF 'gussetlaw25.MeshesFine'. -/
def meshesFineUptoCard : Claim7 := { stood := { row := meshesFineUptoRow, standIns := [], harness := (true, "8799c38879a2b2333de4f9ed73dabc17f2b19adcdf6ffa598adaac61b797e868"), looks := false }, kinds := [], alts := [], laidByText := true, laidKinds := [.data, .data, .data], laidTests := true, laidLooks := .later }
def MeshesFineUptoCardSaid : Prop := Claim7.holds Tryz.pinned (.plain (OpenSpec.upto meshesFineSpec)) meshesFineUptoCard

/-- THE SECOND FORM's CARD OF 'gussetlaw28.RefinesHalves'. -/
def refinesHalvesUptoCard : Claim7 := { stood := { row := refinesHalvesUptoRow, standIns := [], harness := (true, "8799c38879a2b2333de4f9ed73dabc17f2b19adcdf6ffa598adaac61b797e868"), looks := false }, kinds := [], alts := [], laidByText := true, laidKinds := [.data, .data, .data], laidTests := true, laidLooks := .later }
def RefinesHalvesUptoCardSaid : Prop := Claim7.holds Tryz.pinned (.plain (OpenSpec.upto refinesHalvesSpec)) refinesHalvesUptoCard
end Rows
end Go.Proofs.YtpgncndhhhllfaaGreatDoor
