/-
  DERIVED. GIVEN WITH THE SEED: THE CARDS: each row of YtpkoldfmbebmgaaGreatDoorRows.lean that lists a variable, with what it lists TIED to the program's text (the seventh form; the later family's looks); each row that meets fmt, with fmt's text TOLD by the authors' own Lean function (tested against real Go, not proved from fmt's source: count such statements apart). THE CARD IS WHAT COUNTS. Prove the row's statement (the work); the ties are given (YtpkoldfmbebmgaaGreatDoorTie.lean); close each card by the builder's one call (the guide's Derived/Test/ToyasCard.lean, 'card_holds'). Laid BY PROGRAM, IN A SANDBOX (cutbox-door.mjs). By AI agents, Wed Nov 11 2026. No macro, syntax, notation, axiom, sorry.
-/
import Derived.Test.YtpkoldfmbebmgaaGreatDoorRows
import GoSem.ClaimSeven
namespace Go.Proofs.YtpkoldfmbebmgaaGreatDoor
namespace Rows

/-- THE TIED CARD OF 'gussetlaw24.TrisForm'. -/
def trisFormCard : Claim7 := { stood := { row := trisFormRow, standIns := [], harness := (true, "09e93f35c410aa75bbea33b75a0c863fa7469a83c2e5842ae794a227905991bc"), looks := false }, kinds := [], alts := [], laidByText := true, laidKinds := [.data, .data, .data], laidTests := true, laidLooks := .later }
def TrisFormCardSaid : Prop := Claim7.holds Tryz.pinned (.plain (OpenSpec.ofChange trisFormSpec)) trisFormCard

/-- THE TIED CARD OF 'gussetlaw24.TrisBary'. -/
def trisBaryCard : Claim7 := { stood := { row := trisBaryRow, standIns := [], harness := (true, "09e93f35c410aa75bbea33b75a0c863fa7469a83c2e5842ae794a227905991bc"), looks := false }, kinds := [], alts := [], laidByText := true, laidKinds := [.data, .data, .data], laidTests := true, laidLooks := .later }
def TrisBaryCardSaid : Prop := Claim7.holds Tryz.pinned (.plain (OpenSpec.ofChange trisBarySpec)) trisBaryCard

/-- THE TIED CARD OF 'gussetlaw24.TrisShape'. -/
def trisShapeCard : Claim7 := { stood := { row := trisShapeRow, standIns := [], harness := (true, "09e93f35c410aa75bbea33b75a0c863fa7469a83c2e5842ae794a227905991bc"), looks := false }, kinds := [], alts := [], laidByText := true, laidKinds := [.data, .data, .data], laidTests := true, laidLooks := .later }
def TrisShapeCardSaid : Prop := Claim7.holds Tryz.pinned (.plain (OpenSpec.ofChange trisShapeSpec)) trisShapeCard

/-- THE TIED CARD OF 'gussetlaw24.TrisAngles'. -/
def trisAnglesCard : Claim7 := { stood := { row := trisAnglesRow, standIns := [], harness := (true, "09e93f35c410aa75bbea33b75a0c863fa7469a83c2e5842ae794a227905991bc"), looks := false }, kinds := [], alts := [], laidByText := true, laidKinds := [.data, .data, .data], laidTests := true, laidLooks := .later }
def TrisAnglesCardSaid : Prop := Claim7.holds Tryz.pinned (.plain (OpenSpec.ofChange trisAnglesSpec)) trisAnglesCard

/-- THE TIED CARD OF 'gussetlaw24.TrisBack'. -/
def trisBackCard : Claim7 := { stood := { row := trisBackRow, standIns := [], harness := (true, "09e93f35c410aa75bbea33b75a0c863fa7469a83c2e5842ae794a227905991bc"), looks := false }, kinds := [], alts := [], laidByText := true, laidKinds := [.data, .data, .data], laidTests := true, laidLooks := .later }
def TrisBackCardSaid : Prop := Claim7.holds Tryz.pinned (.plain (OpenSpec.ofChange trisBackSpec)) trisBackCard

/-- THE TIED CARD OF 'gussetlaw24.TrisParts'. -/
def trisPartsCard : Claim7 := { stood := { row := trisPartsRow, standIns := [], harness := (true, "09e93f35c410aa75bbea33b75a0c863fa7469a83c2e5842ae794a227905991bc"), looks := false }, kinds := [], alts := [], laidByText := true, laidKinds := [.data, .data, .data], laidTests := true, laidLooks := .later }
def TrisPartsCardSaid : Prop := Claim7.holds Tryz.pinned (.plain (OpenSpec.ofChange trisPartsSpec)) trisPartsCard

/-- THE TIED CARD OF 'gussetlaw24.TrisCircle'. -/
def trisCircleCard : Claim7 := { stood := { row := trisCircleRow, standIns := [], harness := (true, "09e93f35c410aa75bbea33b75a0c863fa7469a83c2e5842ae794a227905991bc"), looks := false }, kinds := [], alts := [], laidByText := true, laidKinds := [.data, .data, .data], laidTests := true, laidLooks := .later }
def TrisCircleCardSaid : Prop := Claim7.holds Tryz.pinned (.plain (OpenSpec.ofChange trisCircleSpec)) trisCircleCard

/-- THE SECOND FORM's CARD OF 'gussetlaw24.TrisForm'. -/
def trisFormUptoCard : Claim7 := { stood := { row := trisFormUptoRow, standIns := [], harness := (true, "09e93f35c410aa75bbea33b75a0c863fa7469a83c2e5842ae794a227905991bc"), looks := false }, kinds := [], alts := [], laidByText := true, laidKinds := [.data, .data, .data], laidTests := true, laidLooks := .later }
def TrisFormUptoCardSaid : Prop := Claim7.holds Tryz.pinned (.plain (OpenSpec.upto trisFormSpec)) trisFormUptoCard

/-- THE SECOND FORM's CARD OF 'gussetlaw24.TrisBary'. -/
def trisBaryUptoCard : Claim7 := { stood := { row := trisBaryUptoRow, standIns := [], harness := (true, "09e93f35c410aa75bbea33b75a0c863fa7469a83c2e5842ae794a227905991bc"), looks := false }, kinds := [], alts := [], laidByText := true, laidKinds := [.data, .data, .data], laidTests := true, laidLooks := .later }
def TrisBaryUptoCardSaid : Prop := Claim7.holds Tryz.pinned (.plain (OpenSpec.upto trisBarySpec)) trisBaryUptoCard

/-- THE SECOND FORM's CARD OF 'gussetlaw24.TrisShape'. -/
def trisShapeUptoCard : Claim7 := { stood := { row := trisShapeUptoRow, standIns := [], harness := (true, "09e93f35c410aa75bbea33b75a0c863fa7469a83c2e5842ae794a227905991bc"), looks := false }, kinds := [], alts := [], laidByText := true, laidKinds := [.data, .data, .data], laidTests := true, laidLooks := .later }
def TrisShapeUptoCardSaid : Prop := Claim7.holds Tryz.pinned (.plain (OpenSpec.upto trisShapeSpec)) trisShapeUptoCard

/-- THE SECOND FORM's CARD OF 'gussetlaw24.TrisAngles'. -/
def trisAnglesUptoCard : Claim7 := { stood := { row := trisAnglesUptoRow, standIns := [], harness := (true, "09e93f35c410aa75bbea33b75a0c863fa7469a83c2e5842ae794a227905991bc"), looks := false }, kinds := [], alts := [], laidByText := true, laidKinds := [.data, .data, .data], laidTests := true, laidLooks := .later }
def TrisAnglesUptoCardSaid : Prop := Claim7.holds Tryz.pinned (.plain (OpenSpec.upto trisAnglesSpec)) trisAnglesUptoCard

/-- THE SECOND FORM's CARD OF 'gussetlaw24.TrisBack'. -/
def trisBackUptoCard : Claim7 := { stood := { row := trisBackUptoRow, standIns := [], harness := (true, "09e93f35c410aa75bbea33b75a0c863fa7469a83c2e5842ae794a227905991bc"), looks := false }, kinds := [], alts := [], laidByText := true, laidKinds := [.data, .data, .data], laidTests := true, laidLooks := .later }
def TrisBackUptoCardSaid : Prop := Claim7.holds Tryz.pinned (.plain (OpenSpec.upto trisBackSpec)) trisBackUptoCard

/-- THE SECOND FORM's CARD OF 'gussetlaw24.TrisParts'. -/
def trisPartsUptoCard : Claim7 := { stood := { row := trisPartsUptoRow, standIns := [], harness := (true, "09e93f35c410aa75bbea33b75a0c863fa7469a83c2e5842ae794a227905991bc"), looks := false }, kinds := [], alts := [], laidByText := true, laidKinds := [.data, .data, .data], laidTests := true, laidLooks := .later }
def TrisPartsUptoCardSaid : Prop := Claim7.holds Tryz.pinned (.plain (OpenSpec.upto trisPartsSpec)) trisPartsUptoCard

/-- THE SECOND FORM's CARD OF 'gussetlaw24.TrisCircle'. -/
def trisCircleUptoCard : Claim7 := { stood := { row := trisCircleUptoRow, standIns := [], harness := (true, "09e93f35c410aa75bbea33b75a0c863fa7469a83c2e5842ae794a227905991bc"), looks := false }, kinds := [], alts := [], laidByText := true, laidKinds := [.data, .data, .data], laidTests := true, laidLooks := .later }
def TrisCircleUptoCardSaid : Prop := Claim7.holds Tryz.pinned (.plain (OpenSpec.upto trisCircleSpec)) trisCircleUptoCard
end Rows
end Go.Proofs.YtpkoldfmbebmgaaGreatDoor
