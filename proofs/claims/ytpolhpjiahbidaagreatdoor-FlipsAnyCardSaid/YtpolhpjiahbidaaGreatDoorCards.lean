/-
  DERIVED. GIVEN WITH THE SEED: THE CARDS: each row of YtpolhpjiahbidaaGreatDoorRows.lean that lists a variable, with what it lists TIED to the program's text (the seventh form; the later family's looks); each row that meets fmt, with fmt's text TOLD by the authors' own Lean function (tested against real Go, not proved from fmt's source: count such statements apart). THE CARD IS WHAT COUNTS. Prove the row's statement (the work); the ties are given (YtpolhpjiahbidaaGreatDoorTie.lean); close each card by the builder's one call (the guide's Derived/Test/ToyasCard.lean, 'card_holds'). Laid BY PROGRAM, IN A SANDBOX (cutbox-door.mjs). By AI agents, Wed Nov 11 2026. No macro, syntax, notation, axiom, sorry.
-/
import Derived.Test.YtpolhpjiahbidaaGreatDoorRows
import GoSem.ClaimSeven
namespace Go.Proofs.YtpolhpjiahbidaaGreatDoor
namespace Rows

/-- THE TIED CARD OF 'gussetlaw28.RefinesAny'. -/
def refinesAnyCard : Claim7 := { stood := { row := refinesAnyRow, standIns := [], harness := (true, "9e2e171b6d1508143875a2685b0c6ff97cac235516d009f61498b9b3ddccd61b"), looks := false }, kinds := [], alts := [], laidByText := true, laidKinds := [.data, .data, .data], laidTests := true, laidLooks := .later }
def RefinesAnyCardSaid : Prop := Claim7.holds Tryz.pinned (.plain (OpenSpec.ofChange refinesAnySpec)) refinesAnyCard

/-- THE TIED CARD OF 'gussetlaw28.RefinesHalves'. -/
def refinesHalvesCard : Claim7 := { stood := { row := refinesHalvesRow, standIns := [], harness := (true, "9e2e171b6d1508143875a2685b0c6ff97cac235516d009f61498b9b3ddccd61b"), looks := false }, kinds := [], alts := [], laidByText := true, laidKinds := [.data, .data, .data], laidTests := true, laidLooks := .later }
def RefinesHalvesCardSaid : Prop := Claim7.holds Tryz.pinned (.plain (OpenSpec.ofChange refinesHalvesSpec)) refinesHalvesCard

/-- THE TIED CARD OF 'gussetlaw29.BisectsAny'. -/
def bisectsAnyCard : Claim7 := { stood := { row := bisectsAnyRow, standIns := [], harness := (true, "9e2e171b6d1508143875a2685b0c6ff97cac235516d009f61498b9b3ddccd61b"), looks := false }, kinds := [], alts := [], laidByText := true, laidKinds := [.data, .data, .data], laidTests := true, laidLooks := .later }
def BisectsAnyCardSaid : Prop := Claim7.holds Tryz.pinned (.plain (OpenSpec.ofChange bisectsAnySpec)) bisectsAnyCard

/-- THE TIED CARD OF 'gussetlaw30.FlipsAny'. -/
def flipsAnyCard : Claim7 := { stood := { row := flipsAnyRow, standIns := [], harness := (true, "9e2e171b6d1508143875a2685b0c6ff97cac235516d009f61498b9b3ddccd61b"), looks := false }, kinds := [], alts := [], laidByText := true, laidKinds := [.data, .data, .data], laidTests := true, laidLooks := .later }
def FlipsAnyCardSaid : Prop := Claim7.holds Tryz.pinned (.plain (OpenSpec.ofChange flipsAnySpec)) flipsAnyCard

/-- THE TIED CARD OF 'gussetlaw30.FlipsTurned'. -/
def flipsTurnedCard : Claim7 := { stood := { row := flipsTurnedRow, standIns := [], harness := (true, "9e2e171b6d1508143875a2685b0c6ff97cac235516d009f61498b9b3ddccd61b"), looks := false }, kinds := [], alts := [], laidByText := true, laidKinds := [.data, .data, .data], laidTests := true, laidLooks := .later }
def FlipsTurnedCardSaid : Prop := Claim7.holds Tryz.pinned (.plain (OpenSpec.ofChange flipsTurnedSpec)) flipsTurnedCard

/-- THE SECOND FORM's CARD OF 'gussetlaw28.RefinesAny'. -/
def refinesAnyUptoCard : Claim7 := { stood := { row := refinesAnyUptoRow, standIns := [], harness := (true, "9e2e171b6d1508143875a2685b0c6ff97cac235516d009f61498b9b3ddccd61b"), looks := false }, kinds := [], alts := [], laidByText := true, laidKinds := [.data, .data, .data], laidTests := true, laidLooks := .later }
def RefinesAnyUptoCardSaid : Prop := Claim7.holds Tryz.pinned (.plain (OpenSpec.upto refinesAnySpec)) refinesAnyUptoCard

/-- THE SECOND FORM's CARD OF 'gussetlaw28.RefinesHalves'. -/
def refinesHalvesUptoCard : Claim7 := { stood := { row := refinesHalvesUptoRow, standIns := [], harness := (true, "9e2e171b6d1508143875a2685b0c6ff97cac235516d009f61498b9b3ddccd61b"), looks := false }, kinds := [], alts := [], laidByText := true, laidKinds := [.data, .data, .data], laidTests := true, laidLooks := .later }
def RefinesHalvesUptoCardSaid : Prop := Claim7.holds Tryz.pinned (.plain (OpenSpec.upto refinesHalvesSpec)) refinesHalvesUptoCard

/-- THE SECOND FORM's CARD OF 'gussetlaw29.BisectsAny'. -/
def bisectsAnyUptoCard : Claim7 := { stood := { row := bisectsAnyUptoRow, standIns := [], harness := (true, "9e2e171b6d1508143875a2685b0c6ff97cac235516d009f61498b9b3ddccd61b"), looks := false }, kinds := [], alts := [], laidByText := true, laidKinds := [.data, .data, .data], laidTests := true, laidLooks := .later }
def BisectsAnyUptoCardSaid : Prop := Claim7.holds Tryz.pinned (.plain (OpenSpec.upto bisectsAnySpec)) bisectsAnyUptoCard

/-- THE SECOND FORM's CARD OF 'gussetlaw30.FlipsAny'. -/
def flipsAnyUptoCard : Claim7 := { stood := { row := flipsAnyUptoRow, standIns := [], harness := (true, "9e2e171b6d1508143875a2685b0c6ff97cac235516d009f61498b9b3ddccd61b"), looks := false }, kinds := [], alts := [], laidByText := true, laidKinds := [.data, .data, .data], laidTests := true, laidLooks := .later }
def FlipsAnyUptoCardSaid : Prop := Claim7.holds Tryz.pinned (.plain (OpenSpec.upto flipsAnySpec)) flipsAnyUptoCard

/-- THE SECOND FORM's CARD OF 'gussetlaw30.FlipsTurned'. -/
def flipsTurnedUptoCard : Claim7 := { stood := { row := flipsTurnedUptoRow, standIns := [], harness := (true, "9e2e171b6d1508143875a2685b0c6ff97cac235516d009f61498b9b3ddccd61b"), looks := false }, kinds := [], alts := [], laidByText := true, laidKinds := [.data, .data, .data], laidTests := true, laidLooks := .later }
def FlipsTurnedUptoCardSaid : Prop := Claim7.holds Tryz.pinned (.plain (OpenSpec.upto flipsTurnedSpec)) flipsTurnedUptoCard
end Rows
end Go.Proofs.YtpolhpjiahbidaaGreatDoor
