/-
  DERIVED. GIVEN WITH THE SEED: THE CARDS: each row of YtbfdamnfcmefmaaGreatDoorRows.lean that lists a variable, with what it lists TIED to the program's text (the seventh form; the later family's looks); each row that meets fmt, with fmt's text TOLD by the authors' own Lean function (tested against real Go, not proved from fmt's source: count such statements apart). THE CARD IS WHAT COUNTS. Prove the row's statement (the work); the ties are given (YtbfdamnfcmefmaaGreatDoorTie.lean); close each card by the builder's one call (the guide's Derived/Test/ToyasCard.lean, 'card_holds'). Laid BY PROGRAM, IN A SANDBOX (cutbox-door.mjs). By AI agents, Wed Nov 11 2026. No macro, syntax, notation, axiom, sorry.
-/
import Derived.Test.YtbfdamnfcmefmaaGreatDoorRows
import GoSem.ClaimSeven
namespace Go.Proofs.YtbfdamnfcmefmaaGreatDoor
namespace Rows

/-- THE TIED CARD OF 'gussetlaw30.FlipsDelaunay'. -/
def flipsDelaunayCard : Claim7 := { stood := { row := flipsDelaunayRow, standIns := [], harness := (true, "1c58a1a77e2e2fad178c30076b16fb2273f6268567e248404c69d0affa3aeb60"), looks := false }, kinds := [], alts := [], laidByText := true, laidKinds := [.data, .data, .data], laidTests := true, laidLooks := .later }
def FlipsDelaunayCardSaid : Prop := Claim7.holds Tryz.pinned (.plain (OpenSpec.ofChange flipsDelaunaySpec)) flipsDelaunayCard

/-- THE TIED CARD OF 'gussetlaw30.FlipsSink'. -/
def flipsSinkCard : Claim7 := { stood := { row := flipsSinkRow, standIns := [], harness := (true, "1c58a1a77e2e2fad178c30076b16fb2273f6268567e248404c69d0affa3aeb60"), looks := false }, kinds := [], alts := [], laidByText := true, laidKinds := [.data, .data, .data], laidTests := true, laidLooks := .later }
def FlipsSinkCardSaid : Prop := Claim7.holds Tryz.pinned (.plain (OpenSpec.ofChange flipsSinkSpec)) flipsSinkCard

/-- THE TIED CARD OF 'gussetlaw30.FlipsEnd'. -/
def flipsEndCard : Claim7 := { stood := { row := flipsEndRow, standIns := [], harness := (true, "1c58a1a77e2e2fad178c30076b16fb2273f6268567e248404c69d0affa3aeb60"), looks := false }, kinds := [], alts := [], laidByText := true, laidKinds := [.data, .data, .data], laidTests := true, laidLooks := .later }
def FlipsEndCardSaid : Prop := Claim7.holds Tryz.pinned (.plain (OpenSpec.ofChange flipsEndSpec)) flipsEndCard

/-- THE TIED CARD OF 'gussetlaw25.MeshesSpoil'. -/
def meshesSpoilCard : Claim7 := { stood := { row := meshesSpoilRow, standIns := [], harness := (true, "1c58a1a77e2e2fad178c30076b16fb2273f6268567e248404c69d0affa3aeb60"), looks := false }, kinds := [], alts := [], laidByText := true, laidKinds := [.data, .data, .data], laidTests := true, laidLooks := .later }
def MeshesSpoilCardSaid : Prop := Claim7.holds Tryz.pinned (.plain (OpenSpec.ofChange meshesSpoilSpec)) meshesSpoilCard

/-- THE SECOND FORM's CARD OF 'gussetlaw30.FlipsDelaunay'. -/
def flipsDelaunayUptoCard : Claim7 := { stood := { row := flipsDelaunayUptoRow, standIns := [], harness := (true, "1c58a1a77e2e2fad178c30076b16fb2273f6268567e248404c69d0affa3aeb60"), looks := false }, kinds := [], alts := [], laidByText := true, laidKinds := [.data, .data, .data], laidTests := true, laidLooks := .later }
def FlipsDelaunayUptoCardSaid : Prop := Claim7.holds Tryz.pinned (.plain (OpenSpec.upto flipsDelaunaySpec)) flipsDelaunayUptoCard

/-- THE SECOND FORM's CARD OF 'gussetlaw30.FlipsSink'. -/
def flipsSinkUptoCard : Claim7 := { stood := { row := flipsSinkUptoRow, standIns := [], harness := (true, "1c58a1a77e2e2fad178c30076b16fb2273f6268567e248404c69d0affa3aeb60"), looks := false }, kinds := [], alts := [], laidByText := true, laidKinds := [.data, .data, .data], laidTests := true, laidLooks := .later }
def FlipsSinkUptoCardSaid : Prop := Claim7.holds Tryz.pinned (.plain (OpenSpec.upto flipsSinkSpec)) flipsSinkUptoCard

/-- THE SECOND FORM's CARD OF 'gussetlaw30.FlipsEnd'. -/
def flipsEndUptoCard : Claim7 := { stood := { row := flipsEndUptoRow, standIns := [], harness := (true, "1c58a1a77e2e2fad178c30076b16fb2273f6268567e248404c69d0affa3aeb60"), looks := false }, kinds := [], alts := [], laidByText := true, laidKinds := [.data, .data, .data], laidTests := true, laidLooks := .later }
def FlipsEndUptoCardSaid : Prop := Claim7.holds Tryz.pinned (.plain (OpenSpec.upto flipsEndSpec)) flipsEndUptoCard

/-- THE SECOND FORM's CARD OF 'gussetlaw25.MeshesSpoil'. -/
def meshesSpoilUptoCard : Claim7 := { stood := { row := meshesSpoilUptoRow, standIns := [], harness := (true, "1c58a1a77e2e2fad178c30076b16fb2273f6268567e248404c69d0affa3aeb60"), looks := false }, kinds := [], alts := [], laidByText := true, laidKinds := [.data, .data, .data], laidTests := true, laidLooks := .later }
def MeshesSpoilUptoCardSaid : Prop := Claim7.holds Tryz.pinned (.plain (OpenSpec.upto meshesSpoilSpec)) meshesSpoilUptoCard
end Rows
end Go.Proofs.YtbfdamnfcmefmaaGreatDoor
