/-
  DERIVED. GIVEN WITH THE SEED: THE CARDS: each row of YtbncnjgflhoneaaGreatDoorRows.lean that lists a variable, with what it lists TIED to the program's text (the seventh form; the later family's looks); each row that meets fmt, with fmt's text TOLD by the authors' own Lean function (tested against real Go, not proved from fmt's source: count such statements apart). THE CARD IS WHAT COUNTS. Prove the row's statement (the work); the ties are given (YtbncnjgflhoneaaGreatDoorTie.lean); close each card by the builder's one call (the guide's Derived/Test/ToyasCard.lean, 'card_holds'). Laid BY PROGRAM, IN A SANDBOX (cutbox-door.mjs). By AI agents, Wed Nov 11 2026. No macro, syntax, notation, axiom, sorry.
-/
import Derived.Test.YtbncnjgflhoneaaGreatDoorRows
import GoSem.ClaimSeven
namespace Go.Proofs.YtbncnjgflhoneaaGreatDoor
namespace Rows

/-- THE TIED CARD OF 'laws.FnExactNotePut'. -/
def fnExactNotePutCard : Claim7 := { stood := { row := fnExactNotePutRow, standIns := [], harness := (true, "7a9d3659d3f520a9de6c05b6af5fcd28b7dff4b50647289148529cd8e18a8a3a"), looks := true }, kinds := [], alts := [], laidByText := true, laidKinds := [.data, .data, .data, .data, .pinned], laidTests := true, laidLooks := .later }
def FnExactNotePutCardSaid : Prop := Claim7.holds Tryz.pinned (.plain (OpenSpec.ofChange fnExactNotePutSpec)) fnExactNotePutCard

/-- THE TIED CARD OF 'laws.FnNotePut'. -/
def fnNotePutCard : Claim7 := { stood := { row := fnNotePutRow, standIns := [], harness := (true, "7a9d3659d3f520a9de6c05b6af5fcd28b7dff4b50647289148529cd8e18a8a3a"), looks := true }, kinds := [], alts := [], laidByText := true, laidKinds := [.data, .data, .data, .data, .sentinel, .sentinel, .pinned], laidTests := true, laidLooks := .later }
def FnNotePutCardSaid : Prop := Claim7.holds Tryz.pinned (.plain (OpenSpec.ofChange fnNotePutSpec)) fnNotePutCard

/-- THE TIED CARD OF 'laws.FnExactNoteGet'. -/
def fnExactNoteGetCard : Claim7 := { stood := { row := fnExactNoteGetRow, standIns := [], harness := (true, "7a9d3659d3f520a9de6c05b6af5fcd28b7dff4b50647289148529cd8e18a8a3a"), looks := true }, kinds := [], alts := [], laidByText := true, laidKinds := [.data, .data, .data, .data, .sentinel, .sentinel, .pinned], laidTests := true, laidLooks := .later }
def FnExactNoteGetCardSaid : Prop := Claim7.holds Tryz.pinned (.plain (OpenSpec.ofChange fnExactNoteGetSpec)) fnExactNoteGetCard

/-- THE TIED CARD OF 'laws.FnNoteGet'. -/
def fnNoteGetCard : Claim7 := { stood := { row := fnNoteGetRow, standIns := [], harness := (true, "7a9d3659d3f520a9de6c05b6af5fcd28b7dff4b50647289148529cd8e18a8a3a"), looks := true }, kinds := [], alts := [], laidByText := true, laidKinds := [.data, .data, .data, .data, .sentinel, .sentinel, .pinned], laidTests := true, laidLooks := .later }
def FnNoteGetCardSaid : Prop := Claim7.holds Tryz.pinned (.plain (OpenSpec.ofChange fnNoteGetSpec)) fnNoteGetCard

/-- THE SECOND FORM's CARD OF 'laws.FnExactNotePut'. -/
def fnExactNotePutUptoCard : Claim7 := { stood := { row := fnExactNotePutUptoRow, standIns := [], harness := (true, "7a9d3659d3f520a9de6c05b6af5fcd28b7dff4b50647289148529cd8e18a8a3a"), looks := true }, kinds := [], alts := [], laidByText := true, laidKinds := [.data, .data, .data, .data, .pinned], laidTests := true, laidLooks := .later }
def FnExactNotePutUptoCardSaid : Prop := Claim7.holds Tryz.pinned (.plain (OpenSpec.upto fnExactNotePutSpec)) fnExactNotePutUptoCard

/-- THE SECOND FORM's CARD OF 'laws.FnNotePut'. -/
def fnNotePutUptoCard : Claim7 := { stood := { row := fnNotePutUptoRow, standIns := [], harness := (true, "7a9d3659d3f520a9de6c05b6af5fcd28b7dff4b50647289148529cd8e18a8a3a"), looks := true }, kinds := [], alts := [], laidByText := true, laidKinds := [.data, .data, .data, .data, .sentinel, .sentinel, .pinned], laidTests := true, laidLooks := .later }
def FnNotePutUptoCardSaid : Prop := Claim7.holds Tryz.pinned (.plain (OpenSpec.upto fnNotePutSpec)) fnNotePutUptoCard

/-- THE SECOND FORM's CARD OF 'laws.FnExactNoteGet'. -/
def fnExactNoteGetUptoCard : Claim7 := { stood := { row := fnExactNoteGetUptoRow, standIns := [], harness := (true, "7a9d3659d3f520a9de6c05b6af5fcd28b7dff4b50647289148529cd8e18a8a3a"), looks := true }, kinds := [], alts := [], laidByText := true, laidKinds := [.data, .data, .data, .data, .sentinel, .sentinel, .pinned], laidTests := true, laidLooks := .later }
def FnExactNoteGetUptoCardSaid : Prop := Claim7.holds Tryz.pinned (.plain (OpenSpec.upto fnExactNoteGetSpec)) fnExactNoteGetUptoCard

/-- THE SECOND FORM's CARD OF 'laws.FnNoteGet'. -/
def fnNoteGetUptoCard : Claim7 := { stood := { row := fnNoteGetUptoRow, standIns := [], harness := (true, "7a9d3659d3f520a9de6c05b6af5fcd28b7dff4b50647289148529cd8e18a8a3a"), looks := true }, kinds := [], alts := [], laidByText := true, laidKinds := [.data, .data, .data, .data, .sentinel, .sentinel, .pinned], laidTests := true, laidLooks := .later }
def FnNoteGetUptoCardSaid : Prop := Claim7.holds Tryz.pinned (.plain (OpenSpec.upto fnNoteGetSpec)) fnNoteGetUptoCard
end Rows
end Go.Proofs.YtbncnjgflhoneaaGreatDoor
