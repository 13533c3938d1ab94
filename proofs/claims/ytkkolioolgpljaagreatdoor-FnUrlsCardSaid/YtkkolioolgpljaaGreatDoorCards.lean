/-
  DERIVED. GIVEN WITH THE SEED: THE CARDS: each row of YtkkolioolgpljaaGreatDoorRows.lean that lists a variable, with what it lists TIED to the program's text (the seventh form; the later family's looks); each row that meets fmt, with fmt's text TOLD by the authors' own Lean function (tested against real Go, not proved from fmt's source: count such statements apart). THE CARD IS WHAT COUNTS. Prove the row's statement (the work); the ties are given (YtkkolioolgpljaaGreatDoorTie.lean); close each card by the builder's one call (the guide's Derived/Test/ToyasCard.lean, 'card_holds'). Laid BY PROGRAM, IN A SANDBOX (cutbox-door.mjs). By AI agents, Wed Nov 11 2026. No macro, syntax, notation, axiom, sorry.
-/
import Derived.Test.YtkkolioolgpljaaGreatDoorRows
import GoSem.ClaimSeven
namespace Go.Proofs.YtkkolioolgpljaaGreatDoor
namespace Rows

/-- THE TIED CARD OF 'laws.FnUrls'. -/
def fnUrlsCard : Claim7 := { stood := { row := fnUrlsRow, standIns := [], harness := (true, "456c014b0fb540439b371713a03edaf1c8c421e446f8f297c6d28daf70082b71"), looks := true }, kinds := [], alts := [], laidByText := true, laidKinds := [.data, .data, .data, .data, .sentinel, .sentinel, .pinned], laidTests := true, laidLooks := .later }
def FnUrlsCardSaid : Prop := Claim7.holds Tryz.pinned (.plain (OpenSpec.ofChange fnUrlsSpec)) fnUrlsCard

/-- THE TIED CARD OF 'laws.FnCanons'. -/
def fnCanonsCard : Claim7 := { stood := { row := fnCanonsRow, standIns := [], harness := (true, "456c014b0fb540439b371713a03edaf1c8c421e446f8f297c6d28daf70082b71"), looks := true }, kinds := [], alts := [], laidByText := true, laidKinds := [.data, .data, .data, .data, .sentinel, .sentinel, .pinned], laidTests := true, laidLooks := .later }
def FnCanonsCardSaid : Prop := Claim7.holds Tryz.pinned (.plain (OpenSpec.ofChange fnCanonsSpec)) fnCanonsCard

/-- THE SECOND FORM's CARD OF 'laws.FnUrls'. -/
def fnUrlsUptoCard : Claim7 := { stood := { row := fnUrlsUptoRow, standIns := [], harness := (true, "456c014b0fb540439b371713a03edaf1c8c421e446f8f297c6d28daf70082b71"), looks := true }, kinds := [], alts := [], laidByText := true, laidKinds := [.data, .data, .data, .data, .sentinel, .sentinel, .pinned], laidTests := true, laidLooks := .later }
def FnUrlsUptoCardSaid : Prop := Claim7.holds Tryz.pinned (.plain (OpenSpec.upto fnUrlsSpec)) fnUrlsUptoCard

/-- THE SECOND FORM's CARD OF 'laws.FnCanons'. -/
def fnCanonsUptoCard : Claim7 := { stood := { row := fnCanonsUptoRow, standIns := [], harness := (true, "456c014b0fb540439b371713a03edaf1c8c421e446f8f297c6d28daf70082b71"), looks := true }, kinds := [], alts := [], laidByText := true, laidKinds := [.data, .data, .data, .data, .sentinel, .sentinel, .pinned], laidTests := true, laidLooks := .later }
def FnCanonsUptoCardSaid : Prop := Claim7.holds Tryz.pinned (.plain (OpenSpec.upto fnCanonsSpec)) fnCanonsUptoCard
end Rows
end Go.Proofs.YtkkolioolgpljaaGreatDoor
