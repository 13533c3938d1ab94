/-
  DERIVED. GIVEN WITH THE SEED: THE CARDS: each row of YtgkipkifkobjnaaGreatDoorRows.lean that lists a variable, with what it lists TIED to the program's text (the seventh form; the later family's looks); each row that meets fmt, with fmt's text TOLD by the authors' own Lean function (tested against real Go, not proved from fmt's source: count such statements apart). THE CARD IS WHAT COUNTS. Prove the row's statement (the work); the ties are given (YtgkipkifkobjnaaGreatDoorTie.lean); close each card by the builder's one call (the guide's Derived/Test/ToyasCard.lean, 'card_holds'). Laid BY PROGRAM, IN A SANDBOX (cutbox-door.mjs). By AI agents, Wed Nov 11 2026. No macro, syntax, notation, axiom, sorry.
-/
import Derived.Test.YtgkipkifkobjnaaGreatDoorRows
import GoSem.ClaimSeven
namespace Go.Proofs.YtgkipkifkobjnaaGreatDoor
namespace Rows

/-- THE TIED CARD OF 'laws.FnExactRecOk'. -/
def fnExactRecOkCard : Claim7 := { stood := { row := fnExactRecOkRow, standIns := [], harness := (true, "c9ae77beee44c36e950d5a5d23a6c3d34a82d6019d1590516c84ab0fc13bc43c"), looks := true }, kinds := [], alts := [], laidByText := true, laidKinds := [.data, .data, .data, .data, .sentinel, .sentinel, .pinned], laidTests := true, laidLooks := .later }
def FnExactRecOkCardSaid : Prop := Claim7.holds Tryz.pinned (.plain (OpenSpec.ofChange fnExactRecOkSpec)) fnExactRecOkCard

/-- THE SECOND FORM's CARD OF 'laws.FnExactRecOk'. -/
def fnExactRecOkUptoCard : Claim7 := { stood := { row := fnExactRecOkUptoRow, standIns := [], harness := (true, "c9ae77beee44c36e950d5a5d23a6c3d34a82d6019d1590516c84ab0fc13bc43c"), looks := true }, kinds := [], alts := [], laidByText := true, laidKinds := [.data, .data, .data, .data, .sentinel, .sentinel, .pinned], laidTests := true, laidLooks := .later }
def FnExactRecOkUptoCardSaid : Prop := Claim7.holds Tryz.pinned (.plain (OpenSpec.upto fnExactRecOkSpec)) fnExactRecOkUptoCard
end Rows
end Go.Proofs.YtgkipkifkobjnaaGreatDoor
