/-
  DERIVED. GIVEN WITH THE SEED: THE CARDS: each row of YteojcbbifacpnaaGreatDoorRows.lean that lists a variable, with what it lists TIED to the program's text (the seventh form; the later family's looks); each row that meets fmt, with fmt's text TOLD by the authors' own Lean function (tested against real Go, not proved from fmt's source: count such statements apart). THE CARD IS WHAT COUNTS. Prove the row's statement (the work); the ties are given (YteojcbbifacpnaaGreatDoorTie.lean); close each card by the builder's one call (the guide's Derived/Test/ToyasCard.lean, 'card_holds'). Laid BY PROGRAM, IN A SANDBOX (cutbox-door.mjs). By AI agents, Wed Nov 11 2026. No macro, syntax, notation, axiom, sorry.
-/
import Derived.Test.YteojcbbifacpnaaGreatDoorRows
import GoSem.ClaimSeven
namespace Go.Proofs.YteojcbbifacpnaaGreatDoor
namespace Rows

/-- THE TIED CARD OF 'laws.FnExactLineOk'. -/
def fnExactLineOkCard : Claim7 := { stood := { row := fnExactLineOkRow, standIns := [], harness := (true, "5a28b5d7542dcc8d642ba9ffe51dbbf9937fe10bd1ea5449dcb550a1afa139af"), looks := true }, kinds := [], alts := [], laidByText := true, laidKinds := [.data, .data, .data, .data, .sentinel, .sentinel, .pinned], laidTests := true, laidLooks := .later }
def FnExactLineOkCardSaid : Prop := Claim7.holds Tryz.pinned (.plain (OpenSpec.ofChange fnExactLineOkSpec)) fnExactLineOkCard

/-- THE TIED CARD OF 'laws.FnExactLineText'. -/
def fnExactLineTextCard : Claim7 := { stood := { row := fnExactLineTextRow, standIns := [], harness := (true, "5a28b5d7542dcc8d642ba9ffe51dbbf9937fe10bd1ea5449dcb550a1afa139af"), looks := true }, kinds := [], alts := [], laidByText := true, laidKinds := [.data, .data, .data, .data, .sentinel, .sentinel, .pinned], laidTests := true, laidLooks := .later }
def FnExactLineTextCardSaid : Prop := Claim7.holds Tryz.pinned (.plain (OpenSpec.ofChange fnExactLineTextSpec)) fnExactLineTextCard

/-- THE TIED CARD OF 'laws.FnExactIndexOk'. -/
def fnExactIndexOkCard : Claim7 := { stood := { row := fnExactIndexOkRow, standIns := [], harness := (true, "5a28b5d7542dcc8d642ba9ffe51dbbf9937fe10bd1ea5449dcb550a1afa139af"), looks := true }, kinds := [], alts := [], laidByText := true, laidKinds := [.data, .data, .data, .data, .sentinel, .sentinel, .pinned], laidTests := true, laidLooks := .later }
def FnExactIndexOkCardSaid : Prop := Claim7.holds Tryz.pinned (.plain (OpenSpec.ofChange fnExactIndexOkSpec)) fnExactIndexOkCard

/-- THE TIED CARD OF 'laws.FnExactIndexRange'. -/
def fnExactIndexRangeCard : Claim7 := { stood := { row := fnExactIndexRangeRow, standIns := [], harness := (true, "5a28b5d7542dcc8d642ba9ffe51dbbf9937fe10bd1ea5449dcb550a1afa139af"), looks := true }, kinds := [], alts := [], laidByText := true, laidKinds := [.data, .data, .data, .data, .sentinel, .sentinel, .pinned], laidTests := true, laidLooks := .later }
def FnExactIndexRangeCardSaid : Prop := Claim7.holds Tryz.pinned (.plain (OpenSpec.ofChange fnExactIndexRangeSpec)) fnExactIndexRangeCard

/-- THE TIED CARD OF 'laws.FnExactClosest'. -/
def fnExactClosestCard : Claim7 := { stood := { row := fnExactClosestRow, standIns := [], harness := (true, "5a28b5d7542dcc8d642ba9ffe51dbbf9937fe10bd1ea5449dcb550a1afa139af"), looks := true }, kinds := [], alts := [], laidByText := true, laidKinds := [.data, .data, .data, .data, .sentinel, .sentinel, .pinned], laidTests := true, laidLooks := .later }
def FnExactClosestCardSaid : Prop := Claim7.holds Tryz.pinned (.plain (OpenSpec.ofChange fnExactClosestSpec)) fnExactClosestCard

/-- THE TIED CARD OF 'laws.FnExactReadLine'. -/
def fnExactReadLineCard : Claim7 := { stood := { row := fnExactReadLineRow, standIns := [], harness := (true, "5a28b5d7542dcc8d642ba9ffe51dbbf9937fe10bd1ea5449dcb550a1afa139af"), looks := true }, kinds := [], alts := [], laidByText := true, laidKinds := [.data, .data, .data, .data, .sentinel, .sentinel, .pinned], laidTests := true, laidLooks := .later }
def FnExactReadLineCardSaid : Prop := Claim7.holds Tryz.pinned (.plain (OpenSpec.ofChange fnExactReadLineSpec)) fnExactReadLineCard

/-- THE TIED CARD OF 'laws.FnExactIndexText'. -/
def fnExactIndexTextCard : Claim7 := { stood := { row := fnExactIndexTextRow, standIns := [], harness := (true, "5a28b5d7542dcc8d642ba9ffe51dbbf9937fe10bd1ea5449dcb550a1afa139af"), looks := true }, kinds := [], alts := [], laidByText := true, laidKinds := [.data, .data, .data, .data, .sentinel, .sentinel, .pinned], laidTests := true, laidLooks := .later }
def FnExactIndexTextCardSaid : Prop := Claim7.holds Tryz.pinned (.plain (OpenSpec.ofChange fnExactIndexTextSpec)) fnExactIndexTextCard

/-- THE SECOND FORM's CARD OF 'laws.FnExactLineOk'. -/
def fnExactLineOkUptoCard : Claim7 := { stood := { row := fnExactLineOkUptoRow, standIns := [], harness := (true, "5a28b5d7542dcc8d642ba9ffe51dbbf9937fe10bd1ea5449dcb550a1afa139af"), looks := true }, kinds := [], alts := [], laidByText := true, laidKinds := [.data, .data, .data, .data, .sentinel, .sentinel, .pinned], laidTests := true, laidLooks := .later }
def FnExactLineOkUptoCardSaid : Prop := Claim7.holds Tryz.pinned (.plain (OpenSpec.upto fnExactLineOkSpec)) fnExactLineOkUptoCard

/-- THE SECOND FORM's CARD OF 'laws.FnExactLineText'. -/
def fnExactLineTextUptoCard : Claim7 := { stood := { row := fnExactLineTextUptoRow, standIns := [], harness := (true, "5a28b5d7542dcc8d642ba9ffe51dbbf9937fe10bd1ea5449dcb550a1afa139af"), looks := true }, kinds := [], alts := [], laidByText := true, laidKinds := [.data, .data, .data, .data, .sentinel, .sentinel, .pinned], laidTests := true, laidLooks := .later }
def FnExactLineTextUptoCardSaid : Prop := Claim7.holds Tryz.pinned (.plain (OpenSpec.upto fnExactLineTextSpec)) fnExactLineTextUptoCard

/-- THE SECOND FORM's CARD OF 'laws.FnExactIndexOk'. -/
def fnExactIndexOkUptoCard : Claim7 := { stood := { row := fnExactIndexOkUptoRow, standIns := [], harness := (true, "5a28b5d7542dcc8d642ba9ffe51dbbf9937fe10bd1ea5449dcb550a1afa139af"), looks := true }, kinds := [], alts := [], laidByText := true, laidKinds := [.data, .data, .data, .data, .sentinel, .sentinel, .pinned], laidTests := true, laidLooks := .later }
def FnExactIndexOkUptoCardSaid : Prop := Claim7.holds Tryz.pinned (.plain (OpenSpec.upto fnExactIndexOkSpec)) fnExactIndexOkUptoCard

/-- THE SECOND FORM's CARD OF 'laws.FnExactIndexRange'. -/
def fnExactIndexRangeUptoCard : Claim7 := { stood := { row := fnExactIndexRangeUptoRow, standIns := [], harness := (true, "5a28b5d7542dcc8d642ba9ffe51dbbf9937fe10bd1ea5449dcb550a1afa139af"), looks := true }, kinds := [], alts := [], laidByText := true, laidKinds := [.data, .data, .data, .data, .sentinel, .sentinel, .pinned], laidTests := true, laidLooks := .later }
def FnExactIndexRangeUptoCardSaid : Prop := Claim7.holds Tryz.pinned (.plain (OpenSpec.upto fnExactIndexRangeSpec)) fnExactIndexRangeUptoCard

/-- THE SECOND FORM's CARD OF 'laws.FnExactClosest'. -/
def fnExactClosestUptoCard : Claim7 := { stood := { row := fnExactClosestUptoRow, standIns := [], harness := (true, "5a28b5d7542dcc8d642ba9ffe51dbbf9937fe10bd1ea5449dcb550a1afa139af"), looks := true }, kinds := [], alts := [], laidByText := true, laidKinds := [.data, .data, .data, .data, .sentinel, .sentinel, .pinned], laidTests := true, laidLooks := .later }
def FnExactClosestUptoCardSaid : Prop := Claim7.holds Tryz.pinned (.plain (OpenSpec.upto fnExactClosestSpec)) fnExactClosestUptoCard

/-- THE SECOND FORM's CARD OF 'laws.FnExactReadLine'. -/
def fnExactReadLineUptoCard : Claim7 := { stood := { row := fnExactReadLineUptoRow, standIns := [], harness := (true, "5a28b5d7542dcc8d642ba9ffe51dbbf9937fe10bd1ea5449dcb550a1afa139af"), looks := true }, kinds := [], alts := [], laidByText := true, laidKinds := [.data, .data, .data, .data, .sentinel, .sentinel, .pinned], laidTests := true, laidLooks := .later }
def FnExactReadLineUptoCardSaid : Prop := Claim7.holds Tryz.pinned (.plain (OpenSpec.upto fnExactReadLineSpec)) fnExactReadLineUptoCard

/-- THE SECOND FORM's CARD OF 'laws.FnExactIndexText'. -/
def fnExactIndexTextUptoCard : Claim7 := { stood := { row := fnExactIndexTextUptoRow, standIns := [], harness := (true, "5a28b5d7542dcc8d642ba9ffe51dbbf9937fe10bd1ea5449dcb550a1afa139af"), looks := true }, kinds := [], alts := [], laidByText := true, laidKinds := [.data, .data, .data, .data, .sentinel, .sentinel, .pinned], laidTests := true, laidLooks := .later }
def FnExactIndexTextUptoCardSaid : Prop := Claim7.holds Tryz.pinned (.plain (OpenSpec.upto fnExactIndexTextSpec)) fnExactIndexTextUptoCard
end Rows
end Go.Proofs.YteojcbbifacpnaaGreatDoor
