/-
  DERIVED. GIVEN WITH THE SEED: THE CARDS: each row of YtnfjjbpochmhpaaDoorRows.lean that lists a variable, with what it lists TIED to the program's text (the seventh form; the later family's looks); each row that meets fmt, with fmt's text TOLD by the authors' own Lean function (tested against real Go, not proved from fmt's source: count such statements apart). THE CARD IS WHAT COUNTS. Prove the row's statement (the work); the ties are given (YtnfjjbpochmhpaaDoorTie.lean); close each card by the builder's one call (the guide's Derived/Test/ToyasCard.lean, 'card_holds'). Laid BY PROGRAM, IN A SANDBOX (cutbox-door.mjs). By AI agents, Wed Nov 11 2026. No macro, syntax, notation, axiom, sorry.
-/
import Derived.Test.YtnfjjbpochmhpaaDoorRows
import GoSem.ClaimSeven
namespace Go.Proofs.YtnfjjbpochmhpaaDoor
namespace Rows

/-- THE TIED CARD OF 'laws.FnExactChunkText'. -/
def fnExactChunkTextCard : Claim7 := { stood := { row := fnExactChunkTextRow, standIns := [], harness := (true, "382841aeec0ae78fc5d536134a138f0b69dec0bb7e22f136289e580163386422"), looks := true }, kinds := [], alts := [], laidByText := true, laidKinds := [.data, .data, .data], laidTests := true, laidLooks := .later }
def FnExactChunkTextCardSaid : Prop := Claim7.holds Tryd.pinned (.plain (OpenSpec.ofChange fnExactChunkTextSpec)) fnExactChunkTextCard

/-- THE TIED CARD OF 'laws.FnExactReadId'. -/
def fnExactReadIdCard : Claim7 := { stood := { row := fnExactReadIdRow, standIns := [], harness := (true, "382841aeec0ae78fc5d536134a138f0b69dec0bb7e22f136289e580163386422"), looks := true }, kinds := [], alts := [], laidByText := true, laidKinds := [.data, .data, .data, .sentinel, .sentinel], laidTests := true, laidLooks := .later }
def FnExactReadIdCardSaid : Prop := Claim7.holds Tryd.pinned (.plain (OpenSpec.ofChange fnExactReadIdSpec)) fnExactReadIdCard

/-- THE TIED CARD OF 'laws.FnExactMsgOk'. -/
def fnExactMsgOkCard : Claim7 := { stood := { row := fnExactMsgOkRow, standIns := [], harness := (true, "382841aeec0ae78fc5d536134a138f0b69dec0bb7e22f136289e580163386422"), looks := true }, kinds := [], alts := [], laidByText := true, laidKinds := [.data, .data, .data], laidTests := true, laidLooks := .later }
def FnExactMsgOkCardSaid : Prop := Claim7.holds Tryd.pinned (.plain (OpenSpec.ofChange fnExactMsgOkSpec)) fnExactMsgOkCard

/-- THE TIED CARD OF 'laws.FnExactWriteHead'. -/
def fnExactWriteHeadCard : Claim7 := { stood := { row := fnExactWriteHeadRow, standIns := [], harness := (true, "382841aeec0ae78fc5d536134a138f0b69dec0bb7e22f136289e580163386422"), looks := true }, kinds := [], alts := [], laidByText := true, laidKinds := [.data, .data, .data], laidTests := true, laidLooks := .later }
def FnExactWriteHeadCardSaid : Prop := Claim7.holds Tryd.pinned (.plain (OpenSpec.ofChange fnExactWriteHeadSpec)) fnExactWriteHeadCard

/-- THE TIED CARD OF 'laws.FnExactWriteMsg'. -/
def fnExactWriteMsgCard : Claim7 := { stood := { row := fnExactWriteMsgRow, standIns := [], harness := (true, "382841aeec0ae78fc5d536134a138f0b69dec0bb7e22f136289e580163386422"), looks := true }, kinds := [], alts := [], laidByText := true, laidKinds := [.data, .data, .data], laidTests := true, laidLooks := .later }
def FnExactWriteMsgCardSaid : Prop := Claim7.holds Tryd.pinned (.plain (OpenSpec.ofChange fnExactWriteMsgSpec)) fnExactWriteMsgCard

/-- THE TIED CARD OF 'laws.FnExactCleanPath'. -/
def fnExactCleanPathCard : Claim7 := { stood := { row := fnExactCleanPathRow, standIns := [], harness := (true, "382841aeec0ae78fc5d536134a138f0b69dec0bb7e22f136289e580163386422"), looks := true }, kinds := [], alts := [], laidByText := true, laidKinds := [.data, .pinned], laidTests := true, laidLooks := .later }
def FnExactCleanPathCardSaid : Prop := Claim7.holds Tryd.pinned (.plain (OpenSpec.ofChange fnExactCleanPathSpec)) fnExactCleanPathCard

/-- THE TIED CARD OF 'laws.FnExactUrlOk'. -/
def fnExactUrlOkCard : Claim7 := { stood := { row := fnExactUrlOkRow, standIns := [], harness := (true, "382841aeec0ae78fc5d536134a138f0b69dec0bb7e22f136289e580163386422"), looks := true }, kinds := [], alts := [], laidByText := true, laidKinds := [.data, .data, .data, .data, .pinned], laidTests := true, laidLooks := .later }
def FnExactUrlOkCardSaid : Prop := Claim7.holds Tryd.pinned (.plain (OpenSpec.ofChange fnExactUrlOkSpec)) fnExactUrlOkCard

/-- THE SECOND FORM's CARD OF 'laws.FnExactChunkText'. -/
def fnExactChunkTextUptoCard : Claim7 := { stood := { row := fnExactChunkTextUptoRow, standIns := [], harness := (true, "382841aeec0ae78fc5d536134a138f0b69dec0bb7e22f136289e580163386422"), looks := true }, kinds := [], alts := [], laidByText := true, laidKinds := [.data, .data, .data], laidTests := true, laidLooks := .later }
def FnExactChunkTextUptoCardSaid : Prop := Claim7.holds Tryd.pinned (.plain (OpenSpec.upto fnExactChunkTextSpec)) fnExactChunkTextUptoCard

/-- THE SECOND FORM's CARD OF 'laws.FnExactReadId'. -/
def fnExactReadIdUptoCard : Claim7 := { stood := { row := fnExactReadIdUptoRow, standIns := [], harness := (true, "382841aeec0ae78fc5d536134a138f0b69dec0bb7e22f136289e580163386422"), looks := true }, kinds := [], alts := [], laidByText := true, laidKinds := [.data, .data, .data, .sentinel, .sentinel], laidTests := true, laidLooks := .later }
def FnExactReadIdUptoCardSaid : Prop := Claim7.holds Tryd.pinned (.plain (OpenSpec.upto fnExactReadIdSpec)) fnExactReadIdUptoCard

/-- THE SECOND FORM's CARD OF 'laws.FnExactMsgOk'. -/
def fnExactMsgOkUptoCard : Claim7 := { stood := { row := fnExactMsgOkUptoRow, standIns := [], harness := (true, "382841aeec0ae78fc5d536134a138f0b69dec0bb7e22f136289e580163386422"), looks := true }, kinds := [], alts := [], laidByText := true, laidKinds := [.data, .data, .data], laidTests := true, laidLooks := .later }
def FnExactMsgOkUptoCardSaid : Prop := Claim7.holds Tryd.pinned (.plain (OpenSpec.upto fnExactMsgOkSpec)) fnExactMsgOkUptoCard

/-- THE SECOND FORM's CARD OF 'laws.FnExactWriteHead'. -/
def fnExactWriteHeadUptoCard : Claim7 := { stood := { row := fnExactWriteHeadUptoRow, standIns := [], harness := (true, "382841aeec0ae78fc5d536134a138f0b69dec0bb7e22f136289e580163386422"), looks := true }, kinds := [], alts := [], laidByText := true, laidKinds := [.data, .data, .data], laidTests := true, laidLooks := .later }
def FnExactWriteHeadUptoCardSaid : Prop := Claim7.holds Tryd.pinned (.plain (OpenSpec.upto fnExactWriteHeadSpec)) fnExactWriteHeadUptoCard

/-- THE SECOND FORM's CARD OF 'laws.FnExactWriteMsg'. -/
def fnExactWriteMsgUptoCard : Claim7 := { stood := { row := fnExactWriteMsgUptoRow, standIns := [], harness := (true, "382841aeec0ae78fc5d536134a138f0b69dec0bb7e22f136289e580163386422"), looks := true }, kinds := [], alts := [], laidByText := true, laidKinds := [.data, .data, .data], laidTests := true, laidLooks := .later }
def FnExactWriteMsgUptoCardSaid : Prop := Claim7.holds Tryd.pinned (.plain (OpenSpec.upto fnExactWriteMsgSpec)) fnExactWriteMsgUptoCard

/-- THE SECOND FORM's CARD OF 'laws.FnExactCleanPath'. -/
def fnExactCleanPathUptoCard : Claim7 := { stood := { row := fnExactCleanPathUptoRow, standIns := [], harness := (true, "382841aeec0ae78fc5d536134a138f0b69dec0bb7e22f136289e580163386422"), looks := true }, kinds := [], alts := [], laidByText := true, laidKinds := [.data, .pinned], laidTests := true, laidLooks := .later }
def FnExactCleanPathUptoCardSaid : Prop := Claim7.holds Tryd.pinned (.plain (OpenSpec.upto fnExactCleanPathSpec)) fnExactCleanPathUptoCard

/-- THE SECOND FORM's CARD OF 'laws.FnExactUrlOk'. -/
def fnExactUrlOkUptoCard : Claim7 := { stood := { row := fnExactUrlOkUptoRow, standIns := [], harness := (true, "382841aeec0ae78fc5d536134a138f0b69dec0bb7e22f136289e580163386422"), looks := true }, kinds := [], alts := [], laidByText := true, laidKinds := [.data, .data, .data, .data, .pinned], laidTests := true, laidLooks := .later }
def FnExactUrlOkUptoCardSaid : Prop := Claim7.holds Tryd.pinned (.plain (OpenSpec.upto fnExactUrlOkSpec)) fnExactUrlOkUptoCard
end Rows
end Go.Proofs.YtnfjjbpochmhpaaDoor
