/-
  DERIVED. GIVEN WITH THE SEED: THE CARDS: each row of YtjifjfgehabkcaaDoorRows.lean that lists a variable, with what it lists TIED to the program's text (the seventh form; the later family's looks); each row that meets fmt, with fmt's text TOLD by the authors' own Lean function (tested against real Go, not proved from fmt's source: count such statements apart). THE CARD IS WHAT COUNTS. Prove the row's statement (the work); the ties are given (YtjifjfgehabkcaaDoorTie.lean); close each card by the builder's one call (the guide's Derived/Test/ToyasCard.lean, 'card_holds'). Laid BY PROGRAM, IN A SANDBOX (cutbox-door.mjs). By AI agents, Wed Nov 11 2026. No macro, syntax, notation, axiom, sorry.
-/
import Derived.Test.YtjifjfgehabkcaaDoorRows
import GoSem.ClaimSeven
namespace Go.Proofs.YtjifjfgehabkcaaDoor
namespace Rows

/-- THE TIED CARD OF 'laws.FnExactHostField'. -/
def fnExactHostFieldCard : Claim7 := { stood := { row := fnExactHostFieldRow, standIns := [], harness := (true, "5bc9fc56d2341270418096834554baadae33e7b478026e5c8ddcd5757101b7b4"), looks := true }, kinds := [], alts := [], laidByText := true, laidKinds := [.data, .data, .data, .data, .pinned], laidTests := true, laidLooks := .later }
def FnExactHostFieldCardSaid : Prop := Claim7.holds Tryd.pinned (.plain (OpenSpec.ofChange fnExactHostFieldSpec)) fnExactHostFieldCard

/-- THE TIED CARD OF 'laws.FnExactUrlText'. -/
def fnExactUrlTextCard : Claim7 := { stood := { row := fnExactUrlTextRow, standIns := [], harness := (true, "5bc9fc56d2341270418096834554baadae33e7b478026e5c8ddcd5757101b7b4"), looks := true }, kinds := [], alts := [], laidByText := true, laidKinds := [.data, .data, .data, .data, .pinned], laidTests := true, laidLooks := .later }
def FnExactUrlTextCardSaid : Prop := Claim7.holds Tryd.pinned (.plain (OpenSpec.ofChange fnExactUrlTextSpec)) fnExactUrlTextCard

/-- THE TIED CARD OF 'laws.FnExactFraming'. -/
def fnExactFramingCard : Claim7 := { stood := { row := fnExactFramingRow, standIns := [], harness := (true, "5bc9fc56d2341270418096834554baadae33e7b478026e5c8ddcd5757101b7b4"), looks := true }, kinds := [], alts := [], laidByText := true, laidKinds := [.data, .data, .data, .sentinel, .sentinel], laidTests := true, laidLooks := .later }
def FnExactFramingCardSaid : Prop := Claim7.holds Tryd.pinned (.plain (OpenSpec.ofChange fnExactFramingSpec)) fnExactFramingCard

/-- THE TIED CARD OF 'laws.FnExactSurt'. -/
def fnExactSurtCard : Claim7 := { stood := { row := fnExactSurtRow, standIns := [], harness := (true, "5bc9fc56d2341270418096834554baadae33e7b478026e5c8ddcd5757101b7b4"), looks := true }, kinds := [], alts := [], laidByText := true, laidKinds := [.data, .data, .data, .data, .pinned], laidTests := true, laidLooks := .later }
def FnExactSurtCardSaid : Prop := Claim7.holds Tryd.pinned (.plain (OpenSpec.ofChange fnExactSurtSpec)) fnExactSurtCard

/-- THE SECOND FORM's CARD OF 'laws.FnExactHostField'. -/
def fnExactHostFieldUptoCard : Claim7 := { stood := { row := fnExactHostFieldUptoRow, standIns := [], harness := (true, "5bc9fc56d2341270418096834554baadae33e7b478026e5c8ddcd5757101b7b4"), looks := true }, kinds := [], alts := [], laidByText := true, laidKinds := [.data, .data, .data, .data, .pinned], laidTests := true, laidLooks := .later }
def FnExactHostFieldUptoCardSaid : Prop := Claim7.holds Tryd.pinned (.plain (OpenSpec.upto fnExactHostFieldSpec)) fnExactHostFieldUptoCard

/-- THE SECOND FORM's CARD OF 'laws.FnExactUrlText'. -/
def fnExactUrlTextUptoCard : Claim7 := { stood := { row := fnExactUrlTextUptoRow, standIns := [], harness := (true, "5bc9fc56d2341270418096834554baadae33e7b478026e5c8ddcd5757101b7b4"), looks := true }, kinds := [], alts := [], laidByText := true, laidKinds := [.data, .data, .data, .data, .pinned], laidTests := true, laidLooks := .later }
def FnExactUrlTextUptoCardSaid : Prop := Claim7.holds Tryd.pinned (.plain (OpenSpec.upto fnExactUrlTextSpec)) fnExactUrlTextUptoCard

/-- THE SECOND FORM's CARD OF 'laws.FnExactFraming'. -/
def fnExactFramingUptoCard : Claim7 := { stood := { row := fnExactFramingUptoRow, standIns := [], harness := (true, "5bc9fc56d2341270418096834554baadae33e7b478026e5c8ddcd5757101b7b4"), looks := true }, kinds := [], alts := [], laidByText := true, laidKinds := [.data, .data, .data, .sentinel, .sentinel], laidTests := true, laidLooks := .later }
def FnExactFramingUptoCardSaid : Prop := Claim7.holds Tryd.pinned (.plain (OpenSpec.upto fnExactFramingSpec)) fnExactFramingUptoCard

/-- THE SECOND FORM's CARD OF 'laws.FnExactSurt'. -/
def fnExactSurtUptoCard : Claim7 := { stood := { row := fnExactSurtUptoRow, standIns := [], harness := (true, "5bc9fc56d2341270418096834554baadae33e7b478026e5c8ddcd5757101b7b4"), looks := true }, kinds := [], alts := [], laidByText := true, laidKinds := [.data, .data, .data, .data, .pinned], laidTests := true, laidLooks := .later }
def FnExactSurtUptoCardSaid : Prop := Claim7.holds Tryd.pinned (.plain (OpenSpec.upto fnExactSurtSpec)) fnExactSurtUptoCard
end Rows
end Go.Proofs.YtjifjfgehabkcaaDoor
