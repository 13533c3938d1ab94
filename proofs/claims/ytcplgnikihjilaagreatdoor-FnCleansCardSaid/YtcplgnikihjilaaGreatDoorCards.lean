/-
  DERIVED. GIVEN WITH THE SEED: THE CARDS: each row of YtcplgnikihjilaaGreatDoorRows.lean that lists a variable, with what it lists TIED to the program's text (the seventh form; the later family's looks); each row that meets fmt, with fmt's text TOLD by the authors' own Lean function (tested against real Go, not proved from fmt's source: count such statements apart). THE CARD IS WHAT COUNTS. Prove the row's statement (the work); the ties are given (YtcplgnikihjilaaGreatDoorTie.lean); close each card by the builder's one call (the guide's Derived/Test/ToyasCard.lean, 'card_holds'). Laid BY PROGRAM, IN A SANDBOX (cutbox-door.mjs). By AI agents, Wed Nov 11 2026. No macro, syntax, notation, axiom, sorry.
-/
import Derived.Test.YtcplgnikihjilaaGreatDoorRows
import GoSem.ClaimSeven
namespace Go.Proofs.YtcplgnikihjilaaGreatDoor
namespace Rows

/-- THE TIED CARD OF 'laws.FnExactReadUrl'. -/
def fnExactReadUrlCard : Claim7 := { stood := { row := fnExactReadUrlRow, standIns := [], harness := (true, "80913af981891f7a3c7a9d76e176ae3209dca6527d4c13a51a61c2b8af7dfe62"), looks := true }, kinds := [], alts := [], laidByText := true, laidKinds := [.data, .data, .data, .data, .sentinel, .sentinel, .pinned], laidTests := true, laidLooks := .later }
def FnExactReadUrlCardSaid : Prop := Claim7.holds Tryz.pinned (.plain (OpenSpec.ofChange fnExactReadUrlSpec)) fnExactReadUrlCard

/-- THE TIED CARD OF 'laws.FnExactUnsurt'. -/
def fnExactUnsurtCard : Claim7 := { stood := { row := fnExactUnsurtRow, standIns := [], harness := (true, "80913af981891f7a3c7a9d76e176ae3209dca6527d4c13a51a61c2b8af7dfe62"), looks := true }, kinds := [], alts := [], laidByText := true, laidKinds := [.data, .data, .data, .data, .sentinel, .sentinel, .pinned], laidTests := true, laidLooks := .later }
def FnExactUnsurtCardSaid : Prop := Claim7.holds Tryz.pinned (.plain (OpenSpec.ofChange fnExactUnsurtSpec)) fnExactUnsurtCard

/-- THE TIED CARD OF 'laws.FnExactCanon'. -/
def fnExactCanonCard : Claim7 := { stood := { row := fnExactCanonRow, standIns := [], harness := (true, "80913af981891f7a3c7a9d76e176ae3209dca6527d4c13a51a61c2b8af7dfe62"), looks := true }, kinds := [], alts := [], laidByText := true, laidKinds := [.data, .data, .data, .data, .sentinel, .sentinel, .pinned], laidTests := true, laidLooks := .later }
def FnExactCanonCardSaid : Prop := Claim7.holds Tryz.pinned (.plain (OpenSpec.ofChange fnExactCanonSpec)) fnExactCanonCard

/-- THE TIED CARD OF 'laws.FnExactGrammar'. -/
def fnExactGrammarCard : Claim7 := { stood := { row := fnExactGrammarRow, standIns := [], harness := (true, "80913af981891f7a3c7a9d76e176ae3209dca6527d4c13a51a61c2b8af7dfe62"), looks := true }, kinds := [], alts := [], laidByText := true, laidKinds := [.data, .data, .data, .sentinel, .sentinel], laidTests := true, laidLooks := .later }
def FnExactGrammarCardSaid : Prop := Claim7.holds Tryz.pinned (.plain (OpenSpec.ofChange fnExactGrammarSpec)) fnExactGrammarCard

/-- THE TIED CARD OF 'laws.FnCleans'. -/
def fnCleansCard : Claim7 := { stood := { row := fnCleansRow, standIns := [], harness := (true, "80913af981891f7a3c7a9d76e176ae3209dca6527d4c13a51a61c2b8af7dfe62"), looks := true }, kinds := [], alts := [], laidByText := true, laidKinds := [.data, .data, .data, .data, .sentinel, .sentinel, .pinned], laidTests := true, laidLooks := .later }
def FnCleansCardSaid : Prop := Claim7.holds Tryz.pinned (.plain (OpenSpec.ofChange fnCleansSpec)) fnCleansCard

/-- THE TIED CARD OF 'laws.FnChunks'. -/
def fnChunksCard : Claim7 := { stood := { row := fnChunksRow, standIns := [], harness := (true, "80913af981891f7a3c7a9d76e176ae3209dca6527d4c13a51a61c2b8af7dfe62"), looks := true }, kinds := [], alts := [], laidByText := true, laidKinds := [.data, .data, .data, .data, .sentinel, .sentinel, .pinned], laidTests := true, laidLooks := .later }
def FnChunksCardSaid : Prop := Claim7.holds Tryz.pinned (.plain (OpenSpec.ofChange fnChunksSpec)) fnChunksCard

/-- THE SECOND FORM's CARD OF 'laws.FnExactReadUrl'. -/
def fnExactReadUrlUptoCard : Claim7 := { stood := { row := fnExactReadUrlUptoRow, standIns := [], harness := (true, "80913af981891f7a3c7a9d76e176ae3209dca6527d4c13a51a61c2b8af7dfe62"), looks := true }, kinds := [], alts := [], laidByText := true, laidKinds := [.data, .data, .data, .data, .sentinel, .sentinel, .pinned], laidTests := true, laidLooks := .later }
def FnExactReadUrlUptoCardSaid : Prop := Claim7.holds Tryz.pinned (.plain (OpenSpec.upto fnExactReadUrlSpec)) fnExactReadUrlUptoCard

/-- THE SECOND FORM's CARD OF 'laws.FnExactUnsurt'. -/
def fnExactUnsurtUptoCard : Claim7 := { stood := { row := fnExactUnsurtUptoRow, standIns := [], harness := (true, "80913af981891f7a3c7a9d76e176ae3209dca6527d4c13a51a61c2b8af7dfe62"), looks := true }, kinds := [], alts := [], laidByText := true, laidKinds := [.data, .data, .data, .data, .sentinel, .sentinel, .pinned], laidTests := true, laidLooks := .later }
def FnExactUnsurtUptoCardSaid : Prop := Claim7.holds Tryz.pinned (.plain (OpenSpec.upto fnExactUnsurtSpec)) fnExactUnsurtUptoCard

/-- THE SECOND FORM's CARD OF 'laws.FnExactCanon'. -/
def fnExactCanonUptoCard : Claim7 := { stood := { row := fnExactCanonUptoRow, standIns := [], harness := (true, "80913af981891f7a3c7a9d76e176ae3209dca6527d4c13a51a61c2b8af7dfe62"), looks := true }, kinds := [], alts := [], laidByText := true, laidKinds := [.data, .data, .data, .data, .sentinel, .sentinel, .pinned], laidTests := true, laidLooks := .later }
def FnExactCanonUptoCardSaid : Prop := Claim7.holds Tryz.pinned (.plain (OpenSpec.upto fnExactCanonSpec)) fnExactCanonUptoCard

/-- THE SECOND FORM's CARD OF 'laws.FnExactGrammar'. -/
def fnExactGrammarUptoCard : Claim7 := { stood := { row := fnExactGrammarUptoRow, standIns := [], harness := (true, "80913af981891f7a3c7a9d76e176ae3209dca6527d4c13a51a61c2b8af7dfe62"), looks := true }, kinds := [], alts := [], laidByText := true, laidKinds := [.data, .data, .data, .sentinel, .sentinel], laidTests := true, laidLooks := .later }
def FnExactGrammarUptoCardSaid : Prop := Claim7.holds Tryz.pinned (.plain (OpenSpec.upto fnExactGrammarSpec)) fnExactGrammarUptoCard

/-- THE SECOND FORM's CARD OF 'laws.FnCleans'. -/
def fnCleansUptoCard : Claim7 := { stood := { row := fnCleansUptoRow, standIns := [], harness := (true, "80913af981891f7a3c7a9d76e176ae3209dca6527d4c13a51a61c2b8af7dfe62"), looks := true }, kinds := [], alts := [], laidByText := true, laidKinds := [.data, .data, .data, .data, .sentinel, .sentinel, .pinned], laidTests := true, laidLooks := .later }
def FnCleansUptoCardSaid : Prop := Claim7.holds Tryz.pinned (.plain (OpenSpec.upto fnCleansSpec)) fnCleansUptoCard

/-- THE SECOND FORM's CARD OF 'laws.FnChunks'. -/
def fnChunksUptoCard : Claim7 := { stood := { row := fnChunksUptoRow, standIns := [], harness := (true, "80913af981891f7a3c7a9d76e176ae3209dca6527d4c13a51a61c2b8af7dfe62"), looks := true }, kinds := [], alts := [], laidByText := true, laidKinds := [.data, .data, .data, .data, .sentinel, .sentinel, .pinned], laidTests := true, laidLooks := .later }
def FnChunksUptoCardSaid : Prop := Claim7.holds Tryz.pinned (.plain (OpenSpec.upto fnChunksSpec)) fnChunksUptoCard
end Rows
end Go.Proofs.YtcplgnikihjilaaGreatDoor
