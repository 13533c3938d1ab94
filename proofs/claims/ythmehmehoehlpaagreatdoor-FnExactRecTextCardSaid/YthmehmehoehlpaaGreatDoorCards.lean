/-
  DERIVED. GIVEN WITH THE SEED: THE CARDS: each row of YthmehmehoehlpaaGreatDoorRows.lean that lists a variable, with what it lists TIED to the program's text (the seventh form; the later family's looks); each row that meets fmt, with fmt's text TOLD by the authors' own Lean function (tested against real Go, not proved from fmt's source: count such statements apart). THE CARD IS WHAT COUNTS. Prove the row's statement (the work); the ties are given (YthmehmehoehlpaaGreatDoorTie.lean); close each card by the builder's one call (the guide's Derived/Test/ToyasCard.lean, 'card_holds'). Laid BY PROGRAM, IN A SANDBOX (cutbox-door.mjs). By AI agents, Wed Nov 11 2026. No macro, syntax, notation, axiom, sorry.
-/
import Derived.Test.YthmehmehoehlpaaGreatDoorRows
import GoSem.ClaimSeven
namespace Go.Proofs.YthmehmehoehlpaaGreatDoor
namespace Rows

/-- THE TIED CARD OF 'laws.FnExactRecText'. -/
def fnExactRecTextCard : Claim7 := { stood := { row := fnExactRecTextRow, standIns := [], harness := (true, "e7ecedc19399fe683d6e7615fba9f661121e7186a5ad0462a1bfc613254175a5"), looks := true }, kinds := [], alts := [], laidByText := true, laidKinds := [.data, .data, .data, .data, .sentinel, .sentinel, .pinned], laidTests := true, laidLooks := .later }
def FnExactRecTextCardSaid : Prop := Claim7.holds Tryz.pinned (.plain (OpenSpec.ofChange fnExactRecTextSpec)) fnExactRecTextCard

/-- THE SECOND FORM's CARD OF 'laws.FnExactRecText'. -/
def fnExactRecTextUptoCard : Claim7 := { stood := { row := fnExactRecTextUptoRow, standIns := [], harness := (true, "e7ecedc19399fe683d6e7615fba9f661121e7186a5ad0462a1bfc613254175a5"), looks := true }, kinds := [], alts := [], laidByText := true, laidKinds := [.data, .data, .data, .data, .sentinel, .sentinel, .pinned], laidTests := true, laidLooks := .later }
def FnExactRecTextUptoCardSaid : Prop := Claim7.holds Tryz.pinned (.plain (OpenSpec.upto fnExactRecTextSpec)) fnExactRecTextUptoCard
end Rows
end Go.Proofs.YthmehmehoehlpaaGreatDoor
