/-
  DERIVED. GIVEN WITH THE SEED: THE CARDS: each row of YtkbkohknnfejlaaDoorRows.lean that lists a variable, with what it lists TIED to the program's text (the seventh form; the later family's looks); each row that meets fmt, with fmt's text TOLD by the authors' own Lean function (tested against real Go, not proved from fmt's source: count such statements apart). THE CARD IS WHAT COUNTS. Prove the row's statement (the work); the ties are given (YtkbkohknnfejlaaDoorTie.lean); close each card by the builder's one call (the guide's Derived/Test/ToyasCard.lean, 'card_holds'). Laid BY PROGRAM, IN A SANDBOX (cutbox-door.mjs). By AI agents, Wed Nov 11 2026. No macro, syntax, notation, axiom, sorry.
-/
import Derived.Test.YtkbkohknnfejlaaDoorRows
import GoSem.ClaimSeven
namespace Go.Proofs.YtkbkohknnfejlaaDoor
namespace Rows

/-- THE TIED CARD OF 'laws.FnExactIdText'. -/
def fnExactIdTextCard : Claim7 := { stood := { row := fnExactIdTextRow, standIns := [], harness := (true, "423b9207bef5f09334382623fa02117e8a947b8953f953b3b1fa27f5f4923129"), looks := false }, kinds := [], alts := [], laidByText := true, laidKinds := [.data, .data, .data], laidTests := true, laidLooks := .later }
def FnExactIdTextCardSaid : Prop := Claim7.holds Tryd.pinned (.plain (OpenSpec.ofChange fnExactIdTextSpec)) fnExactIdTextCard

/-- THE SECOND FORM's CARD OF 'laws.FnExactIdText'. -/
def fnExactIdTextUptoCard : Claim7 := { stood := { row := fnExactIdTextUptoRow, standIns := [], harness := (true, "423b9207bef5f09334382623fa02117e8a947b8953f953b3b1fa27f5f4923129"), looks := false }, kinds := [], alts := [], laidByText := true, laidKinds := [.data, .data, .data], laidTests := true, laidLooks := .later }
def FnExactIdTextUptoCardSaid : Prop := Claim7.holds Tryd.pinned (.plain (OpenSpec.upto fnExactIdTextSpec)) fnExactIdTextUptoCard
end Rows
end Go.Proofs.YtkbkohknnfejlaaDoor
