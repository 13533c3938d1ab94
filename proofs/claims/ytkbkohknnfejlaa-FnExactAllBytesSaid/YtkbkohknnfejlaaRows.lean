/-
  No cell of these rows narrows 'for every input' (looked for: loops, veiled, ifaces, maps, wideKeys, modest, calm, conditions, laid).
  DERIVED. THE GIVEN ROWS OF THIS SEAT. 11 by the template 'for every input the law returns true; each argument reads behind the call as it read before'; 0 by the template 'total and deterministic' (their statements: YtkbkohknnfejlaaTotals.lean).
  GIVEN WITH THE SEED: the statements are not yours to turn. If you find one false, say at which input.
  Laid BY PROGRAM, IN A SANDBOX (cutbox-rows.mjs): the forced cells as the released guide's own fill.sh prints them over the translation 9da26c7e10dd19a7… (all of the seat's roots in one cut). By AI agents, Wed Nov 11 2026. No macro, syntax, notation, axiom, sorry.
-/
import Derived.Test.YtkbkohknnfejlaaChecked
import GoSem.Claim
import GoSem.ClaimJoined
import GoSem.ClaimMapViews
import Derived.JoinedTies
import Derived.KernelRfl
namespace Go.Proofs.Ytkbkohknnfejlaa
/- THE CELL 'sum', in the pinned program and in every row, IS THE sha256 OF THE DUMP (.gsa) THAT YtkbkohknnfejlaaProg.lean LOADS. Nothing in Lean hashes anything: it is a label: what it is worth is what the hold of that sum in a sandbox is worth. -/
noncomputable def Try.pinned : Pinned := { name := "ytkbkohknnfejlaa", sum := "9da26c7e10dd19a7b642fe815cde0b70a626e887997a97e9dee62ba10df4839f", checked := Try.checked }
namespace Rows
def none {H : Type} : Left H := { results := [], args := [] }

/-- 'laws.FnExactKindName': WHATEVER THE INPUT: true; the input reads as it did. -/
def fnExactKindNameSpec : ChangeSpec := { name := "fnExactKindName", fn := fun _ => fun
  | [d] => { results := [.lit (.bool true)], args := [d] }
  | _ => none }
def fnExactKindNameRow : OpenClaim := { program := "ytkbkohknnfejlaa", sum := "9da26c7e10dd19a7b642fe815cde0b70a626e887997a97e9dee62ba10df4839f", func := "loop.example/g00651/laws.FnExactKindName", spec := "fnExactKindName", apart := false }
def FnExactKindNameSaid : Prop := fnExactKindNameRow.holds Try.pinned (OpenSpec.ofChange fnExactKindNameSpec)

/-- ITS FALSE NEIGHBOUR: 'it returns false'. Refute it at one input. -/
def fnExactKindNameWrong : ChangeSpec := { name := "fnExactKindName", fn := fun _ => fun
  | [d] => { results := [.lit (.bool false)], args := [d] }
  | _ => none }
def FnExactKindNameWrongFalsely : Prop := fnExactKindNameRow.holds Try.pinned (OpenSpec.ofChange fnExactKindNameWrong)

/-- 'laws.FnExactReasonOf': WHATEVER THE INPUT: true; the input reads as it did. -/
def fnExactReasonOfSpec : ChangeSpec := { name := "fnExactReasonOf", fn := fun _ => fun
  | [d] => { results := [.lit (.bool true)], args := [d] }
  | _ => none }
def fnExactReasonOfRow : OpenClaim := { program := "ytkbkohknnfejlaa", sum := "9da26c7e10dd19a7b642fe815cde0b70a626e887997a97e9dee62ba10df4839f", func := "loop.example/g00651/laws.FnExactReasonOf", spec := "fnExactReasonOf", apart := false }
def FnExactReasonOfSaid : Prop := fnExactReasonOfRow.holds Try.pinned (OpenSpec.ofChange fnExactReasonOfSpec)

/-- ITS FALSE NEIGHBOUR: 'it returns false'. Refute it at one input. -/
def fnExactReasonOfWrong : ChangeSpec := { name := "fnExactReasonOf", fn := fun _ => fun
  | [d] => { results := [.lit (.bool false)], args := [d] }
  | _ => none }
def FnExactReasonOfWrongFalsely : Prop := fnExactReasonOfRow.holds Try.pinned (OpenSpec.ofChange fnExactReasonOfWrong)

/-- 'laws.FnExactCompare': WHATEVER THE INPUT: true; the input reads as it did. -/
def fnExactCompareSpec : ChangeSpec := { name := "fnExactCompare", fn := fun _ => fun
  | [d1, d2] => { results := [.lit (.bool true)], args := [d1, d2] }
  | _ => none }
def fnExactCompareRow : OpenClaim := { program := "ytkbkohknnfejlaa", sum := "9da26c7e10dd19a7b642fe815cde0b70a626e887997a97e9dee62ba10df4839f", func := "loop.example/g00651/laws.FnExactCompare", spec := "fnExactCompare", apart := false }
def FnExactCompareSaid : Prop := fnExactCompareRow.holds Try.pinned (OpenSpec.ofChange fnExactCompareSpec)

/-- ITS FALSE NEIGHBOUR: 'it returns false'. Refute it at one input. -/
def fnExactCompareWrong : ChangeSpec := { name := "fnExactCompare", fn := fun _ => fun
  | [d1, d2] => { results := [.lit (.bool false)], args := [d1, d2] }
  | _ => none }
def FnExactCompareWrongFalsely : Prop := fnExactCompareRow.holds Try.pinned (OpenSpec.ofChange fnExactCompareWrong)

/-- 'laws.FnExactFieldOk': WHATEVER THE INPUT: true; the input reads as it did. -/
def fnExactFieldOkSpec : ChangeSpec := { name := "fnExactFieldOk", fn := fun _ => fun
  | [d] => { results := [.lit (.bool true)], args := [d] }
  | _ => none }
def fnExactFieldOkRow : OpenClaim := { program := "ytkbkohknnfejlaa", sum := "9da26c7e10dd19a7b642fe815cde0b70a626e887997a97e9dee62ba10df4839f", func := "loop.example/g00651/laws.FnExactFieldOk", spec := "fnExactFieldOk", inPlace := ["internal/bytealg.IndexByteString"], unfollowed := true, recurses := true, apart := false }
def FnExactFieldOkSaid : Prop := fnExactFieldOkRow.holds Try.pinned (OpenSpec.ofChange fnExactFieldOkSpec)

/-- ITS FALSE NEIGHBOUR: 'it returns false'. Refute it at one input. -/
def fnExactFieldOkWrong : ChangeSpec := { name := "fnExactFieldOk", fn := fun _ => fun
  | [d] => { results := [.lit (.bool false)], args := [d] }
  | _ => none }
def FnExactFieldOkWrongFalsely : Prop := fnExactFieldOkRow.holds Try.pinned (OpenSpec.ofChange fnExactFieldOkWrong)

/-- 'laws.FnExactFieldText': WHATEVER THE INPUT: true; the input reads as it did. -/
def fnExactFieldTextSpec : ChangeSpec := { name := "fnExactFieldText", fn := fun _ => fun
  | [d] => { results := [.lit (.bool true)], args := [d] }
  | _ => none }
def fnExactFieldTextRow : OpenClaim := { program := "ytkbkohknnfejlaa", sum := "9da26c7e10dd19a7b642fe815cde0b70a626e887997a97e9dee62ba10df4839f", func := "loop.example/g00651/laws.FnExactFieldText", spec := "fnExactFieldText", inPlace := ["internal/bytealg.IndexByteString"], unfollowed := true, recurses := true, apart := false }
def FnExactFieldTextSaid : Prop := fnExactFieldTextRow.holds Try.pinned (OpenSpec.ofChange fnExactFieldTextSpec)

/-- ITS FALSE NEIGHBOUR: 'it returns false'. Refute it at one input. -/
def fnExactFieldTextWrong : ChangeSpec := { name := "fnExactFieldText", fn := fun _ => fun
  | [d] => { results := [.lit (.bool false)], args := [d] }
  | _ => none }
def FnExactFieldTextWrongFalsely : Prop := fnExactFieldTextRow.holds Try.pinned (OpenSpec.ofChange fnExactFieldTextWrong)

/-- 'laws.FnExactHeadPart': WHATEVER THE INPUT: true; the input reads as it did. -/
def fnExactHeadPartSpec : ChangeSpec := { name := "fnExactHeadPart", fn := fun _ => fun
  | [d] => { results := [.lit (.bool true)], args := [d] }
  | _ => none }
def fnExactHeadPartRow : OpenClaim := { program := "ytkbkohknnfejlaa", sum := "9da26c7e10dd19a7b642fe815cde0b70a626e887997a97e9dee62ba10df4839f", func := "loop.example/g00651/laws.FnExactHeadPart", spec := "fnExactHeadPart", inPlace := ["internal/bytealg.IndexByteString", "internal/bytealg.IndexString"], named := ["internal/bytealg.MaxLen"], apart := false }
def FnExactHeadPartSaid : Prop := fnExactHeadPartRow.holds Try.pinned (OpenSpec.ofChange fnExactHeadPartSpec)

/-- ITS FALSE NEIGHBOUR: 'it returns false'. Refute it at one input. -/
def fnExactHeadPartWrong : ChangeSpec := { name := "fnExactHeadPart", fn := fun _ => fun
  | [d] => { results := [.lit (.bool false)], args := [d] }
  | _ => none }
def FnExactHeadPartWrongFalsely : Prop := fnExactHeadPartRow.holds Try.pinned (OpenSpec.ofChange fnExactHeadPartWrong)

/-- 'laws.FnExactPayload': WHATEVER THE INPUT: true; the input reads as it did. -/
def fnExactPayloadSpec : ChangeSpec := { name := "fnExactPayload", fn := fun _ => fun
  | [d] => { results := [.lit (.bool true)], args := [d] }
  | _ => none }
def fnExactPayloadRow : OpenClaim := { program := "ytkbkohknnfejlaa", sum := "9da26c7e10dd19a7b642fe815cde0b70a626e887997a97e9dee62ba10df4839f", func := "loop.example/g00651/laws.FnExactPayload", spec := "fnExactPayload", inPlace := ["internal/bytealg.IndexByteString", "internal/bytealg.IndexString"], named := ["internal/bytealg.MaxLen"], apart := false }
def FnExactPayloadSaid : Prop := fnExactPayloadRow.holds Try.pinned (OpenSpec.ofChange fnExactPayloadSpec)

/-- ITS FALSE NEIGHBOUR: 'it returns false'. Refute it at one input. -/
def fnExactPayloadWrong : ChangeSpec := { name := "fnExactPayload", fn := fun _ => fun
  | [d] => { results := [.lit (.bool false)], args := [d] }
  | _ => none }
def FnExactPayloadWrongFalsely : Prop := fnExactPayloadRow.holds Try.pinned (OpenSpec.ofChange fnExactPayloadWrong)

/-- 'laws.FnExactUsed': WHATEVER THE INPUT: true; the input reads as it did. -/
def fnExactUsedSpec : ChangeSpec := { name := "fnExactUsed", fn := fun _ => fun
  | [d] => { results := [.lit (.bool true)], args := [d] }
  | _ => none }
def fnExactUsedRow : OpenClaim := { program := "ytkbkohknnfejlaa", sum := "9da26c7e10dd19a7b642fe815cde0b70a626e887997a97e9dee62ba10df4839f", func := "loop.example/g00651/laws.FnExactUsed", spec := "fnExactUsed", apart := false }
def FnExactUsedSaid : Prop := fnExactUsedRow.holds Try.pinned (OpenSpec.ofChange fnExactUsedSpec)

/-- ITS FALSE NEIGHBOUR: 'it returns false'. Refute it at one input. -/
def fnExactUsedWrong : ChangeSpec := { name := "fnExactUsed", fn := fun _ => fun
  | [d] => { results := [.lit (.bool false)], args := [d] }
  | _ => none }
def FnExactUsedWrongFalsely : Prop := fnExactUsedRow.holds Try.pinned (OpenSpec.ofChange fnExactUsedWrong)

/-- 'laws.FnExactReadAt': WHATEVER THE INPUT: true; the input reads as it did. -/
def fnExactReadAtSpec : ChangeSpec := { name := "fnExactReadAt", fn := fun _ => fun
  | [d1, d2, d3, d4] => { results := [.lit (.bool true)], args := [d1, d2, d3, d4] }
  | _ => none }
def fnExactReadAtRow : OpenClaim := { program := "ytkbkohknnfejlaa", sum := "9da26c7e10dd19a7b642fe815cde0b70a626e887997a97e9dee62ba10df4839f", func := "loop.example/g00651/laws.FnExactReadAt", spec := "fnExactReadAt", apart := false }
def FnExactReadAtSaid : Prop := fnExactReadAtRow.holds Try.pinned (OpenSpec.ofChange fnExactReadAtSpec)

/-- ITS FALSE NEIGHBOUR: 'it returns false'. Refute it at one input. -/
def fnExactReadAtWrong : ChangeSpec := { name := "fnExactReadAt", fn := fun _ => fun
  | [d1, d2, d3, d4] => { results := [.lit (.bool false)], args := [d1, d2, d3, d4] }
  | _ => none }
def FnExactReadAtWrongFalsely : Prop := fnExactReadAtRow.holds Try.pinned (OpenSpec.ofChange fnExactReadAtWrong)

/-- 'laws.FnExactAllBytes': WHATEVER THE INPUT: true; the input reads as it did. -/
def fnExactAllBytesSpec : ChangeSpec := { name := "fnExactAllBytes", fn := fun _ => fun
  | [d] => { results := [.lit (.bool true)], args := [d] }
  | _ => none }
def fnExactAllBytesRow : OpenClaim := { program := "ytkbkohknnfejlaa", sum := "9da26c7e10dd19a7b642fe815cde0b70a626e887997a97e9dee62ba10df4839f", func := "loop.example/g00651/laws.FnExactAllBytes", spec := "fnExactAllBytes", inPlace := ["internal/abi.NoEscape"], apart := false }
def FnExactAllBytesSaid : Prop := fnExactAllBytesRow.holds Try.pinned (OpenSpec.ofChange fnExactAllBytesSpec)

/-- ITS FALSE NEIGHBOUR: 'it returns false'. Refute it at one input. -/
def fnExactAllBytesWrong : ChangeSpec := { name := "fnExactAllBytes", fn := fun _ => fun
  | [d] => { results := [.lit (.bool false)], args := [d] }
  | _ => none }
def FnExactAllBytesWrongFalsely : Prop := fnExactAllBytesRow.holds Try.pinned (OpenSpec.ofChange fnExactAllBytesWrong)

/-- 'laws.FnExactFieldsOk': WHATEVER THE INPUT: true; the input reads as it did. -/
def fnExactFieldsOkSpec : ChangeSpec := { name := "fnExactFieldsOk", fn := fun _ => fun
  | [d] => { results := [.lit (.bool true)], args := [d] }
  | _ => none }
def fnExactFieldsOkRow : OpenClaim := { program := "ytkbkohknnfejlaa", sum := "9da26c7e10dd19a7b642fe815cde0b70a626e887997a97e9dee62ba10df4839f", func := "loop.example/g00651/laws.FnExactFieldsOk", spec := "fnExactFieldsOk", inPlace := ["internal/bytealg.IndexByteString"], unfollowed := true, recurses := true, apart := false }
def FnExactFieldsOkSaid : Prop := fnExactFieldsOkRow.holds Try.pinned (OpenSpec.ofChange fnExactFieldsOkSpec)

/-- ITS FALSE NEIGHBOUR: 'it returns false'. Refute it at one input. -/
def fnExactFieldsOkWrong : ChangeSpec := { name := "fnExactFieldsOk", fn := fun _ => fun
  | [d] => { results := [.lit (.bool false)], args := [d] }
  | _ => none }
def FnExactFieldsOkWrongFalsely : Prop := fnExactFieldsOkRow.holds Try.pinned (OpenSpec.ofChange fnExactFieldsOkWrong)

/- THE SECOND FORM. 'bulk': how many values and letters a reading holds, each counted each time it is reached (what is shared counts as often as it is met; a slice's spare places count too). A statement '..UptoSaid' is the law's where the arguments, and the package variables that the reading takes, are together of bulk at most 1048576: NARROWER than '..Said'. Prove '..Said' where nothing that the law and all that it calls make is longer than what came in: it says more and counts as full. Else prove '..UptoSaid'. A law counts once. -/
mutual
def uptoBulk {H : Type} : DataW H → Nat
  | .lit (.string bytes) => bytes.length + 1
  | .lit _ => 1
  | .nil => 1
  | .ptr d => uptoBulk d + 1
  | .slice elems spare => uptoBulkAll elems + uptoBulkAll spare + 1
  | .agg parts => uptoBulkAll parts + 1
  | .iface _ d => uptoBulk d + 1
  | .map entries => uptoBulkEntries entries + 1
  | .held _ => 1
def uptoBulkAll {H : Type} : List (DataW H) → Nat
  | [] => 0
  | d :: r => uptoBulk d + uptoBulkAll r
def uptoBulkEntries {H : Type} : List (Lit × DataW H) → Nat
  | [] => 0
  | x :: r => uptoBulkEntry x + uptoBulkEntries r
def uptoBulkEntry {H : Type} : Lit × DataW H → Nat
  | (.string bytes, d) => bytes.length + uptoBulk d + 1
  | (_, d) => uptoBulk d + 1
 end
def uptoSmall : (H : Type) → List (DataW H) → Bool := fun _ ds => decide (uptoBulkAll ds ≤ 1048576)
def OpenSpec.upto (s : _root_.Go.ChangeSpec) : _root_.Go.OpenSpec := { _root_.Go.OpenSpec.ofChange s with cond := some uptoSmall }

/-- 'laws.FnExactKindName', WHERE WHAT IT READS IS OF BULK AT MOST 1048576: true; the input reads as it did. -/
def fnExactKindNameUptoRow : OpenClaim := { program := "ytkbkohknnfejlaa", sum := "9da26c7e10dd19a7b642fe815cde0b70a626e887997a97e9dee62ba10df4839f", func := "loop.example/g00651/laws.FnExactKindName", spec := "fnExactKindName", apart := false, narrowed := true }
def FnExactKindNameUptoSaid : Prop := fnExactKindNameUptoRow.holds Try.pinned (OpenSpec.upto fnExactKindNameSpec)

/-- 'laws.FnExactReasonOf', WHERE WHAT IT READS IS OF BULK AT MOST 1048576: true; the input reads as it did. -/
def fnExactReasonOfUptoRow : OpenClaim := { program := "ytkbkohknnfejlaa", sum := "9da26c7e10dd19a7b642fe815cde0b70a626e887997a97e9dee62ba10df4839f", func := "loop.example/g00651/laws.FnExactReasonOf", spec := "fnExactReasonOf", apart := false, narrowed := true }
def FnExactReasonOfUptoSaid : Prop := fnExactReasonOfUptoRow.holds Try.pinned (OpenSpec.upto fnExactReasonOfSpec)

/-- 'laws.FnExactCompare', WHERE WHAT IT READS IS OF BULK AT MOST 1048576: true; the input reads as it did. -/
def fnExactCompareUptoRow : OpenClaim := { program := "ytkbkohknnfejlaa", sum := "9da26c7e10dd19a7b642fe815cde0b70a626e887997a97e9dee62ba10df4839f", func := "loop.example/g00651/laws.FnExactCompare", spec := "fnExactCompare", apart := false, narrowed := true }
def FnExactCompareUptoSaid : Prop := fnExactCompareUptoRow.holds Try.pinned (OpenSpec.upto fnExactCompareSpec)

/-- 'laws.FnExactFieldOk', WHERE WHAT IT READS IS OF BULK AT MOST 1048576: true; the input reads as it did. -/
def fnExactFieldOkUptoRow : OpenClaim := { program := "ytkbkohknnfejlaa", sum := "9da26c7e10dd19a7b642fe815cde0b70a626e887997a97e9dee62ba10df4839f", func := "loop.example/g00651/laws.FnExactFieldOk", spec := "fnExactFieldOk", inPlace := ["internal/bytealg.IndexByteString"], unfollowed := true, recurses := true, apart := false, narrowed := true }
def FnExactFieldOkUptoSaid : Prop := fnExactFieldOkUptoRow.holds Try.pinned (OpenSpec.upto fnExactFieldOkSpec)

/-- 'laws.FnExactFieldText', WHERE WHAT IT READS IS OF BULK AT MOST 1048576: true; the input reads as it did. -/
def fnExactFieldTextUptoRow : OpenClaim := { program := "ytkbkohknnfejlaa", sum := "9da26c7e10dd19a7b642fe815cde0b70a626e887997a97e9dee62ba10df4839f", func := "loop.example/g00651/laws.FnExactFieldText", spec := "fnExactFieldText", inPlace := ["internal/bytealg.IndexByteString"], unfollowed := true, recurses := true, apart := false, narrowed := true }
def FnExactFieldTextUptoSaid : Prop := fnExactFieldTextUptoRow.holds Try.pinned (OpenSpec.upto fnExactFieldTextSpec)

/-- 'laws.FnExactHeadPart', WHERE WHAT IT READS IS OF BULK AT MOST 1048576: true; the input reads as it did. -/
def fnExactHeadPartUptoRow : OpenClaim := { program := "ytkbkohknnfejlaa", sum := "9da26c7e10dd19a7b642fe815cde0b70a626e887997a97e9dee62ba10df4839f", func := "loop.example/g00651/laws.FnExactHeadPart", spec := "fnExactHeadPart", inPlace := ["internal/bytealg.IndexByteString", "internal/bytealg.IndexString"], named := ["internal/bytealg.MaxLen"], apart := false, narrowed := true }
def FnExactHeadPartUptoSaid : Prop := fnExactHeadPartUptoRow.holds Try.pinned (OpenSpec.upto fnExactHeadPartSpec)

/-- 'laws.FnExactPayload', WHERE WHAT IT READS IS OF BULK AT MOST 1048576: true; the input reads as it did. -/
def fnExactPayloadUptoRow : OpenClaim := { program := "ytkbkohknnfejlaa", sum := "9da26c7e10dd19a7b642fe815cde0b70a626e887997a97e9dee62ba10df4839f", func := "loop.example/g00651/laws.FnExactPayload", spec := "fnExactPayload", inPlace := ["internal/bytealg.IndexByteString", "internal/bytealg.IndexString"], named := ["internal/bytealg.MaxLen"], apart := false, narrowed := true }
def FnExactPayloadUptoSaid : Prop := fnExactPayloadUptoRow.holds Try.pinned (OpenSpec.upto fnExactPayloadSpec)

/-- 'laws.FnExactUsed', WHERE WHAT IT READS IS OF BULK AT MOST 1048576: true; the input reads as it did. -/
def fnExactUsedUptoRow : OpenClaim := { program := "ytkbkohknnfejlaa", sum := "9da26c7e10dd19a7b642fe815cde0b70a626e887997a97e9dee62ba10df4839f", func := "loop.example/g00651/laws.FnExactUsed", spec := "fnExactUsed", apart := false, narrowed := true }
def FnExactUsedUptoSaid : Prop := fnExactUsedUptoRow.holds Try.pinned (OpenSpec.upto fnExactUsedSpec)

/-- 'laws.FnExactReadAt', WHERE WHAT IT READS IS OF BULK AT MOST 1048576: true; the input reads as it did. -/
def fnExactReadAtUptoRow : OpenClaim := { program := "ytkbkohknnfejlaa", sum := "9da26c7e10dd19a7b642fe815cde0b70a626e887997a97e9dee62ba10df4839f", func := "loop.example/g00651/laws.FnExactReadAt", spec := "fnExactReadAt", apart := false, narrowed := true }
def FnExactReadAtUptoSaid : Prop := fnExactReadAtUptoRow.holds Try.pinned (OpenSpec.upto fnExactReadAtSpec)

/-- 'laws.FnExactAllBytes', WHERE WHAT IT READS IS OF BULK AT MOST 1048576: true; the input reads as it did. -/
def fnExactAllBytesUptoRow : OpenClaim := { program := "ytkbkohknnfejlaa", sum := "9da26c7e10dd19a7b642fe815cde0b70a626e887997a97e9dee62ba10df4839f", func := "loop.example/g00651/laws.FnExactAllBytes", spec := "fnExactAllBytes", inPlace := ["internal/abi.NoEscape"], apart := false, narrowed := true }
def FnExactAllBytesUptoSaid : Prop := fnExactAllBytesUptoRow.holds Try.pinned (OpenSpec.upto fnExactAllBytesSpec)

/-- 'laws.FnExactFieldsOk', WHERE WHAT IT READS IS OF BULK AT MOST 1048576: true; the input reads as it did. -/
def fnExactFieldsOkUptoRow : OpenClaim := { program := "ytkbkohknnfejlaa", sum := "9da26c7e10dd19a7b642fe815cde0b70a626e887997a97e9dee62ba10df4839f", func := "loop.example/g00651/laws.FnExactFieldsOk", spec := "fnExactFieldsOk", inPlace := ["internal/bytealg.IndexByteString"], unfollowed := true, recurses := true, apart := false, narrowed := true }
def FnExactFieldsOkUptoSaid : Prop := fnExactFieldsOkUptoRow.holds Try.pinned (OpenSpec.upto fnExactFieldsOkSpec)

end Rows
end Go.Proofs.Ytkbkohknnfejlaa
