/-
  No cell of these rows narrows 'for every input' (looked for: loops, veiled, ifaces, maps, wideKeys, modest, calm, conditions, laid).
  DERIVED. THE GIVEN ROWS OF THIS SEAT. 5 by the template 'for every input the law returns true; each argument reads behind the call as it read before'; 0 by the template 'total and deterministic' (their statements: YtnfjjbpochmhpaaTotals.lean).
  GIVEN WITH THE SEED: the statements are not yours to turn. If you find one false, say at which input.
  Laid BY PROGRAM, IN A SANDBOX (cutbox-rows.mjs): the forced cells as the released guide's own fill.sh prints them over the translation 77d33fa0f1274f6a… (all of the seat's roots in one cut). By AI agents, Wed Nov 11 2026. No macro, syntax, notation, axiom, sorry.
-/
import Derived.Test.YtnfjjbpochmhpaaChecked
import GoSem.Claim
import GoSem.ClaimJoined
import GoSem.ClaimMapViews
import Derived.JoinedTies
import Derived.KernelRfl
namespace Go.Proofs.Ytnfjjbpochmhpaa
/- THE CELL 'sum', in the pinned program and in every row, IS THE sha256 OF THE DUMP (.gsa) THAT YtnfjjbpochmhpaaProg.lean LOADS. Nothing in Lean hashes anything: it is a label: what it is worth is what the hold of that sum in a sandbox is worth. -/
noncomputable def Try.pinned : Pinned := { name := "ytnfjjbpochmhpaa", sum := "77d33fa0f1274f6a9734ce5d2806737d4038bc3a332b7d9c5d7def4e605af04c", checked := Try.checked }
namespace Rows
def none {H : Type} : Left H := { results := [], args := [] }

/-- 'laws.FnExactReadField': WHATEVER THE INPUT: true; the input reads as it did. -/
def fnExactReadFieldSpec : ChangeSpec := { name := "fnExactReadField", fn := fun _ => fun
  | [d] => { results := [.lit (.bool true)], args := [d] }
  | _ => none }
def fnExactReadFieldRow : OpenClaim := { program := "ytnfjjbpochmhpaa", sum := "77d33fa0f1274f6a9734ce5d2806737d4038bc3a332b7d9c5d7def4e605af04c", func := "loop.example/g00651/laws.FnExactReadField", spec := "fnExactReadField", inPlace := ["internal/bytealg.IndexByteString", "internal/bytealg.IndexString"], unfollowed := true, recurses := true, named := ["internal/bytealg.MaxLen"], apart := false }
def FnExactReadFieldSaid : Prop := fnExactReadFieldRow.holds Try.pinned (OpenSpec.ofChange fnExactReadFieldSpec)

/-- ITS FALSE NEIGHBOUR: 'it returns false'. Refute it at one input. -/
def fnExactReadFieldWrong : ChangeSpec := { name := "fnExactReadField", fn := fun _ => fun
  | [d] => { results := [.lit (.bool false)], args := [d] }
  | _ => none }
def FnExactReadFieldWrongFalsely : Prop := fnExactReadFieldRow.holds Try.pinned (OpenSpec.ofChange fnExactReadFieldWrong)

/-- 'laws.FnExactGet': WHATEVER THE INPUT: true; the input reads as it did. -/
def fnExactGetSpec : ChangeSpec := { name := "fnExactGet", fn := fun _ => fun
  | [d1, d2] => { results := [.lit (.bool true)], args := [d1, d2] }
  | _ => none }
def fnExactGetRow : OpenClaim := { program := "ytnfjjbpochmhpaa", sum := "77d33fa0f1274f6a9734ce5d2806737d4038bc3a332b7d9c5d7def4e605af04c", func := "loop.example/g00651/laws.FnExactGet", spec := "fnExactGet", inPlace := ["internal/bytealg.IndexByteString"], unfollowed := true, recurses := true, apart := false }
def FnExactGetSaid : Prop := fnExactGetRow.holds Try.pinned (OpenSpec.ofChange fnExactGetSpec)

/-- ITS FALSE NEIGHBOUR: 'it returns false'. Refute it at one input. -/
def fnExactGetWrong : ChangeSpec := { name := "fnExactGet", fn := fun _ => fun
  | [d1, d2] => { results := [.lit (.bool false)], args := [d1, d2] }
  | _ => none }
def FnExactGetWrongFalsely : Prop := fnExactGetRow.holds Try.pinned (OpenSpec.ofChange fnExactGetWrong)

/-- 'laws.FnExactJoined': WHATEVER THE INPUT: true; the input reads as it did. -/
def fnExactJoinedSpec : ChangeSpec := { name := "fnExactJoined", fn := fun _ => fun
  | [d1, d2] => { results := [.lit (.bool true)], args := [d1, d2] }
  | _ => none }
def fnExactJoinedRow : OpenClaim := { program := "ytnfjjbpochmhpaa", sum := "77d33fa0f1274f6a9734ce5d2806737d4038bc3a332b7d9c5d7def4e605af04c", func := "loop.example/g00651/laws.FnExactJoined", spec := "fnExactJoined", inPlace := ["internal/bytealg.IndexByteString", "internal/abi.NoEscape", "internal/bytealg.MakeNoZero"], unfollowed := true, recurses := true, apart := false }
def FnExactJoinedSaid : Prop := fnExactJoinedRow.holds Try.pinned (OpenSpec.ofChange fnExactJoinedSpec)

/-- ITS FALSE NEIGHBOUR: 'it returns false'. Refute it at one input. -/
def fnExactJoinedWrong : ChangeSpec := { name := "fnExactJoined", fn := fun _ => fun
  | [d1, d2] => { results := [.lit (.bool false)], args := [d1, d2] }
  | _ => none }
def FnExactJoinedWrongFalsely : Prop := fnExactJoinedRow.holds Try.pinned (OpenSpec.ofChange fnExactJoinedWrong)

/-- 'laws.FnExactChunks': WHATEVER THE INPUT: true; the input reads as it did. -/
def fnExactChunksSpec : ChangeSpec := { name := "fnExactChunks", fn := fun _ => fun
  | [d] => { results := [.lit (.bool true)], args := [d] }
  | _ => none }
def fnExactChunksRow : OpenClaim := { program := "ytnfjjbpochmhpaa", sum := "77d33fa0f1274f6a9734ce5d2806737d4038bc3a332b7d9c5d7def4e605af04c", func := "loop.example/g00651/laws.FnExactChunks", spec := "fnExactChunks", inPlace := ["internal/bytealg.IndexByteString", "internal/bytealg.IndexString"], unfollowed := true, recurses := true, named := ["internal/bytealg.MaxLen"], apart := false }
def FnExactChunksSaid : Prop := fnExactChunksRow.holds Try.pinned (OpenSpec.ofChange fnExactChunksSpec)

/-- ITS FALSE NEIGHBOUR: 'it returns false'. Refute it at one input. -/
def fnExactChunksWrong : ChangeSpec := { name := "fnExactChunks", fn := fun _ => fun
  | [d] => { results := [.lit (.bool false)], args := [d] }
  | _ => none }
def FnExactChunksWrongFalsely : Prop := fnExactChunksRow.holds Try.pinned (OpenSpec.ofChange fnExactChunksWrong)

/-- 'laws.FnFieldLines': WHATEVER THE INPUT: true; the input reads as it did. -/
def fnFieldLinesSpec : ChangeSpec := { name := "fnFieldLines", fn := fun _ => fun
  | [d] => { results := [.lit (.bool true)], args := [d] }
  | _ => none }
def fnFieldLinesRow : OpenClaim := { program := "ytnfjjbpochmhpaa", sum := "77d33fa0f1274f6a9734ce5d2806737d4038bc3a332b7d9c5d7def4e605af04c", func := "loop.example/g00651/laws.FnFieldLines", spec := "fnFieldLines", inPlace := ["internal/bytealg.IndexByteString", "internal/bytealg.IndexString", "internal/abi.NoEscape", "internal/bytealg.MakeNoZero"], unfollowed := true, recurses := true, named := ["internal/bytealg.MaxLen"], apart := false }
def FnFieldLinesSaid : Prop := fnFieldLinesRow.holds Try.pinned (OpenSpec.ofChange fnFieldLinesSpec)

/-- ITS FALSE NEIGHBOUR: 'it returns false'. Refute it at one input. -/
def fnFieldLinesWrong : ChangeSpec := { name := "fnFieldLines", fn := fun _ => fun
  | [d] => { results := [.lit (.bool false)], args := [d] }
  | _ => none }
def FnFieldLinesWrongFalsely : Prop := fnFieldLinesRow.holds Try.pinned (OpenSpec.ofChange fnFieldLinesWrong)

/- THE SECOND FORM. 'bulk': how many values and letters a reading holds, each counted each time it is reached (what is shared counts as often as it is met; a slice's spare places count too). A statement '..UptoSaid' is the law's where the arguments, and the package variables that the reading takes, are together of bulk at most 1048576: NARROWER than '..Said'. Prove '..Said' where nothing that the law and all that it calls make is longer than what came in: it says more and counts as full. Else prove '..UptoSaid'. A law counts once. -/
mutual
def uptoBulk {H : Type} : DataW H → Nat
  | .lit (.string bytes) => bytes.length + 1
  | .lit _ => 1
  | .nil => 1
  | .ptr d => uptoBulk d + 1
  | .slice elems spare => uptoBulkAll elems + uptoBulkAll spare + 1
  | .agg parts => uptoBulkAll parts + 1
  | .iface _ d => uptoBulk d + 1
  | .map entries => uptoBulkEntries entries + 1
  | .held _ => 1
def uptoBulkAll {H : Type} : List (DataW H) → Nat
  | [] => 0
  | d :: r => uptoBulk d + uptoBulkAll r
def uptoBulkEntries {H : Type} : List (Lit × DataW H) → Nat
  | [] => 0
  | x :: r => uptoBulkEntry x + uptoBulkEntries r
def uptoBulkEntry {H : Type} : Lit × DataW H → Nat
  | (.string bytes, d) => bytes.length + uptoBulk d + 1
  | (_, d) => uptoBulk d + 1
 end
def uptoSmall : (H : Type) → List (DataW H) → Bool := fun _ ds => decide (uptoBulkAll ds ≤ 1048576)
def OpenSpec.upto (s : _root_.Go.ChangeSpec) : _root_.Go.OpenSpec := { _root_.Go.OpenSpec.ofChange s with cond := some uptoSmall }

/-- 'laws.FnExactReadField', WHERE WHAT IT READS IS OF BULK AT MOST 1048576: true; the input reads as it did. -/
def fnExactReadFieldUptoRow : OpenClaim := { program := "ytnfjjbpochmhpaa", sum := "77d33fa0f1274f6a9734ce5d2806737d4038bc3a332b7d9c5d7def4e605af04c", func := "loop.example/g00651/laws.FnExactReadField", spec := "fnExactReadField", inPlace := ["internal/bytealg.IndexByteString", "internal/bytealg.IndexString"], unfollowed := true, recurses := true, named := ["internal/bytealg.MaxLen"], apart := false, narrowed := true }
def FnExactReadFieldUptoSaid : Prop := fnExactReadFieldUptoRow.holds Try.pinned (OpenSpec.upto fnExactReadFieldSpec)

/-- 'laws.FnExactGet', WHERE WHAT IT READS IS OF BULK AT MOST 1048576: true; the input reads as it did. -/
def fnExactGetUptoRow : OpenClaim := { program := "ytnfjjbpochmhpaa", sum := "77d33fa0f1274f6a9734ce5d2806737d4038bc3a332b7d9c5d7def4e605af04c", func := "loop.example/g00651/laws.FnExactGet", spec := "fnExactGet", inPlace := ["internal/bytealg.IndexByteString"], unfollowed := true, recurses := true, apart := false, narrowed := true }
def FnExactGetUptoSaid : Prop := fnExactGetUptoRow.holds Try.pinned (OpenSpec.upto fnExactGetSpec)

/-- 'laws.FnExactJoined', WHERE WHAT IT READS IS OF BULK AT MOST 1048576: true; the input reads as it did. -/
def fnExactJoinedUptoRow : OpenClaim := { program := "ytnfjjbpochmhpaa", sum := "77d33fa0f1274f6a9734ce5d2806737d4038bc3a332b7d9c5d7def4e605af04c", func := "loop.example/g00651/laws.FnExactJoined", spec := "fnExactJoined", inPlace := ["internal/bytealg.IndexByteString", "internal/abi.NoEscape", "internal/bytealg.MakeNoZero"], unfollowed := true, recurses := true, apart := false, narrowed := true }
def FnExactJoinedUptoSaid : Prop := fnExactJoinedUptoRow.holds Try.pinned (OpenSpec.upto fnExactJoinedSpec)

/-- 'laws.FnExactChunks', WHERE WHAT IT READS IS OF BULK AT MOST 1048576: true; the input reads as it did. -/
def fnExactChunksUptoRow : OpenClaim := { program := "ytnfjjbpochmhpaa", sum := "77d33fa0f1274f6a9734ce5d2806737d4038bc3a332b7d9c5d7def4e605af04c", func := "loop.example/g00651/laws.FnExactChunks", spec := "fnExactChunks", inPlace := ["internal/bytealg.IndexByteString", "internal/bytealg.IndexString"], unfollowed := true, recurses := true, named := ["internal/bytealg.MaxLen"], apart := false, narrowed := true }
def FnExactChunksUptoSaid : Prop := fnExactChunksUptoRow.holds Try.pinned (OpenSpec.upto fnExactChunksSpec)

/-- 'laws.FnFieldLines', WHERE WHAT IT READS IS OF BULK AT MOST 1048576: true; the input reads as it did. -/
def fnFieldLinesUptoRow : OpenClaim := { program := "ytnfjjbpochmhpaa", sum := "77d33fa0f1274f6a9734ce5d2806737d4038bc3a332b7d9c5d7def4e605af04c", func := "loop.example/g00651/laws.FnFieldLines", spec := "fnFieldLines", inPlace := ["internal/bytealg.IndexByteString", "internal/bytealg.IndexString", "internal/abi.NoEscape", "internal/bytealg.MakeNoZero"], unfollowed := true, recurses := true, named := ["internal/bytealg.MaxLen"], apart := false, narrowed := true }
def FnFieldLinesUptoSaid : Prop := fnFieldLinesUptoRow.holds Try.pinned (OpenSpec.upto fnFieldLinesSpec)

end Rows
end Go.Proofs.Ytnfjjbpochmhpaa
