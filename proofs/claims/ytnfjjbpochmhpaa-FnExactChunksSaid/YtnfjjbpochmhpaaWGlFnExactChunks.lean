/- What the walks of the law FnExactChunks ask of the package-level variables that the library's functions read (Gl): it holds in every world that is shaped as the program's start lays it and reads at the listed variables as listed; whatever is made or drawn leaves it. -/
import Derived.Test.YtnfjjbpochmhpaaWWords
import Derived.Shelf.Vars
import Derived.Test.YtnfjjbpochmhpaaProg
namespace Go.Proofs.YtnfjjbpochmhpaaW.PrintWords
open Go.RowKit
set_option linter.unusedVariables false
structure Gl (w : World) : Prop where
  mk_ ::
  any_ : True
  maxLen : ∃ m, w.cell? ⟨0, 0, none⟩ = some (.int .i64 m)
theorem Gl.below {w w1 : World} (h : Gl w) (hb : Below w.heap.size w w1) : Gl w1 where
  any_ := trivial
  maxLen := by obtain ⟨m, hm⟩ := h.maxLen; exact ⟨m, pw_cell_below hb hm⟩
theorem Gl.ofShaped {w : World} (h : w.ShapedOpen Try.prog) : Gl w where
  any_ := trivial
  maxLen := cell_of_shapedOpen_int (zero := #[.int .i64 0]) (t := 3) h (of_decide_eq_true (by kernel_rfl)) (by kernel_rfl) rfl (by kernel_rfl) (by kernel_rfl) Try.underlying3
end Go.Proofs.YtnfjjbpochmhpaaW.PrintWords
