/- What the walks of the law FnExactIdText ask of the package-level variables that the library's functions read (Gl): it holds in every world that is shaped as the program's start lays it and reads at the listed variables as listed; whatever is made or drawn leaves it. -/
import Derived.Test.YtkbkohknnfejlaaDoorWWords
import Derived.Shelf.Vars
import Derived.Test.YtkbkohknnfejlaaDoorProg
import Derived.Test.YtkbkohknnfejlaaDoorRows
import Derived.Lib.LaidU8
import Derived.Lib.LaidTab
import Derived.Shelf.Strconv.Itoa3
import Derived.LaidHandle
namespace Go.Proofs.YtkbkohknnfejlaaDoorW.PrintWords
open Go.RowKit
set_option linter.unusedVariables false
abbrev pw_laid : List (String × DataW Unit) := Go.Proofs.YtkbkohknnfejlaaDoor.Rows.fnExactIdTextRow.laid
theorem pw_var_below {P : Program} {g : Nat} {W W' : World} {n : String} {k : IntKind} {zs : List Int} (h : Below W.heap.size W W') (hg : P.globalNamed n = some g) (hv : Lib.TabIs P W n k zs) : Lib.TabIs P W' n k zs := by
  unfold Lib.TabIs World.var? at hv ⊢
  simp only [hg, Option.bind_some] at hv ⊢
  have hlt : g < W.heap.size := by
    rcases Nat.lt_or_ge g W.heap.size with h' | h'
    · exact h'
    · simp [Array.getElem?_eq_none h'] at hv
  rw [h.block g hlt]; exact hv
theorem pw_tab_of {P : Program} {w : World} {name : String} {k : IntKind} {zs : List Int} {g : Nat} {t e : TypeId} {n : Nat} (hg : P.globalNamed name = some g) (hty : (P.globals[g]?).map (·.type) = some t) (ht : P.underlying t = some (.array n e)) (he : P.underlying e = some (.int k)) (hce : P.cellsOf e = 1) (hct : P.cellsOf t = n)
    (h : Lib.VarReads P w name (Lib.tabData k zs)) : Lib.TabIs P w name k zs := by
  obtain ⟨g', t', cs, fuel, p, hg', ht', hvar, hd⟩ := h
  obtain rfl := Option.some.inj (hg.symm.trans hg')
  obtain rfl := Option.some.inj (hty.symm.trans ht')
  unfold Lib.TabIs
  rw [hvar, ← Lib.cells_of_tab ht he hce hct hd]
structure Gl (w : World) : Prop where
  mk_ ::
  any_ : True
  tab : Lib.TabIs Tryd.prog w "internal/strconv.uint64pow10" .u64 Lib.pow10Tab
theorem Gl.below {w w1 : World} (h : Gl w) (hb : Below w.heap.size w w1) : Gl w1 where
  any_ := trivial
  tab := pw_var_below hb (show Tryd.prog.globalNamed "internal/strconv.uint64pow10" = some 0 by kernel_rfl) h.tab
theorem Gl.ofShaped {w : World} (h : w.ShapedOpen Tryd.prog) (hL : laidMet Tryd.prog pw_laid w) : Gl w where
  any_ := trivial
  tab := pw_tab_of (show Tryd.prog.globalNamed "internal/strconv.uint64pow10" = some 0 by kernel_rfl) (show (Tryd.prog.globals[0]?).map (·.type) = some 35 by kernel_rfl) Tryd.underlying35 Tryd.underlying28 (by kernel_rfl) (by kernel_rfl) (Lib.laidMet.reads hL (n := "internal/strconv.uint64pow10") (d := Lib.tabData .u64 Lib.pow10Tab) (List.mem_iff_getElem?.2 ⟨2, rfl⟩))
end Go.Proofs.YtkbkohknnfejlaaDoorW.PrintWords
