/- What the walks of the law FnExactChunkText ask of the package-level variables that the library's functions read (Gl): it holds in every world that is shaped as the program's start lays it and reads at the listed variables as listed; whatever is made or drawn leaves it. -/
import Derived.Test.YtnfjjbpochmhpaaDoorWWords
import Derived.Shelf.Vars
import Derived.Test.YtnfjjbpochmhpaaDoorProg
import Derived.Test.YtnfjjbpochmhpaaDoorRows
import Derived.Lib.LaidU8
import Derived.Lib.LaidTab
import Derived.Shelf.Strconv.Itoa3
import Derived.LaidHandle
import Derived.LaidLaws
namespace Go.Proofs.YtnfjjbpochmhpaaDoorW.PrintWords
open Go.RowKit
set_option linter.unusedVariables false
theorem pw_var_below0 {P : Program} {g : Nat} {W W' : World} {n : String} {cs : Array Value} (h : Below W.heap.size W W') (hg : P.globalNamed n = some g) (hv : W.var? P n = some cs) : W'.var? P n = some cs := by
  unfold World.var? at hv ⊢
  simp only [hg, Option.bind_some] at hv ⊢
  have hlt : g < W.heap.size := by
    rcases Nat.lt_or_ge g W.heap.size with h' | h'
    · exact h'
    · simp [Array.getElem?_eq_none h'] at hv
  rw [h.block g hlt]; exact hv
theorem pw_err_of {P : Program} {w : World} {n nm : String} {d : DataW Unit} {g : Nat} {ti : TypeId} {ms : Array (String × TypeId)} (hg : P.globalNamed n = some g) (hty : (P.globals[g]?).map (·.type) = some ti) (hi : P.underlying ti = some (.interface ms))
    (h : Lib.VarReads P w n (.iface nm d)) : ∃ tp p, w.var? P n = some #[.iface tp p] := by
  obtain ⟨g', t', cs, fuel, p, hg', ht', hvar, hd⟩ := h
  obtain rfl := Option.some.inj (hg.symm.trans hg')
  obtain rfl := Option.some.inj (hty.symm.trans ht')
  obtain ⟨_, u, v, hcs, _, _⟩ := iface_of_trod hi (enc := fun _ => ()) (base := 0) (sp := fun _ => true) (by first | exact hd | (simpa using hd))
  exact ⟨u, v, by rw [hvar]; cases cs; simp_all⟩
abbrev pw_laid : List (String × DataW Unit) := Go.Proofs.YtnfjjbpochmhpaaDoor.Rows.fnExactChunkTextRow.laid
theorem pw_var_below {P : Program} {g : Nat} {W W' : World} {n : String} {k : IntKind} {zs : List Int} (h : Below W.heap.size W W') (hg : P.globalNamed n = some g) (hv : Lib.TabIs P W n k zs) : Lib.TabIs P W' n k zs := by
  unfold Lib.TabIs World.var? at hv ⊢
  simp only [hg, Option.bind_some] at hv ⊢
  have hlt : g < W.heap.size := by
    rcases Nat.lt_or_ge g W.heap.size with h' | h'
    · exact h'
    · simp [Array.getElem?_eq_none h'] at hv
  rw [h.block g hlt]; exact hv
theorem pw_tab_of {P : Program} {w : World} {name : String} {k : IntKind} {zs : List Int} {g : Nat} {t e : TypeId} {n : Nat} (hg : P.globalNamed name = some g) (hty : (P.globals[g]?).map (·.type) = some t) (ht : P.underlying t = some (.array n e)) (he : P.underlying e = some (.int k)) (hce : P.cellsOf e = 1) (hct : P.cellsOf t = n)
    (h : Lib.VarReads P w name (Lib.tabData k zs)) : Lib.TabIs P w name k zs := by
  obtain ⟨g', t', cs, fuel, p, hg', ht', hvar, hd⟩ := h
  obtain rfl := Option.some.inj (hg.symm.trans hg')
  obtain rfl := Option.some.inj (hty.symm.trans ht')
  unfold Lib.TabIs
  rw [hvar, ← Lib.cells_of_tab ht he hce hct hd]
structure Gl (w : World) : Prop where
  mk_ ::
  any_ : True
  maxLen : ∃ m, w.cell? ⟨0, 0, none⟩ = some (.int .i64 m)
  tab : Lib.TabIs Tryd.prog w "internal/strconv.uint64pow10" .u64 Lib.pow10Tab
  db64 : w.cell? ⟨7, 15, none⟩ = some (.int .u8 4)
theorem Gl.below {w w1 : World} (h : Gl w) (hb : Below w.heap.size w w1) : Gl w1 where
  any_ := trivial
  maxLen := by obtain ⟨m, hm⟩ := h.maxLen; exact ⟨m, pw_cell_below hb hm⟩
  tab := pw_var_below hb (show Tryd.prog.globalNamed "internal/strconv.uint64pow10" = some 1 by kernel_rfl) h.tab
  db64 := pw_cell_below hb h.db64
theorem Gl.ofShaped {w : World} (h : w.ShapedOpen Tryd.prog) (hL : laidMet Tryd.prog pw_laid w) : Gl w where
  any_ := trivial
  maxLen := cell_of_shapedOpen_int (zero := #[.int .i64 0]) (t := 3) h (of_decide_eq_true (by kernel_rfl)) (by kernel_rfl) rfl (by kernel_rfl) (by kernel_rfl) Tryd.underlying3
  tab := pw_tab_of (show Tryd.prog.globalNamed "internal/strconv.uint64pow10" = some 1 by kernel_rfl) (show (Tryd.prog.globals[1]?).map (·.type) = some 126 by kernel_rfl) Tryd.underlying126 Tryd.underlying104 (by kernel_rfl) (by kernel_rfl) (Lib.laidMet.reads hL (n := "internal/strconv.uint64pow10") (d := Lib.tabData .u64 Lib.pow10Tab) (List.mem_iff_getElem?.2 ⟨2, rfl⟩))
  db64 := ((pw_tab_of (show Tryd.prog.globalNamed "math/bits.deBruijn64tab" = some 7 by kernel_rfl) (show (Tryd.prog.globals[7]?).map (·.type) = some 146 by kernel_rfl) Tryd.underlying146 Tryd.underlying5 (by kernel_rfl) (by kernel_rfl) (Lib.laidMet.reads hL (n := "math/bits.deBruijn64tab") (d := Lib.tabData .u8 [0, 1, 56, 2, 57, 49, 28, 3, 61, 58, 42, 50, 38, 29, 17, 4, 62, 47, 59, 36, 45, 43, 51, 22, 53, 39, 33, 30, 24, 18, 12, 5, 63, 55, 48, 27, 60, 41, 37, 16, 46, 35, 44, 21, 52, 32, 23, 11, 54, 26, 40, 15, 34, 20, 31, 10, 25, 14, 19, 9, 13, 8, 7, 6]) (List.mem_iff_getElem?.2 ⟨1, rfl⟩))).cell (show Tryd.prog.globalNamed "math/bits.deBruijn64tab" = some 7 by kernel_rfl) 15 (by decide)).trans rfl
end Go.Proofs.YtnfjjbpochmhpaaDoorW.PrintWords
