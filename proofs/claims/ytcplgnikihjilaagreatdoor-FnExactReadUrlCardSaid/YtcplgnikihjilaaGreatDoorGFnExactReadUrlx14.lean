-- Laid by gen.py of this session (over the kit's printing program): what the law FnExactReadUrl reaches, as Lean functions, and that Go comes to just that.
import Derived.Test.YtcplgnikihjilaaGreatDoorGFnExactReadUrlx0
import Derived.Test.YtcplgnikihjilaaGreatDoorGFnExactReadUrlx7
import Derived.Test.YtcplgnikihjilaaGreatDoorGFnExactReadUrlx13
import Derived.Test.YtcplgnikihjilaaGreatDoorZFnExactReadUrl
namespace Go.Proofs.YtcplgnikihjilaaGreatDoor.GFnExactReadUrl
open Go.RowKit Go.Proofs.YtcplgnikihjilaaGreatDoorW.PrintWords Go.Proofs.YtcplgnikihjilaaGreatDoorW.PrintLast Go.Proofs.YtcplgnikihjilaaGreatDoorW.PrintMore Go.Proofs.YtcplgnikihjilaaGreatDoorW.Zs
attribute [local go_sem] max2_int min2_int max_two min_two max_three min_three max_four min_four   -- for this text's walks alone
set_option linter.unusedVariables false
set_option linter.unusedSimpArgs false

/-! ### laws_eqUrl: function 11 -/
def laws_eqUrl.f (a0_0 : ByteArray) (a0_1 : Int) (a0_2 : ByteArray) (a0_3 : ByteArray) (a0_4 : Bool) (a1_0 : ByteArray) (a1_1 : Int) (a1_2 : ByteArray) (a1_3 : ByteArray) (a1_4 : Bool) : Option (Bool) := if a0_0.toList = a1_0.toList then (if a0_1 = a1_1 then (if a0_2.toList = a1_2.toList then (if a0_3.toList = a1_3.toList then (if (a0_4 != a1_4) = true then (some false) else (some true)) else (some false)) else (some false)) else (some false)) else (some false)
set_option maxHeartbeats 8000000 in
set_option maxRecDepth 100000 in
theorem laws_eqUrl.calls (a0_0 : ByteArray) (a0_1 : Int) (a0_2 : ByteArray) (a0_3 : ByteArray) (a0_4 : Bool) (a1_0 : ByteArray) (a1_1 : Int) (a1_2 : ByteArray) (a1_3 : ByteArray) (a1_4 : Bool) (r : Bool) (w : World) (h : laws_eqUrl.f a0_0 a0_1 a0_2 a0_3 a0_4 a1_0 a1_1 a1_2 a1_3 a1_4 = some r) :
  Calls Tryz.prog 11 #[.agg #[.string a0_0, .int .i64 a0_1, .string a0_2, .string a0_3, .bool a0_4], .agg #[.string a1_0, .int .i64 a1_1, .string a1_2, .string a1_3, .bool a1_4]] w fun e w' => e = .returned (.bool r) ∧ Below w.heap.size w w' := by
 have hu23 := Tryz.underlying23
 have HB := Aside0.mk (Below.refl w.heap.size w)
 have H : (if a0_0.toList = a1_0.toList then (if a0_1 = a1_1 then (if a0_2.toList = a1_2.toList then (if a0_3.toList = a1_3.toList then (if (a0_4 != a1_4) = true then (some false) else (some true)) else (some false)) else (some false)) else (some false)) else (some false)) = some r := h
 clear h
 by_cases c3 : a0_0.toList = a1_0.toList
 ·rw [if_pos c3] at H
  have c3b0 : (a0_0.toList == a1_0.toList) = true := beq_iff_eq.mpr c3
  have c3b1 : (a0_0.toList != a1_0.toList) = false := bne_eq_false_iff_eq.mpr c3
  clear c3
  by_cases c4 : a0_1 = a1_1
  ·rw [if_pos c4] at H
   have c4b0 : (a0_1 == a1_1) = true := beq_iff_eq.mpr c4
   have c4b1 : (a0_1 != a1_1) = false := bne_eq_false_iff_eq.mpr c4
   clear c4
   by_cases c5 : a0_2.toList = a1_2.toList
   ·rw [if_pos c5] at H
    have c5b0 : (a0_2.toList == a1_2.toList) = true := beq_iff_eq.mpr c5
    have c5b1 : (a0_2.toList != a1_2.toList) = false := bne_eq_false_iff_eq.mpr c5
    clear c5
    by_cases c6 : a0_3.toList = a1_3.toList
    ·rw [if_pos c6] at H
     have c6b0 : (a0_3.toList == a1_3.toList) = true := beq_iff_eq.mpr c6
     have c6b1 : (a0_3.toList != a1_3.toList) = false := bne_eq_false_iff_eq.mpr c6
     clear c6
     by_cases c7 : (a0_4 != a1_4) = true
     ·rw [if_pos c7] at H
      have c7b0 : (a0_4 != a1_4) = true := c7
      (try (have c7b1 : decide (a0_4 = a1_4) = false := by simpa using c7))
      (try (have c7b2 : (a0_4 == a1_4) = false := by simpa using c7))
      (try (have c7b3 : ¬ (a0_4 = a1_4) := by simpa using c7))
      clear c7
      obtain rfl := Option.some.inj H
      go_enter Tryz.func11, Tryz.ntmps11
      go_wp2_with (first | ((with_reducible refine gate_dst (N := 2) rfl ?_); refine boxP_ (N := 2) (cs := #[.string a0_0, .int .i64 a0_1, .string a0_2, .string a0_3, .bool a0_4]) (t := 23) ?_; intro gb298 hg w8 hbox hb; have BK298 := Aside0.mk (hbox); have GE298 := geb_ (w := w) hg z0; replace HB := Aside0.mk (below_step z0 hb); clear hb hbox hg) | ((with_reducible refine gate_dst (N := 3) rfl ?_); refine boxP_ (N := 3) (cs := #[.string a1_0, .int .i64 a1_1, .string a1_2, .string a1_3, .bool a1_4]) (t := 23) ?_; intro gb299 hg w9 hbox hb; have BK299 := Aside0.mk (hbox); have GE299 := geb_ (w := w) hg z21; replace HB := Aside0.mk (below_step z21 hb); have NB298_299 := Aside0.mk ((by rw [hg]; exact Nat.ne_of_lt (blk_lt (g := gb298) (o := .cells #[.string a0_0, .int .i64 a0_1, .string a0_2, .string a0_3, .bool a0_4] 23 (0, 0)) z17) : gb298 ≠ gb299)); have NB299_298 := Aside0.mk ((by rw [hg]; exact Nat.ne_of_gt (blk_lt (g := gb298) (o := .cells #[.string a0_0, .int .i64 a0_1, .string a0_2, .string a0_3, .bool a0_4] 23 (0, 0)) z17) : gb299 ≠ gb298)); replace BK298 := Aside0.mk (blk_below (g := gb298) (o := .cells #[.string a0_0, .int .i64 a0_1, .string a0_2, .string a0_3, .bool a0_4] 23 (0, 0)) z17 hb); clear hb hbox hg; have hnb10 := NB298_299.out; have hnc10 := NB299_298.out; obtain ⟨hcz11_0, hcz11_1, hcz11_2, hcz11_3, hcz11_4, hfz11_0, hfz11_1, hfz11_2, hfz11_3, hfz11_4⟩ := cells5_ BK298.out; obtain ⟨hcz12_0, hcz12_1, hcz12_2, hcz12_3, hcz12_4, hfz12_0, hfz12_1, hfz12_2, hfz12_3, hfz12_4⟩ := cells5_ BK299.out))
      go_ret
      exact ⟨z3, z31⟩
     ·rw [if_neg c7] at H
      have c7b0 : (a0_4 != a1_4) = false := by simpa using c7
      (try (have c7b1 : decide (a0_4 = a1_4) = true := by simpa using c7))
      (try (have c7b2 : (a0_4 == a1_4) = true := by simpa using c7))
      clear c7
      obtain rfl := Option.some.inj H
      go_enter Tryz.func11, Tryz.ntmps11
      go_wp2_with (first | ((with_reducible refine gate_dst (N := 2) rfl ?_); refine boxP_ (N := 2) (cs := #[.string a0_0, .int .i64 a0_1, .string a0_2, .string a0_3, .bool a0_4]) (t := 23) ?_; intro gb298 hg w13 hbox hb; have BK298 := Aside0.mk (hbox); have GE298 := geb_ (w := w) hg z0; replace HB := Aside0.mk (below_step z0 hb); clear hb hbox hg) | ((with_reducible refine gate_dst (N := 3) rfl ?_); refine boxP_ (N := 3) (cs := #[.string a1_0, .int .i64 a1_1, .string a1_2, .string a1_3, .bool a1_4]) (t := 23) ?_; intro gb299 hg w14 hbox hb; have BK299 := Aside0.mk (hbox); have GE299 := geb_ (w := w) hg z21; replace HB := Aside0.mk (below_step z21 hb); have NB298_299 := Aside0.mk ((by rw [hg]; exact Nat.ne_of_lt (blk_lt (g := gb298) (o := .cells #[.string a0_0, .int .i64 a0_1, .string a0_2, .string a0_3, .bool a0_4] 23 (0, 0)) z17) : gb298 ≠ gb299)); have NB299_298 := Aside0.mk ((by rw [hg]; exact Nat.ne_of_gt (blk_lt (g := gb298) (o := .cells #[.string a0_0, .int .i64 a0_1, .string a0_2, .string a0_3, .bool a0_4] 23 (0, 0)) z17) : gb299 ≠ gb298)); replace BK298 := Aside0.mk (blk_below (g := gb298) (o := .cells #[.string a0_0, .int .i64 a0_1, .string a0_2, .string a0_3, .bool a0_4] 23 (0, 0)) z17 hb); clear hb hbox hg; have hnb15 := NB298_299.out; have hnc15 := NB299_298.out; obtain ⟨hcz16_0, hcz16_1, hcz16_2, hcz16_3, hcz16_4, hfz16_0, hfz16_1, hfz16_2, hfz16_3, hfz16_4⟩ := cells5_ BK298.out; obtain ⟨hcz17_0, hcz17_1, hcz17_2, hcz17_3, hcz17_4, hfz17_0, hfz17_1, hfz17_2, hfz17_3, hfz17_4⟩ := cells5_ BK299.out))
      go_ret
      exact ⟨z3, z31⟩
    ·rw [if_neg c6] at H
     have c6b0 : (a0_3.toList == a1_3.toList) = false := beq_eq_false_iff_ne.mpr c6
     have c6b1 : (a0_3.toList != a1_3.toList) = true := bne_iff_ne.mpr c6
     obtain rfl := Option.some.inj H
     go_enter Tryz.func11, Tryz.ntmps11
     go_wp2_with (first | ((with_reducible refine gate_dst (N := 2) rfl ?_); refine boxP_ (N := 2) (cs := #[.string a0_0, .int .i64 a0_1, .string a0_2, .string a0_3, .bool a0_4]) (t := 23) ?_; intro gb298 hg w18 hbox hb; have BK298 := Aside0.mk (hbox); have GE298 := geb_ (w := w) hg z0; replace HB := Aside0.mk (below_step z0 hb); clear hb hbox hg) | ((with_reducible refine gate_dst (N := 3) rfl ?_); refine boxP_ (N := 3) (cs := #[.string a1_0, .int .i64 a1_1, .string a1_2, .string a1_3, .bool a1_4]) (t := 23) ?_; intro gb299 hg w19 hbox hb; have BK299 := Aside0.mk (hbox); have GE299 := geb_ (w := w) hg z21; replace HB := Aside0.mk (below_step z21 hb); have NB298_299 := Aside0.mk ((by rw [hg]; exact Nat.ne_of_lt (blk_lt (g := gb298) (o := .cells #[.string a0_0, .int .i64 a0_1, .string a0_2, .string a0_3, .bool a0_4] 23 (0, 0)) z17) : gb298 ≠ gb299)); have NB299_298 := Aside0.mk ((by rw [hg]; exact Nat.ne_of_gt (blk_lt (g := gb298) (o := .cells #[.string a0_0, .int .i64 a0_1, .string a0_2, .string a0_3, .bool a0_4] 23 (0, 0)) z17) : gb299 ≠ gb298)); replace BK298 := Aside0.mk (blk_below (g := gb298) (o := .cells #[.string a0_0, .int .i64 a0_1, .string a0_2, .string a0_3, .bool a0_4] 23 (0, 0)) z17 hb); clear hb hbox hg; have hnb20 := NB298_299.out; have hnc20 := NB299_298.out; obtain ⟨hcz21_0, hcz21_1, hcz21_2, hcz21_3, hcz21_4, hfz21_0, hfz21_1, hfz21_2, hfz21_3, hfz21_4⟩ := cells5_ BK298.out; obtain ⟨hcz22_0, hcz22_1, hcz22_2, hcz22_3, hcz22_4, hfz22_0, hfz22_1, hfz22_2, hfz22_3, hfz22_4⟩ := cells5_ BK299.out))
     go_ret
     exact ⟨z3, z31⟩
   ·rw [if_neg c5] at H
    have c5b0 : (a0_2.toList == a1_2.toList) = false := beq_eq_false_iff_ne.mpr c5
    have c5b1 : (a0_2.toList != a1_2.toList) = true := bne_iff_ne.mpr c5
    obtain rfl := Option.some.inj H
    go_enter Tryz.func11, Tryz.ntmps11
    go_wp2_with (first | ((with_reducible refine gate_dst (N := 2) rfl ?_); refine boxP_ (N := 2) (cs := #[.string a0_0, .int .i64 a0_1, .string a0_2, .string a0_3, .bool a0_4]) (t := 23) ?_; intro gb298 hg w23 hbox hb; have BK298 := Aside0.mk (hbox); have GE298 := geb_ (w := w) hg z0; replace HB := Aside0.mk (below_step z0 hb); clear hb hbox hg) | ((with_reducible refine gate_dst (N := 3) rfl ?_); refine boxP_ (N := 3) (cs := #[.string a1_0, .int .i64 a1_1, .string a1_2, .string a1_3, .bool a1_4]) (t := 23) ?_; intro gb299 hg w24 hbox hb; have BK299 := Aside0.mk (hbox); have GE299 := geb_ (w := w) hg z21; replace HB := Aside0.mk (below_step z21 hb); have NB298_299 := Aside0.mk ((by rw [hg]; exact Nat.ne_of_lt (blk_lt (g := gb298) (o := .cells #[.string a0_0, .int .i64 a0_1, .string a0_2, .string a0_3, .bool a0_4] 23 (0, 0)) z17) : gb298 ≠ gb299)); have NB299_298 := Aside0.mk ((by rw [hg]; exact Nat.ne_of_gt (blk_lt (g := gb298) (o := .cells #[.string a0_0, .int .i64 a0_1, .string a0_2, .string a0_3, .bool a0_4] 23 (0, 0)) z17) : gb299 ≠ gb298)); replace BK298 := Aside0.mk (blk_below (g := gb298) (o := .cells #[.string a0_0, .int .i64 a0_1, .string a0_2, .string a0_3, .bool a0_4] 23 (0, 0)) z17 hb); clear hb hbox hg; have hnb25 := NB298_299.out; have hnc25 := NB299_298.out; obtain ⟨hcz26_0, hcz26_1, hcz26_2, hcz26_3, hcz26_4, hfz26_0, hfz26_1, hfz26_2, hfz26_3, hfz26_4⟩ := cells5_ BK298.out; obtain ⟨hcz27_0, hcz27_1, hcz27_2, hcz27_3, hcz27_4, hfz27_0, hfz27_1, hfz27_2, hfz27_3, hfz27_4⟩ := cells5_ BK299.out))
    go_ret
    exact ⟨z3, z31⟩
  ·rw [if_neg c4] at H
   have c4b0 : (a0_1 == a1_1) = false := beq_eq_false_iff_ne.mpr c4
   have c4b1 : (a0_1 != a1_1) = true := bne_iff_ne.mpr c4
   obtain rfl := Option.some.inj H
   go_enter Tryz.func11, Tryz.ntmps11
   go_wp2_with (first | ((with_reducible refine gate_dst (N := 2) rfl ?_); refine boxP_ (N := 2) (cs := #[.string a0_0, .int .i64 a0_1, .string a0_2, .string a0_3, .bool a0_4]) (t := 23) ?_; intro gb298 hg w28 hbox hb; have BK298 := Aside0.mk (hbox); have GE298 := geb_ (w := w) hg z0; replace HB := Aside0.mk (below_step z0 hb); clear hb hbox hg) | ((with_reducible refine gate_dst (N := 3) rfl ?_); refine boxP_ (N := 3) (cs := #[.string a1_0, .int .i64 a1_1, .string a1_2, .string a1_3, .bool a1_4]) (t := 23) ?_; intro gb299 hg w29 hbox hb; have BK299 := Aside0.mk (hbox); have GE299 := geb_ (w := w) hg z21; replace HB := Aside0.mk (below_step z21 hb); have NB298_299 := Aside0.mk ((by rw [hg]; exact Nat.ne_of_lt (blk_lt (g := gb298) (o := .cells #[.string a0_0, .int .i64 a0_1, .string a0_2, .string a0_3, .bool a0_4] 23 (0, 0)) z17) : gb298 ≠ gb299)); have NB299_298 := Aside0.mk ((by rw [hg]; exact Nat.ne_of_gt (blk_lt (g := gb298) (o := .cells #[.string a0_0, .int .i64 a0_1, .string a0_2, .string a0_3, .bool a0_4] 23 (0, 0)) z17) : gb299 ≠ gb298)); replace BK298 := Aside0.mk (blk_below (g := gb298) (o := .cells #[.string a0_0, .int .i64 a0_1, .string a0_2, .string a0_3, .bool a0_4] 23 (0, 0)) z17 hb); clear hb hbox hg; have hnb30 := NB298_299.out; have hnc30 := NB299_298.out; obtain ⟨hcz31_0, hcz31_1, hcz31_2, hcz31_3, hcz31_4, hfz31_0, hfz31_1, hfz31_2, hfz31_3, hfz31_4⟩ := cells5_ BK298.out; obtain ⟨hcz32_0, hcz32_1, hcz32_2, hcz32_3, hcz32_4, hfz32_0, hfz32_1, hfz32_2, hfz32_3, hfz32_4⟩ := cells5_ BK299.out))
   go_ret
   exact ⟨z3, z31⟩
 ·rw [if_neg c3] at H
  have c3b0 : (a0_0.toList == a1_0.toList) = false := beq_eq_false_iff_ne.mpr c3
  have c3b1 : (a0_0.toList != a1_0.toList) = true := bne_iff_ne.mpr c3
  obtain rfl := Option.some.inj H
  go_enter Tryz.func11, Tryz.ntmps11
  go_wp2_with (first | ((with_reducible refine gate_dst (N := 2) rfl ?_); refine boxP_ (N := 2) (cs := #[.string a0_0, .int .i64 a0_1, .string a0_2, .string a0_3, .bool a0_4]) (t := 23) ?_; intro gb298 hg w33 hbox hb; have BK298 := Aside0.mk (hbox); have GE298 := geb_ (w := w) hg z0; replace HB := Aside0.mk (below_step z0 hb); clear hb hbox hg) | ((with_reducible refine gate_dst (N := 3) rfl ?_); refine boxP_ (N := 3) (cs := #[.string a1_0, .int .i64 a1_1, .string a1_2, .string a1_3, .bool a1_4]) (t := 23) ?_; intro gb299 hg w34 hbox hb; have BK299 := Aside0.mk (hbox); have GE299 := geb_ (w := w) hg z21; replace HB := Aside0.mk (below_step z21 hb); have NB298_299 := Aside0.mk ((by rw [hg]; exact Nat.ne_of_lt (blk_lt (g := gb298) (o := .cells #[.string a0_0, .int .i64 a0_1, .string a0_2, .string a0_3, .bool a0_4] 23 (0, 0)) z17) : gb298 ≠ gb299)); have NB299_298 := Aside0.mk ((by rw [hg]; exact Nat.ne_of_gt (blk_lt (g := gb298) (o := .cells #[.string a0_0, .int .i64 a0_1, .string a0_2, .string a0_3, .bool a0_4] 23 (0, 0)) z17) : gb299 ≠ gb298)); replace BK298 := Aside0.mk (blk_below (g := gb298) (o := .cells #[.string a0_0, .int .i64 a0_1, .string a0_2, .string a0_3, .bool a0_4] 23 (0, 0)) z17 hb); clear hb hbox hg; have hnb35 := NB298_299.out; have hnc35 := NB299_298.out; obtain ⟨hcz36_0, hcz36_1, hcz36_2, hcz36_3, hcz36_4, hfz36_0, hfz36_1, hfz36_2, hfz36_3, hfz36_4⟩ := cells5_ BK298.out; obtain ⟨hcz37_0, hcz37_1, hcz37_2, hcz37_3, hcz37_4, hfz37_0, hfz37_1, hfz37_2, hfz37_3, hfz37_4⟩ := cells5_ BK299.out))
  go_ret
  exact ⟨z3, z31⟩

/-! ### laws_FnExactReadUrl: function 3 -/
def laws_FnExactReadUrl.f (k : Nat) (a0 : ByteArray) : Option (Bool) := if (a0.size : Int) > 1048576 then (some true) else ((spec_ReadUrl.f k a0).bind fun bt300 => ((impl_ReadUrl.f k a0).bind fun bt307 => ((laws_eqUrl.f bt307.1 bt307.2.1 bt307.2.2.1 bt307.2.2.2.1 bt307.2.2.2.2.1 bt300.1 bt300.2.1 bt300.2.2.1 bt300.2.2.2.1 bt300.2.2.2.2.1).bind fun t314 => (if t314 = true then (if (bt307.2.2.2.2.2 != bt300.2.2.2.2.2) = true then (some false) else (some true)) else (some false)))))
theorem laws_FnExactReadUrl.mono : ∀ a0 k, LeO (laws_FnExactReadUrl.f k a0) (laws_FnExactReadUrl.f (k + 1) a0) := by
 intro a0 k
 unfold laws_FnExactReadUrl.f
 repeat' first | (with_reducible first | exact impl_ReadUrl.mono _ _ | exact spec_ReadUrl.mono _ _ | exact LeO.refl _ | exact LeO.none _ | refine LeO.ite ?_ ?_ | refine LeO.bind ?_ (fun _ => ?_)) | exact impl_ReadUrl.mono _ _ | exact spec_ReadUrl.mono _ _ | exact LeO.none _ | refine LeO.ite ?_ ?_ | refine LeO.bind ?_ (fun _ => ?_)
set_option maxHeartbeats 8000000 in
set_option maxRecDepth 100000 in
theorem laws_FnExactReadUrl.calls (k : Nat) (a0 : ByteArray) (r : Bool) (w : World) (hG : Gl w) (h : laws_FnExactReadUrl.f k a0 = some r) :
  Calls Tryz.prog 3 #[.string a0] w fun e w' => e = .returned (.bool r) ∧ Below w.heap.size w w' := by
 have hu23 := Tryz.underlying23
 have HG := Aside0.mk hG
 clear hG
 have HB := Aside0.mk (Below.refl w.heap.size w)
 have H : (if (a0.size : Int) > 1048576 then (some true) else ((spec_ReadUrl.f k a0).bind fun bt300 => ((impl_ReadUrl.f k a0).bind fun bt307 => ((laws_eqUrl.f bt307.1 bt307.2.1 bt307.2.2.1 bt307.2.2.2.1 bt307.2.2.2.2.1 bt300.1 bt300.2.1 bt300.2.2.1 bt300.2.2.2.1 bt300.2.2.2.2.1).bind fun t314 => (if t314 = true then (if (bt307.2.2.2.2.2 != bt300.2.2.2.2.2) = true then (some false) else (some true)) else (some false)))))) = some r := h
 clear h
 by_cases c2 : (a0.size : Int) > 1048576
 ·rw [if_pos c2] at H
  have c2b0 : decide (1048576 < (a0.size : Int)) = true := decide_eq_true c2
  have c2b1 : decide (1048576 < a0.size) = true := decide_eq_true (by omega)
  clear c2
  obtain rfl := Option.some.inj H
  go_enter Tryz.func3, Tryz.ntmps3
  go_wp2
  go_ret
  exact ⟨z3, z0⟩
 ·rw [if_neg c2] at H
  have c2b0 : decide (1048576 < (a0.size : Int)) = false := decide_eq_false c2
  have c2b1 : decide (1048576 < a0.size) = false := decide_eq_false (by omega)
  clear c2
  replace H := Option.bind_eq_some_iff.mp H
  obtain ⟨⟨t300, t301, t302, t303, t304, t305⟩, A30, H⟩ := H
  try dsimp only at H
  have A3 := Aside0.mk A30
  clear A30
  replace H := Option.bind_eq_some_iff.mp H
  obtain ⟨⟨t307, t308, t309, t310, t311, t312⟩, A40, H⟩ := H
  try dsimp only at H
  have A4 := Aside0.mk A40
  clear A40
  replace H := Option.bind_eq_some_iff.mp H
  obtain ⟨t314, A50, H⟩ := H
  try dsimp only at H
  have A5 := Aside0.mk A50
  clear A50
  by_cases c6 : t314 = true
  ·subst c6
   rw [if_pos rfl] at H
   by_cases c7 : (t312 != t305) = true
   ·rw [if_pos c7] at H
    have c7b0 : (t312 != t305) = true := c7
    (try (have c7b1 : decide (t312 = t305) = false := by simpa using c7))
    (try (have c7b2 : (t312 == t305) = false := by simpa using c7))
    (try (have c7b3 : ¬ (t312 = t305) := by simpa using c7))
    clear c7
    obtain rfl := Option.some.inj H
    go_enter Tryz.func3, Tryz.ntmps3
    go_wp2_with (first | ((with_reducible refine gate_callee (f := 9) rfl ?_); refine goesQ_ 12 Tryz.func9 #[.string a0] ?_; (with_reducible refine (spec_ReadUrl.calls k a0 t300 t301 t302 t303 t304 t305 _ A3.out).mono ?_); rintro e w8 ⟨rfl, hb⟩; refine ⟨_, rfl, ?_⟩; replace HB := Aside0.mk (below_step z0 hb); (try clear hb)) | ((with_reducible refine gate_dst (N := 3) rfl ?_); refine boxP_ (N := 3) (cs := #[.string (⟨#[]⟩ : ByteArray), .int .i64 0, .string (⟨#[]⟩ : ByteArray), .string (⟨#[]⟩ : ByteArray), .bool false]) (t := 23) ?_; intro gb306 hg w9 hbox hb; have BK306 := Aside0.mk (hbox); have GE306 := geb_ (w := w) hg z0; replace HB := Aside0.mk (below_step z0 hb); clear hb hbox hg; obtain ⟨hcz10_0, hcz10_1, hcz10_2, hcz10_3, hcz10_4, hfz10_0, hfz10_1, hfz10_2, hfz10_3, hfz10_4⟩ := cells5_ BK306.out) | ((with_reducible refine gate_callee (f := 10) rfl ?_); refine goesQ_ 17 Tryz.func10 #[.string a0] ?_; (with_reducible refine (impl_ReadUrl.calls k a0 t307 t308 t309 t310 t311 t312 _ ?side1 A4.out).mono ?_); (case side1 => exact Gl.below HG.out z20); rintro e w11 ⟨rfl, hb⟩; refine ⟨_, rfl, ?_⟩; replace BK306 := Aside0.mk (blk_below (g := gb306) (o := .cells #[.string t300, .int .i64 t301, .string t302, .string t303, .bool t304] 23 (0, 0)) z14 hb); replace HB := Aside0.mk (below_step z20 hb); (try clear hb)) | ((with_reducible refine gate_dst (N := 5) rfl ?_); refine boxP_ (N := 5) (cs := #[.string (⟨#[]⟩ : ByteArray), .int .i64 0, .string (⟨#[]⟩ : ByteArray), .string (⟨#[]⟩ : ByteArray), .bool false]) (t := 23) ?_; intro gb313 hg w12 hbox hb; have BK313 := Aside0.mk (hbox); have GE313 := geb_ (w := w) hg z20; replace HB := Aside0.mk (below_step z20 hb); have NB306_313 := Aside0.mk ((by rw [hg]; exact Nat.ne_of_lt (blk_lt (g := gb306) (o := .cells #[.string t300, .int .i64 t301, .string t302, .string t303, .bool t304] 23 (0, 0)) z32) : gb306 ≠ gb313)); have NB313_306 := Aside0.mk ((by rw [hg]; exact Nat.ne_of_gt (blk_lt (g := gb306) (o := .cells #[.string t300, .int .i64 t301, .string t302, .string t303, .bool t304] 23 (0, 0)) z32) : gb313 ≠ gb306)); replace BK306 := Aside0.mk (blk_below (g := gb306) (o := .cells #[.string t300, .int .i64 t301, .string t302, .string t303, .bool t304] 23 (0, 0)) z32 hb); clear hb hbox hg; have hnb13 := NB313_306.out; have hnc13 := NB306_313.out; obtain ⟨hcz14_0, hcz14_1, hcz14_2, hcz14_3, hcz14_4, hfz14_0, hfz14_1, hfz14_2, hfz14_3, hfz14_4⟩ := cells5_ BK313.out; obtain ⟨hcz15_0, hcz15_1, hcz15_2, hcz15_3, hcz15_4, hfz15_0, hfz15_1, hfz15_2, hfz15_3, hfz15_4⟩ := cells5_ BK306.out) | ((with_reducible refine gate_callee (f := 11) rfl ?_); refine goesQ_ 22 Tryz.func11 #[.agg #[.string t307, .int .i64 t308, .string t309, .string t310, .bool t311], .agg #[.string t300, .int .i64 t301, .string t302, .string t303, .bool t304]] ?_; (with_reducible refine (laws_eqUrl.calls t307 t308 t309 t310 t311 t300 t301 t302 t303 t304 true _ A5.out).mono ?_); rintro e w16 ⟨rfl, hb⟩; refine ⟨_, rfl, ?_⟩; replace BK306 := Aside0.mk (blk_below (g := gb306) (o := .cells #[.string t300, .int .i64 t301, .string t302, .string t303, .bool t304] 23 (0, 0)) z23 hb); replace BK313 := Aside0.mk (blk_below (g := gb313) (o := .cells #[.string t307, .int .i64 t308, .string t309, .string t310, .bool t311] 23 (0, 0)) z13 hb); replace HB := Aside0.mk (below_step z30 hb); (try clear hb)))
    go_ret
    exact ⟨z3, z30⟩
   ·rw [if_neg c7] at H
    have c7b0 : (t312 != t305) = false := by simpa using c7
    (try (have c7b1 : decide (t312 = t305) = true := by simpa using c7))
    (try (have c7b2 : (t312 == t305) = true := by simpa using c7))
    clear c7
    obtain rfl := Option.some.inj H
    go_enter Tryz.func3, Tryz.ntmps3
    go_wp2_with (first | ((with_reducible refine gate_callee (f := 9) rfl ?_); refine goesQ_ 12 Tryz.func9 #[.string a0] ?_; (with_reducible refine (spec_ReadUrl.calls k a0 t300 t301 t302 t303 t304 t305 _ A3.out).mono ?_); rintro e w17 ⟨rfl, hb⟩; refine ⟨_, rfl, ?_⟩; replace HB := Aside0.mk (below_step z0 hb); (try clear hb)) | ((with_reducible refine gate_dst (N := 3) rfl ?_); refine boxP_ (N := 3) (cs := #[.string (⟨#[]⟩ : ByteArray), .int .i64 0, .string (⟨#[]⟩ : ByteArray), .string (⟨#[]⟩ : ByteArray), .bool false]) (t := 23) ?_; intro gb306 hg w18 hbox hb; have BK306 := Aside0.mk (hbox); have GE306 := geb_ (w := w) hg z0; replace HB := Aside0.mk (below_step z0 hb); clear hb hbox hg; obtain ⟨hcz19_0, hcz19_1, hcz19_2, hcz19_3, hcz19_4, hfz19_0, hfz19_1, hfz19_2, hfz19_3, hfz19_4⟩ := cells5_ BK306.out) | ((with_reducible refine gate_callee (f := 10) rfl ?_); refine goesQ_ 17 Tryz.func10 #[.string a0] ?_; (with_reducible refine (impl_ReadUrl.calls k a0 t307 t308 t309 t310 t311 t312 _ ?side1 A4.out).mono ?_); (case side1 => exact Gl.below HG.out z20); rintro e w20 ⟨rfl, hb⟩; refine ⟨_, rfl, ?_⟩; replace BK306 := Aside0.mk (blk_below (g := gb306) (o := .cells #[.string t300, .int .i64 t301, .string t302, .string t303, .bool t304] 23 (0, 0)) z14 hb); replace HB := Aside0.mk (below_step z20 hb); (try clear hb)) | ((with_reducible refine gate_dst (N := 5) rfl ?_); refine boxP_ (N := 5) (cs := #[.string (⟨#[]⟩ : ByteArray), .int .i64 0, .string (⟨#[]⟩ : ByteArray), .string (⟨#[]⟩ : ByteArray), .bool false]) (t := 23) ?_; intro gb313 hg w21 hbox hb; have BK313 := Aside0.mk (hbox); have GE313 := geb_ (w := w) hg z20; replace HB := Aside0.mk (below_step z20 hb); have NB306_313 := Aside0.mk ((by rw [hg]; exact Nat.ne_of_lt (blk_lt (g := gb306) (o := .cells #[.string t300, .int .i64 t301, .string t302, .string t303, .bool t304] 23 (0, 0)) z32) : gb306 ≠ gb313)); have NB313_306 := Aside0.mk ((by rw [hg]; exact Nat.ne_of_gt (blk_lt (g := gb306) (o := .cells #[.string t300, .int .i64 t301, .string t302, .string t303, .bool t304] 23 (0, 0)) z32) : gb313 ≠ gb306)); replace BK306 := Aside0.mk (blk_below (g := gb306) (o := .cells #[.string t300, .int .i64 t301, .string t302, .string t303, .bool t304] 23 (0, 0)) z32 hb); clear hb hbox hg; have hnb22 := NB313_306.out; have hnc22 := NB306_313.out; obtain ⟨hcz23_0, hcz23_1, hcz23_2, hcz23_3, hcz23_4, hfz23_0, hfz23_1, hfz23_2, hfz23_3, hfz23_4⟩ := cells5_ BK313.out; obtain ⟨hcz24_0, hcz24_1, hcz24_2, hcz24_3, hcz24_4, hfz24_0, hfz24_1, hfz24_2, hfz24_3, hfz24_4⟩ := cells5_ BK306.out) | ((with_reducible refine gate_callee (f := 11) rfl ?_); refine goesQ_ 22 Tryz.func11 #[.agg #[.string t307, .int .i64 t308, .string t309, .string t310, .bool t311], .agg #[.string t300, .int .i64 t301, .string t302, .string t303, .bool t304]] ?_; (with_reducible refine (laws_eqUrl.calls t307 t308 t309 t310 t311 t300 t301 t302 t303 t304 true _ A5.out).mono ?_); rintro e w25 ⟨rfl, hb⟩; refine ⟨_, rfl, ?_⟩; replace BK306 := Aside0.mk (blk_below (g := gb306) (o := .cells #[.string t300, .int .i64 t301, .string t302, .string t303, .bool t304] 23 (0, 0)) z23 hb); replace BK313 := Aside0.mk (blk_below (g := gb313) (o := .cells #[.string t307, .int .i64 t308, .string t309, .string t310, .bool t311] 23 (0, 0)) z13 hb); replace HB := Aside0.mk (below_step z30 hb); (try clear hb)))
    go_ret
    exact ⟨z3, z30⟩
  ·replace c6 := Bool.eq_false_iff.mpr c6
   subst c6
   rw [if_neg Bool.false_ne_true] at H
   obtain rfl := Option.some.inj H
   go_enter Tryz.func3, Tryz.ntmps3
   go_wp2_with (first | ((with_reducible refine gate_callee (f := 9) rfl ?_); refine goesQ_ 12 Tryz.func9 #[.string a0] ?_; (with_reducible refine (spec_ReadUrl.calls k a0 t300 t301 t302 t303 t304 t305 _ A3.out).mono ?_); rintro e w26 ⟨rfl, hb⟩; refine ⟨_, rfl, ?_⟩; replace HB := Aside0.mk (below_step z0 hb); (try clear hb)) | ((with_reducible refine gate_dst (N := 3) rfl ?_); refine boxP_ (N := 3) (cs := #[.string (⟨#[]⟩ : ByteArray), .int .i64 0, .string (⟨#[]⟩ : ByteArray), .string (⟨#[]⟩ : ByteArray), .bool false]) (t := 23) ?_; intro gb306 hg w27 hbox hb; have BK306 := Aside0.mk (hbox); have GE306 := geb_ (w := w) hg z0; replace HB := Aside0.mk (below_step z0 hb); clear hb hbox hg; obtain ⟨hcz28_0, hcz28_1, hcz28_2, hcz28_3, hcz28_4, hfz28_0, hfz28_1, hfz28_2, hfz28_3, hfz28_4⟩ := cells5_ BK306.out) | ((with_reducible refine gate_callee (f := 10) rfl ?_); refine goesQ_ 17 Tryz.func10 #[.string a0] ?_; (with_reducible refine (impl_ReadUrl.calls k a0 t307 t308 t309 t310 t311 t312 _ ?side1 A4.out).mono ?_); (case side1 => exact Gl.below HG.out z20); rintro e w29 ⟨rfl, hb⟩; refine ⟨_, rfl, ?_⟩; replace BK306 := Aside0.mk (blk_below (g := gb306) (o := .cells #[.string t300, .int .i64 t301, .string t302, .string t303, .bool t304] 23 (0, 0)) z14 hb); replace HB := Aside0.mk (below_step z20 hb); (try clear hb)) | ((with_reducible refine gate_dst (N := 5) rfl ?_); refine boxP_ (N := 5) (cs := #[.string (⟨#[]⟩ : ByteArray), .int .i64 0, .string (⟨#[]⟩ : ByteArray), .string (⟨#[]⟩ : ByteArray), .bool false]) (t := 23) ?_; intro gb313 hg w30 hbox hb; have BK313 := Aside0.mk (hbox); have GE313 := geb_ (w := w) hg z20; replace HB := Aside0.mk (below_step z20 hb); have NB306_313 := Aside0.mk ((by rw [hg]; exact Nat.ne_of_lt (blk_lt (g := gb306) (o := .cells #[.string t300, .int .i64 t301, .string t302, .string t303, .bool t304] 23 (0, 0)) z32) : gb306 ≠ gb313)); have NB313_306 := Aside0.mk ((by rw [hg]; exact Nat.ne_of_gt (blk_lt (g := gb306) (o := .cells #[.string t300, .int .i64 t301, .string t302, .string t303, .bool t304] 23 (0, 0)) z32) : gb313 ≠ gb306)); replace BK306 := Aside0.mk (blk_below (g := gb306) (o := .cells #[.string t300, .int .i64 t301, .string t302, .string t303, .bool t304] 23 (0, 0)) z32 hb); clear hb hbox hg; have hnb31 := NB313_306.out; have hnc31 := NB306_313.out; obtain ⟨hcz32_0, hcz32_1, hcz32_2, hcz32_3, hcz32_4, hfz32_0, hfz32_1, hfz32_2, hfz32_3, hfz32_4⟩ := cells5_ BK313.out; obtain ⟨hcz33_0, hcz33_1, hcz33_2, hcz33_3, hcz33_4, hfz33_0, hfz33_1, hfz33_2, hfz33_3, hfz33_4⟩ := cells5_ BK306.out) | ((with_reducible refine gate_callee (f := 11) rfl ?_); refine goesQ_ 22 Tryz.func11 #[.agg #[.string t307, .int .i64 t308, .string t309, .string t310, .bool t311], .agg #[.string t300, .int .i64 t301, .string t302, .string t303, .bool t304]] ?_; (with_reducible refine (laws_eqUrl.calls t307 t308 t309 t310 t311 t300 t301 t302 t303 t304 false _ A5.out).mono ?_); rintro e w34 ⟨rfl, hb⟩; refine ⟨_, rfl, ?_⟩; replace BK306 := Aside0.mk (blk_below (g := gb306) (o := .cells #[.string t300, .int .i64 t301, .string t302, .string t303, .bool t304] 23 (0, 0)) z23 hb); replace BK313 := Aside0.mk (blk_below (g := gb313) (o := .cells #[.string t307, .int .i64 t308, .string t309, .string t310, .bool t311] 23 (0, 0)) z13 hb); replace HB := Aside0.mk (below_step z30 hb); (try clear hb)))
   go_ret
   exact ⟨z3, z30⟩

/-- THE ONE PURE STATEMENT of laws_FnExactReadUrl. -/
def laws_FnExactReadUrl.Pure : Prop := ∀ (a0 : ByteArray), (a0.size ≤ 9223372036854775807) → ∃ k, laws_FnExactReadUrl.f k a0 = some true
theorem laws_FnExactReadUrl.walk (P : laws_FnExactReadUrl.Pure) (a0 : ByteArray) (w : World) (hG : Gl w) (ok_0 : a0.size ≤ 9223372036854775807) :
  Calls Tryz.prog 3 #[.string a0] w fun e w' => e = .returned (.bool true) ∧ Below w.heap.size w w' := by
 obtain ⟨k, h⟩ := P a0 ok_0
 refine (laws_FnExactReadUrl.calls k a0 true w hG h).mono ?_
 rintro e w' ⟨rfl, hd⟩
 exact ⟨rfl, hd⟩

end Go.Proofs.YtcplgnikihjilaaGreatDoor.GFnExactReadUrl
