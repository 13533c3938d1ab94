-- Laid by gen.py of this session (over the kit's printing program): what the law FnExactCanon reaches, as Lean functions, and that Go comes to just that.
import Derived.Test.YtcplgnikihjilaaGreatDoorGFnExactCanonx0
import Derived.Test.YtcplgnikihjilaaGreatDoorGFnExactCanonx7
import Derived.Test.YtcplgnikihjilaaGreatDoorGFnExactCanonx13
import Derived.Test.YtcplgnikihjilaaGreatDoorZFnExactCanon
namespace Go.Proofs.YtcplgnikihjilaaGreatDoor.GFnExactCanon
open Go.RowKit Go.Proofs.YtcplgnikihjilaaGreatDoorW.PrintWords Go.Proofs.YtcplgnikihjilaaGreatDoorW.PrintLast Go.Proofs.YtcplgnikihjilaaGreatDoorW.PrintMore Go.Proofs.YtcplgnikihjilaaGreatDoorW.Zs
attribute [local go_sem] max2_int min2_int max_two min_two max_three min_three max_four min_four   -- for this text's walks alone
set_option linter.unusedVariables false
set_option linter.unusedSimpArgs false

/-! ### laws_FnExactCanon: function 5 -/
def laws_FnExactCanon.f (k : Nat) (a0 : ByteArray) : Option (Bool) := if (a0.size : Int) > 1048576 then (some true) else ((spec_Canon.f k a0).bind fun bt317 => ((impl_Canon.f k a0).bind fun bt319 => (if bt319.1.toList = bt317.1.toList then (if (bt319.2 != bt317.2) = true then (some false) else (some true)) else (some false))))
theorem laws_FnExactCanon.mono : ∀ a0 k, LeO (laws_FnExactCanon.f k a0) (laws_FnExactCanon.f (k + 1) a0) := by
 intro a0 k
 unfold laws_FnExactCanon.f
 repeat' first | (with_reducible first | exact impl_Canon.mono _ _ | exact spec_Canon.mono _ _ | exact LeO.refl _ | exact LeO.none _ | refine LeO.ite ?_ ?_ | refine LeO.bind ?_ (fun _ => ?_)) | exact impl_Canon.mono _ _ | exact spec_Canon.mono _ _ | exact LeO.none _ | refine LeO.ite ?_ ?_ | refine LeO.bind ?_ (fun _ => ?_)
set_option maxHeartbeats 8000000 in
set_option maxRecDepth 100000 in
theorem laws_FnExactCanon.calls (k : Nat) (a0 : ByteArray) (r : Bool) (w : World) (hG : Gl w) (h : laws_FnExactCanon.f k a0 = some r) :
  Calls Tryz.prog 5 #[.string a0] w fun e w' => e = .returned (.bool r) ∧ Below w.heap.size w w' := by
 have HG := Aside0.mk hG
 clear hG
 have HB := Aside0.mk (Below.refl w.heap.size w)
 have H : (if (a0.size : Int) > 1048576 then (some true) else ((spec_Canon.f k a0).bind fun bt317 => ((impl_Canon.f k a0).bind fun bt319 => (if bt319.1.toList = bt317.1.toList then (if (bt319.2 != bt317.2) = true then (some false) else (some true)) else (some false))))) = some r := h
 clear h
 by_cases c2 : (a0.size : Int) > 1048576
 ·rw [if_pos c2] at H
  have c2b0 : decide (1048576 < (a0.size : Int)) = true := decide_eq_true c2
  have c2b1 : decide (1048576 < a0.size) = true := decide_eq_true (by omega)
  clear c2
  obtain rfl := Option.some.inj H
  go_enter Tryz.func5, Tryz.ntmps5
  go_wp2
  go_ret
  exact ⟨z3, z0⟩
 ·rw [if_neg c2] at H
  have c2b0 : decide (1048576 < (a0.size : Int)) = false := decide_eq_false c2
  have c2b1 : decide (1048576 < a0.size) = false := decide_eq_false (by omega)
  clear c2
  replace H := Option.bind_eq_some_iff.mp H
  obtain ⟨⟨t317, t318⟩, A30, H⟩ := H
  try dsimp only at H
  have A3 := Aside0.mk A30
  clear A30
  replace H := Option.bind_eq_some_iff.mp H
  obtain ⟨⟨t319, t320⟩, A40, H⟩ := H
  try dsimp only at H
  have A4 := Aside0.mk A40
  clear A40
  by_cases c5 : t319.toList = t317.toList
  ·rw [if_pos c5] at H
   have c5b0 : (t319.toList == t317.toList) = true := beq_iff_eq.mpr c5
   have c5b1 : (t319.toList != t317.toList) = false := bne_eq_false_iff_eq.mpr c5
   clear c5
   by_cases c6 : (t320 != t318) = true
   ·rw [if_pos c6] at H
    have c6b0 : (t320 != t318) = true := c6
    (try (have c6b1 : decide (t320 = t318) = false := by simpa using c6))
    (try (have c6b2 : (t320 == t318) = false := by simpa using c6))
    (try (have c6b3 : ¬ (t320 = t318) := by simpa using c6))
    clear c6
    obtain rfl := Option.some.inj H
    go_enter Tryz.func5, Tryz.ntmps5
    go_wp2_with (first | ((with_reducible refine gate_callee (f := 14) rfl ?_); refine goesQ_ 12 Tryz.func14 #[.string a0] ?_; (with_reducible refine (spec_Canon.calls k a0 t317 t318 _ A3.out).mono ?_); rintro e w7 ⟨rfl, hb⟩; refine ⟨_, rfl, ?_⟩; replace HB := Aside0.mk (below_step z0 hb); (try clear hb)) | ((with_reducible refine gate_callee (f := 15) rfl ?_); refine goesQ_ 17 Tryz.func15 #[.string a0] ?_; (with_reducible refine (impl_Canon.calls k a0 t319 t320 _ ?side1 A4.out).mono ?_); (case side1 => exact Gl.below HG.out z0); rintro e w8 ⟨rfl, hb⟩; refine ⟨_, rfl, ?_⟩; replace HB := Aside0.mk (below_step z0 hb); (try clear hb)))
    go_ret
    exact ⟨z3, z0⟩
   ·rw [if_neg c6] at H
    have c6b0 : (t320 != t318) = false := by simpa using c6
    (try (have c6b1 : decide (t320 = t318) = true := by simpa using c6))
    (try (have c6b2 : (t320 == t318) = true := by simpa using c6))
    clear c6
    obtain rfl := Option.some.inj H
    go_enter Tryz.func5, Tryz.ntmps5
    go_wp2_with (first | ((with_reducible refine gate_callee (f := 14) rfl ?_); refine goesQ_ 12 Tryz.func14 #[.string a0] ?_; (with_reducible refine (spec_Canon.calls k a0 t317 t318 _ A3.out).mono ?_); rintro e w9 ⟨rfl, hb⟩; refine ⟨_, rfl, ?_⟩; replace HB := Aside0.mk (below_step z0 hb); (try clear hb)) | ((with_reducible refine gate_callee (f := 15) rfl ?_); refine goesQ_ 17 Tryz.func15 #[.string a0] ?_; (with_reducible refine (impl_Canon.calls k a0 t319 t320 _ ?side1 A4.out).mono ?_); (case side1 => exact Gl.below HG.out z0); rintro e w10 ⟨rfl, hb⟩; refine ⟨_, rfl, ?_⟩; replace HB := Aside0.mk (below_step z0 hb); (try clear hb)))
    go_ret
    exact ⟨z3, z0⟩
  ·rw [if_neg c5] at H
   have c5b0 : (t319.toList == t317.toList) = false := beq_eq_false_iff_ne.mpr c5
   have c5b1 : (t319.toList != t317.toList) = true := bne_iff_ne.mpr c5
   obtain rfl := Option.some.inj H
   go_enter Tryz.func5, Tryz.ntmps5
   go_wp2_with (first | ((with_reducible refine gate_callee (f := 14) rfl ?_); refine goesQ_ 12 Tryz.func14 #[.string a0] ?_; (with_reducible refine (spec_Canon.calls k a0 t317 t318 _ A3.out).mono ?_); rintro e w11 ⟨rfl, hb⟩; refine ⟨_, rfl, ?_⟩; replace HB := Aside0.mk (below_step z0 hb); (try clear hb)) | ((with_reducible refine gate_callee (f := 15) rfl ?_); refine goesQ_ 17 Tryz.func15 #[.string a0] ?_; (with_reducible refine (impl_Canon.calls k a0 t319 t320 _ ?side1 A4.out).mono ?_); (case side1 => exact Gl.below HG.out z0); rintro e w12 ⟨rfl, hb⟩; refine ⟨_, rfl, ?_⟩; replace HB := Aside0.mk (below_step z0 hb); (try clear hb)))
   go_ret
   exact ⟨z3, z0⟩

/-- THE ONE PURE STATEMENT of laws_FnExactCanon. -/
def laws_FnExactCanon.Pure : Prop := ∀ (a0 : ByteArray), (a0.size ≤ 9223372036854775807) → ∃ k, laws_FnExactCanon.f k a0 = some true
theorem laws_FnExactCanon.walk (P : laws_FnExactCanon.Pure) (a0 : ByteArray) (w : World) (hG : Gl w) (ok_0 : a0.size ≤ 9223372036854775807) :
  Calls Tryz.prog 5 #[.string a0] w fun e w' => e = .returned (.bool true) ∧ Below w.heap.size w w' := by
 obtain ⟨k, h⟩ := P a0 ok_0
 refine (laws_FnExactCanon.calls k a0 true w hG h).mono ?_
 rintro e w' ⟨rfl, hd⟩
 exact ⟨rfl, hd⟩

end Go.Proofs.YtcplgnikihjilaaGreatDoor.GFnExactCanon
