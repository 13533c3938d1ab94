-- Laid by gen.py of this session (over the kit's printing program): what the law FnCanons reaches, as Lean functions, and that Go comes to just that.
import Derived.Test.YtkkolioolgpljaaGreatDoorGFnCanonsx0
import Derived.Test.YtkkolioolgpljaaGreatDoorGFnCanonsx2
import Derived.Test.YtkkolioolgpljaaGreatDoorZFnCanons
namespace Go.Proofs.YtkkolioolgpljaaGreatDoor.GFnCanons
open Go.RowKit Go.Proofs.YtkkolioolgpljaaGreatDoorW.PrintWords Go.Proofs.YtkkolioolgpljaaGreatDoorW.PrintLast Go.Proofs.YtkkolioolgpljaaGreatDoorW.PrintMore Go.Proofs.YtkkolioolgpljaaGreatDoorW.Zs
attribute [local go_sem] max2_int min2_int max_two min_two max_three min_three max_four min_four   -- for this text's walks alone
set_option linter.unusedVariables false
set_option linter.unusedSimpArgs false

/-! ### impl_hexOf: function 98 -/
def impl_hexOf.j0 : Nat → Int → Bool → Option (Int)
 | 0, _, _ => none
 | k + 1, x0, x9 => if x9 = true then (some (((x0 - 97) % 256) + 10)) else (if x0 ≥ 65 then (if x0 ≤ 70 then (some (((x0 - 65) % 256) + 10)) else (some (-1))) else (some (-1)))
def impl_hexOf.f (k : Nat) (a0 : Int) : Option (Int) := (impl_isDigit.f a0).bind fun t110 => (if t110 = true then (some ((a0 - 48) % 256)) else (if a0 ≥ 97 then (impl_hexOf.j0 k a0 (decide (a0 ≤ 102))) else (impl_hexOf.j0 k a0 false)))
theorem impl_hexOf.mono_l : ∀ k, (∀ y0 y1, LeO (impl_hexOf.j0 k y0 y1) (impl_hexOf.j0 (k + 1) y0 y1))
 | 0 => fun _ _ r h => by simp [impl_hexOf.j0] at h
 | k + 1 => by
  have ih0 := impl_hexOf.mono_l k
  ·intro y0 y1
   unfold impl_hexOf.j0
   repeat' first | (with_reducible first | exact ih0 _ _ | exact LeO.refl _ | exact LeO.none _ | refine LeO.ite ?_ ?_ | refine LeO.bind ?_ (fun _ => ?_)) | exact ih0 _ _ | exact LeO.none _ | refine LeO.ite ?_ ?_ | refine LeO.bind ?_ (fun _ => ?_)
theorem impl_hexOf.mono : ∀ a0 k, LeO (impl_hexOf.f k a0) (impl_hexOf.f (k + 1) a0) := by
 intro a0 k
 have ih0 := impl_hexOf.mono_l k
 unfold impl_hexOf.f
 repeat' first | (with_reducible first | exact ih0 _ _ | exact LeO.refl _ | exact LeO.none _ | refine LeO.ite ?_ ?_ | refine LeO.bind ?_ (fun _ => ?_)) | exact ih0 _ _ | exact LeO.none _ | refine LeO.ite ?_ ?_ | refine LeO.bind ?_ (fun _ => ?_)
set_option maxHeartbeats 8000000 in
set_option maxRecDepth 100000 in
theorem impl_hexOf.calls (k : Nat) (a0 : Int) (r : Int) (w : World) (h : impl_hexOf.f k a0 = some r) :
  Calls Tryz.prog 98 #[.int .u8 a0] w fun e w' => e = .returned (.int .i64 r) ∧ Drawn0 w w' := by
 have H : ((impl_isDigit.f a0).bind fun t110 => (if t110 = true then (some ((a0 - 48) % 256)) else (if a0 ≥ 97 then (impl_hexOf.j0 k a0 (decide (a0 ≤ 102))) else (impl_hexOf.j0 k a0 false)))) = some r := h
 clear h
 replace H := Option.bind_eq_some_iff.mp H
 obtain ⟨t110, A20, H⟩ := H
 try dsimp only at H
 have A2 := Aside0.mk A20
 clear A20
 by_cases c3 : t110 = true
 ·subst c3
  rw [if_pos rfl] at H
  obtain rfl := Option.some.inj H
  go_enter Tryz.func98, Tryz.ntmps98
  go_wp2_with (first | ((with_reducible refine gate_callee (f := 83) rfl ?_); refine goesQ_ 5 Tryz.func83 #[.int .u8 a0] ?_; (with_reducible refine (impl_isDigit.calls a0 true _ A2.out).mono ?_); rintro e w' ⟨rfl, ⟨nd, rfl⟩⟩; refine ⟨_, rfl, ?_⟩))
  go_ret
  exact ⟨z5, z10⟩
 ·replace c3 := Bool.eq_false_iff.mpr c3
  subst c3
  rw [if_neg Bool.false_ne_true] at H
  have HC4 := Aside0.mk H
  clear H
  go_enter Tryz.func98, Tryz.ntmps98
  go_upto_region 3 with (first | ((with_reducible refine gate_callee (f := 83) rfl ?_); refine goesQ_ 5 Tryz.func83 #[.int .u8 a0] ?_; (with_reducible refine (impl_isDigit.calls a0 false _ A2.out).mono ?_); rintro e w' ⟨rfl, ⟨nd, rfl⟩⟩; refine ⟨_, rfl, ?_⟩))
  (try simp only [Act.put, List.setIfInBounds_toArray, List.set_cons_zero, List.set_cons_succ])
  go_cut [9] (fun v9 wc => ∃ (kq : Nat) (x9_3 : Bool), v9 = .bool x9_3 ∧ Aside0 (impl_hexOf.j0 kq a0 x9_3 = some r) ∧ Aside0 (kq ≤ k) ∧ Drawn0 w wc)
  case first =>
   have H := HC4.out
   clear HC4
   by_cases c5 : a0 ≥ 97
   ·rw [if_pos c5] at H
    have c5b0 : decide (97 ≤ a0) = true := decide_eq_true c5
    clear c5
    (first | rw [c5b0] | (simp only [i64_w, i32_w]; rw [c5b0]) | skip)
    have H' := Aside0.mk H
    clear H
    go_wp2
    go_meet
    case rel => exact ⟨_, (decide (a0 ≤ 102)), z5, H', ⟨z31⟩, z10⟩
   ·rw [if_neg c5] at H
    have c5b0 : decide (97 ≤ a0) = false := decide_eq_false c5
    clear c5
    (first | rw [c5b0] | (simp only [i64_w, i32_w]; rw [c5b0]) | skip)
    have H' := Aside0.mk H
    clear H
    go_wp2
    go_meet
    case rel => exact ⟨_, (false), z5, H', ⟨z31⟩, z10⟩
  case rest =>
   clear HC4
   try clear p2
   try clear c3
   try clear c5
   try clear c5b0
   obtain ⟨kq, x9_3, rfl, HA, HJ3, ⟨mc3, rfl⟩⟩ := hcut
   cases kq with
   | zero => exact absurd HA.out (by simp [impl_hexOf.j0])
   | succ kj3 =>
    have H := HA.out
    clear HA
    simp only [impl_hexOf.j0] at H
    by_cases c6 : x9_3 = true
    ·subst c6
     rw [if_pos rfl] at H
     obtain rfl := Option.some.inj H
     go_wp2
     go_ret
     exact ⟨z5, z10⟩
    ·replace c6 := Bool.eq_false_iff.mpr c6
     subst c6
     rw [if_neg Bool.false_ne_true] at H
     by_cases c7 : a0 ≥ 65
     ·rw [if_pos c7] at H
      have c7b0 : decide (65 ≤ a0) = true := decide_eq_true c7
      clear c7
      by_cases c8 : a0 ≤ 70
      ·rw [if_pos c8] at H
       have c8b0 : decide (a0 ≤ 70) = true := decide_eq_true c8
       clear c8
       obtain rfl := Option.some.inj H
       go_wp2
       go_ret
       exact ⟨z5, z10⟩
      ·rw [if_neg c8] at H
       have c8b0 : decide (a0 ≤ 70) = false := decide_eq_false c8
       clear c8
       obtain rfl := Option.some.inj H
       go_wp2
       go_ret
       exact ⟨z5, z10⟩
     ·rw [if_neg c7] at H
      have c7b0 : decide (65 ≤ a0) = false := decide_eq_false c7
      clear c7
      obtain rfl := Option.some.inj H
      go_wp2
      go_ret
      exact ⟨z5, z10⟩

/-! ### impl_isUpper: function 63 -/
def impl_isUpper.f (a0 : Int) : Option (Bool) := if a0 ≥ 65 then (some (decide (a0 ≤ 90))) else (some false)
set_option maxHeartbeats 8000000 in
set_option maxRecDepth 100000 in
theorem impl_isUpper.calls (a0 : Int) (r : Bool) (w : World) (h : impl_isUpper.f a0 = some r) :
  Calls Tryz.prog 63 #[.int .u8 a0] w fun e w' => e = .returned (.bool r) ∧ Drawn0 w w' := by
 have H : (if a0 ≥ 65 then (some (decide (a0 ≤ 90))) else (some false)) = some r := h
 clear h
 by_cases c2 : a0 ≥ 65
 ·rw [if_pos c2] at H
  have c2b0 : decide (65 ≤ a0) = true := decide_eq_true c2
  clear c2
  obtain rfl := Option.some.inj H
  go_enter Tryz.func63, Tryz.ntmps63
  go_wp2
  go_ret
  exact ⟨z5, z10⟩
 ·rw [if_neg c2] at H
  have c2b0 : decide (65 ≤ a0) = false := decide_eq_false c2
  clear c2
  obtain rfl := Option.some.inj H
  go_enter Tryz.func63, Tryz.ntmps63
  go_wp2
  go_ret
  exact ⟨z5, z10⟩

/-! ### impl_isLower: function 82 -/
def impl_isLower.f (a0 : Int) : Option (Bool) := if a0 ≥ 97 then (some (decide (a0 ≤ 122))) else (some false)
set_option maxHeartbeats 8000000 in
set_option maxRecDepth 100000 in
theorem impl_isLower.calls (a0 : Int) (r : Bool) (w : World) (h : impl_isLower.f a0 = some r) :
  Calls Tryz.prog 82 #[.int .u8 a0] w fun e w' => e = .returned (.bool r) ∧ Drawn0 w w' := by
 have H : (if a0 ≥ 97 then (some (decide (a0 ≤ 122))) else (some false)) = some r := h
 clear h
 by_cases c2 : a0 ≥ 97
 ·rw [if_pos c2] at H
  have c2b0 : decide (97 ≤ a0) = true := decide_eq_true c2
  clear c2
  obtain rfl := Option.some.inj H
  go_enter Tryz.func82, Tryz.ntmps82
  go_wp2
  go_ret
  exact ⟨z5, z10⟩
 ·rw [if_neg c2] at H
  have c2b0 : decide (97 ≤ a0) = false := decide_eq_false c2
  clear c2
  obtain rfl := Option.some.inj H
  go_enter Tryz.func82, Tryz.ntmps82
  go_wp2
  go_ret
  exact ⟨z5, z10⟩

/-! ### impl_isFree: function 99 -/
def impl_isFree.f (a0 : Int) : Option (Bool) := (impl_isLower.f a0).bind fun t111 => (if t111 = true then (some true) else ((impl_isUpper.f a0).bind fun t112 => (if t112 = true then (some true) else ((impl_isDigit.f a0).bind fun t113 => (if t113 = true then (some true) else (if a0 = 45 then (some true) else (if a0 = 46 then (some true) else (if a0 = 95 then (some true) else (some (a0 == 126))))))))))
set_option maxHeartbeats 8000000 in
set_option maxRecDepth 100000 in
theorem impl_isFree.calls (a0 : Int) (r : Bool) (w : World) (h : impl_isFree.f a0 = some r) :
  Calls Tryz.prog 99 #[.int .u8 a0] w fun e w' => e = .returned (.bool r) ∧ Drawn0 w w' := by
 have H : ((impl_isLower.f a0).bind fun t111 => (if t111 = true then (some true) else ((impl_isUpper.f a0).bind fun t112 => (if t112 = true then (some true) else ((impl_isDigit.f a0).bind fun t113 => (if t113 = true then (some true) else (if a0 = 45 then (some true) else (if a0 = 46 then (some true) else (if a0 = 95 then (some true) else (some (a0 == 126))))))))))) = some r := h
 clear h
 replace H := Option.bind_eq_some_iff.mp H
 obtain ⟨t111, A20, H⟩ := H
 try dsimp only at H
 have A2 := Aside0.mk A20
 clear A20
 by_cases c3 : t111 = true
 ·subst c3
  rw [if_pos rfl] at H
  obtain rfl := Option.some.inj H
  go_enter Tryz.func99, Tryz.ntmps99
  go_wp2_with (first | ((with_reducible refine gate_callee (f := 82) rfl ?_); refine goesQ_ 4 Tryz.func82 #[.int .u8 a0] ?_; (with_reducible refine (impl_isLower.calls a0 true _ A2.out).mono ?_); rintro e w' ⟨rfl, ⟨nd, rfl⟩⟩; refine ⟨_, rfl, ?_⟩))
  go_ret
  exact ⟨z5, z10⟩
 ·replace c3 := Bool.eq_false_iff.mpr c3
  subst c3
  rw [if_neg Bool.false_ne_true] at H
  replace H := Option.bind_eq_some_iff.mp H
  obtain ⟨t112, A40, H⟩ := H
  try dsimp only at H
  have A4 := Aside0.mk A40
  clear A40
  by_cases c5 : t112 = true
  ·subst c5
   rw [if_pos rfl] at H
   obtain rfl := Option.some.inj H
   go_enter Tryz.func99, Tryz.ntmps99
   go_wp2_with (first | ((with_reducible refine gate_callee (f := 82) rfl ?_); refine goesQ_ 4 Tryz.func82 #[.int .u8 a0] ?_; (with_reducible refine (impl_isLower.calls a0 false _ A2.out).mono ?_); rintro e w' ⟨rfl, ⟨nd, rfl⟩⟩; refine ⟨_, rfl, ?_⟩) | (go_at_call 63; (with_reducible refine (impl_isUpper.calls a0 true _ A4.out).mono ?_); rintro e w' ⟨rfl, ⟨nd, rfl⟩⟩))
   go_ret
   exact ⟨z5, z10⟩
  ·replace c5 := Bool.eq_false_iff.mpr c5
   subst c5
   rw [if_neg Bool.false_ne_true] at H
   replace H := Option.bind_eq_some_iff.mp H
   obtain ⟨t113, A60, H⟩ := H
   try dsimp only at H
   have A6 := Aside0.mk A60
   clear A60
   by_cases c7 : t113 = true
   ·subst c7
    rw [if_pos rfl] at H
    obtain rfl := Option.some.inj H
    go_enter Tryz.func99, Tryz.ntmps99
    go_wp2_with (first | ((with_reducible refine gate_callee (f := 82) rfl ?_); refine goesQ_ 4 Tryz.func82 #[.int .u8 a0] ?_; (with_reducible refine (impl_isLower.calls a0 false _ A2.out).mono ?_); rintro e w' ⟨rfl, ⟨nd, rfl⟩⟩; refine ⟨_, rfl, ?_⟩) | (go_at_call 63; (with_reducible refine (impl_isUpper.calls a0 false _ A4.out).mono ?_); rintro e w' ⟨rfl, ⟨nd, rfl⟩⟩) | (go_at_call 83; (with_reducible refine (impl_isDigit.calls a0 true _ A6.out).mono ?_); rintro e w' ⟨rfl, ⟨nd, rfl⟩⟩))
    go_ret
    exact ⟨z5, z10⟩
   ·replace c7 := Bool.eq_false_iff.mpr c7
    subst c7
    rw [if_neg Bool.false_ne_true] at H
    by_cases c8 : a0 = 45
    ·rw [if_pos c8] at H
     have c8b0 : (a0 == 45) = true := beq_iff_eq.mpr c8
     have c8b1 : (a0 != 45) = false := bne_eq_false_iff_eq.mpr c8
     clear c8
     obtain rfl := Option.some.inj H
     go_enter Tryz.func99, Tryz.ntmps99
     go_wp2_with (first | ((with_reducible refine gate_callee (f := 82) rfl ?_); refine goesQ_ 4 Tryz.func82 #[.int .u8 a0] ?_; (with_reducible refine (impl_isLower.calls a0 false _ A2.out).mono ?_); rintro e w' ⟨rfl, ⟨nd, rfl⟩⟩; refine ⟨_, rfl, ?_⟩) | (go_at_call 63; (with_reducible refine (impl_isUpper.calls a0 false _ A4.out).mono ?_); rintro e w' ⟨rfl, ⟨nd, rfl⟩⟩) | (go_at_call 83; (with_reducible refine (impl_isDigit.calls a0 false _ A6.out).mono ?_); rintro e w' ⟨rfl, ⟨nd, rfl⟩⟩))
     go_ret
     exact ⟨z5, z10⟩
    ·rw [if_neg c8] at H
     have c8b0 : (a0 == 45) = false := beq_eq_false_iff_ne.mpr c8
     have c8b1 : (a0 != 45) = true := bne_iff_ne.mpr c8
     by_cases c9 : a0 = 46
     ·rw [if_pos c9] at H
      have c9b0 : (a0 == 46) = true := beq_iff_eq.mpr c9
      have c9b1 : (a0 != 46) = false := bne_eq_false_iff_eq.mpr c9
      clear c9
      obtain rfl := Option.some.inj H
      go_enter Tryz.func99, Tryz.ntmps99
      go_wp2_with (first | ((with_reducible refine gate_callee (f := 82) rfl ?_); refine goesQ_ 4 Tryz.func82 #[.int .u8 a0] ?_; (with_reducible refine (impl_isLower.calls a0 false _ A2.out).mono ?_); rintro e w' ⟨rfl, ⟨nd, rfl⟩⟩; refine ⟨_, rfl, ?_⟩) | (go_at_call 63; (with_reducible refine (impl_isUpper.calls a0 false _ A4.out).mono ?_); rintro e w' ⟨rfl, ⟨nd, rfl⟩⟩) | (go_at_call 83; (with_reducible refine (impl_isDigit.calls a0 false _ A6.out).mono ?_); rintro e w' ⟨rfl, ⟨nd, rfl⟩⟩))
      go_ret
      exact ⟨z5, z10⟩
     ·rw [if_neg c9] at H
      have c9b0 : (a0 == 46) = false := beq_eq_false_iff_ne.mpr c9
      have c9b1 : (a0 != 46) = true := bne_iff_ne.mpr c9
      by_cases c10 : a0 = 95
      ·rw [if_pos c10] at H
       have c10b0 : (a0 == 95) = true := beq_iff_eq.mpr c10
       have c10b1 : (a0 != 95) = false := bne_eq_false_iff_eq.mpr c10
       clear c10
       obtain rfl := Option.some.inj H
       go_enter Tryz.func99, Tryz.ntmps99
       go_wp2_with (first | ((with_reducible refine gate_callee (f := 82) rfl ?_); refine goesQ_ 4 Tryz.func82 #[.int .u8 a0] ?_; (with_reducible refine (impl_isLower.calls a0 false _ A2.out).mono ?_); rintro e w' ⟨rfl, ⟨nd, rfl⟩⟩; refine ⟨_, rfl, ?_⟩) | (go_at_call 63; (with_reducible refine (impl_isUpper.calls a0 false _ A4.out).mono ?_); rintro e w' ⟨rfl, ⟨nd, rfl⟩⟩) | (go_at_call 83; (with_reducible refine (impl_isDigit.calls a0 false _ A6.out).mono ?_); rintro e w' ⟨rfl, ⟨nd, rfl⟩⟩))
       go_ret
       exact ⟨z5, z10⟩
      ·rw [if_neg c10] at H
       have c10b0 : (a0 == 95) = false := beq_eq_false_iff_ne.mpr c10
       have c10b1 : (a0 != 95) = true := bne_iff_ne.mpr c10
       obtain rfl := Option.some.inj H
       go_enter Tryz.func99, Tryz.ntmps99
       go_wp2_with (first | ((with_reducible refine gate_callee (f := 82) rfl ?_); refine goesQ_ 4 Tryz.func82 #[.int .u8 a0] ?_; (with_reducible refine (impl_isLower.calls a0 false _ A2.out).mono ?_); rintro e w' ⟨rfl, ⟨nd, rfl⟩⟩; refine ⟨_, rfl, ?_⟩) | (go_at_call 63; (with_reducible refine (impl_isUpper.calls a0 false _ A4.out).mono ?_); rintro e w' ⟨rfl, ⟨nd, rfl⟩⟩) | (go_at_call 83; (with_reducible refine (impl_isDigit.calls a0 false _ A6.out).mono ?_); rintro e w' ⟨rfl, ⟨nd, rfl⟩⟩))
       go_ret
       exact ⟨z5, z10⟩

end Go.Proofs.YtkkolioolgpljaaGreatDoor.GFnCanons
