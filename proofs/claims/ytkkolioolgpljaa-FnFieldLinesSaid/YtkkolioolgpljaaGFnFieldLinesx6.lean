-- Laid by gen.py of this session (over the kit's printing program): what the law FnFieldLines reaches, as Lean functions, and that Go comes to just that.
import Derived.Test.YtkkolioolgpljaaGFnFieldLinesx0
import Derived.Test.YtkkolioolgpljaaGFnFieldLinesx4
import Derived.Test.YtkkolioolgpljaaGFnFieldLinesx5
import Derived.Test.YtkkolioolgpljaaZFnFieldLines
namespace Go.Proofs.Ytkkolioolgpljaa.GFnFieldLines
open Go.RowKit Go.Proofs.YtkkolioolgpljaaW.PrintWords Go.Proofs.YtkkolioolgpljaaW.PrintLast Go.Proofs.YtkkolioolgpljaaW.PrintMore Go.Proofs.YtkkolioolgpljaaW.Zs
attribute [local go_sem] max2_int min2_int max_two min_two max_three min_three max_four min_four   -- for this text's walks alone
set_option linter.unusedVariables false
set_option linter.unusedSimpArgs false

/-! ### spec_l5plain: function 24 -/
def spec_l5plain.l0 : Nat → ByteArray → Int → Option (Bool)
 | 0, _, _ => none
 | k + 1, x0, x3 => if x3 < (x0.size : Int) then (if 0 ≤ x3 then ((spec_l1plain.f (bt x0 x3)).bind fun t224 => (if t224 = true then (spec_l5plain.l0 k x0 (wrap64 (x3 + 1))) else (some false))) else (none)) else (some true)
def spec_l5plain.f (k : Nat) (a0 : ByteArray) : Option (Bool) := spec_l5plain.l0 k a0 0
theorem spec_l5plain.mono_l : ∀ k, (∀ y0 y1, LeO (spec_l5plain.l0 k y0 y1) (spec_l5plain.l0 (k + 1) y0 y1))
 | 0 => fun _ _ r h => by simp [spec_l5plain.l0] at h
 | k + 1 => by
  have ih0 := spec_l5plain.mono_l k
  ·intro y0 y1; unfold spec_l5plain.l0
   repeat' first | (with_reducible first | exact ih0 _ _ | exact LeO.refl _ | exact LeO.none _ | refine LeO.ite ?_ ?_ | refine LeO.bind ?_ (fun _ => ?_)) | exact ih0 _ _ | exact LeO.none _ | refine LeO.ite ?_ ?_ | refine LeO.bind ?_ (fun _ => ?_)
theorem spec_l5plain.mono : ∀ a0 k, LeO (spec_l5plain.f k a0) (spec_l5plain.f (k + 1) a0) := by
 intro a0 k; have ih0 := spec_l5plain.mono_l k; unfold spec_l5plain.f
 repeat' first | (with_reducible first | exact ih0 _ _ | exact LeO.refl _ | exact LeO.none _ | refine LeO.ite ?_ ?_ | refine LeO.bind ?_ (fun _ => ?_)) | exact ih0 _ _ | exact LeO.none _ | refine LeO.ite ?_ ?_ | refine LeO.bind ?_ (fun _ => ?_)
set_option maxHeartbeats 8000000 in
set_option maxRecDepth 100000 in
theorem spec_l5plain.calls (k : Nat) (a0 : ByteArray) (r : Bool) (w : World) (h : spec_l5plain.f k a0 = some r) :
  Calls Try.prog 24 #[.string a0] w fun e w' => e = .returned (.bool r) ∧ Drawn0 w w' := by
 have H : (spec_l5plain.l0 k a0 0) = some r := h; clear h; have H' := Aside0.mk H; clear H; go_enter Try.func24, Try.ntmps24
 go_wp2
 go_loopg [3] k (fun kq v3 w' => ∃ (x3_1 : Int), v3 = .int .i64 x3_1 ∧ Aside0 (spec_l5plain.l0 kq a0 x3_1 = some r) ∧ Aside0 (kq ≤ k) ∧ Drawn0 w w')
 case atStart => exact ⟨(0), zz4, H', ⟨Nat.le_refl _⟩, zz5⟩
 case round =>
  clear H'; obtain ⟨x3_1, rfl, HA, HK1, ⟨m1, rfl⟩⟩ := hrel
  cases gk with
  | zero => exact absurd HA.out (by simp [spec_l5plain.l0])
  | succ k1 =>
   have H := HA.out; clear HA; simp only [spec_l5plain.l0] at H
   by_cases c2 : x3_1 < (a0.size : Int)
   ·rw [if_pos c2] at H; have c2b0 : decide (x3_1 < (a0.size : Int)) = true := decide_eq_true c2; clear c2
    by_cases c3 : 0 ≤ x3_1
    ·rw [if_pos c3] at H; have c3b0 : decide (0 ≤ x3_1) = true := decide_eq_true c3; clear c3; replace H := Option.bind_eq_some_iff.mp H; obtain ⟨t224, A50, H⟩ := H; (try dsimp only at H); have A5 := Aside0.mk A50; clear A50; have HC6 := Aside0.mk H; clear H; have p4 : 0 ≤ (x3_1 : Int) := of_decide_eq_true zz7; have q4 : x3_1 < (a0.size : Int) := of_decide_eq_true zz7; have hx4 := bt_at a0 x3_1; replace p4 := eq_true p4; replace q4 := eq_true q4; go_upto_if 14 with (first | ((with_reducible refine gate_callee (f := 45) rfl ?_); refine goesQ_ 13 Try.func45 #[.int .u8 (bt a0 x3_1)] ?_; (with_reducible refine (spec_l1plain.calls (bt a0 x3_1) t224 _ A5.out).mono ?_); rintro e w' ⟨rfl, ⟨nd, rfl⟩⟩; refine ⟨_, rfl, ?_⟩))
     have H := HC6.out; clear HC6
     by_cases c7 : t224 = true
     ·subst c7; rw [if_pos rfl] at H; have H' := Aside0.mk H; clear H; go_wp2
      go_roundg k1
      (case measure => have := HK1.out; omega); case rel => exact ⟨(wrap64 (x3_1 + 1)), zz4, H', ⟨zz37⟩, zz5⟩
     ·replace c7 := Bool.eq_false_iff.mpr c7; subst c7; rw [if_neg Bool.false_ne_true] at H; obtain rfl := Option.some.inj H; go_wp2
      go_ret; exact ⟨zz4, zz5⟩
    ·rw [if_neg c3] at H; exact absurd H (by simp)
   ·rw [if_neg c2] at H; have c2b0 : decide (x3_1 < (a0.size : Int)) = false := decide_eq_false c2; clear c2; obtain rfl := Option.some.inj H; go_wp2
    go_ret; exact ⟨zz4, zz5⟩

/-! ### spec_l1white: function 46 -/
def spec_l1white.f (a0 : Int) : Option (Bool) := if a0 = 32 then (some true) else (some (a0 == 9))
set_option maxHeartbeats 8000000 in
set_option maxRecDepth 100000 in
theorem spec_l1white.calls (a0 : Int) (r : Bool) (w : World) (h : spec_l1white.f a0 = some r) :
  Calls Try.prog 46 #[.int .u8 a0] w fun e w' => e = .returned (.bool r) ∧ Drawn0 w w' := by
 have H : (if a0 = 32 then (some true) else (some (a0 == 9))) = some r := h; clear h
 by_cases c2 : a0 = 32
 ·rw [if_pos c2] at H; have c2b0 : (a0 == 32) = true := beq_iff_eq.mpr c2; have c2b1 : (a0 != 32) = false := bne_eq_false_iff_eq.mpr c2; clear c2; obtain rfl := Option.some.inj H; go_enter Try.func46, Try.ntmps46
  go_wp2
  go_ret; exact ⟨zz4, zz5⟩
 ·rw [if_neg c2] at H; have c2b0 : (a0 == 32) = false := beq_eq_false_iff_ne.mpr c2; have c2b1 : (a0 != 32) = true := bne_iff_ne.mpr c2; obtain rfl := Option.some.inj H; go_enter Try.func46, Try.ntmps46
  go_wp2
  go_ret; exact ⟨zz4, zz5⟩

/-! ### spec_Trim: function 25 -/
mutual
def spec_Trim.j1 : Nat → ByteArray → Int → Option (ByteArray)
 | 0, _, _ => none
 | k + 1, x0, x3 => spec_Trim.l1 k x0 x3 (x0.size : Int)
def spec_Trim.l1 : Nat → ByteArray → Int → Int → Option (ByteArray)
 | 0, _, _, _ => none
 | k + 1, x0, x3, x4 => if x4 > x3 then (if 0 ≤ (wrap64 (x4 - 1)) then (if (wrap64 (x4 - 1)) < (x0.size : Int) then ((spec_l1white.f (bt x0 (wrap64 (x4 - 1)))).bind fun t226 => (if t226 = true then (spec_Trim.l1 k x0 x3 (wrap64 (x4 - 1))) else (if 0 ≤ x3 then (if x3 ≤ x4 then (if x4 ≤ (x0.size : Int) then (some (x0.extract (x3 : Int).toNat (x4 : Int).toNat)) else (none)) else (none)) else (none)))) else (none)) else (none)) else (if 0 ≤ x3 then (if x3 ≤ x4 then (if x4 ≤ (x0.size : Int) then (some (x0.extract (x3 : Int).toNat (x4 : Int).toNat)) else (none)) else (none)) else (none))
def spec_Trim.l0 : Nat → ByteArray → Int → Option (ByteArray)
 | 0, _, _ => none
 | k + 1, x0, x3 => if x3 < (x0.size : Int) then (if 0 ≤ x3 then ((spec_l1white.f (bt x0 x3)).bind fun t225 => (if t225 = true then (spec_Trim.l0 k x0 (wrap64 (x3 + 1))) else (spec_Trim.j1 k x0 x3))) else (none)) else (spec_Trim.j1 k x0 x3)
end
def spec_Trim.f (k : Nat) (a0 : ByteArray) : Option (ByteArray) := spec_Trim.l0 k a0 0
theorem spec_Trim.mono_l : ∀ k, (∀ y0 y1, LeO (spec_Trim.j1 k y0 y1) (spec_Trim.j1 (k + 1) y0 y1)) ∧ (∀ y0 y1 y2, LeO (spec_Trim.l1 k y0 y1 y2) (spec_Trim.l1 (k + 1) y0 y1 y2)) ∧ (∀ y0 y1, LeO (spec_Trim.l0 k y0 y1) (spec_Trim.l0 (k + 1) y0 y1))
 | 0 => ⟨fun _ _ r h => by simp [spec_Trim.j1] at h, fun _ _ _ r h => by simp [spec_Trim.l1] at h, fun _ _ r h => by simp [spec_Trim.l0] at h⟩
 | k + 1 => by
  obtain ⟨ih0, ih1, ih2⟩ := spec_Trim.mono_l k; refine ⟨?_, ?_, ?_⟩
  ·intro y0 y1; unfold spec_Trim.j1
   repeat' first | (with_reducible first | exact ih0 _ _ | exact ih1 _ _ _ | exact ih2 _ _ | exact LeO.refl _ | exact LeO.none _ | refine LeO.ite ?_ ?_ | refine LeO.bind ?_ (fun _ => ?_)) | exact ih0 _ _ | exact ih1 _ _ _ | exact ih2 _ _ | exact LeO.none _ | refine LeO.ite ?_ ?_ | refine LeO.bind ?_ (fun _ => ?_)
  ·intro y0 y1 y2; unfold spec_Trim.l1
   repeat' first | (with_reducible first | exact ih0 _ _ | exact ih1 _ _ _ | exact ih2 _ _ | exact LeO.refl _ | exact LeO.none _ | refine LeO.ite ?_ ?_ | refine LeO.bind ?_ (fun _ => ?_)) | exact ih0 _ _ | exact ih1 _ _ _ | exact ih2 _ _ | exact LeO.none _ | refine LeO.ite ?_ ?_ | refine LeO.bind ?_ (fun _ => ?_)
  ·intro y0 y1; unfold spec_Trim.l0
   repeat' first | (with_reducible first | exact ih0 _ _ | exact ih1 _ _ _ | exact ih2 _ _ | exact LeO.refl _ | exact LeO.none _ | refine LeO.ite ?_ ?_ | refine LeO.bind ?_ (fun _ => ?_)) | exact ih0 _ _ | exact ih1 _ _ _ | exact ih2 _ _ | exact LeO.none _ | refine LeO.ite ?_ ?_ | refine LeO.bind ?_ (fun _ => ?_)
theorem spec_Trim.mono : ∀ a0 k, LeO (spec_Trim.f k a0) (spec_Trim.f (k + 1) a0) := by
 intro a0 k; obtain ⟨ih0, ih1, ih2⟩ := spec_Trim.mono_l k; unfold spec_Trim.f
 repeat' first | (with_reducible first | exact ih0 _ _ | exact ih1 _ _ _ | exact ih2 _ _ | exact LeO.refl _ | exact LeO.none _ | refine LeO.ite ?_ ?_ | refine LeO.bind ?_ (fun _ => ?_)) | exact ih0 _ _ | exact ih1 _ _ _ | exact ih2 _ _ | exact LeO.none _ | refine LeO.ite ?_ ?_ | refine LeO.bind ?_ (fun _ => ?_)
set_option maxHeartbeats 8000000 in
set_option maxRecDepth 100000 in
theorem spec_Trim.calls (k : Nat) (a0 : ByteArray) (r : ByteArray) (w : World) (h : spec_Trim.f k a0 = some r) :
  Calls Try.prog 25 #[.string a0] w fun e w' => e = .returned (.string r) ∧ Drawn0 w w' := by
 have H : (spec_Trim.l0 k a0 0) = some r := h; clear h; have HC2 := Aside0.mk H; clear H; go_enter Try.func25, Try.ntmps25
 go_upto_block 0 with (fail)
 go_cut [3] (fun v3 wc => ∃ (kq : Nat) (x3_1 : Int), v3 = .int .i64 x3_1 ∧ Aside0 (spec_Trim.j1 kq a0 x3_1 = some r) ∧ Aside0 (kq ≤ k) ∧ Drawn0 w wc)
 case first =>
  have H := HC2.out; clear HC2; have H' := Aside0.mk H; clear H; go_wp2
  go_loopg [3] k (fun kq v3 w' => ∃ (x3_1 : Int), v3 = .int .i64 x3_1 ∧ Aside0 (spec_Trim.l0 kq a0 x3_1 = some r) ∧ Aside0 (kq ≤ k) ∧ Drawn0 w w')
  case atStart => exact ⟨(0), zz4, H', ⟨Nat.le_refl _⟩, zz5⟩
  case round =>
   clear H'; (try clear c2); (try clear p2); obtain ⟨x3_1, rfl, HA, HK1, ⟨m1, rfl⟩⟩ := hrel
   cases gk with
   | zero => exact absurd HA.out (by simp [spec_Trim.l0])
   | succ k1 =>
    have H := HA.out; clear HA; simp only [spec_Trim.l0] at H
    by_cases c3 : x3_1 < (a0.size : Int)
    ·rw [if_pos c3] at H; have c3b0 : decide (x3_1 < (a0.size : Int)) = true := decide_eq_true c3; clear c3; (first | rw [c3b0] | (simp only [i64_w, i32_w]; rw [c3b0]) | skip)
     by_cases c4 : 0 ≤ x3_1
     ·rw [if_pos c4] at H; have c4b0 : decide (0 ≤ x3_1) = true := decide_eq_true c4; clear c4; replace H := Option.bind_eq_some_iff.mp H; obtain ⟨t225, A60, H⟩ := H; (try dsimp only at H); have A6 := Aside0.mk A60; clear A60
      by_cases c7 : t225 = true
      ·subst c7; rw [if_pos rfl] at H; have H' := Aside0.mk H; clear H; have p5 : 0 ≤ (x3_1 : Int) := of_decide_eq_true zz7; have q5 : x3_1 < (a0.size : Int) := of_decide_eq_true zz7; have hx5 := bt_at a0 x3_1; replace p5 := eq_true p5; replace q5 := eq_true q5; go_wp2_with (first | (go_at_call 46; (with_reducible refine (spec_l1white.calls (bt a0 x3_1) true _ A6.out).mono ?_); rintro e w' ⟨rfl, ⟨nd, rfl⟩⟩))
       go_roundg k1
       (case measure => have := HK1.out; omega); case rel => exact ⟨(wrap64 (x3_1 + 1)), zz4, H', ⟨zz37⟩, zz5⟩
      ·replace c7 := Bool.eq_false_iff.mpr c7; subst c7; rw [if_neg Bool.false_ne_true] at H; have H' := Aside0.mk H; clear H; have p5 : 0 ≤ (x3_1 : Int) := of_decide_eq_true zz7; have q5 : x3_1 < (a0.size : Int) := of_decide_eq_true zz7; have hx5 := bt_at a0 x3_1; replace p5 := eq_true p5; replace q5 := eq_true q5; go_wp2_with (first | (go_at_call 46; (with_reducible refine (spec_l1white.calls (bt a0 x3_1) false _ A6.out).mono ?_); rintro e w' ⟨rfl, ⟨nd, rfl⟩⟩))
       go_meet
       case rel => exact ⟨_, (x3_1), zz4, H', ⟨zz43⟩, zz5⟩
     ·rw [if_neg c4] at H; exact absurd H (by simp)
    ·rw [if_neg c3] at H; have c3b0 : decide (x3_1 < (a0.size : Int)) = false := decide_eq_false c3; clear c3; (first | rw [c3b0] | (simp only [i64_w, i32_w]; rw [c3b0]) | skip); have H' := Aside0.mk H; clear H; go_wp2
     go_meet
     case rel => exact ⟨_, (x3_1), zz4, H', ⟨zz43⟩, zz5⟩
 case rest =>
  clear HC2; (try clear c2); (try clear p2); (try clear c3); (try clear c3b0); (try clear c4); (try clear c4b0); (try clear p5); (try clear q5); (try clear hx5); (try clear p6); (try clear c7); (try clear p2); (try clear p5); (try clear q5); obtain ⟨kq, x3_1, rfl, HA, HJ1, ⟨mc1, rfl⟩⟩ := hcut
  cases kq with
  | zero => exact absurd HA.out (by simp [spec_Trim.j1])
  | succ kj1 =>
   have H := HA.out; clear HA; simp only [spec_Trim.j1] at H; have H' := Aside0.mk H; clear H; go_wp2
   go_loopg [4] kj1 (fun kq v4 w' => ∃ (x4_2 : Int), v4 = .int .i64 x4_2 ∧ Aside0 (spec_Trim.l1 kq a0 x3_1 x4_2 = some r) ∧ Aside0 (kq ≤ kj1) ∧ Drawn0 w w')
   case atStart => exact ⟨((a0.size : Int)), zz4, H', ⟨Nat.le_refl _⟩, zz5⟩
   case round =>
    clear H'; (try clear c1); (try clear c2); (try clear p2); (try clear c3); (try clear c3b0); (try clear c4); (try clear c4b0); (try clear p5); (try clear q5); (try clear hx5); (try clear p6); (try clear c7); (try clear p2); (try clear p5); (try clear p6); (try clear q5); obtain ⟨x4_2, rfl, HA, HK2, ⟨m2, rfl⟩⟩ := hrel
    cases gk with
    | zero => exact absurd HA.out (by simp [spec_Trim.l1])
    | succ k2 =>
     have H := HA.out; clear HA; simp only [spec_Trim.l1] at H
     by_cases c8 : x4_2 > x3_1
     ·rw [if_pos c8] at H; have c8b0 : decide (x3_1 < x4_2) = true := decide_eq_true c8; clear c8; obtain ⟨ji9, hji9⟩ : ∃ j_ : Int, (wrap64 (x4_2 - 1)) = j_ := ⟨_, rfl⟩; replace H : (if 0 ≤ (ji9) then (if (ji9) < (a0.size : Int) then ((spec_l1white.f (bt a0 (ji9))).bind fun t226 => (if t226 = true then (spec_Trim.l1 k2 a0 x3_1 ji9) else (if 0 ≤ x3_1 then (if x3_1 ≤ x4_2 then (if x4_2 ≤ (a0.size : Int) then (some (a0.extract (x3_1 : Int).toNat (x4_2 : Int).toNat)) else (none)) else (none)) else (none)))) else (none)) else (none)) = some r := by first | (rw [hji9] at H; exact H) | (simp only [hji9] at H ⊢; exact H)
      have hji9w : (IntKind.i64.wrap (x4_2 - 1)) = ji9 := (i64_w _).trans hji9
      by_cases c10 : 0 ≤ (ji9)
      ·rw [if_pos c10] at H; have c10b0 : decide (0 ≤ (ji9)) = true := decide_eq_true c10; clear c10
       by_cases c11 : (ji9) < (a0.size : Int)
       ·rw [if_pos c11] at H; have c11b0 : decide ((ji9) < (a0.size : Int)) = true := decide_eq_true c11; clear c11; replace H := Option.bind_eq_some_iff.mp H; obtain ⟨t226, A130, H⟩ := H; (try dsimp only at H); have A13 := Aside0.mk A130; clear A130
        by_cases c14 : t226 = true
        ·subst c14; rw [if_pos rfl] at H; have H' := Aside0.mk H; clear H; have p12 : 0 ≤ ((ji9) : Int) := of_decide_eq_true zz7; have q12 : (ji9) < (a0.size : Int) := of_decide_eq_true zz7; have hx12 := bt_at a0 (ji9); replace p12 := eq_true p12; replace q12 := eq_true q12; go_wp2_with (first | (go_at_call 46; (with_reducible refine (spec_l1white.calls (bt a0 (ji9)) true _ A13.out).mono ?_); rintro e w' ⟨rfl, ⟨nd, rfl⟩⟩))
         go_roundg k2
         (case measure => have := HJ1.out; have := HK2.out; omega); case rel => exact ⟨(ji9), (by first | rfl | (simp; done) | (simp only [← hji9] <;> (first | rfl | simp)) | (simp [*]; done)), H', ⟨by have := HJ1.out; have := HK2.out; omega⟩, zz5⟩
        ·replace c14 := Bool.eq_false_iff.mpr c14; subst c14; rw [if_neg Bool.false_ne_true] at H
         by_cases c15 : 0 ≤ x3_1
         ·rw [if_pos c15] at H; have c15b0 := eq_true c15; have c15b1 : decide (0 ≤ x3_1) = true := decide_eq_true c15; clear c15
          by_cases c16 : x3_1 ≤ x4_2
          ·rw [if_pos c16] at H; have c16b0 := eq_true c16; have c16b1 : decide (x3_1 ≤ x4_2) = true := decide_eq_true c16; clear c16
           by_cases c17 : x4_2 ≤ (a0.size : Int)
           ·rw [if_pos c17] at H; have c17b0 := eq_true c17; have c17b1 : decide (x4_2 ≤ (a0.size : Int)) = true := decide_eq_true c17; clear c17; obtain rfl := Option.some.inj H; have p12 : 0 ≤ ((ji9) : Int) := of_decide_eq_true zz7; have q12 : (ji9) < (a0.size : Int) := of_decide_eq_true zz7; have hx12 := bt_at a0 (ji9); replace p12 := eq_true p12; replace q12 := eq_true q12; go_wp2_with (first | (go_at_call 46; (with_reducible refine (spec_l1white.calls (bt a0 (ji9)) false _ A13.out).mono ?_); rintro e w' ⟨rfl, ⟨nd, rfl⟩⟩))
            go_ret; exact ⟨by first | rfl | (simp; done) | (simp only [← hji9] <;> (first | rfl | simp)) | (simp [*]; done), zz5⟩
           ·rw [if_neg c17] at H; exact absurd H (by simp)
          ·rw [if_neg c16] at H; exact absurd H (by simp)
         ·rw [if_neg c15] at H; exact absurd H (by simp)
       ·rw [if_neg c11] at H; exact absurd H (by simp)
      ·rw [if_neg c10] at H; exact absurd H (by simp)
     ·rw [if_neg c8] at H; have c8b0 : decide (x3_1 < x4_2) = false := decide_eq_false c8; clear c8
      by_cases c18 : 0 ≤ x3_1
      ·rw [if_pos c18] at H; have c18b0 := eq_true c18; have c18b1 : decide (0 ≤ x3_1) = true := decide_eq_true c18; clear c18
       by_cases c19 : x3_1 ≤ x4_2
       ·rw [if_pos c19] at H; have c19b0 := eq_true c19; have c19b1 : decide (x3_1 ≤ x4_2) = true := decide_eq_true c19; clear c19
        by_cases c20 : x4_2 ≤ (a0.size : Int)
        ·rw [if_pos c20] at H; have c20b0 := eq_true c20; have c20b1 : decide (x4_2 ≤ (a0.size : Int)) = true := decide_eq_true c20; clear c20; obtain rfl := Option.some.inj H; go_wp2
         go_ret; exact ⟨zz4, zz5⟩
        ·rw [if_neg c20] at H; exact absurd H (by simp)
       ·rw [if_neg c19] at H; exact absurd H (by simp)
      ·rw [if_neg c18] at H; exact absurd H (by simp)

/-! ### spec_FieldOk: function 7 -/
def spec_FieldOk.f (k : Nat) (a0_0 : ByteArray) (a0_1 : ByteArray) : Option (Bool) := if (a0_0.size : Int) ≤ 40 then ((spec_Token.f k a0_0).bind fun t228 => (if t228 = true then (if (a0_1.size : Int) ≤ 190 then ((spec_l5plain.f k a0_1).bind fun t229 => (if t229 = true then ((spec_Trim.f k a0_1).bind fun t230 => (some (t230.toList == a0_1.toList))) else (some false))) else (some false)) else (some false))) else (some false)
theorem spec_FieldOk.mono : ∀ a0 a1 k, LeO (spec_FieldOk.f k a0 a1) (spec_FieldOk.f (k + 1) a0 a1) := by
 intro a0 a1 k; unfold spec_FieldOk.f
 repeat' first | (with_reducible first | exact spec_Token.mono _ _ | exact spec_Trim.mono _ _ | exact spec_l5plain.mono _ _ | exact LeO.refl _ | exact LeO.none _ | refine LeO.ite ?_ ?_ | refine LeO.bind ?_ (fun _ => ?_)) | exact spec_Token.mono _ _ | exact spec_Trim.mono _ _ | exact spec_l5plain.mono _ _ | exact LeO.none _ | refine LeO.ite ?_ ?_ | refine LeO.bind ?_ (fun _ => ?_)
set_option maxHeartbeats 8000000 in
set_option maxRecDepth 100000 in
theorem spec_FieldOk.calls (k : Nat) (a0_0 : ByteArray) (a0_1 : ByteArray) (r : Bool) (w : World) (h : spec_FieldOk.f k a0_0 a0_1 = some r) :
  Calls Try.prog 7 #[.agg #[.string a0_0, .string a0_1]] w fun e w' => e = .returned (.bool r) ∧ Below w.heap.size w w' := by
 have hu24 := Try.underlying24; have HB := Aside0.mk (Below.refl w.heap.size w); have H : (if (a0_0.size : Int) ≤ 40 then ((spec_Token.f k a0_0).bind fun t228 => (if t228 = true then (if (a0_1.size : Int) ≤ 190 then ((spec_l5plain.f k a0_1).bind fun t229 => (if t229 = true then ((spec_Trim.f k a0_1).bind fun t230 => (some (t230.toList == a0_1.toList))) else (some false))) else (some false)) else (some false))) else (some false)) = some r := h; clear h
 by_cases c2 : (a0_0.size : Int) ≤ 40
 ·rw [if_pos c2] at H; have c2b0 : decide ((a0_0.size : Int) ≤ 40) = true := decide_eq_true c2; have c2b1 : decide (a0_0.size ≤ 40) = true := decide_eq_true (by omega); clear c2; replace H := Option.bind_eq_some_iff.mp H; obtain ⟨t228, A30, H⟩ := H; (try dsimp only at H); have A3 := Aside0.mk A30; clear A30
  by_cases c4 : t228 = true
  ·subst c4; rw [if_pos rfl] at H
   by_cases c5 : (a0_1.size : Int) ≤ 190
   ·rw [if_pos c5] at H; have c5b0 : decide ((a0_1.size : Int) ≤ 190) = true := decide_eq_true c5; have c5b1 : decide (a0_1.size ≤ 190) = true := decide_eq_true (by omega); clear c5; replace H := Option.bind_eq_some_iff.mp H; obtain ⟨t229, A60, H⟩ := H; (try dsimp only at H); have A6 := Aside0.mk A60; clear A60
    by_cases c7 : t229 = true
    ·subst c7; rw [if_pos rfl] at H; replace H := Option.bind_eq_some_iff.mp H; obtain ⟨t230, A80, H⟩ := H; (try dsimp only at H); have A8 := Aside0.mk A80; clear A80; obtain rfl := Option.some.inj H; go_enter Try.func7, Try.ntmps7
     go_wp2_with (first | ((with_reducible refine gate_dst (N := 1) rfl ?_); (try (refine gate_guard (by rfl) ?_; dsimp only)); refine boxP_ (N := 1) (cs := #[.string a0_0, .string a0_1]) (t := 24) ?_; intro gb227 hg w9 hbox hb; have BK227 := Aside0.mk (hbox); have GE227 := geb_ (w := w) hg zz0; replace HB := Aside0.mk (below_step zz0 hb); clear hb hbox hg; obtain ⟨_, _, _, _⟩ := cells2_ BK227.out) | (go_at_call 23; (with_reducible refine (spec_Token.calls k a0_0 true _ A3.out).mono ?_); rintro e w' ⟨rfl, ⟨nd, rfl⟩⟩; (try first | exact ⟨rfl, _, World.drewN_drewN _ _ _⟩ | exact ⟨rfl, _, Eq.trans (World.drewN_drewN _ _ _) (congrArg (World.drewN _) (Nat.add_assoc _ _ _))⟩)) | (go_at_call 24; (with_reducible refine (spec_l5plain.calls k a0_1 true _ A6.out).mono ?_); rintro e w' ⟨rfl, ⟨nd, rfl⟩⟩; (try first | exact ⟨rfl, _, World.drewN_drewN _ _ _⟩ | exact ⟨rfl, _, Eq.trans (World.drewN_drewN _ _ _) (congrArg (World.drewN _) (Nat.add_assoc _ _ _))⟩)) | (go_at_call 25; (with_reducible refine (spec_Trim.calls k a0_1 t230 _ A8.out).mono ?_); rintro e w' ⟨rfl, ⟨nd, rfl⟩⟩; (try first | exact ⟨rfl, _, World.drewN_drewN _ _ _⟩ | exact ⟨rfl, _, Eq.trans (World.drewN_drewN _ _ _) (congrArg (World.drewN _) (Nat.add_assoc _ _ _))⟩)))
     repeat (go_quiet (first | ((with_reducible refine gate_dst (N := 1) rfl ?_); (try (refine gate_guard (by rfl) ?_; dsimp only)); refine boxP_ (N := 1) (cs := #[.string a0_0, .string a0_1]) (t := 24) ?_; intro gb227 hg w9 hbox hb; have BK227 := Aside0.mk (hbox); have GE227 := geb_ (w := w) hg zz0; replace HB := Aside0.mk (below_step zz0 hb); clear hb hbox hg; obtain ⟨_, _, _, _⟩ := cells2_ BK227.out) | (go_at_call 23; (with_reducible refine (spec_Token.calls k a0_0 true _ A3.out).mono ?_); rintro e w' ⟨rfl, ⟨nd, rfl⟩⟩; (try first | exact ⟨rfl, _, World.drewN_drewN _ _ _⟩ | exact ⟨rfl, _, Eq.trans (World.drewN_drewN _ _ _) (congrArg (World.drewN _) (Nat.add_assoc _ _ _))⟩)) | (go_at_call 24; (with_reducible refine (spec_l5plain.calls k a0_1 true _ A6.out).mono ?_); rintro e w' ⟨rfl, ⟨nd, rfl⟩⟩; (try first | exact ⟨rfl, _, World.drewN_drewN _ _ _⟩ | exact ⟨rfl, _, Eq.trans (World.drewN_drewN _ _ _) (congrArg (World.drewN _) (Nat.add_assoc _ _ _))⟩)) | (go_at_call 25; (with_reducible refine (spec_Trim.calls k a0_1 t230 _ A8.out).mono ?_); rintro e w' ⟨rfl, ⟨nd, rfl⟩⟩; (try first | exact ⟨rfl, _, World.drewN_drewN _ _ _⟩ | exact ⟨rfl, _, Eq.trans (World.drewN_drewN _ _ _) (congrArg (World.drewN _) (Nat.add_assoc _ _ _))⟩))); try go_wp2_with (first | ((with_reducible refine gate_dst (N := 1) rfl ?_); (try (refine gate_guard (by rfl) ?_; dsimp only)); refine boxP_ (N := 1) (cs := #[.string a0_0, .string a0_1]) (t := 24) ?_; intro gb227 hg w9 hbox hb; have BK227 := Aside0.mk (hbox); have GE227 := geb_ (w := w) hg zz0; replace HB := Aside0.mk (below_step zz0 hb); clear hb hbox hg; obtain ⟨_, _, _, _⟩ := cells2_ BK227.out) | (go_at_call 23; (with_reducible refine (spec_Token.calls k a0_0 true _ A3.out).mono ?_); rintro e w' ⟨rfl, ⟨nd, rfl⟩⟩; (try first | exact ⟨rfl, _, World.drewN_drewN _ _ _⟩ | exact ⟨rfl, _, Eq.trans (World.drewN_drewN _ _ _) (congrArg (World.drewN _) (Nat.add_assoc _ _ _))⟩)) | (go_at_call 24; (with_reducible refine (spec_l5plain.calls k a0_1 true _ A6.out).mono ?_); rintro e w' ⟨rfl, ⟨nd, rfl⟩⟩; (try first | exact ⟨rfl, _, World.drewN_drewN _ _ _⟩ | exact ⟨rfl, _, Eq.trans (World.drewN_drewN _ _ _) (congrArg (World.drewN _) (Nat.add_assoc _ _ _))⟩)) | (go_at_call 25; (with_reducible refine (spec_Trim.calls k a0_1 t230 _ A8.out).mono ?_); rintro e w' ⟨rfl, ⟨nd, rfl⟩⟩; (try first | exact ⟨rfl, _, World.drewN_drewN _ _ _⟩ | exact ⟨rfl, _, Eq.trans (World.drewN_drewN _ _ _) (congrArg (World.drewN _) (Nat.add_assoc _ _ _))⟩))))
     go_ret; exact ⟨zz2, zz20⟩
    ·replace c7 := Bool.eq_false_iff.mpr c7; subst c7; rw [if_neg Bool.false_ne_true] at H; obtain rfl := Option.some.inj H; go_enter Try.func7, Try.ntmps7
     go_wp2_with (first | ((with_reducible refine gate_dst (N := 1) rfl ?_); (try (refine gate_guard (by rfl) ?_; dsimp only)); refine boxP_ (N := 1) (cs := #[.string a0_0, .string a0_1]) (t := 24) ?_; intro gb227 hg w11 hbox hb; have BK227 := Aside0.mk (hbox); have GE227 := geb_ (w := w) hg zz0; replace HB := Aside0.mk (below_step zz0 hb); clear hb hbox hg; obtain ⟨_, _, _, _⟩ := cells2_ BK227.out) | (go_at_call 23; (with_reducible refine (spec_Token.calls k a0_0 true _ A3.out).mono ?_); rintro e w' ⟨rfl, ⟨nd, rfl⟩⟩; (try first | exact ⟨rfl, _, World.drewN_drewN _ _ _⟩ | exact ⟨rfl, _, Eq.trans (World.drewN_drewN _ _ _) (congrArg (World.drewN _) (Nat.add_assoc _ _ _))⟩)) | (go_at_call 24; (with_reducible refine (spec_l5plain.calls k a0_1 false _ A6.out).mono ?_); rintro e w' ⟨rfl, ⟨nd, rfl⟩⟩; (try first | exact ⟨rfl, _, World.drewN_drewN _ _ _⟩ | exact ⟨rfl, _, Eq.trans (World.drewN_drewN _ _ _) (congrArg (World.drewN _) (Nat.add_assoc _ _ _))⟩)))
     repeat (go_quiet (first | ((with_reducible refine gate_dst (N := 1) rfl ?_); (try (refine gate_guard (by rfl) ?_; dsimp only)); refine boxP_ (N := 1) (cs := #[.string a0_0, .string a0_1]) (t := 24) ?_; intro gb227 hg w11 hbox hb; have BK227 := Aside0.mk (hbox); have GE227 := geb_ (w := w) hg zz0; replace HB := Aside0.mk (below_step zz0 hb); clear hb hbox hg; obtain ⟨_, _, _, _⟩ := cells2_ BK227.out) | (go_at_call 23; (with_reducible refine (spec_Token.calls k a0_0 true _ A3.out).mono ?_); rintro e w' ⟨rfl, ⟨nd, rfl⟩⟩; (try first | exact ⟨rfl, _, World.drewN_drewN _ _ _⟩ | exact ⟨rfl, _, Eq.trans (World.drewN_drewN _ _ _) (congrArg (World.drewN _) (Nat.add_assoc _ _ _))⟩)) | (go_at_call 24; (with_reducible refine (spec_l5plain.calls k a0_1 false _ A6.out).mono ?_); rintro e w' ⟨rfl, ⟨nd, rfl⟩⟩; (try first | exact ⟨rfl, _, World.drewN_drewN _ _ _⟩ | exact ⟨rfl, _, Eq.trans (World.drewN_drewN _ _ _) (congrArg (World.drewN _) (Nat.add_assoc _ _ _))⟩))); try go_wp2_with (first | ((with_reducible refine gate_dst (N := 1) rfl ?_); (try (refine gate_guard (by rfl) ?_; dsimp only)); refine boxP_ (N := 1) (cs := #[.string a0_0, .string a0_1]) (t := 24) ?_; intro gb227 hg w11 hbox hb; have BK227 := Aside0.mk (hbox); have GE227 := geb_ (w := w) hg zz0; replace HB := Aside0.mk (below_step zz0 hb); clear hb hbox hg; obtain ⟨_, _, _, _⟩ := cells2_ BK227.out) | (go_at_call 23; (with_reducible refine (spec_Token.calls k a0_0 true _ A3.out).mono ?_); rintro e w' ⟨rfl, ⟨nd, rfl⟩⟩; (try first | exact ⟨rfl, _, World.drewN_drewN _ _ _⟩ | exact ⟨rfl, _, Eq.trans (World.drewN_drewN _ _ _) (congrArg (World.drewN _) (Nat.add_assoc _ _ _))⟩)) | (go_at_call 24; (with_reducible refine (spec_l5plain.calls k a0_1 false _ A6.out).mono ?_); rintro e w' ⟨rfl, ⟨nd, rfl⟩⟩; (try first | exact ⟨rfl, _, World.drewN_drewN _ _ _⟩ | exact ⟨rfl, _, Eq.trans (World.drewN_drewN _ _ _) (congrArg (World.drewN _) (Nat.add_assoc _ _ _))⟩))))
     go_ret; exact ⟨zz2, zz20⟩
   ·rw [if_neg c5] at H; have c5b0 : decide ((a0_1.size : Int) ≤ 190) = false := decide_eq_false c5; have c5b1 : decide (a0_1.size ≤ 190) = false := decide_eq_false (by omega); clear c5; obtain rfl := Option.some.inj H; go_enter Try.func7, Try.ntmps7
    go_wp2_with (first | ((with_reducible refine gate_dst (N := 1) rfl ?_); (try (refine gate_guard (by rfl) ?_; dsimp only)); refine boxP_ (N := 1) (cs := #[.string a0_0, .string a0_1]) (t := 24) ?_; intro gb227 hg w13 hbox hb; have BK227 := Aside0.mk (hbox); have GE227 := geb_ (w := w) hg zz0; replace HB := Aside0.mk (below_step zz0 hb); clear hb hbox hg; obtain ⟨_, _, _, _⟩ := cells2_ BK227.out) | (go_at_call 23; (with_reducible refine (spec_Token.calls k a0_0 true _ A3.out).mono ?_); rintro e w' ⟨rfl, ⟨nd, rfl⟩⟩; (try first | exact ⟨rfl, _, World.drewN_drewN _ _ _⟩ | exact ⟨rfl, _, Eq.trans (World.drewN_drewN _ _ _) (congrArg (World.drewN _) (Nat.add_assoc _ _ _))⟩)))
    repeat (go_quiet (first | ((with_reducible refine gate_dst (N := 1) rfl ?_); (try (refine gate_guard (by rfl) ?_; dsimp only)); refine boxP_ (N := 1) (cs := #[.string a0_0, .string a0_1]) (t := 24) ?_; intro gb227 hg w13 hbox hb; have BK227 := Aside0.mk (hbox); have GE227 := geb_ (w := w) hg zz0; replace HB := Aside0.mk (below_step zz0 hb); clear hb hbox hg; obtain ⟨_, _, _, _⟩ := cells2_ BK227.out) | (go_at_call 23; (with_reducible refine (spec_Token.calls k a0_0 true _ A3.out).mono ?_); rintro e w' ⟨rfl, ⟨nd, rfl⟩⟩; (try first | exact ⟨rfl, _, World.drewN_drewN _ _ _⟩ | exact ⟨rfl, _, Eq.trans (World.drewN_drewN _ _ _) (congrArg (World.drewN _) (Nat.add_assoc _ _ _))⟩))); try go_wp2_with (first | ((with_reducible refine gate_dst (N := 1) rfl ?_); (try (refine gate_guard (by rfl) ?_; dsimp only)); refine boxP_ (N := 1) (cs := #[.string a0_0, .string a0_1]) (t := 24) ?_; intro gb227 hg w13 hbox hb; have BK227 := Aside0.mk (hbox); have GE227 := geb_ (w := w) hg zz0; replace HB := Aside0.mk (below_step zz0 hb); clear hb hbox hg; obtain ⟨_, _, _, _⟩ := cells2_ BK227.out) | (go_at_call 23; (with_reducible refine (spec_Token.calls k a0_0 true _ A3.out).mono ?_); rintro e w' ⟨rfl, ⟨nd, rfl⟩⟩; (try first | exact ⟨rfl, _, World.drewN_drewN _ _ _⟩ | exact ⟨rfl, _, Eq.trans (World.drewN_drewN _ _ _) (congrArg (World.drewN _) (Nat.add_assoc _ _ _))⟩))))
    go_ret; exact ⟨zz2, zz20⟩
  ·replace c4 := Bool.eq_false_iff.mpr c4; subst c4; rw [if_neg Bool.false_ne_true] at H; obtain rfl := Option.some.inj H; go_enter Try.func7, Try.ntmps7
   go_wp2_with (first | ((with_reducible refine gate_dst (N := 1) rfl ?_); (try (refine gate_guard (by rfl) ?_; dsimp only)); refine boxP_ (N := 1) (cs := #[.string a0_0, .string a0_1]) (t := 24) ?_; intro gb227 hg w15 hbox hb; have BK227 := Aside0.mk (hbox); have GE227 := geb_ (w := w) hg zz0; replace HB := Aside0.mk (below_step zz0 hb); clear hb hbox hg; obtain ⟨_, _, _, _⟩ := cells2_ BK227.out) | (go_at_call 23; (with_reducible refine (spec_Token.calls k a0_0 false _ A3.out).mono ?_); rintro e w' ⟨rfl, ⟨nd, rfl⟩⟩; (try first | exact ⟨rfl, _, World.drewN_drewN _ _ _⟩ | exact ⟨rfl, _, Eq.trans (World.drewN_drewN _ _ _) (congrArg (World.drewN _) (Nat.add_assoc _ _ _))⟩)))
   repeat (go_quiet (first | ((with_reducible refine gate_dst (N := 1) rfl ?_); (try (refine gate_guard (by rfl) ?_; dsimp only)); refine boxP_ (N := 1) (cs := #[.string a0_0, .string a0_1]) (t := 24) ?_; intro gb227 hg w15 hbox hb; have BK227 := Aside0.mk (hbox); have GE227 := geb_ (w := w) hg zz0; replace HB := Aside0.mk (below_step zz0 hb); clear hb hbox hg; obtain ⟨_, _, _, _⟩ := cells2_ BK227.out) | (go_at_call 23; (with_reducible refine (spec_Token.calls k a0_0 false _ A3.out).mono ?_); rintro e w' ⟨rfl, ⟨nd, rfl⟩⟩; (try first | exact ⟨rfl, _, World.drewN_drewN _ _ _⟩ | exact ⟨rfl, _, Eq.trans (World.drewN_drewN _ _ _) (congrArg (World.drewN _) (Nat.add_assoc _ _ _))⟩))); try go_wp2_with (first | ((with_reducible refine gate_dst (N := 1) rfl ?_); (try (refine gate_guard (by rfl) ?_; dsimp only)); refine boxP_ (N := 1) (cs := #[.string a0_0, .string a0_1]) (t := 24) ?_; intro gb227 hg w15 hbox hb; have BK227 := Aside0.mk (hbox); have GE227 := geb_ (w := w) hg zz0; replace HB := Aside0.mk (below_step zz0 hb); clear hb hbox hg; obtain ⟨_, _, _, _⟩ := cells2_ BK227.out) | (go_at_call 23; (with_reducible refine (spec_Token.calls k a0_0 false _ A3.out).mono ?_); rintro e w' ⟨rfl, ⟨nd, rfl⟩⟩; (try first | exact ⟨rfl, _, World.drewN_drewN _ _ _⟩ | exact ⟨rfl, _, Eq.trans (World.drewN_drewN _ _ _) (congrArg (World.drewN _) (Nat.add_assoc _ _ _))⟩))))
   go_ret; exact ⟨zz2, zz20⟩
 ·rw [if_neg c2] at H; have c2b0 : decide ((a0_0.size : Int) ≤ 40) = false := decide_eq_false c2; have c2b1 : decide (a0_0.size ≤ 40) = false := decide_eq_false (by omega); clear c2; obtain rfl := Option.some.inj H; go_enter Try.func7, Try.ntmps7
  go_wp2_with (first | ((with_reducible refine gate_dst (N := 1) rfl ?_); (try (refine gate_guard (by rfl) ?_; dsimp only)); refine boxP_ (N := 1) (cs := #[.string a0_0, .string a0_1]) (t := 24) ?_; intro gb227 hg w17 hbox hb; have BK227 := Aside0.mk (hbox); have GE227 := geb_ (w := w) hg zz0; replace HB := Aside0.mk (below_step zz0 hb); clear hb hbox hg; obtain ⟨_, _, _, _⟩ := cells2_ BK227.out))
  repeat (go_quiet (first | ((with_reducible refine gate_dst (N := 1) rfl ?_); (try (refine gate_guard (by rfl) ?_; dsimp only)); refine boxP_ (N := 1) (cs := #[.string a0_0, .string a0_1]) (t := 24) ?_; intro gb227 hg w17 hbox hb; have BK227 := Aside0.mk (hbox); have GE227 := geb_ (w := w) hg zz0; replace HB := Aside0.mk (below_step zz0 hb); clear hb hbox hg; obtain ⟨_, _, _, _⟩ := cells2_ BK227.out)); try go_wp2_with (first | ((with_reducible refine gate_dst (N := 1) rfl ?_); (try (refine gate_guard (by rfl) ?_; dsimp only)); refine boxP_ (N := 1) (cs := #[.string a0_0, .string a0_1]) (t := 24) ?_; intro gb227 hg w17 hbox hb; have BK227 := Aside0.mk (hbox); have GE227 := geb_ (w := w) hg zz0; replace HB := Aside0.mk (below_step zz0 hb); clear hb hbox hg; obtain ⟨_, _, _, _⟩ := cells2_ BK227.out)))
  go_ret; exact ⟨zz2, zz20⟩

/-! ### strings_Cut: function 27 -/
def strings_Cut.f (a0 : ByteArray) (a1 : ByteArray) : Option (ByteArray × ByteArray × Bool) := if a0.size < 4294967281 then some (⟨(Lib.cut a0.data.toList a1.data.toList).1.toArray⟩, ⟨(Lib.cut a0.data.toList a1.data.toList).2.1.toArray⟩, (Lib.cut a0.data.toList a1.data.toList).2.2) else none
theorem strings_Cut.calls (a0 : ByteArray) (a1 : ByteArray) (r1 : ByteArray) (r2 : ByteArray) (r3 : Bool) (w : World) (hG : Gl w) (h : strings_Cut.f a0 a1 = some (r1, r2, r3)) :
  Calls Try.prog 27 #[.string a0, .string a1] w fun e w' => e = .returned (.tuple #[.string r1, .string r2, .bool r3]) ∧ Below w.heap.size w w' := by
 unfold strings_Cut.f at h
 by_cases hs : a0.size < 4294967281
 ·rw [if_pos hs] at h; obtain ⟨rfl, rfl, rfl⟩ : _ ∧ _ ∧ _ := by simpa only [Option.some.injEq, Prod.mk.injEq] using h
  obtain ⟨m, hm⟩ := hG.maxLen; refine (Try.strings_Cut a0 a1 m w hs hm).mono ?_; rintro e w' ⟨he, n, hw⟩; subst hw; exact ⟨he, pw_below_drewN (Below.refl _ _) n⟩
 ·rw [if_neg hs] at h; cases h


/-! ### impl_ReadField: function 9 -/
def impl_ReadField.f (k : Nat) (a0 : ByteArray) : Option (ByteArray × ByteArray × Bool) := (strings_Cut.f a0 (⟨#[58]⟩ : ByteArray)).bind fun bt232 => ((impl_Trim.f k bt232.2.1).bind fun t235 => (if bt232.2.2 = true then ((impl_FieldOk.f k bt232.1 t235).bind fun t237 => (if t237 = true then (some (bt232.1, t235, true)) else (some ((⟨#[]⟩ : ByteArray), (⟨#[]⟩ : ByteArray), false)))) else (some ((⟨#[]⟩ : ByteArray), (⟨#[]⟩ : ByteArray), false))))
theorem impl_ReadField.mono : ∀ a0 k, LeO (impl_ReadField.f k a0) (impl_ReadField.f (k + 1) a0) := by
 intro a0 k; unfold impl_ReadField.f
 repeat' first | (with_reducible first | exact impl_FieldOk.mono _ _ _ | exact impl_Trim.mono _ _ | exact LeO.refl _ | exact LeO.none _ | refine LeO.ite ?_ ?_ | refine LeO.bind ?_ (fun _ => ?_)) | exact impl_FieldOk.mono _ _ _ | exact impl_Trim.mono _ _ | exact LeO.none _ | refine LeO.ite ?_ ?_ | refine LeO.bind ?_ (fun _ => ?_)
set_option maxHeartbeats 8000000 in
set_option maxRecDepth 100000 in
theorem impl_ReadField.calls (k : Nat) (a0 : ByteArray) (r1 : ByteArray) (r2 : ByteArray) (r3 : Bool) (w : World) (hG : Gl w) (h : impl_ReadField.f k a0 = some (r1, r2, r3)) :
  Calls Try.prog 9 #[.string a0] w fun e w' => e = .returned (.tuple #[.agg #[.string r1, .string r2], .bool r3]) ∧ Below w.heap.size w w' := by
 have hu24 := Try.underlying24; have HG := Aside0.mk hG; clear hG; have HB := Aside0.mk (Below.refl w.heap.size w); have H : ((strings_Cut.f a0 (⟨#[58]⟩ : ByteArray)).bind fun bt232 => ((impl_Trim.f k bt232.2.1).bind fun t235 => (if bt232.2.2 = true then ((impl_FieldOk.f k bt232.1 t235).bind fun t237 => (if t237 = true then (some (bt232.1, t235, true)) else (some ((⟨#[]⟩ : ByteArray), (⟨#[]⟩ : ByteArray), false)))) else (some ((⟨#[]⟩ : ByteArray), (⟨#[]⟩ : ByteArray), false))))) = some (r1, r2, r3) := h; clear h; replace H := Option.bind_eq_some_iff.mp H; obtain ⟨⟨t232, t233, t234⟩, A20, H⟩ := H; (try dsimp only at H); have A2 := Aside0.mk A20; clear A20; replace H := Option.bind_eq_some_iff.mp H; obtain ⟨t235, A30, H⟩ := H; (try dsimp only at H); have A3 := Aside0.mk A30; clear A30; have HC4 := Aside0.mk H; clear H; go_enter Try.func9, Try.ntmps9
 repeat' (first | (go_big_may; (first | ((with_reducible refine gate_dst (N := 2) rfl ?_); refine boxP_ (N := 2) (cs := #[.string (⟨#[]⟩ : ByteArray), .string (⟨#[]⟩ : ByteArray)]) (t := 24) ?_; intro gb231 hg w5 hbox hb; have BK231 := Aside0.mk (hbox); have GE231 := geb_ (w := w) hg zz0; replace HB := Aside0.mk (below_step zz0 hb); clear hb hbox hg) | ((with_reducible refine gate_callee (f := 27) rfl ?_); refine goesQ_ 10 Try.func27 #[.string a0, .string (⟨#[58]⟩ : ByteArray)] ?_; (with_reducible refine (strings_Cut.calls a0 (⟨#[58]⟩ : ByteArray) t232 t233 t234 _ ?side1 A2.out).mono ?_); (case side1 => exact Gl.below HG.out zz19); rintro e w6 ⟨rfl, hb⟩; refine ⟨_, rfl, ?_⟩; replace BK231 := Aside0.mk (blk_below zz27 hb); replace HB := Aside0.mk (below_step zz19 hb); (try clear hb)) | ((with_reducible refine gate_callee (f := 28) rfl ?_); refine goesQ_ 16 Try.func28 #[.string t233] ?_; (with_reducible refine (impl_Trim.calls k t233 t235 _ A3.out).mono ?_); rintro e w' ⟨rfl, ⟨nd, rfl⟩⟩; refine ⟨_, rfl, ?_⟩; (try (rw [drewN_self w6]; generalize hq_ : World.drewN w6 _ = w6; have n0_ : Aside0 (w6.heap[gb231]? = some (.cells #[.string (⟨#[]⟩ : ByteArray), .string (⟨#[]⟩ : ByteArray)] 24 (0, 0))) := ⟨by rw [← hq_]; exact zz27⟩; have n1_ : Aside0 (Below w.heap.size w w6) := ⟨by rw [← hq_]; exact zz19⟩; clear BK231 HB hq_; have BK231 := n0_; have HB := n1_; clear n0_ n1_; have hcu1 : w6.cell? ⟨gb231, 0, none⟩ = some (.string (⟨#[]⟩ : ByteArray)) := (blk_cell BK231.out 0).trans rfl; have hfu1 := blk_frozen BK231.out 0; have hcu2 : w6.cell? ⟨gb231, 1, none⟩ = some (.string (⟨#[]⟩ : ByteArray)) := (blk_cell BK231.out 1).trans rfl; have hfu2 := blk_frozen BK231.out 1))) | ((with_reducible refine gate_dst (N := 7) rfl ?_); refine boxP_ (N := 7) (cs := #[.string (⟨#[]⟩ : ByteArray), .string (⟨#[]⟩ : ByteArray)]) (t := 24) ?_; intro gb236 hg w7 hbox hb; have BK236 := Aside0.mk (hbox); have GE236 := geb_ (w := w) hg zz19; replace HB := Aside0.mk (below_step zz19 hb); have NB231_236 := nbL_ (g := gb231) hg zz27; have NB236_231 := nbG_ (g := gb231) hg zz27; replace BK231 := Aside0.mk (blk_below zz27 hb); clear hb hbox hg; have hnb8 := NB236_231.out; have hnc8 := NB231_236.out; obtain ⟨_, _, _, _⟩ := cells2_ BK236.out))) | go_values | go_skip | go_big_want | ((first | (with_reducible refine gate_nog rfl ?_) | (fail_if_success with_reducible refine gate_any ?_)); go_step) | go_upon | dsimp only)
 have H := HC4.out; clear HC4
 by_cases c10 : t234 = true
 ·subst c10; rw [if_pos rfl] at H; replace H := Option.bind_eq_some_iff.mp H; obtain ⟨t237, A110, H⟩ := H; (try dsimp only at H); have A11 := Aside0.mk A110; clear A110; have HC12 := Aside0.mk H; clear H; have hnb13 := NB236_231.out; have hnc13 := NB231_236.out; obtain ⟨_, _, _, _⟩ := cells2_ BK236.out; go_upto_if 24 with (first | (go_at_call 21; (with_reducible refine (impl_FieldOk.calls k t232 t235 t237 _ A11.out).mono ?_); rintro e w15 ⟨rfl, hb⟩; have n0_ := Aside0.mk (blk_below (g := gb231) (o := .cells #[.string (⟨#[]⟩ : ByteArray), .string (⟨#[]⟩ : ByteArray)] 24 (0, 0)) (by (with_reducible repeat (first | refine blk_drewN ?_ _ | refine blk_drew ?_ | refine blk_alloc ?_ _)); refine blk_far ?_ NB231_236.out _; (with_reducible repeat (first | refine blk_drewN ?_ _ | refine blk_drew ?_ | refine blk_alloc ?_ _)); refine blk_far ?_ NB231_236.out _; (with_reducible repeat (first | refine blk_drewN ?_ _ | refine blk_drew ?_ | refine blk_alloc ?_ _)); exact BK231.out) hb); have n1_ := Aside0.mk (blk_below (g := gb236) (o := .cells #[.string t232, .string t235] 24 (0, 0)) (by (with_reducible repeat (first | refine blk_drewN ?_ _ | refine blk_drew ?_ | refine blk_alloc ?_ _)); refine blk_put (cs := #[.string t232, .string (⟨#[]⟩ : ByteArray)]) ?_ 1 _ rfl; (with_reducible repeat (first | refine blk_drewN ?_ _ | refine blk_drew ?_ | refine blk_alloc ?_ _)); refine blk_put (cs := #[.string (⟨#[]⟩ : ByteArray), .string (⟨#[]⟩ : ByteArray)]) ?_ 0 _ rfl; (with_reducible repeat (first | refine blk_drewN ?_ _ | refine blk_drew ?_ | refine blk_alloc ?_ _)); exact BK236.out) hb); have n2_ := Aside0.mk (below_step zz24 hb); clear BK231; clear BK236; clear HB; have BK231 := n0_; have BK236 := n1_; have HB := n2_; clear n0_ n1_ n2_; (try clear hb); (try clear hb2); (try clear hk); (try clear hi)))
  have H := HC12.out; clear HC12
  by_cases c16 : t237 = true
  ·subst c16; rw [if_pos rfl] at H; simp only [Option.some.injEq, Prod.mk.injEq] at H; obtain ⟨rfl, rfl, rfl⟩ := H; have hnb17 := NB236_231.out; have hnc17 := NB231_236.out; obtain ⟨_, _, _, _⟩ := cells2_ BK236.out; obtain ⟨_, _, _, _⟩ := cells2_ BK231.out; go_wp2
   refine bodyPost_ret (results_ct rfl _ _ gb231 24 #[.string t232, .string t235] (0, 0) _ rfl (by (with_reducible repeat (first | refine blk_drewN ?_ _ | refine blk_drew ?_ | refine blk_alloc ?_ _)); refine blk_put (cs := #[.string t232, .string (⟨#[]⟩ : ByteArray)]) ?_ 1 _ rfl; (with_reducible repeat (first | refine blk_drewN ?_ _ | refine blk_drew ?_ | refine blk_alloc ?_ _)); refine blk_put (cs := #[.string (⟨#[]⟩ : ByteArray), .string (⟨#[]⟩ : ByteArray)]) ?_ 0 _ rfl; (with_reducible repeat (first | refine blk_drewN ?_ _ | refine blk_drew ?_ | refine blk_alloc ?_ _)); exact BK231.out) Try.underlying24 rfl (by kernel_rfl)) rfl ?_; exact ⟨zz2, zz24⟩
  ·replace c16 := Bool.eq_false_iff.mpr c16; subst c16; rw [if_neg Bool.false_ne_true] at H; simp only [Option.some.injEq, Prod.mk.injEq] at H; obtain ⟨rfl, rfl, rfl⟩ := H; have hnb20 := NB231_236.out; have hnc20 := NB236_231.out; obtain ⟨_, _, _, _⟩ := cells2_ BK231.out; go_wp2
   refine bodyPost_ret (results_ct rfl _ _ gb231 24 #[.string (⟨#[]⟩ : ByteArray), .string (⟨#[]⟩ : ByteArray)] (0, 0) _ rfl (by (with_reducible repeat (first | refine blk_drewN ?_ _ | refine blk_drew ?_ | refine blk_alloc ?_ _)); refine blk_put (cs := #[.string (⟨#[]⟩ : ByteArray), .string (⟨#[]⟩ : ByteArray)]) ?_ 1 _ rfl; (with_reducible repeat (first | refine blk_drewN ?_ _ | refine blk_drew ?_ | refine blk_alloc ?_ _)); refine blk_put (cs := #[.string (⟨#[]⟩ : ByteArray), .string (⟨#[]⟩ : ByteArray)]) ?_ 0 _ rfl; (with_reducible repeat (first | refine blk_drewN ?_ _ | refine blk_drew ?_ | refine blk_alloc ?_ _)); exact BK231.out) Try.underlying24 rfl (by kernel_rfl)) rfl ?_; exact ⟨zz2, zz24⟩
 ·replace c10 := Bool.eq_false_iff.mpr c10; subst c10; rw [if_neg Bool.false_ne_true] at H; simp only [Option.some.injEq, Prod.mk.injEq] at H; obtain ⟨rfl, rfl, rfl⟩ := H; have hnb22 := NB231_236.out; have hnc22 := NB236_231.out; obtain ⟨_, _, _, _⟩ := cells2_ BK231.out; go_wp2
  refine bodyPost_ret (results_ct rfl _ _ gb231 24 #[.string (⟨#[]⟩ : ByteArray), .string (⟨#[]⟩ : ByteArray)] (0, 0) _ rfl (by (with_reducible repeat (first | refine blk_drewN ?_ _ | refine blk_drew ?_ | refine blk_alloc ?_ _)); refine blk_put (cs := #[.string (⟨#[]⟩ : ByteArray), .string (⟨#[]⟩ : ByteArray)]) ?_ 1 _ rfl; (with_reducible repeat (first | refine blk_drewN ?_ _ | refine blk_drew ?_ | refine blk_alloc ?_ _)); refine blk_put (cs := #[.string (⟨#[]⟩ : ByteArray), .string (⟨#[]⟩ : ByteArray)]) ?_ 0 _ rfl; (with_reducible repeat (first | refine blk_drewN ?_ _ | refine blk_drew ?_ | refine blk_alloc ?_ _)); refine blk_far ?_ NB231_236.out _; (with_reducible repeat (first | refine blk_drewN ?_ _ | refine blk_drew ?_ | refine blk_alloc ?_ _)); refine blk_far ?_ NB231_236.out _; (with_reducible repeat (first | refine blk_drewN ?_ _ | refine blk_drew ?_ | refine blk_alloc ?_ _)); exact BK231.out) Try.underlying24 rfl (by kernel_rfl)) rfl ?_; exact ⟨zz2, zz24⟩

/-! ### impl_FieldsOk: function 19 -/
def impl_FieldsOk.l0 : Nat → List (S24) → Int → Int → Option (Bool)
 | 0, _, _, _ => none
 | k + 1, x8, x9, x10 => if x10 < x9 then (if 0 ≤ x10 then (if x10 < (x8.length : Int) then ((impl_FieldOk.f k ((rd_T24 x8 x10).f0) ((rd_T24 x8 x10).f1)).bind fun t240 => (if t240 = true then (impl_FieldsOk.l0 k x8 x9 (wrap64 (x10 + 1))) else (some false))) else (none)) else (none)) else (some true)
def impl_FieldsOk.f (k : Nat) (l0 : List (S24)) : Option (Bool) := if (l0.length : Int) > 20 then (some false) else (impl_FieldsOk.l0 k l0 (l0.length : Int) 0)
theorem impl_FieldsOk.mono_l : ∀ k, (∀ y0 y1 y2, LeO (impl_FieldsOk.l0 k y0 y1 y2) (impl_FieldsOk.l0 (k + 1) y0 y1 y2))
 | 0 => fun _ _ _ r h => by simp [impl_FieldsOk.l0] at h
 | k + 1 => by
  have ih0 := impl_FieldsOk.mono_l k
  ·intro y0 y1 y2; unfold impl_FieldsOk.l0
   repeat' first | (with_reducible first | exact ih0 _ _ _ | exact impl_FieldOk.mono _ _ _ | exact LeO.refl _ | exact LeO.none _ | refine LeO.ite ?_ ?_ | refine LeO.bind ?_ (fun _ => ?_)) | exact ih0 _ _ _ | exact impl_FieldOk.mono _ _ _ | exact LeO.none _ | refine LeO.ite ?_ ?_ | refine LeO.bind ?_ (fun _ => ?_)
theorem impl_FieldsOk.mono : ∀ a0 k, LeO (impl_FieldsOk.f k a0) (impl_FieldsOk.f (k + 1) a0) := by
 intro a0 k; have ih0 := impl_FieldsOk.mono_l k; unfold impl_FieldsOk.f
 repeat' first | (with_reducible first | exact ih0 _ _ _ | exact impl_FieldOk.mono _ _ _ | exact LeO.refl _ | exact LeO.none _ | refine LeO.ite ?_ ?_ | refine LeO.bind ?_ (fun _ => ?_)) | exact ih0 _ _ _ | exact impl_FieldOk.mono _ _ _ | exact LeO.none _ | refine LeO.ite ?_ ?_ | refine LeO.bind ?_ (fun _ => ?_)
set_option maxHeartbeats 8000000 in
set_option maxRecDepth 100000 in
theorem impl_FieldsOk.calls (k : Nat) (A0 : Option Addr) (c0 : Nat) (l0 : List (S24)) (r : Bool) (w : World) (hr0 : Kd.C k24 w A0 l0.length l0) (hc0 : l0.length ≤ c0) (h : impl_FieldsOk.f k l0 = some r) :
  Calls Try.prog 19 #[.slice A0 l0.length c0] w fun e w' => e = .returned (.bool r) ∧ Below w.heap.size w w' := by
 have hu24 := Try.underlying24; have HR0 := Aside0.mk hr0; have HC0 := Aside0.mk hc0; clear hr0 hc0; have HB := Aside0.mk (Below.refl w.heap.size w); have H : (if (l0.length : Int) > 20 then (some false) else (impl_FieldsOk.l0 k l0 (l0.length : Int) 0)) = some r := h; clear h
 by_cases c2 : (l0.length : Int) > 20
 ·rw [if_pos c2] at H; have c2b0 : decide (20 < (l0.length : Int)) = true := decide_eq_true c2; have c2b1 : decide (20 < l0.length) = true := decide_eq_true (by omega); clear c2; obtain rfl := Option.some.inj H; go_enter Try.func19, Try.ntmps19
  go_wp2
  go_ret; exact ⟨zz2, zz0⟩
 ·rw [if_neg c2] at H; have c2b0 : decide (20 < (l0.length : Int)) = false := decide_eq_false c2; have c2b1 : decide (20 < l0.length) = false := decide_eq_false (by omega); clear c2; have H' := Aside0.mk H; clear H; go_enter Try.func19, Try.ntmps19
  go_wp2
  go_loopg [10] k (fun kq v10 w' => ∃ (x10_1 : Int), v10 = .int .i64 x10_1 ∧ Aside0 (impl_FieldsOk.l0 kq l0 (l0.length : Int) x10_1 = some r) ∧ Aside0 (kq ≤ k) ∧ Aside0 (Below w.heap.size w w'))
  case atStart => exact ⟨(0), zz4, H', ⟨Nat.le_refl _⟩, ⟨zz0⟩⟩
  case round =>
   clear H'; (try clear c1); (try clear c2); (try clear c2b0); (try clear c2b1); (try clear p2); obtain ⟨x10_1, rfl, HA, HK1, HB⟩ := hrel
   cases gk with
   | zero => exact absurd HA.out (by simp [impl_FieldsOk.l0])
   | succ k1 =>
    have H := HA.out; clear HA; simp only [impl_FieldsOk.l0] at H
    by_cases c3 : x10_1 < (l0.length : Int)
    ·rw [if_pos c3] at H; have c3b0 : decide (x10_1 < (l0.length : Int)) = true := decide_eq_true c3; clear c3
     by_cases c4 : 0 ≤ x10_1
     ·rw [if_pos c4] at H; have c4b0 : decide (0 ≤ x10_1) = true := decide_eq_true c4; clear c4
      by_cases c5 : x10_1 < (l0.length : Int)
      ·rw [if_pos c5] at H; have c5b0 : decide (x10_1 < (l0.length : Int)) = true := decide_eq_true c5; clear c5; replace H := Option.bind_eq_some_iff.mp H; obtain ⟨t240, A60, H⟩ := H; (try dsimp only at H); have A6 := Aside0.mk A60; clear A60; have HC7 := Aside0.mk H; clear H; have p238 : 0 ≤ (x10_1 : Int) := of_decide_eq_true zz7; have q238 : x10_1 < (l0.length : Int) := of_decide_eq_true zz7; obtain ⟨ad238, e238, W238⟩ := at_T24 HR0.out x10_1 p238 q238; cases e238; obtain ⟨hx238_0, hx238_1⟩ := El24.up HB.out W238; replace p238 := eq_true p238; replace q238 := eq_true q238; go_upto_if 16 with (first | ((with_reducible refine gate_dst (N := 4) rfl ?_); refine boxP_ (N := 4) (cs := #[.string (⟨#[]⟩ : ByteArray), .string (⟨#[]⟩ : ByteArray)]) (t := 24) ?_; intro gb239 hg w8 hbox hb; have BK239 := Aside0.mk (hbox); have GE239 := geb_ (w := w) hg zz0; replace HB := Aside0.mk (below_step zz0 hb); clear hb hbox hg; obtain ⟨_, _, _, _⟩ := cells2_ BK239.out) | ((with_reducible refine gate_callee (f := 21) rfl ?_); refine goesQ_ 15 Try.func21 #[.agg #[.string ((rd_T24 l0 x10_1).f0), .string ((rd_T24 l0 x10_1).f1)]] ?_; (with_reducible refine (impl_FieldOk.calls k1 ((rd_T24 l0 x10_1).f0) ((rd_T24 l0 x10_1).f1) t240 _ A6.out).mono ?_); rintro e w10 ⟨rfl, hb⟩; refine ⟨_, rfl, ?_⟩; replace BK239 := Aside0.mk (blk_below (g := gb239) (o := .cells #[.string ((rd_T24 l0 x10_1).f0), .string ((rd_T24 l0 x10_1).f1)] 24 (0, 0)) (by (with_reducible repeat (first | refine blk_drewN ?_ _ | refine blk_drew ?_ | refine blk_alloc ?_ _)); refine blk_put (cs := #[.string ((rd_T24 l0 x10_1).f0), .string (⟨#[]⟩ : ByteArray)]) ?_ 1 _ rfl; (with_reducible repeat (first | refine blk_drewN ?_ _ | refine blk_drew ?_ | refine blk_alloc ?_ _)); refine blk_put (cs := #[.string (⟨#[]⟩ : ByteArray), .string (⟨#[]⟩ : ByteArray)]) ?_ 0 _ rfl; (with_reducible repeat (first | refine blk_drewN ?_ _ | refine blk_drew ?_ | refine blk_alloc ?_ _)); exact BK239.out) hb); replace HB := Aside0.mk (below_step zz33 hb); (try clear hb)))
       have H := HC7.out; clear HC7
       by_cases c11 : t240 = true
       ·subst c11; rw [if_pos rfl] at H; have H' := Aside0.mk H; clear H; go_wp2
        go_roundg k1
        (case measure => have := HK1.out; omega); case rel => exact ⟨(wrap64 (x10_1 + 1)), zz4, H', ⟨zz37⟩, ⟨zz33⟩⟩
       ·replace c11 := Bool.eq_false_iff.mpr c11; subst c11; rw [if_neg Bool.false_ne_true] at H; obtain rfl := Option.some.inj H; go_wp2
        go_ret; exact ⟨zz2, zz33⟩
      ·rw [if_neg c5] at H; exact absurd H (by simp)
     ·rw [if_neg c4] at H; exact absurd H (by simp)
    ·rw [if_neg c3] at H; have c3b0 : decide (x10_1 < (l0.length : Int)) = false := decide_eq_false c3; clear c3; obtain rfl := Option.some.inj H; go_wp2
     go_ret; exact ⟨zz2, zz0⟩

end Go.Proofs.Ytkkolioolgpljaa.GFnFieldLines
