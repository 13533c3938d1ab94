-- Laid by gen.py of this session (over the kit's printing program): what the law FnHops reaches, as Lean functions, and that Go comes to just that.
import Derived.Test.YtkkolioolgpljaaGreatGFnHopsx0
import Derived.Test.YtkkolioolgpljaaGreatGFnHopsx4
import Derived.Test.YtkkolioolgpljaaGreatZFnHops
namespace Go.Proofs.YtkkolioolgpljaaGreat.GFnHops
open Go.RowKit Go.Proofs.YtkkolioolgpljaaGreatW.PrintWords Go.Proofs.YtkkolioolgpljaaGreatW.PrintLast Go.Proofs.YtkkolioolgpljaaGreatW.PrintMore Go.Proofs.YtkkolioolgpljaaGreatW.Zs
attribute [local go_sem] max2_int min2_int max_two min_two max_three min_three max_four min_four   -- for this text's walks alone
set_option linter.unusedVariables false
set_option linter.unusedSimpArgs false

/-! ### impl_Token: function 30 -/
def impl_Token.f (k : Nat) (a0 : ByteArray) : Option (Bool) := (impl_within.f (a0.size : Int) 1 4000).bind fun t222 => (if t222 = true then ((impl_all__impl_isTokenByte.f k a0).bind fun t223 => (some t223)) else (some false))
theorem impl_Token.mono : ∀ a0 k, LeO (impl_Token.f k a0) (impl_Token.f (k + 1) a0) := by
 intro a0 k; unfold impl_Token.f
 repeat' first | (with_reducible first | exact impl_all__impl_isTokenByte.mono _ _ | exact LeO.refl _ | exact LeO.none _ | refine LeO.ite ?_ ?_ | refine LeO.bind ?_ (fun _ => ?_)) | exact impl_all__impl_isTokenByte.mono _ _ | exact LeO.none _ | refine LeO.ite ?_ ?_ | refine LeO.bind ?_ (fun _ => ?_)
set_option maxHeartbeats 40000000 in
set_option maxRecDepth 100000 in
theorem impl_Token.calls (k : Nat) (a0 : ByteArray) (r : Bool) (w : World) (h : impl_Token.f k a0 = some r) :
  Calls Tryz.prog 30 #[.string a0] w fun e w' => e = .returned (.bool r) ∧ Drawn0 w w' := by
 have H : ((impl_within.f (a0.size : Int) 1 4000).bind fun t222 => (if t222 = true then ((impl_all__impl_isTokenByte.f k a0).bind fun t223 => (some t223)) else (some false))) = some r := h; clear h; replace H := Option.bind_eq_some_iff.mp H; obtain ⟨t222, A20, H⟩ := H; (try dsimp only at H); have A2 := Aside0.mk A20; clear A20; have HC3 := Aside0.mk H; clear H; go_enter Tryz.func30, Tryz.ntmps30
 repeat' (first | (go_big_may; (first | ((with_reducible refine gate_callee (f := 49) rfl ?_); refine goesR_ 5 Tryz.func49 #[.int .i64 (a0.size : Int), .int .i64 1, .int .i64 4000] (impl_within.calls (a0.size : Int) 1 4000 t222 _ A2.out) ?_; rintro w' ⟨nd, rfl⟩))) | go_values | go_skip | go_big_skip | go_big_want | ((first | (with_reducible refine gate_nog rfl ?_) | (fail_if_success with_reducible refine gate_any ?_)); go_step) | go_upon | simp only [Bool.not_true, Bool.not_false, Bool.true_and, Bool.false_and, Bool.true_or, Bool.false_or] | dsimp only)
 (try simp only [Act.put, List.setIfInBounds_toArray, List.set_cons_zero, List.set_cons_succ]); have H := HC3.out; clear HC3
 by_cases c4 : t222 = true
 ·subst c4; rw [if_pos rfl] at H; replace H := Option.bind_eq_some_iff.mp H; obtain ⟨t223, A50, H⟩ := H; (try dsimp only at H); have A5 := Aside0.mk A50; clear A50; obtain rfl := Option.some.inj H; go_wp2_with (first | (go_at_call 50; (with_reducible refine (impl_all__impl_isTokenByte.calls k a0 t223 _ A5.out).mono ?_); rintro e w' ⟨rfl, ⟨nd, rfl⟩⟩))
  go_ret; exact ⟨zz3, zz8⟩
 ·replace c4 := Bool.eq_false_iff.mpr c4; subst c4; rw [if_neg Bool.false_ne_true] at H; obtain rfl := Option.some.inj H; go_wp2
  go_ret; exact ⟨zz3, zz8⟩

/-! ### impl_isSpace: function 60 -/
def impl_isSpace.f (a0 : Int) : Option (Bool) := if a0 = 32 then (some true) else (some (a0 == 9))
set_option maxHeartbeats 40000000 in
set_option maxRecDepth 100000 in
theorem impl_isSpace.calls (a0 : Int) (r : Bool) (w : World) (h : impl_isSpace.f a0 = some r) :
  Calls Tryz.prog 60 #[.int .u8 a0] w fun e w' => e = .returned (.bool r) ∧ Drawn0 w w' := by
 have H : (if a0 = 32 then (some true) else (some (a0 == 9))) = some r := h; clear h
 by_cases c2 : a0 = 32
 ·rw [if_pos c2] at H; have c2b0 : (a0 == 32) = true := beq_iff_eq.mpr c2; have c2b1 : (a0 != 32) = false := bne_eq_false_iff_eq.mpr c2; clear c2; obtain rfl := Option.some.inj H; go_enter Tryz.func60, Tryz.ntmps60
  go_wp2
  go_ret; exact ⟨zz3, zz8⟩
 ·rw [if_neg c2] at H; have c2b0 : (a0 == 32) = false := beq_eq_false_iff_ne.mpr c2; have c2b1 : (a0 != 32) = true := bne_iff_ne.mpr c2; obtain rfl := Option.some.inj H; go_enter Tryz.func60, Tryz.ntmps60
  go_wp2
  go_ret; exact ⟨zz3, zz8⟩

/-! ### impl_Trim: function 42 -/
mutual
def impl_Trim.j1 : Nat → ByteArray → Option (ByteArray)
 | 0, _ => none
 | k + 1, x0 => impl_Trim.l1 k x0
def impl_Trim.l1 : Nat → ByteArray → Option (ByteArray)
 | 0, _ => none
 | k + 1, x0 => if x0.toList = ([] : List UInt8) then (some x0) else (if 0 ≤ (wrap64 ((x0.size : Int) - 1)) then (if (wrap64 ((x0.size : Int) - 1)) < (x0.size : Int) then ((impl_isSpace.f (bt x0 (wrap64 ((x0.size : Int) - 1)))).bind fun t225 => (if t225 = true then (if (wrap64 ((x0.size : Int) - 1)) ≤ (x0.size : Int) then (impl_Trim.l1 k (x0.extract 0 ((wrap64 ((x0.size : Int) - 1)) : Int).toNat)) else (none)) else (some x0))) else (none)) else (none))
def impl_Trim.l0 : Nat → ByteArray → Option (ByteArray)
 | 0, _ => none
 | k + 1, x0 => if x0.toList = ([] : List UInt8) then (impl_Trim.j1 k x0) else (if 0 < (x0.size : Int) then ((impl_isSpace.f (bt x0 0)).bind fun t224 => (if t224 = true then (if 1 ≤ (x0.size : Int) then (impl_Trim.l0 k (x0.extract 1 x0.size)) else (none)) else (impl_Trim.j1 k x0))) else (none))
end
def impl_Trim.f (k : Nat) (a0 : ByteArray) : Option (ByteArray) := impl_Trim.l0 k a0
theorem impl_Trim.mono_l : ∀ k, (∀ y0, LeO (impl_Trim.j1 k y0) (impl_Trim.j1 (k + 1) y0)) ∧ (∀ y0, LeO (impl_Trim.l1 k y0) (impl_Trim.l1 (k + 1) y0)) ∧ (∀ y0, LeO (impl_Trim.l0 k y0) (impl_Trim.l0 (k + 1) y0))
 | 0 => ⟨fun _ r h => by simp [impl_Trim.j1] at h, fun _ r h => by simp [impl_Trim.l1] at h, fun _ r h => by simp [impl_Trim.l0] at h⟩
 | k + 1 => by
  obtain ⟨ih0, ih1, ih2⟩ := impl_Trim.mono_l k; refine ⟨?_, ?_, ?_⟩
  ·intro y0; unfold impl_Trim.j1
   repeat' first | (with_reducible first | exact ih0 _ | exact ih1 _ | exact ih2 _ | exact LeO.refl _ | exact LeO.none _ | refine LeO.ite ?_ ?_ | refine LeO.bind ?_ (fun _ => ?_)) | exact ih0 _ | exact ih1 _ | exact ih2 _ | exact LeO.none _ | refine LeO.ite ?_ ?_ | refine LeO.bind ?_ (fun _ => ?_)
  ·intro y0; unfold impl_Trim.l1
   repeat' first | (with_reducible first | exact ih0 _ | exact ih1 _ | exact ih2 _ | exact LeO.refl _ | exact LeO.none _ | refine LeO.ite ?_ ?_ | refine LeO.bind ?_ (fun _ => ?_)) | exact ih0 _ | exact ih1 _ | exact ih2 _ | exact LeO.none _ | refine LeO.ite ?_ ?_ | refine LeO.bind ?_ (fun _ => ?_)
  ·intro y0; unfold impl_Trim.l0
   repeat' first | (with_reducible first | exact ih0 _ | exact ih1 _ | exact ih2 _ | exact LeO.refl _ | exact LeO.none _ | refine LeO.ite ?_ ?_ | refine LeO.bind ?_ (fun _ => ?_)) | exact ih0 _ | exact ih1 _ | exact ih2 _ | exact LeO.none _ | refine LeO.ite ?_ ?_ | refine LeO.bind ?_ (fun _ => ?_)
theorem impl_Trim.mono : ∀ a0 k, LeO (impl_Trim.f k a0) (impl_Trim.f (k + 1) a0) := by
 intro a0 k; obtain ⟨ih0, ih1, ih2⟩ := impl_Trim.mono_l k; unfold impl_Trim.f
 repeat' first | (with_reducible first | exact ih0 _ | exact ih1 _ | exact ih2 _ | exact LeO.refl _ | exact LeO.none _ | refine LeO.ite ?_ ?_ | refine LeO.bind ?_ (fun _ => ?_)) | exact ih0 _ | exact ih1 _ | exact ih2 _ | exact LeO.none _ | refine LeO.ite ?_ ?_ | refine LeO.bind ?_ (fun _ => ?_)
set_option maxHeartbeats 40000000 in
set_option maxRecDepth 100000 in
theorem impl_Trim.calls (k : Nat) (a0 : ByteArray) (r : ByteArray) (w : World) (h : impl_Trim.f k a0 = some r) :
  Calls Tryz.prog 42 #[.string a0] w fun e w' => e = .returned (.string r) ∧ Drawn0 w w' := by
 have H : (impl_Trim.l0 k a0) = some r := h; clear h; have HC2 := Aside0.mk H; clear H; go_enter Tryz.func42, Tryz.ntmps42
 go_upto_block 0 with (fail)
 go_cut [0] (fun v0 wc => ∃ (kq : Nat) (x0_1 : ByteArray), v0 = .string x0_1 ∧ Aside0 (impl_Trim.j1 kq x0_1 = some r) ∧ Aside0 (kq ≤ k) ∧ Drawn0 w wc)
 case first =>
  have H := HC2.out; clear HC2; have H' := Aside0.mk H; clear H; go_wp2
  go_loopg [0] k (fun kq v0 w' => ∃ (x0_1 : ByteArray), v0 = .string x0_1 ∧ Aside0 (impl_Trim.l0 kq x0_1 = some r) ∧ Aside0 (kq ≤ k) ∧ Drawn0 w w')
  case atStart => exact ⟨(a0), zz3, H', ⟨Nat.le_refl _⟩, zz8⟩
  case round =>
   clear H'; (try clear p2); obtain ⟨x0_1, rfl, HA, HK1, ⟨m1, rfl⟩⟩ := hrel
   cases gk with
   | zero => exact absurd HA.out (by simp [impl_Trim.l0])
   | succ k1 =>
    have H := HA.out; clear HA; simp only [impl_Trim.l0] at H
    by_cases c3 : x0_1.toList = ([] : List UInt8)
    ·rw [if_pos c3] at H; have c3b0 : (x0_1.toList == ([] : List UInt8)) = true := beq_iff_eq.mpr c3; have c3e : x0_1.toList.isEmpty = true := by have hz_ := beq_iff_eq.1 c3b0; rw [hz_]; rfl
     (try rw [c3e]); have c3b1 : (x0_1.toList != ([] : List UInt8)) = false := bne_eq_false_iff_eq.mpr c3; clear c3; (first | rw [c3b0] | (simp only [i64_w, i32_w]; rw [c3b0]) | rw [c3b1] | skip); have H' := Aside0.mk H; clear H; go_wp2
     go_meet
     case rel => exact ⟨_, (x0_1), zz3, H', ⟨zz30⟩, zz8⟩
    ·rw [if_neg c3] at H; have c3b0 : (x0_1.toList == ([] : List UInt8)) = false := beq_eq_false_iff_ne.mpr c3; have c3e : x0_1.toList.isEmpty = false := by cases hz_ : x0_1.toList with | nil => (rw [hz_] at c3b0; exact absurd c3b0 (by decide)) | cons _ _ => rfl
     (try rw [c3e]); have c3b1 : (x0_1.toList != ([] : List UInt8)) = true := bne_iff_ne.mpr c3; (first | rw [c3b0] | (simp only [i64_w, i32_w]; rw [c3b0]) | rw [c3b1] | skip)
     by_cases c4 : 0 < (x0_1.size : Int)
     ·rw [if_pos c4] at H; have c4b0 : decide (0 < (x0_1.size : Int)) = true := decide_eq_true c4; have c4b1 : decide (0 < x0_1.size) = true := decide_eq_true (by omega); clear c4; replace H := Option.bind_eq_some_iff.mp H; obtain ⟨t224, A60, H⟩ := H; (try dsimp only at H); have A6 := Aside0.mk A60; clear A60
      by_cases c7 : t224 = true
      ·subst c7; rw [if_pos rfl] at H
       by_cases c8 : 1 ≤ (x0_1.size : Int)
       ·rw [if_pos c8] at H; have c8b0 := eq_true c8; have c8b1 : decide (1 ≤ (x0_1.size : Int)) = true := decide_eq_true c8; clear c8; have H' := Aside0.mk H; clear H; have p5 : 0 ≤ (0 : Int) := (by omega); have q5 : 0 < x0_1.size := (by have : (0 : Int) < (x0_1.size : Int) := of_decide_eq_true zz6; omega); have hx5 : ∀ h : 0 < x0_1.size, ((x0_1[0]'h).toNat : Int) = bt x0_1 0 := bt_at x0_1 0; clear p5; have qi5 : (0 < (x0_1.size : Int)) = True := eq_true (of_decide_eq_true zz6); replace q5 := eq_true q5; go_wp2_with (first | (go_at_call 60; (with_reducible refine (impl_isSpace.calls (bt x0_1 0) true _ A6.out).mono ?_); rintro e w' ⟨rfl, ⟨nd, rfl⟩⟩))
        go_roundg k1
        (case measure => have := HK1.out; omega); case rel => exact ⟨(x0_1.extract 1 x0_1.size), zz3, H', ⟨zz24⟩, zz8⟩
       ·rw [if_neg c8] at H; exact absurd H (by simp)
      ·replace c7 := Bool.eq_false_iff.mpr c7; subst c7; rw [if_neg Bool.false_ne_true] at H; have H' := Aside0.mk H; clear H; have p5 : 0 ≤ (0 : Int) := (by omega); have q5 : 0 < x0_1.size := (by have : (0 : Int) < (x0_1.size : Int) := of_decide_eq_true zz6; omega); have hx5 : ∀ h : 0 < x0_1.size, ((x0_1[0]'h).toNat : Int) = bt x0_1 0 := bt_at x0_1 0; clear p5; have qi5 : (0 < (x0_1.size : Int)) = True := eq_true (of_decide_eq_true zz6); replace q5 := eq_true q5; go_wp2_with (first | (go_at_call 60; (with_reducible refine (impl_isSpace.calls (bt x0_1 0) false _ A6.out).mono ?_); rintro e w' ⟨rfl, ⟨nd, rfl⟩⟩))
       go_meet
       case rel => exact ⟨_, (x0_1), zz3, H', ⟨zz30⟩, zz8⟩
     ·rw [if_neg c4] at H; exact absurd H (by simp)
 case rest =>
  clear HC2; (try clear p2); (try clear c3); (try clear c3b0); (try clear c3b1); (try clear c4); (try clear c4b0); (try clear c4b1); (try clear p5); (try clear q5); (try clear hx5); (try clear qi5); (try clear c7); (try clear c8); (try clear c8b0); (try clear c8b1); (try clear p2); (try clear p5); (try clear q5); obtain ⟨kq, x0_1, rfl, HA, HJ1, ⟨mc1, rfl⟩⟩ := hcut
  cases kq with
  | zero => exact absurd HA.out (by simp [impl_Trim.j1])
  | succ kj1 =>
   have H := HA.out; clear HA; simp only [impl_Trim.j1] at H; have H' := Aside0.mk H; clear H; go_wp2
   go_loopg [0] kj1 (fun kq v0 w' => ∃ (x0_2 : ByteArray), v0 = .string x0_2 ∧ Aside0 (impl_Trim.l1 kq x0_2 = some r) ∧ Aside0 (kq ≤ kj1) ∧ Drawn0 w w')
   case atStart => exact ⟨(x0_1), zz3, H', ⟨Nat.le_refl _⟩, zz8⟩
   case round =>
    clear H'; (try clear c1); (try clear p2); (try clear c3); (try clear c3b0); (try clear c3b1); (try clear c4); (try clear c4b0); (try clear c4b1); (try clear p5); (try clear q5); (try clear hx5); (try clear qi5); (try clear c7); (try clear c8); (try clear c8b0); (try clear c8b1); (try clear p2); (try clear p5); (try clear q5); obtain ⟨x0_2, rfl, HA, HK2, ⟨m2, rfl⟩⟩ := hrel
    cases gk with
    | zero => exact absurd HA.out (by simp [impl_Trim.l1])
    | succ k2 =>
     have H := HA.out; clear HA; simp only [impl_Trim.l1] at H
     by_cases c9 : x0_2.toList = ([] : List UInt8)
     ·rw [if_pos c9] at H; have c9b0 : (x0_2.toList == ([] : List UInt8)) = true := beq_iff_eq.mpr c9; have c9e : x0_2.toList.isEmpty = true := by have hz_ := beq_iff_eq.1 c9b0; rw [hz_]; rfl
      (try rw [c9e]); have c9b1 : (x0_2.toList != ([] : List UInt8)) = false := bne_eq_false_iff_eq.mpr c9; clear c9; obtain rfl := Option.some.inj H; go_wp2
      go_ret; exact ⟨zz3, zz8⟩
     ·rw [if_neg c9] at H; have c9b0 : (x0_2.toList == ([] : List UInt8)) = false := beq_eq_false_iff_ne.mpr c9; have c9e : x0_2.toList.isEmpty = false := by cases hz_ : x0_2.toList with | nil => (rw [hz_] at c9b0; exact absurd c9b0 (by decide)) | cons _ _ => rfl
      (try rw [c9e]); have c9b1 : (x0_2.toList != ([] : List UInt8)) = true := bne_iff_ne.mpr c9; obtain ⟨ji10, hji10⟩ : ∃ j_ : Int, (wrap64 ((x0_2.size : Int) - 1)) = j_ := ⟨_, rfl⟩; replace H : (if 0 ≤ (ji10) then (if (ji10) < (x0_2.size : Int) then ((impl_isSpace.f (bt x0_2 (ji10))).bind fun t225 => (if t225 = true then (if (ji10) ≤ (x0_2.size : Int) then (impl_Trim.l1 k2 (x0_2.extract 0 ((ji10) : Int).toNat)) else (none)) else (some x0_2))) else (none)) else (none)) = some r := by first | (rw [hji10] at H; exact H) | (simp only [hji10] at H ⊢; exact H)
      have hji10w : (IntKind.i64.wrap ((x0_2.size : Int) - 1)) = ji10 := (i64_w _).trans hji10
      by_cases c11 : 0 ≤ (ji10)
      ·rw [if_pos c11] at H; have c11b0 : decide (0 ≤ (ji10)) = true := decide_eq_true c11; clear c11
       by_cases c12 : (ji10) < (x0_2.size : Int)
       ·rw [if_pos c12] at H; have c12b0 : decide ((ji10) < (x0_2.size : Int)) = true := decide_eq_true c12; clear c12; replace H := Option.bind_eq_some_iff.mp H; obtain ⟨t225, A140, H⟩ := H; (try dsimp only at H); have A14 := Aside0.mk A140; clear A140
        by_cases c15 : t225 = true
        ·subst c15; rw [if_pos rfl] at H; have c16b0 := eq_true (of_decide_eq_true zz6 : 0 ≤ (ji10))
         by_cases c17 : (ji10) ≤ (x0_2.size : Int)
         ·rw [if_pos c17] at H; have c17b0 := eq_true c17; have c17b1 : decide ((ji10) ≤ (x0_2.size : Int)) = true := decide_eq_true c17; clear c17; have H' := Aside0.mk H; clear H; have p13 : 0 ≤ ((ji10) : Int) := of_decide_eq_true zz6; have q13 : (ji10) < (x0_2.size : Int) := of_decide_eq_true zz6; have hx13 := bt_at x0_2 (ji10); replace p13 := eq_true p13; replace q13 := eq_true q13; go_wp2_with (first | (go_at_call 60; (with_reducible refine (impl_isSpace.calls (bt x0_2 (ji10)) true _ A14.out).mono ?_); rintro e w' ⟨rfl, ⟨nd, rfl⟩⟩))
          go_roundg k2
          (case measure => have := HJ1.out; have := HK2.out; omega); case rel => exact ⟨(x0_2.extract 0 ((ji10) : Int).toNat), (by first | rfl | (simp; done) | (simp only [← hji10] <;> (first | rfl | simp)) | (simp [*]; done)), H', ⟨by have := HJ1.out; have := HK2.out; omega⟩, zz8⟩
         ·rw [if_neg c17] at H; exact absurd H (by simp)
        ·replace c15 := Bool.eq_false_iff.mpr c15; subst c15; rw [if_neg Bool.false_ne_true] at H; obtain rfl := Option.some.inj H; have p13 : 0 ≤ ((ji10) : Int) := of_decide_eq_true zz6; have q13 : (ji10) < (x0_2.size : Int) := of_decide_eq_true zz6; have hx13 := bt_at x0_2 (ji10); replace p13 := eq_true p13; replace q13 := eq_true q13; go_wp2_with (first | (go_at_call 60; (with_reducible refine (impl_isSpace.calls (bt x0_2 (ji10)) false _ A14.out).mono ?_); rintro e w' ⟨rfl, ⟨nd, rfl⟩⟩))
         go_ret; exact ⟨by first | rfl | (simp; done) | (simp only [← hji10] <;> (first | rfl | simp)) | (simp [*]; done), zz8⟩
       ·rw [if_neg c12] at H; exact absurd H (by simp)
      ·rw [if_neg c11] at H; exact absurd H (by simp)

/-! ### impl_isPlain: function 61 -/
def impl_isPlain.f (a0 : Int) : Option (Bool) := if a0 = 9 then (some true) else (if a0 ≥ 32 then (some (a0 != 127)) else (some false))
set_option maxHeartbeats 40000000 in
set_option maxRecDepth 100000 in
theorem impl_isPlain.calls (a0 : Int) (r : Bool) (w : World) (h : impl_isPlain.f a0 = some r) :
  Calls Tryz.prog 61 #[.int .u8 a0] w fun e w' => e = .returned (.bool r) ∧ Drawn0 w w' := by
 have H : (if a0 = 9 then (some true) else (if a0 ≥ 32 then (some (a0 != 127)) else (some false))) = some r := h; clear h
 by_cases c2 : a0 = 9
 ·rw [if_pos c2] at H; have c2b0 : (a0 == 9) = true := beq_iff_eq.mpr c2; have c2b1 : (a0 != 9) = false := bne_eq_false_iff_eq.mpr c2; clear c2; obtain rfl := Option.some.inj H; go_enter Tryz.func61, Tryz.ntmps61
  go_wp2
  go_ret; exact ⟨zz3, zz8⟩
 ·rw [if_neg c2] at H; have c2b0 : (a0 == 9) = false := beq_eq_false_iff_ne.mpr c2; have c2b1 : (a0 != 9) = true := bne_iff_ne.mpr c2
  by_cases c3 : a0 ≥ 32
  ·rw [if_pos c3] at H; have c3b0 : decide (32 ≤ a0) = true := decide_eq_true c3; clear c3; obtain rfl := Option.some.inj H; go_enter Tryz.func61, Tryz.ntmps61
   go_wp2
   go_ret; exact ⟨zz3, zz8⟩
  ·rw [if_neg c3] at H; have c3b0 : decide (32 ≤ a0) = false := decide_eq_false c3; clear c3; obtain rfl := Option.some.inj H; go_enter Tryz.func61, Tryz.ntmps61
   go_wp2
   go_ret; exact ⟨zz3, zz8⟩

/-! ### impl_all__impl_isPlain: function 50 at a function value -/
def impl_all__impl_isPlain.l0 : Nat → ByteArray → Int → Option (Bool)
 | 0, _, _ => none
 | k + 1, x0, x5 => if x5 < (x0.size : Int) then (if 0 ≤ x5 then ((impl_isPlain.f (bt x0 x5)).bind fun t226 => (if t226 = true then (impl_all__impl_isPlain.l0 k x0 (wrap64 (x5 + 1))) else (some false))) else (none)) else (some true)
def impl_all__impl_isPlain.f (k : Nat) (a0 : ByteArray) : Option (Bool) := impl_all__impl_isPlain.l0 k a0 0
theorem impl_all__impl_isPlain.mono_l : ∀ k, (∀ y0 y1, LeO (impl_all__impl_isPlain.l0 k y0 y1) (impl_all__impl_isPlain.l0 (k + 1) y0 y1))
 | 0 => fun _ _ r h => by simp [impl_all__impl_isPlain.l0] at h
 | k + 1 => by
  have ih0 := impl_all__impl_isPlain.mono_l k
  ·intro y0 y1; unfold impl_all__impl_isPlain.l0
   repeat' first | (with_reducible first | exact ih0 _ _ | exact LeO.refl _ | exact LeO.none _ | refine LeO.ite ?_ ?_ | refine LeO.bind ?_ (fun _ => ?_)) | exact ih0 _ _ | exact LeO.none _ | refine LeO.ite ?_ ?_ | refine LeO.bind ?_ (fun _ => ?_)
theorem impl_all__impl_isPlain.mono : ∀ a0 k, LeO (impl_all__impl_isPlain.f k a0) (impl_all__impl_isPlain.f (k + 1) a0) := by
 intro a0 k; have ih0 := impl_all__impl_isPlain.mono_l k; unfold impl_all__impl_isPlain.f
 repeat' first | (with_reducible first | exact ih0 _ _ | exact LeO.refl _ | exact LeO.none _ | refine LeO.ite ?_ ?_ | refine LeO.bind ?_ (fun _ => ?_)) | exact ih0 _ _ | exact LeO.none _ | refine LeO.ite ?_ ?_ | refine LeO.bind ?_ (fun _ => ?_)
set_option maxHeartbeats 40000000 in
set_option maxRecDepth 100000 in
theorem impl_all__impl_isPlain.calls (k : Nat) (a0 : ByteArray) (r : Bool) (w : World) (h : impl_all__impl_isPlain.f k a0 = some r) :
  Calls Tryz.prog 50 #[.string a0, .func (.func 61) #[] #[]] w fun e w' => e = .returned (.bool r) ∧ Drawn0 w w' := by
 have H : (impl_all__impl_isPlain.l0 k a0 0) = some r := h; clear h; have H' := Aside0.mk H; clear H; go_enter Tryz.func50, Tryz.ntmps50
 go_wp2
 go_loopg [5] k (fun kq v5 w' => ∃ (x5_1 : Int), v5 = .int .i64 x5_1 ∧ Aside0 (impl_all__impl_isPlain.l0 kq a0 x5_1 = some r) ∧ Aside0 (kq ≤ k) ∧ Drawn0 w w')
 case atStart => exact ⟨(0), zz3, H', ⟨Nat.le_refl _⟩, zz8⟩
 case round =>
  clear H'; obtain ⟨x5_1, rfl, HA, HK1, ⟨m1, rfl⟩⟩ := hrel
  cases gk with
  | zero => exact absurd HA.out (by simp [impl_all__impl_isPlain.l0])
  | succ k1 =>
   have H := HA.out; clear HA; simp only [impl_all__impl_isPlain.l0] at H
   by_cases c2 : x5_1 < (a0.size : Int)
   ·rw [if_pos c2] at H; have c2b0 : decide (x5_1 < (a0.size : Int)) = true := decide_eq_true c2; clear c2
    by_cases c3 : 0 ≤ x5_1
    ·rw [if_pos c3] at H; have c3b0 : decide (0 ≤ x5_1) = true := decide_eq_true c3; clear c3; replace H := Option.bind_eq_some_iff.mp H; obtain ⟨t226, A50, H⟩ := H; (try dsimp only at H); have A5 := Aside0.mk A50; clear A50; have HC6 := Aside0.mk H; clear H; have p4 : 0 ≤ (x5_1 : Int) := of_decide_eq_true zz6; have q4 : x5_1 < (a0.size : Int) := of_decide_eq_true zz6; have hx4 := bt_at a0 x5_1; replace p4 := eq_true p4; replace q4 := eq_true q4; go_upto_if 17 with (first | (go_at_call 61; (with_reducible refine (impl_isPlain.calls (bt a0 x5_1) t226 _ A5.out).mono ?_); rintro e w' ⟨rfl, ⟨nd, rfl⟩⟩))
     (try simp only [Act.put, List.setIfInBounds_toArray, List.set_cons_zero, List.set_cons_succ]); have H := HC6.out; clear HC6
     by_cases c7 : t226 = true
     ·subst c7; rw [if_pos rfl] at H; have H' := Aside0.mk H; clear H; go_wp2
      go_roundg k1
      (case measure => have := HK1.out; omega); case rel => exact ⟨(wrap64 (x5_1 + 1)), zz3, H', ⟨zz24⟩, zz8⟩
     ·replace c7 := Bool.eq_false_iff.mpr c7; subst c7; rw [if_neg Bool.false_ne_true] at H; obtain rfl := Option.some.inj H; go_wp2
      go_ret; exact ⟨zz3, zz8⟩
    ·rw [if_neg c3] at H; exact absurd H (by simp)
   ·rw [if_neg c2] at H; have c2b0 : decide (x5_1 < (a0.size : Int)) = false := decide_eq_false c2; clear c2; obtain rfl := Option.some.inj H; go_wp2
    go_ret; exact ⟨zz3, zz8⟩

/-! ### impl_FieldOk: function 43 -/
def impl_FieldOk.f (k : Nat) (a0_0 : ByteArray) (a0_1 : ByteArray) : Option (Bool) := (impl_Token.f k a0_0).bind fun t228 => (if t228 = true then (if (a0_0.size : Int) ≤ 40 then (if (a0_1.size : Int) ≤ 190 then ((impl_all__impl_isPlain.f k a0_1).bind fun t229 => (if t229 = true then ((impl_Trim.f k a0_1).bind fun t230 => (some (t230.toList == a0_1.toList))) else (some false))) else (some false)) else (some false)) else (some false))
theorem impl_FieldOk.mono : ∀ a0 a1 k, LeO (impl_FieldOk.f k a0 a1) (impl_FieldOk.f (k + 1) a0 a1) := by
 intro a0 a1 k; unfold impl_FieldOk.f
 repeat' first | (with_reducible first | exact impl_Token.mono _ _ | exact impl_Trim.mono _ _ | exact impl_all__impl_isPlain.mono _ _ | exact LeO.refl _ | exact LeO.none _ | refine LeO.ite ?_ ?_ | refine LeO.bind ?_ (fun _ => ?_)) | exact impl_Token.mono _ _ | exact impl_Trim.mono _ _ | exact impl_all__impl_isPlain.mono _ _ | exact LeO.none _ | refine LeO.ite ?_ ?_ | refine LeO.bind ?_ (fun _ => ?_)
set_option maxHeartbeats 40000000 in
set_option maxRecDepth 100000 in
theorem impl_FieldOk.calls (k : Nat) (a0_0 : ByteArray) (a0_1 : ByteArray) (r : Bool) (w : World) (h : impl_FieldOk.f k a0_0 a0_1 = some r) :
  Calls Tryz.prog 43 #[.agg #[.string a0_0, .string a0_1]] w fun e w' => e = .returned (.bool r) ∧ Below w.heap.size w w' := by
 have hu30 := Tryz.underlying30; have HB := Aside0.mk (Below.refl w.heap.size w); have H : ((impl_Token.f k a0_0).bind fun t228 => (if t228 = true then (if (a0_0.size : Int) ≤ 40 then (if (a0_1.size : Int) ≤ 190 then ((impl_all__impl_isPlain.f k a0_1).bind fun t229 => (if t229 = true then ((impl_Trim.f k a0_1).bind fun t230 => (some (t230.toList == a0_1.toList))) else (some false))) else (some false)) else (some false)) else (some false))) = some r := h; clear h; replace H := Option.bind_eq_some_iff.mp H; obtain ⟨t228, A20, H⟩ := H; (try dsimp only at H); have A2 := Aside0.mk A20; clear A20
 by_cases c3 : t228 = true
 ·subst c3; rw [if_pos rfl] at H
  by_cases c4 : (a0_0.size : Int) ≤ 40
  ·rw [if_pos c4] at H; have c4b0 : decide ((a0_0.size : Int) ≤ 40) = true := decide_eq_true c4; have c4b1 : decide (a0_0.size ≤ 40) = true := decide_eq_true (by omega); clear c4
   by_cases c5 : (a0_1.size : Int) ≤ 190
   ·rw [if_pos c5] at H; have c5b0 : decide ((a0_1.size : Int) ≤ 190) = true := decide_eq_true c5; have c5b1 : decide (a0_1.size ≤ 190) = true := decide_eq_true (by omega); clear c5; replace H := Option.bind_eq_some_iff.mp H; obtain ⟨t229, A60, H⟩ := H; (try dsimp only at H); have A6 := Aside0.mk A60; clear A60
    by_cases c7 : t229 = true
    ·subst c7; rw [if_pos rfl] at H; replace H := Option.bind_eq_some_iff.mp H; obtain ⟨t230, A80, H⟩ := H; (try dsimp only at H); have A8 := Aside0.mk A80; clear A80; obtain rfl := Option.some.inj H; go_enter Tryz.func43, Tryz.ntmps43
     go_wp2_with (first | ((with_reducible refine gate_dst (N := 1) rfl ?_); (try (refine gate_guard (by rfl) ?_; dsimp only)); refine boxP_ (N := 1) (cs := #[.string a0_0, .string a0_1]) (t := 30) ?_; intro gb227 hg w9 hbox hb; have BK227 := Aside0.mk (hbox); have GE227 := geb_ (w := w) hg zz0; replace HB := Aside0.mk (below_step zz0 hb); clear hb hbox hg; obtain ⟨_, _, _, _⟩ := cells2_ BK227.out) | (go_at_call 30; (with_reducible refine (impl_Token.calls k a0_0 true _ A2.out).mono ?_); rintro e w' ⟨rfl, ⟨nd, rfl⟩⟩; (try first | exact ⟨rfl, _, World.drewN_drewN _ _ _⟩ | exact ⟨rfl, _, Eq.trans (World.drewN_drewN _ _ _) (congrArg (World.drewN _) (Nat.add_assoc _ _ _))⟩)) | (go_at_call 50; (with_reducible refine (impl_all__impl_isPlain.calls k a0_1 true _ A6.out).mono ?_); rintro e w' ⟨rfl, ⟨nd, rfl⟩⟩; (try first | exact ⟨rfl, _, World.drewN_drewN _ _ _⟩ | exact ⟨rfl, _, Eq.trans (World.drewN_drewN _ _ _) (congrArg (World.drewN _) (Nat.add_assoc _ _ _))⟩)) | (go_at_call 42; (with_reducible refine (impl_Trim.calls k a0_1 t230 _ A8.out).mono ?_); rintro e w' ⟨rfl, ⟨nd, rfl⟩⟩; (try first | exact ⟨rfl, _, World.drewN_drewN _ _ _⟩ | exact ⟨rfl, _, Eq.trans (World.drewN_drewN _ _ _) (congrArg (World.drewN _) (Nat.add_assoc _ _ _))⟩)))
     repeat (go_quiet (first | ((with_reducible refine gate_dst (N := 1) rfl ?_); (try (refine gate_guard (by rfl) ?_; dsimp only)); refine boxP_ (N := 1) (cs := #[.string a0_0, .string a0_1]) (t := 30) ?_; intro gb227 hg w9 hbox hb; have BK227 := Aside0.mk (hbox); have GE227 := geb_ (w := w) hg zz0; replace HB := Aside0.mk (below_step zz0 hb); clear hb hbox hg; obtain ⟨_, _, _, _⟩ := cells2_ BK227.out) | (go_at_call 30; (with_reducible refine (impl_Token.calls k a0_0 true _ A2.out).mono ?_); rintro e w' ⟨rfl, ⟨nd, rfl⟩⟩; (try first | exact ⟨rfl, _, World.drewN_drewN _ _ _⟩ | exact ⟨rfl, _, Eq.trans (World.drewN_drewN _ _ _) (congrArg (World.drewN _) (Nat.add_assoc _ _ _))⟩)) | (go_at_call 50; (with_reducible refine (impl_all__impl_isPlain.calls k a0_1 true _ A6.out).mono ?_); rintro e w' ⟨rfl, ⟨nd, rfl⟩⟩; (try first | exact ⟨rfl, _, World.drewN_drewN _ _ _⟩ | exact ⟨rfl, _, Eq.trans (World.drewN_drewN _ _ _) (congrArg (World.drewN _) (Nat.add_assoc _ _ _))⟩)) | (go_at_call 42; (with_reducible refine (impl_Trim.calls k a0_1 t230 _ A8.out).mono ?_); rintro e w' ⟨rfl, ⟨nd, rfl⟩⟩; (try first | exact ⟨rfl, _, World.drewN_drewN _ _ _⟩ | exact ⟨rfl, _, Eq.trans (World.drewN_drewN _ _ _) (congrArg (World.drewN _) (Nat.add_assoc _ _ _))⟩))); try go_wp2_with (first | ((with_reducible refine gate_dst (N := 1) rfl ?_); (try (refine gate_guard (by rfl) ?_; dsimp only)); refine boxP_ (N := 1) (cs := #[.string a0_0, .string a0_1]) (t := 30) ?_; intro gb227 hg w9 hbox hb; have BK227 := Aside0.mk (hbox); have GE227 := geb_ (w := w) hg zz0; replace HB := Aside0.mk (below_step zz0 hb); clear hb hbox hg; obtain ⟨_, _, _, _⟩ := cells2_ BK227.out) | (go_at_call 30; (with_reducible refine (impl_Token.calls k a0_0 true _ A2.out).mono ?_); rintro e w' ⟨rfl, ⟨nd, rfl⟩⟩; (try first | exact ⟨rfl, _, World.drewN_drewN _ _ _⟩ | exact ⟨rfl, _, Eq.trans (World.drewN_drewN _ _ _) (congrArg (World.drewN _) (Nat.add_assoc _ _ _))⟩)) | (go_at_call 50; (with_reducible refine (impl_all__impl_isPlain.calls k a0_1 true _ A6.out).mono ?_); rintro e w' ⟨rfl, ⟨nd, rfl⟩⟩; (try first | exact ⟨rfl, _, World.drewN_drewN _ _ _⟩ | exact ⟨rfl, _, Eq.trans (World.drewN_drewN _ _ _) (congrArg (World.drewN _) (Nat.add_assoc _ _ _))⟩)) | (go_at_call 42; (with_reducible refine (impl_Trim.calls k a0_1 t230 _ A8.out).mono ?_); rintro e w' ⟨rfl, ⟨nd, rfl⟩⟩; (try first | exact ⟨rfl, _, World.drewN_drewN _ _ _⟩ | exact ⟨rfl, _, Eq.trans (World.drewN_drewN _ _ _) (congrArg (World.drewN _) (Nat.add_assoc _ _ _))⟩))))
     go_ret; exact ⟨zz4, zz22⟩
    ·replace c7 := Bool.eq_false_iff.mpr c7; subst c7; rw [if_neg Bool.false_ne_true] at H; obtain rfl := Option.some.inj H; go_enter Tryz.func43, Tryz.ntmps43
     go_wp2_with (first | ((with_reducible refine gate_dst (N := 1) rfl ?_); (try (refine gate_guard (by rfl) ?_; dsimp only)); refine boxP_ (N := 1) (cs := #[.string a0_0, .string a0_1]) (t := 30) ?_; intro gb227 hg w11 hbox hb; have BK227 := Aside0.mk (hbox); have GE227 := geb_ (w := w) hg zz0; replace HB := Aside0.mk (below_step zz0 hb); clear hb hbox hg; obtain ⟨_, _, _, _⟩ := cells2_ BK227.out) | (go_at_call 30; (with_reducible refine (impl_Token.calls k a0_0 true _ A2.out).mono ?_); rintro e w' ⟨rfl, ⟨nd, rfl⟩⟩; (try first | exact ⟨rfl, _, World.drewN_drewN _ _ _⟩ | exact ⟨rfl, _, Eq.trans (World.drewN_drewN _ _ _) (congrArg (World.drewN _) (Nat.add_assoc _ _ _))⟩)) | (go_at_call 50; (with_reducible refine (impl_all__impl_isPlain.calls k a0_1 false _ A6.out).mono ?_); rintro e w' ⟨rfl, ⟨nd, rfl⟩⟩; (try first | exact ⟨rfl, _, World.drewN_drewN _ _ _⟩ | exact ⟨rfl, _, Eq.trans (World.drewN_drewN _ _ _) (congrArg (World.drewN _) (Nat.add_assoc _ _ _))⟩)))
     repeat (go_quiet (first | ((with_reducible refine gate_dst (N := 1) rfl ?_); (try (refine gate_guard (by rfl) ?_; dsimp only)); refine boxP_ (N := 1) (cs := #[.string a0_0, .string a0_1]) (t := 30) ?_; intro gb227 hg w11 hbox hb; have BK227 := Aside0.mk (hbox); have GE227 := geb_ (w := w) hg zz0; replace HB := Aside0.mk (below_step zz0 hb); clear hb hbox hg; obtain ⟨_, _, _, _⟩ := cells2_ BK227.out) | (go_at_call 30; (with_reducible refine (impl_Token.calls k a0_0 true _ A2.out).mono ?_); rintro e w' ⟨rfl, ⟨nd, rfl⟩⟩; (try first | exact ⟨rfl, _, World.drewN_drewN _ _ _⟩ | exact ⟨rfl, _, Eq.trans (World.drewN_drewN _ _ _) (congrArg (World.drewN _) (Nat.add_assoc _ _ _))⟩)) | (go_at_call 50; (with_reducible refine (impl_all__impl_isPlain.calls k a0_1 false _ A6.out).mono ?_); rintro e w' ⟨rfl, ⟨nd, rfl⟩⟩; (try first | exact ⟨rfl, _, World.drewN_drewN _ _ _⟩ | exact ⟨rfl, _, Eq.trans (World.drewN_drewN _ _ _) (congrArg (World.drewN _) (Nat.add_assoc _ _ _))⟩))); try go_wp2_with (first | ((with_reducible refine gate_dst (N := 1) rfl ?_); (try (refine gate_guard (by rfl) ?_; dsimp only)); refine boxP_ (N := 1) (cs := #[.string a0_0, .string a0_1]) (t := 30) ?_; intro gb227 hg w11 hbox hb; have BK227 := Aside0.mk (hbox); have GE227 := geb_ (w := w) hg zz0; replace HB := Aside0.mk (below_step zz0 hb); clear hb hbox hg; obtain ⟨_, _, _, _⟩ := cells2_ BK227.out) | (go_at_call 30; (with_reducible refine (impl_Token.calls k a0_0 true _ A2.out).mono ?_); rintro e w' ⟨rfl, ⟨nd, rfl⟩⟩; (try first | exact ⟨rfl, _, World.drewN_drewN _ _ _⟩ | exact ⟨rfl, _, Eq.trans (World.drewN_drewN _ _ _) (congrArg (World.drewN _) (Nat.add_assoc _ _ _))⟩)) | (go_at_call 50; (with_reducible refine (impl_all__impl_isPlain.calls k a0_1 false _ A6.out).mono ?_); rintro e w' ⟨rfl, ⟨nd, rfl⟩⟩; (try first | exact ⟨rfl, _, World.drewN_drewN _ _ _⟩ | exact ⟨rfl, _, Eq.trans (World.drewN_drewN _ _ _) (congrArg (World.drewN _) (Nat.add_assoc _ _ _))⟩))))
     go_ret; exact ⟨zz4, zz22⟩
   ·rw [if_neg c5] at H; have c5b0 : decide ((a0_1.size : Int) ≤ 190) = false := decide_eq_false c5; have c5b1 : decide (a0_1.size ≤ 190) = false := decide_eq_false (by omega); clear c5; obtain rfl := Option.some.inj H; go_enter Tryz.func43, Tryz.ntmps43
    go_wp2_with (first | ((with_reducible refine gate_dst (N := 1) rfl ?_); (try (refine gate_guard (by rfl) ?_; dsimp only)); refine boxP_ (N := 1) (cs := #[.string a0_0, .string a0_1]) (t := 30) ?_; intro gb227 hg w13 hbox hb; have BK227 := Aside0.mk (hbox); have GE227 := geb_ (w := w) hg zz0; replace HB := Aside0.mk (below_step zz0 hb); clear hb hbox hg; obtain ⟨_, _, _, _⟩ := cells2_ BK227.out) | (go_at_call 30; (with_reducible refine (impl_Token.calls k a0_0 true _ A2.out).mono ?_); rintro e w' ⟨rfl, ⟨nd, rfl⟩⟩; (try first | exact ⟨rfl, _, World.drewN_drewN _ _ _⟩ | exact ⟨rfl, _, Eq.trans (World.drewN_drewN _ _ _) (congrArg (World.drewN _) (Nat.add_assoc _ _ _))⟩)))
    repeat (go_quiet (first | ((with_reducible refine gate_dst (N := 1) rfl ?_); (try (refine gate_guard (by rfl) ?_; dsimp only)); refine boxP_ (N := 1) (cs := #[.string a0_0, .string a0_1]) (t := 30) ?_; intro gb227 hg w13 hbox hb; have BK227 := Aside0.mk (hbox); have GE227 := geb_ (w := w) hg zz0; replace HB := Aside0.mk (below_step zz0 hb); clear hb hbox hg; obtain ⟨_, _, _, _⟩ := cells2_ BK227.out) | (go_at_call 30; (with_reducible refine (impl_Token.calls k a0_0 true _ A2.out).mono ?_); rintro e w' ⟨rfl, ⟨nd, rfl⟩⟩; (try first | exact ⟨rfl, _, World.drewN_drewN _ _ _⟩ | exact ⟨rfl, _, Eq.trans (World.drewN_drewN _ _ _) (congrArg (World.drewN _) (Nat.add_assoc _ _ _))⟩))); try go_wp2_with (first | ((with_reducible refine gate_dst (N := 1) rfl ?_); (try (refine gate_guard (by rfl) ?_; dsimp only)); refine boxP_ (N := 1) (cs := #[.string a0_0, .string a0_1]) (t := 30) ?_; intro gb227 hg w13 hbox hb; have BK227 := Aside0.mk (hbox); have GE227 := geb_ (w := w) hg zz0; replace HB := Aside0.mk (below_step zz0 hb); clear hb hbox hg; obtain ⟨_, _, _, _⟩ := cells2_ BK227.out) | (go_at_call 30; (with_reducible refine (impl_Token.calls k a0_0 true _ A2.out).mono ?_); rintro e w' ⟨rfl, ⟨nd, rfl⟩⟩; (try first | exact ⟨rfl, _, World.drewN_drewN _ _ _⟩ | exact ⟨rfl, _, Eq.trans (World.drewN_drewN _ _ _) (congrArg (World.drewN _) (Nat.add_assoc _ _ _))⟩))))
    go_ret; exact ⟨zz4, zz22⟩
  ·rw [if_neg c4] at H; have c4b0 : decide ((a0_0.size : Int) ≤ 40) = false := decide_eq_false c4; have c4b1 : decide (a0_0.size ≤ 40) = false := decide_eq_false (by omega); clear c4; obtain rfl := Option.some.inj H; go_enter Tryz.func43, Tryz.ntmps43
   go_wp2_with (first | ((with_reducible refine gate_dst (N := 1) rfl ?_); (try (refine gate_guard (by rfl) ?_; dsimp only)); refine boxP_ (N := 1) (cs := #[.string a0_0, .string a0_1]) (t := 30) ?_; intro gb227 hg w15 hbox hb; have BK227 := Aside0.mk (hbox); have GE227 := geb_ (w := w) hg zz0; replace HB := Aside0.mk (below_step zz0 hb); clear hb hbox hg; obtain ⟨_, _, _, _⟩ := cells2_ BK227.out) | (go_at_call 30; (with_reducible refine (impl_Token.calls k a0_0 true _ A2.out).mono ?_); rintro e w' ⟨rfl, ⟨nd, rfl⟩⟩; (try first | exact ⟨rfl, _, World.drewN_drewN _ _ _⟩ | exact ⟨rfl, _, Eq.trans (World.drewN_drewN _ _ _) (congrArg (World.drewN _) (Nat.add_assoc _ _ _))⟩)))
   repeat (go_quiet (first | ((with_reducible refine gate_dst (N := 1) rfl ?_); (try (refine gate_guard (by rfl) ?_; dsimp only)); refine boxP_ (N := 1) (cs := #[.string a0_0, .string a0_1]) (t := 30) ?_; intro gb227 hg w15 hbox hb; have BK227 := Aside0.mk (hbox); have GE227 := geb_ (w := w) hg zz0; replace HB := Aside0.mk (below_step zz0 hb); clear hb hbox hg; obtain ⟨_, _, _, _⟩ := cells2_ BK227.out) | (go_at_call 30; (with_reducible refine (impl_Token.calls k a0_0 true _ A2.out).mono ?_); rintro e w' ⟨rfl, ⟨nd, rfl⟩⟩; (try first | exact ⟨rfl, _, World.drewN_drewN _ _ _⟩ | exact ⟨rfl, _, Eq.trans (World.drewN_drewN _ _ _) (congrArg (World.drewN _) (Nat.add_assoc _ _ _))⟩))); try go_wp2_with (first | ((with_reducible refine gate_dst (N := 1) rfl ?_); (try (refine gate_guard (by rfl) ?_; dsimp only)); refine boxP_ (N := 1) (cs := #[.string a0_0, .string a0_1]) (t := 30) ?_; intro gb227 hg w15 hbox hb; have BK227 := Aside0.mk (hbox); have GE227 := geb_ (w := w) hg zz0; replace HB := Aside0.mk (below_step zz0 hb); clear hb hbox hg; obtain ⟨_, _, _, _⟩ := cells2_ BK227.out) | (go_at_call 30; (with_reducible refine (impl_Token.calls k a0_0 true _ A2.out).mono ?_); rintro e w' ⟨rfl, ⟨nd, rfl⟩⟩; (try first | exact ⟨rfl, _, World.drewN_drewN _ _ _⟩ | exact ⟨rfl, _, Eq.trans (World.drewN_drewN _ _ _) (congrArg (World.drewN _) (Nat.add_assoc _ _ _))⟩))))
   go_ret; exact ⟨zz4, zz22⟩
 ·replace c3 := Bool.eq_false_iff.mpr c3; subst c3; rw [if_neg Bool.false_ne_true] at H; obtain rfl := Option.some.inj H; go_enter Tryz.func43, Tryz.ntmps43
  go_wp2_with (first | ((with_reducible refine gate_dst (N := 1) rfl ?_); (try (refine gate_guard (by rfl) ?_; dsimp only)); refine boxP_ (N := 1) (cs := #[.string a0_0, .string a0_1]) (t := 30) ?_; intro gb227 hg w17 hbox hb; have BK227 := Aside0.mk (hbox); have GE227 := geb_ (w := w) hg zz0; replace HB := Aside0.mk (below_step zz0 hb); clear hb hbox hg; obtain ⟨_, _, _, _⟩ := cells2_ BK227.out) | (go_at_call 30; (with_reducible refine (impl_Token.calls k a0_0 false _ A2.out).mono ?_); rintro e w' ⟨rfl, ⟨nd, rfl⟩⟩; (try first | exact ⟨rfl, _, World.drewN_drewN _ _ _⟩ | exact ⟨rfl, _, Eq.trans (World.drewN_drewN _ _ _) (congrArg (World.drewN _) (Nat.add_assoc _ _ _))⟩)))
  repeat (go_quiet (first | ((with_reducible refine gate_dst (N := 1) rfl ?_); (try (refine gate_guard (by rfl) ?_; dsimp only)); refine boxP_ (N := 1) (cs := #[.string a0_0, .string a0_1]) (t := 30) ?_; intro gb227 hg w17 hbox hb; have BK227 := Aside0.mk (hbox); have GE227 := geb_ (w := w) hg zz0; replace HB := Aside0.mk (below_step zz0 hb); clear hb hbox hg; obtain ⟨_, _, _, _⟩ := cells2_ BK227.out) | (go_at_call 30; (with_reducible refine (impl_Token.calls k a0_0 false _ A2.out).mono ?_); rintro e w' ⟨rfl, ⟨nd, rfl⟩⟩; (try first | exact ⟨rfl, _, World.drewN_drewN _ _ _⟩ | exact ⟨rfl, _, Eq.trans (World.drewN_drewN _ _ _) (congrArg (World.drewN _) (Nat.add_assoc _ _ _))⟩))); try go_wp2_with (first | ((with_reducible refine gate_dst (N := 1) rfl ?_); (try (refine gate_guard (by rfl) ?_; dsimp only)); refine boxP_ (N := 1) (cs := #[.string a0_0, .string a0_1]) (t := 30) ?_; intro gb227 hg w17 hbox hb; have BK227 := Aside0.mk (hbox); have GE227 := geb_ (w := w) hg zz0; replace HB := Aside0.mk (below_step zz0 hb); clear hb hbox hg; obtain ⟨_, _, _, _⟩ := cells2_ BK227.out) | (go_at_call 30; (with_reducible refine (impl_Token.calls k a0_0 false _ A2.out).mono ?_); rintro e w' ⟨rfl, ⟨nd, rfl⟩⟩; (try first | exact ⟨rfl, _, World.drewN_drewN _ _ _⟩ | exact ⟨rfl, _, Eq.trans (World.drewN_drewN _ _ _) (congrArg (World.drewN _) (Nat.add_assoc _ _ _))⟩))))
  go_ret; exact ⟨zz4, zz22⟩

/-! ### impl_FieldsOk: function 28 -/
def impl_FieldsOk.l0 : Nat → List (S30) → Int → Int → Option (Bool)
 | 0, _, _, _ => none
 | k + 1, x8, x9, x10 => if x10 < x9 then (if 0 ≤ x10 then (if x10 < (x8.length : Int) then ((impl_FieldOk.f k ((rd_T30 x8 x10).f0) ((rd_T30 x8 x10).f1)).bind fun t233 => (if t233 = true then (impl_FieldsOk.l0 k x8 x9 (wrap64 (x10 + 1))) else (some false))) else (none)) else (none)) else (some true)
def impl_FieldsOk.f (k : Nat) (l0 : List (S30)) : Option (Bool) := if (l0.length : Int) > 20 then (some false) else (impl_FieldsOk.l0 k l0 (l0.length : Int) 0)
theorem impl_FieldsOk.mono_l : ∀ k, (∀ y0 y1 y2, LeO (impl_FieldsOk.l0 k y0 y1 y2) (impl_FieldsOk.l0 (k + 1) y0 y1 y2))
 | 0 => fun _ _ _ r h => by simp [impl_FieldsOk.l0] at h
 | k + 1 => by
  have ih0 := impl_FieldsOk.mono_l k
  ·intro y0 y1 y2; unfold impl_FieldsOk.l0
   repeat' first | (with_reducible first | exact ih0 _ _ _ | exact impl_FieldOk.mono _ _ _ | exact LeO.refl _ | exact LeO.none _ | refine LeO.ite ?_ ?_ | refine LeO.bind ?_ (fun _ => ?_)) | exact ih0 _ _ _ | exact impl_FieldOk.mono _ _ _ | exact LeO.none _ | refine LeO.ite ?_ ?_ | refine LeO.bind ?_ (fun _ => ?_)
theorem impl_FieldsOk.mono : ∀ a0 k, LeO (impl_FieldsOk.f k a0) (impl_FieldsOk.f (k + 1) a0) := by
 intro a0 k; have ih0 := impl_FieldsOk.mono_l k; unfold impl_FieldsOk.f
 repeat' first | (with_reducible first | exact ih0 _ _ _ | exact impl_FieldOk.mono _ _ _ | exact LeO.refl _ | exact LeO.none _ | refine LeO.ite ?_ ?_ | refine LeO.bind ?_ (fun _ => ?_)) | exact ih0 _ _ _ | exact impl_FieldOk.mono _ _ _ | exact LeO.none _ | refine LeO.ite ?_ ?_ | refine LeO.bind ?_ (fun _ => ?_)
set_option maxHeartbeats 40000000 in
set_option maxRecDepth 100000 in
theorem impl_FieldsOk.calls (k : Nat) (A0 : Option Addr) (c0 : Nat) (l0 : List (S30)) (r : Bool) (w : World) (hr0 : Kd.C k30 w A0 l0.length l0) (hc0 : l0.length ≤ c0) (h : impl_FieldsOk.f k l0 = some r) :
  Calls Tryz.prog 28 #[.slice A0 l0.length c0] w fun e w' => e = .returned (.bool r) ∧ Below w.heap.size w w' := by
 have hu30 := Tryz.underlying30; have HR0 := Aside0.mk hr0; have HC0 := Aside0.mk hc0; clear hr0 hc0; have HB := Aside0.mk (Below.refl w.heap.size w); have H : (if (l0.length : Int) > 20 then (some false) else (impl_FieldsOk.l0 k l0 (l0.length : Int) 0)) = some r := h; clear h
 by_cases c2 : (l0.length : Int) > 20
 ·rw [if_pos c2] at H; have c2b0 : decide (20 < (l0.length : Int)) = true := decide_eq_true c2; have c2b1 : decide (20 < l0.length) = true := decide_eq_true (by omega); clear c2; obtain rfl := Option.some.inj H; go_enter Tryz.func28, Tryz.ntmps28
  go_wp2
  go_ret; exact ⟨zz4, zz0⟩
 ·rw [if_neg c2] at H; have c2b0 : decide (20 < (l0.length : Int)) = false := decide_eq_false c2; have c2b1 : decide (20 < l0.length) = false := decide_eq_false (by omega); clear c2; have H' := Aside0.mk H; clear H; go_enter Tryz.func28, Tryz.ntmps28
  go_wp2
  go_loopg [10] k (fun kq v10 w' => ∃ (x10_1 : Int), v10 = .int .i64 x10_1 ∧ Aside0 (impl_FieldsOk.l0 kq l0 (l0.length : Int) x10_1 = some r) ∧ Aside0 (kq ≤ k) ∧ Aside0 (Below w.heap.size w w'))
  case atStart => exact ⟨(0), zz3, H', ⟨Nat.le_refl _⟩, ⟨zz0⟩⟩
  case round =>
   clear H'; (try clear c2); (try clear c2b0); (try clear c2b1); (try clear p2); obtain ⟨x10_1, rfl, HA, HK1, HB⟩ := hrel
   cases gk with
   | zero => exact absurd HA.out (by simp [impl_FieldsOk.l0])
   | succ k1 =>
    have H := HA.out; clear HA; simp only [impl_FieldsOk.l0] at H
    by_cases c3 : x10_1 < (l0.length : Int)
    ·rw [if_pos c3] at H; have c3b0 : decide (x10_1 < (l0.length : Int)) = true := decide_eq_true c3; clear c3
     by_cases c4 : 0 ≤ x10_1
     ·rw [if_pos c4] at H; have c4b0 : decide (0 ≤ x10_1) = true := decide_eq_true c4; clear c4
      by_cases c5 : x10_1 < (l0.length : Int)
      ·rw [if_pos c5] at H; have c5b0 : decide (x10_1 < (l0.length : Int)) = true := decide_eq_true c5; clear c5; replace H := Option.bind_eq_some_iff.mp H; obtain ⟨t233, A60, H⟩ := H; (try dsimp only at H); have A6 := Aside0.mk A60; clear A60; have HC7 := Aside0.mk H; clear H; have p231 : 0 ≤ (x10_1 : Int) := of_decide_eq_true zz6; have q231 : x10_1 < (l0.length : Int) := of_decide_eq_true zz6; obtain ⟨ad231, e231, W231⟩ := at_T30 HR0.out x10_1 p231 q231; cases e231; obtain ⟨hx231_0, hx231_1⟩ := El30.up HB.out W231; replace p231 := eq_true p231; replace q231 := eq_true q231; go_upto_if 16 with (first | ((with_reducible refine gate_dst (N := 4) rfl ?_); refine boxP_ (N := 4) (cs := #[.string (⟨#[]⟩ : ByteArray), .string (⟨#[]⟩ : ByteArray)]) (t := 30) ?_; intro gb232 hg w8 hbox hb; have BK232 := Aside0.mk (hbox); have GE232 := geb_ (w := w) hg zz0; replace HB := Aside0.mk (below_step zz0 hb); clear hb hbox hg; obtain ⟨_, _, _, _⟩ := cells2_ BK232.out) | ((with_reducible refine gate_callee (f := 43) rfl ?_); refine goesR_ 15 Tryz.func43 #[.agg #[.string ((rd_T30 l0 x10_1).f0), .string ((rd_T30 l0 x10_1).f1)]] (impl_FieldOk.calls k1 ((rd_T30 l0 x10_1).f0) ((rd_T30 l0 x10_1).f1) t233 _ A6.out) ?_; rintro w10 hb; replace BK232 := Aside0.mk (blk_below (g := gb232) (o := .cells #[.string ((rd_T30 l0 x10_1).f0), .string ((rd_T30 l0 x10_1).f1)] 30 (0, 0)) (by (with_reducible repeat (first | refine blk_drewN ?_ _ | refine blk_drew ?_ | refine blk_alloc ?_ _)); refine blk_put (cs := #[.string ((rd_T30 l0 x10_1).f0), .string (⟨#[]⟩ : ByteArray)]) ?_ 1 _ rfl; (with_reducible repeat (first | refine blk_drewN ?_ _ | refine blk_drew ?_ | refine blk_alloc ?_ _)); refine blk_put (cs := #[.string (⟨#[]⟩ : ByteArray), .string (⟨#[]⟩ : ByteArray)]) ?_ 0 _ rfl; (with_reducible repeat (first | refine blk_drewN ?_ _ | refine blk_drew ?_ | refine blk_alloc ?_ _)); exact BK232.out) hb); replace HB := Aside0.mk (below_step zz31 hb); (try clear hb)))
       (try simp only [Act.put, List.setIfInBounds_toArray, List.set_cons_zero, List.set_cons_succ]); have H := HC7.out; clear HC7
       by_cases c11 : t233 = true
       ·subst c11; rw [if_pos rfl] at H; have H' := Aside0.mk H; clear H; go_wp2
        go_roundg k1
        (case measure => have := HK1.out; omega); case rel => exact ⟨(wrap64 (x10_1 + 1)), zz3, H', ⟨zz24⟩, ⟨zz31⟩⟩
       ·replace c11 := Bool.eq_false_iff.mpr c11; subst c11; rw [if_neg Bool.false_ne_true] at H; obtain rfl := Option.some.inj H; go_wp2
        go_ret; exact ⟨zz4, zz31⟩
      ·rw [if_neg c5] at H; exact absurd H (by simp)
     ·rw [if_neg c4] at H; exact absurd H (by simp)
    ·rw [if_neg c3] at H; have c3b0 : decide (x10_1 < (l0.length : Int)) = false := decide_eq_false c3; clear c3; obtain rfl := Option.some.inj H; go_wp2
     go_ret; exact ⟨zz4, zz0⟩

end Go.Proofs.YtkkolioolgpljaaGreat.GFnHops
