-- Laid by gen.py of this session (over the kit's printing program): what the law FnCanons reaches, as Lean functions, and that Go comes to just that.
import Derived.Test.YtkkolioolgpljaaGreatDoorGFnCanonsx0
import Derived.Test.YtkkolioolgpljaaGreatDoorGFnCanonsx3
import Derived.Test.YtkkolioolgpljaaGreatDoorZFnCanons
namespace Go.Proofs.YtkkolioolgpljaaGreatDoor.GFnCanons
open Go.RowKit Go.Proofs.YtkkolioolgpljaaGreatDoorW.PrintWords Go.Proofs.YtkkolioolgpljaaGreatDoorW.PrintLast Go.Proofs.YtkkolioolgpljaaGreatDoorW.PrintMore Go.Proofs.YtkkolioolgpljaaGreatDoorW.Zs
attribute [local go_sem] max2_int min2_int max_two min_two max_three min_three max_four min_four   -- for this text's walks alone
set_option linter.unusedVariables false
set_option linter.unusedSimpArgs false

/-! ### impl_unescaped: function 73 -/
mutual
def impl_unescaped.l0 : Nat → ByteArray → List Int → Int → Option (ByteArray)
 | 0, _, _, _ => none
 | k + 1, x0, x3, x4 => if x4 < (x0.size : Int) then (if 0 ≤ x4 then (if (bt x0 x4) = 37 then (if (wrap64 (x4 + 2)) ≥ (x0.size : Int) then (impl_unescaped.j1 k x0 x3 x4 true) else (if 0 ≤ (wrap64 (x4 + 1)) then (if (wrap64 (x4 + 1)) < (x0.size : Int) then ((impl_hexOf.f k (bt x0 (wrap64 (x4 + 1)))).bind fun t114 => (if t114 < 0 then (impl_unescaped.j1 k x0 x3 x4 true) else (if 0 ≤ (wrap64 (x4 + 2)) then (if (wrap64 (x4 + 2)) < (x0.size : Int) then ((impl_hexOf.f k (bt x0 (wrap64 (x4 + 2)))).bind fun t115 => (impl_unescaped.j1 k x0 x3 x4 (decide (t115 < 0)))) else (none)) else (none)))) else (none)) else (none))) else (impl_unescaped.j1 k x0 x3 x4 true)) else (none)) else (some (strOfNums x3))
def impl_unescaped.j1 : Nat → ByteArray → List Int → Int → Bool → Option (ByteArray)
 | 0, _, _, _, _ => none
 | k + 1, x0, x3, x4, x38 => if x38 = true then (if 0 ≤ x4 then (if x4 < (x0.size : Int) then (if x3.length < 140737488355328 then (impl_unescaped.l0 k x0 (x3 ++ [bt x0 x4]) (wrap64 (x4 + 1))) else (none)) else (none)) else (none)) else (if 0 ≤ (wrap64 (x4 + 1)) then (if (wrap64 (x4 + 1)) < (x0.size : Int) then ((impl_hexOf.f k (bt x0 (wrap64 (x4 + 1)))).bind fun t119 => (if 0 ≤ (wrap64 (x4 + 2)) then (if (wrap64 (x4 + 2)) < (x0.size : Int) then ((impl_hexOf.f k (bt x0 (wrap64 (x4 + 2)))).bind fun t120 => ((impl_isFree.f ((wrap64 ((wrap64 (16 * t119)) + t120)) % 256)).bind fun t121 => (if t121 = true then (if x3.length < 140737488355328 then (impl_unescaped.l0 k x0 (x3 ++ [(wrap64 ((wrap64 (16 * t119)) + t120)) % 256]) (wrap64 ((wrap64 (x4 + 2)) + 1))) else (none)) else (if 0 ≤ (((wrap64 ((wrap64 (16 * t119)) + t120)) % 256) / 16) then (if (((wrap64 ((wrap64 (16 * t119)) + t120)) % 256) / 16) < 16 then (if 0 ≤ (Go.bits .and .u8 ((wrap64 ((wrap64 (16 * t119)) + t120)) % 256) 15) then (if (Go.bits .and .u8 ((wrap64 ((wrap64 (16 * t119)) + t120)) % 256) 15) < 16 then ((some (([37, bt (⟨#[48, 49, 50, 51, 52, 53, 54, 55, 56, 57, 65, 66, 67, 68, 69, 70]⟩ : ByteArray) (((wrap64 ((wrap64 (16 * t119)) + t120)) % 256) / 16), bt (⟨#[48, 49, 50, 51, 52, 53, 54, 55, 56, 57, 65, 66, 67, 68, 69, 70]⟩ : ByteArray) (Go.bits .and .u8 ((wrap64 ((wrap64 (16 * t119)) + t120)) % 256) 15)] : List Int) : List Int)).bind fun y125 => (if x3.length + y125.length < 140737488355328 then (impl_unescaped.l0 k x0 (x3 ++ y125) (wrap64 ((wrap64 (x4 + 2)) + 1))) else (none))) else (none)) else (none)) else (none)) else (none))))) else (none)) else (none))) else (none)) else (none))
end
def impl_unescaped.f (k : Nat) (a0 : ByteArray) : Option (ByteArray) := impl_unescaped.l0 k a0 ([] : List Int) 0
theorem impl_unescaped.mono_l : ∀ k, (∀ y0 y1 y2, LeO (impl_unescaped.l0 k y0 y1 y2) (impl_unescaped.l0 (k + 1) y0 y1 y2)) ∧ (∀ y0 y1 y2 y3, LeO (impl_unescaped.j1 k y0 y1 y2 y3) (impl_unescaped.j1 (k + 1) y0 y1 y2 y3))
 | 0 => ⟨fun _ _ _ r h => by simp [impl_unescaped.l0] at h, fun _ _ _ _ r h => by simp [impl_unescaped.j1] at h⟩
 | k + 1 => by
  obtain ⟨ih0, ih1⟩ := impl_unescaped.mono_l k
  refine ⟨?_, ?_⟩
  ·intro y0 y1 y2
   unfold impl_unescaped.l0
   repeat' first | (with_reducible first | exact ih0 _ _ _ | exact ih1 _ _ _ _ | exact impl_hexOf.mono _ _ | exact LeO.refl _ | exact LeO.none _ | refine LeO.ite ?_ ?_ | refine LeO.bind ?_ (fun _ => ?_)) | exact ih0 _ _ _ | exact ih1 _ _ _ _ | exact impl_hexOf.mono _ _ | exact LeO.none _ | refine LeO.ite ?_ ?_ | refine LeO.bind ?_ (fun _ => ?_)
  ·intro y0 y1 y2 y3
   unfold impl_unescaped.j1
   repeat' first | (with_reducible first | exact ih0 _ _ _ | exact ih1 _ _ _ _ | exact impl_hexOf.mono _ _ | exact LeO.refl _ | exact LeO.none _ | refine LeO.ite ?_ ?_ | refine LeO.bind ?_ (fun _ => ?_)) | exact ih0 _ _ _ | exact ih1 _ _ _ _ | exact impl_hexOf.mono _ _ | exact LeO.none _ | refine LeO.ite ?_ ?_ | refine LeO.bind ?_ (fun _ => ?_)
theorem impl_unescaped.mono : ∀ a0 k, LeO (impl_unescaped.f k a0) (impl_unescaped.f (k + 1) a0) := by
 intro a0 k
 obtain ⟨ih0, ih1⟩ := impl_unescaped.mono_l k
 unfold impl_unescaped.f
 repeat' first | (with_reducible first | exact ih0 _ _ _ | exact ih1 _ _ _ _ | exact impl_hexOf.mono _ _ | exact LeO.refl _ | exact LeO.none _ | refine LeO.ite ?_ ?_ | refine LeO.bind ?_ (fun _ => ?_)) | exact ih0 _ _ _ | exact ih1 _ _ _ _ | exact impl_hexOf.mono _ _ | exact LeO.none _ | refine LeO.ite ?_ ?_ | refine LeO.bind ?_ (fun _ => ?_)
def impl_unescaped.T7 : Bool × List (List Nat × List Nat) := (true, [([], []), ([], []), ([1], [1]), ([0, 2], [0, 2]), ([3], [3]), ([4], [4]), ([], []), ([], []), ([7], [7]), ([6, 8], [6, 8]), ([9, 4], [9]), ([5, 10], [5, 10]), ([11], [11]), ([12, 10, 0, 1, 2, 3, 4, 5, 6, 7, 8, 9, 10, 11, 12], [12])])
def impl_unescaped.B7 : List Nat := [0, 0, 2, 7, 15, 31, 0, 0, 128, 448, 991, 2047, 4095, 8191]
theorem impl_unescaped.tab7 : rtab .any (opsOf Tryz.f73 7) = impl_unescaped.T7 := by kernel_rfl
theorem impl_unescaped.bits7 : waitsOk impl_unescaped.T7.2 impl_unescaped.B7 = true := by kernel_rfl
def impl_unescaped.T10 : Bool × List (List Nat × List Nat) := (true, [([], []), ([], []), ([1], [1]), ([2], [2]), ([], []), ([4], [4]), ([5], [5]), ([3, 6], [3, 6]), ([0, 7], [0, 7]), ([8, 8, 0, 1, 2, 3, 4, 5, 6, 7, 8], [0, 8])])
def impl_unescaped.B10 : List Nat := [0, 0, 2, 6, 0, 16, 48, 126, 255, 511]
theorem impl_unescaped.tab10 : rtab .any (opsOf Tryz.f73 10) = impl_unescaped.T10 := by kernel_rfl
theorem impl_unescaped.bits10 : waitsOk impl_unescaped.T10.2 impl_unescaped.B10 = true := by kernel_rfl
set_option maxHeartbeats 8000000 in
set_option maxRecDepth 100000 in
theorem impl_unescaped.calls (k : Nat) (a0 : ByteArray) (r : ByteArray) (w : World) (h : impl_unescaped.f k a0 = some r) :
  Calls Tryz.prog 73 #[.string a0] w fun e w' => e = .returned (.string r) ∧ Below w.heap.size w w' := by
 have hu8_ : ∀ x_ : Int, IntKind.u8.wrap x_ = x_ % 256 := fun _ => rfl
 have HB := Aside0.mk (Below.refl w.heap.size w)
 have H : (impl_unescaped.l0 k a0 ([] : List Int) 0) = some r := h
 clear h
 have H' := Aside0.mk H
 clear H
 go_enter Tryz.func73, Tryz.ntmps73
 go_wp2
 go_loopg [3, 4] k (fun kq v3 v4 w' => ∃ (x3_1 : List Int) (x4_1 : Int), v4 = .int .i64 x4_1 ∧ Aside0 (impl_unescaped.l0 kq a0 x3_1 x4_1 = some r) ∧ Aside0 (kq ≤ k) ∧ Aside0 (Kd.R (Kd.int .u8) 5 w' w.heap.size (fun _ => True) v3 x3_1) ∧ Aside0 (Below w.heap.size w w'))
 case atStart => exact ⟨(([] : List Int)), (0), z5, H', ⟨Nat.le_refl _⟩, ⟨z42⟩, ⟨z0⟩⟩
 case round =>
  clear H'
  obtain ⟨x3_1, x4_1, rfl, HA, HK1, HO_3, HB⟩ := hrel
  cases gk with
  | zero => exact absurd HA.out (by simp [impl_unescaped.l0])
  | succ k1 =>
   have H := HA.out
   clear HA
   simp only [impl_unescaped.l0] at H
   by_cases c2 : x4_1 < (a0.size : Int)
   ·rw [if_pos c2] at H
    have c2b0 : decide (x4_1 < (a0.size : Int)) = true := decide_eq_true c2
    clear c2
    have HC3 := Aside0.mk H
    clear H
    go_upto_region 5 with (fail)
    go_cut [38] (fun v38 wc => ∃ (kq : Nat) (x38_2 : Bool), v38 = .bool x38_2 ∧ Aside0 (impl_unescaped.j1 kq a0 x3_1 x4_1 x38_2 = some r) ∧ Aside0 (kq ≤ k1) ∧ Aside0 (Kd.R (Kd.int .u8) 5 wc w.heap.size (fun _ => True) u3 x3_1) ∧ Aside0 (Below w.heap.size w wc))
    case first =>
     have H := HC3.out
     clear HC3
     by_cases c4 : 0 ≤ x4_1
     ·rw [if_pos c4] at H
      have c4b0 : decide (0 ≤ x4_1) = true := decide_eq_true c4
      clear c4
      (first | rw [c4b0] | (simp only [i64_w, i32_w]; rw [c4b0]) | skip)
      by_cases c6 : (bt a0 x4_1) = 37
      ·rw [if_pos c6] at H
       have c6b0 : ((bt a0 x4_1) == 37) = true := beq_iff_eq.mpr c6
       have c6b1 : ((bt a0 x4_1) != 37) = false := bne_eq_false_iff_eq.mpr c6
       clear c6
       by_cases c7 : (wrap64 (x4_1 + 2)) ≥ (a0.size : Int)
       ·rw [if_pos c7] at H
        have c7b0 : decide ((a0.size : Int) ≤ (wrap64 (x4_1 + 2))) = true := decide_eq_true c7
        clear c7
        have H' := Aside0.mk H
        clear H
        have p5 : 0 ≤ (x4_1 : Int) := of_decide_eq_true z3
        have q5 : x4_1 < (a0.size : Int) := of_decide_eq_true z3
        have hx5 := bt_at a0 x4_1
        replace p5 := eq_true p5
        replace q5 := eq_true q5
        go_wp2
        go_meet
        case rel => exact ⟨_, (true), z5, H', ⟨z71⟩, ⟨z16⟩, ⟨z0⟩⟩
       ·rw [if_neg c7] at H
        have c7b0 : decide ((a0.size : Int) ≤ (wrap64 (x4_1 + 2))) = false := decide_eq_false c7
        clear c7
        obtain ⟨ji8, hji8⟩ : ∃ j_ : Int, (wrap64 (x4_1 + 1)) = j_ := ⟨_, rfl⟩
        replace H : (if 0 ≤ (ji8) then (if (ji8) < (a0.size : Int) then ((impl_hexOf.f k1 (bt a0 (ji8))).bind fun t114 => (if t114 < 0 then (impl_unescaped.j1 k1 a0 x3_1 x4_1 true) else (if 0 ≤ (wrap64 (x4_1 + 2)) then (if (wrap64 (x4_1 + 2)) < (a0.size : Int) then ((impl_hexOf.f k1 (bt a0 (wrap64 (x4_1 + 2)))).bind fun t115 => (impl_unescaped.j1 k1 a0 x3_1 x4_1 (decide (t115 < 0)))) else (none)) else (none)))) else (none)) else (none)) = some r := by first | (rw [hji8] at H; exact H) | (simp only [hji8] at H ⊢; exact H)
        have hji8w : (IntKind.i64.wrap (x4_1 + 1)) = ji8 := (i64_w _).trans hji8
        by_cases c9 : 0 ≤ (ji8)
        ·rw [if_pos c9] at H
         have c9b0 : decide (0 ≤ (ji8)) = true := decide_eq_true c9
         clear c9
         by_cases c10 : (ji8) < (a0.size : Int)
         ·rw [if_pos c10] at H
          have c10b0 : decide ((ji8) < (a0.size : Int)) = true := decide_eq_true c10
          clear c10
          replace H := Option.bind_eq_some_iff.mp H
          obtain ⟨t114, A120, H⟩ := H
          try dsimp only at H
          have A12 := Aside0.mk A120
          clear A120
          by_cases c13 : t114 < 0
          ·rw [if_pos c13] at H
           have c13b0 : decide (t114 < 0) = true := decide_eq_true c13
           clear c13
           have H' := Aside0.mk H
           clear H
           have p5 : 0 ≤ (x4_1 : Int) := of_decide_eq_true z3
           have q5 : x4_1 < (a0.size : Int) := of_decide_eq_true z3
           have hx5 := bt_at a0 x4_1
           replace p5 := eq_true p5
           replace q5 := eq_true q5
           have p11 : 0 ≤ ((ji8) : Int) := of_decide_eq_true z3
           have q11 : (ji8) < (a0.size : Int) := of_decide_eq_true z3
           have hx11 := bt_at a0 (ji8)
           replace p11 := eq_true p11
           replace q11 := eq_true q11
           go_wp2_with (first | (go_at_call 98; (with_reducible refine (impl_hexOf.calls k1 (bt a0 (ji8)) t114 _ A12.out).mono ?_); rintro e w' ⟨rfl, ⟨nd, rfl⟩⟩))
           go_meet
           case rel => exact ⟨_, (true), z5, H', ⟨z71⟩, ⟨z16⟩, ⟨z0⟩⟩
          ·rw [if_neg c13] at H
           have c13b0 : decide (t114 < 0) = false := decide_eq_false c13
           clear c13
           obtain ⟨ji14, hji14⟩ : ∃ j_ : Int, (wrap64 (x4_1 + 2)) = j_ := ⟨_, rfl⟩
           replace H : (if 0 ≤ (ji14) then (if (ji14) < (a0.size : Int) then ((impl_hexOf.f k1 (bt a0 (ji14))).bind fun t115 => (impl_unescaped.j1 k1 a0 x3_1 x4_1 (decide (t115 < 0)))) else (none)) else (none)) = some r := by first | (rw [hji14] at H; exact H) | (simp only [hji14] at H ⊢; exact H)
           (try rw [hji14] at c7b0)
           (try rw [hji14] at A12)
           have hji14w : (IntKind.i64.wrap (x4_1 + 2)) = ji14 := (i64_w _).trans hji14
           by_cases c15 : 0 ≤ (ji14)
           ·rw [if_pos c15] at H
            have c15b0 : decide (0 ≤ (ji14)) = true := decide_eq_true c15
            clear c15
            by_cases c16 : (ji14) < (a0.size : Int)
            ·rw [if_pos c16] at H
             have c16b0 : decide ((ji14) < (a0.size : Int)) = true := decide_eq_true c16
             clear c16
             replace H := Option.bind_eq_some_iff.mp H
             obtain ⟨t115, A180, H⟩ := H
             try dsimp only at H
             have A18 := Aside0.mk A180
             clear A180
             have H' := Aside0.mk H
             clear H
             have p5 : 0 ≤ (x4_1 : Int) := of_decide_eq_true z3
             have q5 : x4_1 < (a0.size : Int) := of_decide_eq_true z3
             have hx5 := bt_at a0 x4_1
             replace p5 := eq_true p5
             replace q5 := eq_true q5
             have p11 : 0 ≤ ((ji8) : Int) := of_decide_eq_true z3
             have q11 : (ji8) < (a0.size : Int) := of_decide_eq_true z3
             have hx11 := bt_at a0 (ji8)
             replace p11 := eq_true p11
             replace q11 := eq_true q11
             go_wp2_with (first | (go_at_call 98; (with_reducible refine (impl_hexOf.calls k1 (bt a0 (ji8)) t114 _ A12.out).mono ?_); rintro e w' ⟨rfl, ⟨nd, rfl⟩⟩; have p17 : 0 ≤ ((ji14) : Int) := of_decide_eq_true z3; have q17 : (ji14) < (a0.size : Int) := of_decide_eq_true z3; have hx17 := bt_at a0 (ji14); replace p17 := eq_true p17; replace q17 := eq_true q17) | (go_at_call 98; (with_reducible refine (impl_hexOf.calls k1 (bt a0 (ji14)) t115 _ A18.out).mono ?_); rintro e w' ⟨rfl, ⟨nd, rfl⟩⟩))
             go_meet
             case rel => exact ⟨_, (decide (t115 < 0)), z5, H', ⟨z71⟩, ⟨z16⟩, ⟨z0⟩⟩
            ·rw [if_neg c16] at H
             exact absurd H (by simp)
           ·rw [if_neg c15] at H
            exact absurd H (by simp)
         ·rw [if_neg c10] at H
          exact absurd H (by simp)
        ·rw [if_neg c9] at H
         exact absurd H (by simp)
      ·rw [if_neg c6] at H
       have c6b0 : ((bt a0 x4_1) == 37) = false := beq_eq_false_iff_ne.mpr c6
       have c6b1 : ((bt a0 x4_1) != 37) = true := bne_iff_ne.mpr c6
       have H' := Aside0.mk H
       clear H
       have p5 : 0 ≤ (x4_1 : Int) := of_decide_eq_true z3
       have q5 : x4_1 < (a0.size : Int) := of_decide_eq_true z3
       have hx5 := bt_at a0 x4_1
       replace p5 := eq_true p5
       replace q5 := eq_true q5
       go_wp2
       go_meet
       case rel => exact ⟨_, (true), z5, H', ⟨z71⟩, ⟨z16⟩, ⟨z0⟩⟩
     ·rw [if_neg c4] at H
      exact absurd H (by simp)
    case rest =>
     clear HC3
     try clear c1
     try clear p1
     try clear q1
     try clear hx1
     try clear c2
     try clear c2b0
     try clear p2
     try clear c4
     try clear c4b0
     try clear p5
     try clear q5
     try clear hx5
     try clear c6
     try clear c6b0
     try clear c6b1
     try clear p6
     try clear c7
     try clear c7b0
     try clear c9
     try clear c9b0
     try clear c10
     try clear c10b0
     try clear p11
     try clear q11
     try clear hx11
     try clear c13
     try clear c13b0
     try clear c15
     try clear c15b0
     try clear c16
     try clear c16b0
     try clear p17
     try clear q17
     try clear hx17
     try clear p11
     try clear p17
     try clear p5
     try clear q11
     try clear q17
     try clear q5
     obtain ⟨kq, x38_2, rfl, HA, HJ2, HO_3, HB⟩ := hcut
     cases kq with
     | zero => exact absurd HA.out (by simp [impl_unescaped.j1])
     | succ kj2 =>
      have H := HA.out
      clear HA
      simp only [impl_unescaped.j1] at H
      by_cases c19 : x38_2 = true
      ·subst c19
       rw [if_pos rfl] at H
       by_cases c20 : 0 ≤ x4_1
       ·rw [if_pos c20] at H
        have c20b0 : decide (0 ≤ x4_1) = true := decide_eq_true c20
        clear c20
        by_cases c21 : x4_1 < (a0.size : Int)
        ·rw [if_pos c21] at H
         have c21b0 : decide (x4_1 < (a0.size : Int)) = true := decide_eq_true c21
         clear c21
         by_cases c23 : x3_1.length < 140737488355328
         ·rw [if_pos c23] at H
          have LMc23 := Aside0.mk c23
          clear c23
          obtain ⟨y116, hy116⟩ : ∃ y_ : List Int, y_ = (x3_1 ++ [bt a0 x4_1]) := ⟨_, rfl⟩
          replace H : (impl_unescaped.l0 kj2 a0 y116 (wrap64 (x4_1 + 1))) = some r := by first | (rw [hy116]; with_reducible exact H) | (have H2_ := (Option.bind_some _ _).symm.trans H; rw [hy116]; with_reducible exact H2_) | (have H2_ := (Option.bind_some _ _).symm.trans H; with_reducible exact H2_) | with_reducible exact H | (rw [hy116]; exact H) | exact H
          have Ny116 := Aside0.mk hy116
          clear hy116
          have H' := Aside0.mk H
          clear H
          have p22 : 0 ≤ (x4_1 : Int) := of_decide_eq_true z3
          have q22 : x4_1 < (a0.size : Int) := of_decide_eq_true z3
          have hx22 := bt_at a0 x4_1
          replace p22 := eq_true p22
          replace q22 := eq_true q22
          go_wp2_with (first | ((with_reducible refine gate_builtin (b := .append) (xs := #[.tmp 39, .tmp 43]) rfl ?_); (try (refine gate_guard (by rfl) ?_; dsimp only)); at_builtin; refine Kd.R_append (Kd.int .u8) (w0 := w) w.heap.size rfl (.tmp 39) (.tmp 43) 22 5 (.int .u8 0) 1 rfl Tryz.underlying22 info5 rfl (by decide) (by omega) u3 x3_1 (bt a0 x4_1) [.int .u8 (bt a0 x4_1)] (fun _ => True) (fun _ => False) rfl rfl ?aP (fun _ hk => hk.elim) ?aF ?aO ?aB ?aS ?aL ?_; (case aP => exact rfl); (case aB => exact z0); (case aF => exact (fun _ _ => trivial)); (case aO => exact z16); (case aS => exact (below_size z0)); (case aL => have := LMc23.out; omega); intro v117 w24 ho hb hg hat; rw [← Ny116.out] at ho; replace HB := Aside0.mk (hb); have HO118 := Aside0.mk (ho); clear HO_3; clear ho hb hg hat))
          go_roundg kj2
          case measure => have := HK1.out; have := HJ2.out; omega
          case rel => exact ⟨(y116), (wrap64 (x4_1 + 1)), z5, H', ⟨z78⟩, ⟨by (with_reducible repeat (first | apply Kd.R_alloc | apply Kd.R_drewN | apply Kd.R_drew)); exact HO118.out⟩, ⟨z0⟩⟩
         ·rw [if_neg c23] at H
          exact absurd H (by simp)
        ·rw [if_neg c21] at H
         exact absurd H (by simp)
       ·rw [if_neg c20] at H
        exact absurd H (by simp)
      ·replace c19 := Bool.eq_false_iff.mpr c19
       subst c19
       rw [if_neg Bool.false_ne_true] at H
       obtain ⟨ji25, hji25⟩ : ∃ j_ : Int, (wrap64 (x4_1 + 1)) = j_ := ⟨_, rfl⟩
       replace H : (if 0 ≤ (ji25) then (if (ji25) < (a0.size : Int) then ((impl_hexOf.f kj2 (bt a0 (ji25))).bind fun t119 => (if 0 ≤ (wrap64 (x4_1 + 2)) then (if (wrap64 (x4_1 + 2)) < (a0.size : Int) then ((impl_hexOf.f kj2 (bt a0 (wrap64 (x4_1 + 2)))).bind fun t120 => ((impl_isFree.f ((wrap64 ((wrap64 (16 * t119)) + t120)) % 256)).bind fun t121 => (if t121 = true then (if x3_1.length < 140737488355328 then (impl_unescaped.l0 kj2 a0 (x3_1 ++ [(wrap64 ((wrap64 (16 * t119)) + t120)) % 256]) (wrap64 ((wrap64 (x4_1 + 2)) + 1))) else (none)) else (if 0 ≤ (((wrap64 ((wrap64 (16 * t119)) + t120)) % 256) / 16) then (if (((wrap64 ((wrap64 (16 * t119)) + t120)) % 256) / 16) < 16 then (if 0 ≤ (Go.bits .and .u8 ((wrap64 ((wrap64 (16 * t119)) + t120)) % 256) 15) then (if (Go.bits .and .u8 ((wrap64 ((wrap64 (16 * t119)) + t120)) % 256) 15) < 16 then ((some (([37, bt (⟨#[48, 49, 50, 51, 52, 53, 54, 55, 56, 57, 65, 66, 67, 68, 69, 70]⟩ : ByteArray) (((wrap64 ((wrap64 (16 * t119)) + t120)) % 256) / 16), bt (⟨#[48, 49, 50, 51, 52, 53, 54, 55, 56, 57, 65, 66, 67, 68, 69, 70]⟩ : ByteArray) (Go.bits .and .u8 ((wrap64 ((wrap64 (16 * t119)) + t120)) % 256) 15)] : List Int) : List Int)).bind fun y125 => (if x3_1.length + y125.length < 140737488355328 then (impl_unescaped.l0 kj2 a0 (x3_1 ++ y125) (wrap64 ((wrap64 (x4_1 + 2)) + 1))) else (none))) else (none)) else (none)) else (none)) else (none))))) else (none)) else (none))) else (none)) else (none)) = some r := by first | (rw [hji25] at H; exact H) | (simp only [hji25] at H ⊢; exact H)
       have hji25w : (IntKind.i64.wrap (x4_1 + 1)) = ji25 := (i64_w _).trans hji25
       by_cases c26 : 0 ≤ (ji25)
       ·rw [if_pos c26] at H
        have c26b0 : decide (0 ≤ (ji25)) = true := decide_eq_true c26
        clear c26
        by_cases c27 : (ji25) < (a0.size : Int)
        ·rw [if_pos c27] at H
         have c27b0 : decide ((ji25) < (a0.size : Int)) = true := decide_eq_true c27
         clear c27
         replace H := Option.bind_eq_some_iff.mp H
         obtain ⟨t119, A290, H⟩ := H
         try dsimp only at H
         have A29 := Aside0.mk A290
         clear A290
         obtain ⟨ji30, hji30⟩ : ∃ j_ : Int, (wrap64 (x4_1 + 2)) = j_ := ⟨_, rfl⟩
         replace H : (if 0 ≤ (ji30) then (if (ji30) < (a0.size : Int) then ((impl_hexOf.f kj2 (bt a0 (ji30))).bind fun t120 => ((impl_isFree.f ((wrap64 ((wrap64 (16 * t119)) + t120)) % 256)).bind fun t121 => (if t121 = true then (if x3_1.length < 140737488355328 then (impl_unescaped.l0 kj2 a0 (x3_1 ++ [(wrap64 ((wrap64 (16 * t119)) + t120)) % 256]) (wrap64 ((ji30) + 1))) else (none)) else (if 0 ≤ (((wrap64 ((wrap64 (16 * t119)) + t120)) % 256) / 16) then (if (((wrap64 ((wrap64 (16 * t119)) + t120)) % 256) / 16) < 16 then (if 0 ≤ (Go.bits .and .u8 ((wrap64 ((wrap64 (16 * t119)) + t120)) % 256) 15) then (if (Go.bits .and .u8 ((wrap64 ((wrap64 (16 * t119)) + t120)) % 256) 15) < 16 then ((some (([37, bt (⟨#[48, 49, 50, 51, 52, 53, 54, 55, 56, 57, 65, 66, 67, 68, 69, 70]⟩ : ByteArray) (((wrap64 ((wrap64 (16 * t119)) + t120)) % 256) / 16), bt (⟨#[48, 49, 50, 51, 52, 53, 54, 55, 56, 57, 65, 66, 67, 68, 69, 70]⟩ : ByteArray) (Go.bits .and .u8 ((wrap64 ((wrap64 (16 * t119)) + t120)) % 256) 15)] : List Int) : List Int)).bind fun y125 => (if x3_1.length + y125.length < 140737488355328 then (impl_unescaped.l0 kj2 a0 (x3_1 ++ y125) (wrap64 ((ji30) + 1))) else (none))) else (none)) else (none)) else (none)) else (none))))) else (none)) else (none)) = some r := by first | (rw [hji30] at H; exact H) | (simp only [hji30] at H ⊢; exact H)
         (try rw [hji30] at A29)
         have hji30w : (IntKind.i64.wrap (x4_1 + 2)) = ji30 := (i64_w _).trans hji30
         by_cases c31 : 0 ≤ (ji30)
         ·rw [if_pos c31] at H
          have c31b0 : decide (0 ≤ (ji30)) = true := decide_eq_true c31
          clear c31
          by_cases c32 : (ji30) < (a0.size : Int)
          ·rw [if_pos c32] at H
           have c32b0 : decide ((ji30) < (a0.size : Int)) = true := decide_eq_true c32
           clear c32
           replace H := Option.bind_eq_some_iff.mp H
           obtain ⟨t120, A340, H⟩ := H
           try dsimp only at H
           have A34 := Aside0.mk A340
           clear A340
           replace H := Option.bind_eq_some_iff.mp H
           obtain ⟨t121, A350, H⟩ := H
           try dsimp only at H
           have A35 := Aside0.mk A350
           clear A350
           by_cases c36 : t121 = true
           ·subst c36
            rw [if_pos rfl] at H
            by_cases c37 : x3_1.length < 140737488355328
            ·rw [if_pos c37] at H
             have LMc37 := Aside0.mk c37
             clear c37
             obtain ⟨y122, hy122⟩ : ∃ y_ : List Int, y_ = (x3_1 ++ [(wrap64 ((wrap64 (16 * t119)) + t120)) % 256]) := ⟨_, rfl⟩
             replace H : (impl_unescaped.l0 kj2 a0 y122 (wrap64 ((ji30) + 1))) = some r := by first | (rw [hy122]; with_reducible exact H) | (have H2_ := (Option.bind_some _ _).symm.trans H; rw [hy122]; with_reducible exact H2_) | (have H2_ := (Option.bind_some _ _).symm.trans H; with_reducible exact H2_) | with_reducible exact H | (rw [hy122]; exact H) | exact H
             have Ny122 := Aside0.mk hy122
             clear hy122
             have H' := Aside0.mk H
             clear H
             try go_wp2
             have n0_ := Aside0.mk (Kd.R_drew HO_3.out)
             have n1_ := Aside0.mk (below_drew1 HB.out)
             clear HO_3
             clear HB
             have HO_3 := n0_
             have HB := n1_
             clear n0_ n1_
             have p28 : 0 ≤ ((ji25) : Int) := of_decide_eq_true z3
             have q28 : (ji25) < (a0.size : Int) := of_decide_eq_true z3
             have hx28 := bt_at a0 (ji25)
             replace p28 := eq_true p28
             replace q28 := eq_true q28
             have p33 : 0 ≤ ((ji30) : Int) := of_decide_eq_true z3
             have q33 : (ji30) < (a0.size : Int) := of_decide_eq_true z3
             have hx33 := bt_at a0 (ji30)
             replace p33 := eq_true p33
             replace q33 := eq_true q33
             refine start_ (n := 14) (S := fun w' => True) (ds := []) #[false, false, false, false, false, false, false, false, false, false, false, false, false, false] (by kernel_rfl) rfl rfl trivial (fun hHeld => ?_); refine with_tabW impl_unescaped.tab7 impl_unescaped.bits7 (fun HT_ HW_ => ?_)
             generalize wc.drew = w38 at HO_3 HB hHeld ⊢
             refine pz 0 45 ?_
             refine pz 1 46 ?_
             refine pz 2 47 ?_
             refine pz 6 51 ?_
             refine pz 7 52 ?_
             refine pz 8 53 ?_
             refine tk (i := 3) (N := some 48) (v := ?_) (a' := ?_) rfl rfl (take_ofW HT_.out HW_.out (by kernel_rfl)) (Or.inl ⟨by rfl, ?_⟩) hHeld ?_ ?_
             rotate_left
             ·intro w' _
              go_simp
              with_reducible rfl
             rotate_left
             ·simp only [Act.put, List.setIfInBounds_toArray, List.set_cons_zero, List.set_cons_succ, i64_w, i32_w]
              rfl
             refine tk (i := 9) (N := some 54) (v := ?_) (a' := ?_) rfl rfl (take_ofW HT_.out HW_.out (by kernel_rfl)) (Or.inl ⟨by rfl, ?_⟩) hHeld ?_ ?_
             rotate_left
             ·intro w' _
              go_simp
              with_reducible rfl
             rotate_left
             ·simp only [Act.put, List.setIfInBounds_toArray, List.set_cons_zero, List.set_cons_succ, i64_w, i32_w]
              rfl
             refine oz 4 49 (fun K hK => ?_)
             refine goes_ Tryz.func98 (by kernel_rfl) rfl #[.int .u8 (bt a0 (ji25))] (by rfl) rfl rfl z94 ?_
             with_reducible refine (impl_hexOf.calls kj2 (bt a0 (ji25)) t119 _ A29.out).mono ?_
             rintro e w' ⟨rfl, ⟨nd, rfl⟩⟩
             refine ⟨_, rfl, ?_⟩
             refine hK.out _ _ trivial (fun hHeld => ?_)
             clear hK K
             refine nz ?_
             refine pz 5 50 ?_
             refine oz 10 55 (fun K hK => ?_)
             refine goes_ Tryz.func98 (by kernel_rfl) rfl #[.int .u8 (bt a0 (ji30))] (by rfl) rfl rfl z92 ?_
             with_reducible refine (impl_hexOf.calls kj2 (bt a0 (ji30)) t120 _ A34.out).mono ?_
             rintro e w' ⟨rfl, ⟨nd, rfl⟩⟩
             refine ⟨_, rfl, ?_⟩
             refine hK.out _ _ trivial (fun hHeld => ?_)
             clear hK K
             refine nz ?_
             refine pz 11 56 ?_
             refine pz 12 57 ?_
             refine pz 13 5 ?_
             refine done_ (done_of HT_.out (by kernel_rfl)) ?_
             try go_wp2_with (first | ((with_reducible refine gate_callee (f := 99) rfl ?_); refine goesQ_ 59 Tryz.func99 #[.int .u8 ((wrap64 ((wrap64 (16 * t119)) + t120)) % 256)] ?_; (with_reducible refine (impl_isFree.calls ((wrap64 ((wrap64 (16 * t119)) + t120)) % 256) true _ A35.out).mono ?_); rintro e w' ⟨rfl, ⟨nd, rfl⟩⟩; refine ⟨_, rfl, ?_⟩) | ((with_reducible refine gate_builtin (b := .append) (xs := #[.tmp 60, .tmp 62]) rfl ?_); (try (refine gate_guard (by rfl) ?_; dsimp only)); at_builtin; refine Kd.R_append (Kd.int .u8) (w0 := w) w.heap.size rfl (.tmp 60) (.tmp 62) 22 5 (.int .u8 0) 1 rfl Tryz.underlying22 info5 rfl (by decide) (by omega) u3 x3_1 ((wrap64 ((wrap64 (16 * t119)) + t120)) % 256) [.int .u8 ((wrap64 ((wrap64 (16 * t119)) + t120)) % 256)] (fun _ => True) (fun _ => False) rfl rfl ?aP (fun _ hk => hk.elim) ?aF ?aO ?aB ?aS ?aL ?_; (case aP => exact rfl); (case aB => exact z0); (case aF => exact (fun _ _ => trivial)); (case aO => exact z16); (case aS => exact (below_size z0)); (case aL => have := LMc37.out; omega); intro v123 w39 ho hb hg hat; rw [← Ny122.out] at ho; replace HB := Aside0.mk (hb); have HO124 := Aside0.mk (ho); clear HO_3; clear ho hb hg hat))
             go_roundg kj2
             case measure => have := HK1.out; have := HJ2.out; omega
             case rel => exact ⟨(y122), (wrap64 ((ji30) + 1)), (by first | rfl | (simp; done) | (simp only [← hji30] <;> (first | rfl | simp)) | (simp [*]; done)), H', ⟨z78⟩, ⟨by (with_reducible repeat (first | apply Kd.R_alloc | apply Kd.R_drewN | apply Kd.R_drew)); exact HO124.out⟩, ⟨z0⟩⟩
            ·rw [if_neg c37] at H
             exact absurd H (by simp)
           ·replace c36 := Bool.eq_false_iff.mpr c36
            subst c36
            rw [if_neg Bool.false_ne_true] at H
            obtain ⟨ji40, hji40⟩ : ∃ j_ : Int, (((wrap64 ((wrap64 (16 * t119)) + t120)) % 256) / 16) = j_ := ⟨_, rfl⟩
            replace H : (if 0 ≤ (ji40) then (if (ji40) < 16 then (if 0 ≤ (Go.bits .and .u8 ((wrap64 ((wrap64 (16 * t119)) + t120)) % 256) 15) then (if (Go.bits .and .u8 ((wrap64 ((wrap64 (16 * t119)) + t120)) % 256) 15) < 16 then ((some (([37, bt (⟨#[48, 49, 50, 51, 52, 53, 54, 55, 56, 57, 65, 66, 67, 68, 69, 70]⟩ : ByteArray) (ji40), bt (⟨#[48, 49, 50, 51, 52, 53, 54, 55, 56, 57, 65, 66, 67, 68, 69, 70]⟩ : ByteArray) (Go.bits .and .u8 ((wrap64 ((wrap64 (16 * t119)) + t120)) % 256) 15)] : List Int) : List Int)).bind fun y125 => (if x3_1.length + y125.length < 140737488355328 then (impl_unescaped.l0 kj2 a0 (x3_1 ++ y125) (wrap64 ((ji30) + 1))) else (none))) else (none)) else (none)) else (none)) else (none)) = some r := by first | (rw [hji40] at H; exact H) | (simp only [hji40] at H ⊢; exact H)
            (try rw [hji40] at A29)
            (try rw [hji40] at A34)
            (try rw [hji40] at A35)
            by_cases c41 : 0 ≤ (ji40)
            ·rw [if_pos c41] at H
             have c41b0 : decide (0 ≤ (ji40)) = true := decide_eq_true c41
             clear c41
             by_cases c42 : (ji40) < 16
             ·rw [if_pos c42] at H
              have c42b0 : decide ((ji40) < 16) = true := decide_eq_true c42
              clear c42
              obtain ⟨ji44, hji44⟩ : ∃ j_ : Int, (Go.bits .and .u8 ((wrap64 ((wrap64 (16 * t119)) + t120)) % 256) 15) = j_ := ⟨_, rfl⟩
              replace H : (if 0 ≤ (ji44) then (if (ji44) < 16 then ((some (([37, bt (⟨#[48, 49, 50, 51, 52, 53, 54, 55, 56, 57, 65, 66, 67, 68, 69, 70]⟩ : ByteArray) (ji40), bt (⟨#[48, 49, 50, 51, 52, 53, 54, 55, 56, 57, 65, 66, 67, 68, 69, 70]⟩ : ByteArray) (ji44)] : List Int) : List Int)).bind fun y125 => (if x3_1.length + y125.length < 140737488355328 then (impl_unescaped.l0 kj2 a0 (x3_1 ++ y125) (wrap64 ((ji30) + 1))) else (none))) else (none)) else (none)) = some r := by first | (rw [hji44] at H; exact H) | (simp only [hji44] at H ⊢; exact H)
              (try rw [hji44] at A29)
              (try rw [hji44] at A34)
              (try rw [hji44] at A35)
              by_cases c45 : 0 ≤ (ji44)
              ·rw [if_pos c45] at H
               have c45b0 : decide (0 ≤ (ji44)) = true := decide_eq_true c45
               clear c45
               by_cases c46 : (ji44) < 16
               ·rw [if_pos c46] at H
                have c46b0 : decide ((ji44) < 16) = true := decide_eq_true c46
                clear c46
                obtain ⟨y125, hy125⟩ : ∃ y_ : List Int, y_ = (([37, bt (⟨#[48, 49, 50, 51, 52, 53, 54, 55, 56, 57, 65, 66, 67, 68, 69, 70]⟩ : ByteArray) (ji40), bt (⟨#[48, 49, 50, 51, 52, 53, 54, 55, 56, 57, 65, 66, 67, 68, 69, 70]⟩ : ByteArray) (ji44)] : List Int)) := ⟨_, rfl⟩
                replace H : (if x3_1.length + y125.length < 140737488355328 then (impl_unescaped.l0 kj2 a0 (x3_1 ++ y125) (wrap64 ((ji30) + 1))) else (none)) = some r := by first | (rw [hy125]; with_reducible exact H) | (have H2_ := (Option.bind_some _ _).symm.trans H; rw [hy125]; with_reducible exact H2_) | (have H2_ := (Option.bind_some _ _).symm.trans H; with_reducible exact H2_) | with_reducible exact H | (rw [hy125]; exact H) | exact H
                have Ny125 := Aside0.mk hy125
                clear hy125
                by_cases c48 : x3_1.length + y125.length < 140737488355328
                ·rw [if_pos c48] at H
                 have LMc48 := Aside0.mk c48
                 clear c48
                 obtain ⟨y128, hy128⟩ : ∃ y_ : List Int, y_ = (x3_1 ++ y125) := ⟨_, rfl⟩
                 replace H : (impl_unescaped.l0 kj2 a0 y128 (wrap64 ((ji30) + 1))) = some r := by first | (rw [hy128]; with_reducible exact H) | (have H2_ := (Option.bind_some _ _).symm.trans H; rw [hy128]; with_reducible exact H2_) | (have H2_ := (Option.bind_some _ _).symm.trans H; with_reducible exact H2_) | with_reducible exact H | (rw [hy128]; exact H) | exact H
                 have Ny128 := Aside0.mk hy128
                 clear hy128
                 have H' := Aside0.mk H
                 clear H
                 try go_wp2
                 have n0_ := Aside0.mk (Kd.R_drew HO_3.out)
                 have n1_ := Aside0.mk (below_drew1 HB.out)
                 clear HO_3
                 clear HB
                 have HO_3 := n0_
                 have HB := n1_
                 clear n0_ n1_
                 have p28 : 0 ≤ ((ji25) : Int) := of_decide_eq_true z3
                 have q28 : (ji25) < (a0.size : Int) := of_decide_eq_true z3
                 have hx28 := bt_at a0 (ji25)
                 replace p28 := eq_true p28
                 replace q28 := eq_true q28
                 have p33 : 0 ≤ ((ji30) : Int) := of_decide_eq_true z3
                 have q33 : (ji30) < (a0.size : Int) := of_decide_eq_true z3
                 have hx33 := bt_at a0 (ji30)
                 replace p33 := eq_true p33
                 replace q33 := eq_true q33
                 refine start_ (n := 14) (S := fun w' => True) (ds := []) #[false, false, false, false, false, false, false, false, false, false, false, false, false, false] (by kernel_rfl) rfl rfl trivial (fun hHeld => ?_); refine with_tabW impl_unescaped.tab7 impl_unescaped.bits7 (fun HT_ HW_ => ?_)
                 generalize wc.drew = w49 at HO_3 HB hHeld ⊢
                 refine pz 0 45 ?_
                 refine pz 1 46 ?_
                 refine pz 2 47 ?_
                 refine pz 6 51 ?_
                 refine pz 7 52 ?_
                 refine pz 8 53 ?_
                 refine tk (i := 3) (N := some 48) (v := ?_) (a' := ?_) rfl rfl (take_ofW HT_.out HW_.out (by kernel_rfl)) (Or.inl ⟨by rfl, ?_⟩) hHeld ?_ ?_
                 rotate_left
                 ·intro w' _
                  go_simp
                  with_reducible rfl
                 rotate_left
                 ·simp only [Act.put, List.setIfInBounds_toArray, List.set_cons_zero, List.set_cons_succ, i64_w, i32_w]
                  rfl
                 refine tk (i := 9) (N := some 54) (v := ?_) (a' := ?_) rfl rfl (take_ofW HT_.out HW_.out (by kernel_rfl)) (Or.inl ⟨by rfl, ?_⟩) hHeld ?_ ?_
                 rotate_left
                 ·intro w' _
                  go_simp
                  with_reducible rfl
                 rotate_left
                 ·simp only [Act.put, List.setIfInBounds_toArray, List.set_cons_zero, List.set_cons_succ, i64_w, i32_w]
                  rfl
                 refine oz 4 49 (fun K hK => ?_)
                 refine goes_ Tryz.func98 (by kernel_rfl) rfl #[.int .u8 (bt a0 (ji25))] (by rfl) rfl rfl z94 ?_
                 with_reducible refine (impl_hexOf.calls kj2 (bt a0 (ji25)) t119 _ A29.out).mono ?_
                 rintro e w' ⟨rfl, ⟨nd, rfl⟩⟩
                 refine ⟨_, rfl, ?_⟩
                 refine hK.out _ _ trivial (fun hHeld => ?_)
                 clear hK K
                 refine nz ?_
                 refine pz 5 50 ?_
                 refine oz 10 55 (fun K hK => ?_)
                 refine goes_ Tryz.func98 (by kernel_rfl) rfl #[.int .u8 (bt a0 (ji30))] (by rfl) rfl rfl z92 ?_
                 with_reducible refine (impl_hexOf.calls kj2 (bt a0 (ji30)) t120 _ A34.out).mono ?_
                 rintro e w' ⟨rfl, ⟨nd, rfl⟩⟩
                 refine ⟨_, rfl, ?_⟩
                 refine hK.out _ _ trivial (fun hHeld => ?_)
                 clear hK K
                 refine nz ?_
                 refine pz 11 56 ?_
                 refine pz 12 57 ?_
                 refine pz 13 5 ?_
                 refine done_ (done_of HT_.out (by kernel_rfl)) ?_
                 try go_wp2_with (first | ((with_reducible refine gate_callee (f := 99) rfl ?_); refine goesQ_ 59 Tryz.func99 #[.int .u8 ((wrap64 ((wrap64 (16 * t119)) + t120)) % 256)] ?_; (with_reducible refine (impl_isFree.calls ((wrap64 ((wrap64 (16 * t119)) + t120)) % 256) false _ A35.out).mono ?_); rintro e w' ⟨rfl, ⟨nd, rfl⟩⟩; refine ⟨_, rfl, ?_⟩))
                 (try simp only [World.drewN_drewN]); (try (rw [drewN_self w49]; generalize hq_ : World.drewN w49 _ = w49; have n0_ : Aside0 (Kd.R (Kd.int .u8) 5 w49 w.heap.size (fun _ => True) u3 x3_1) := ⟨by rw [← hq_]; exact z16⟩; have n1_ : Aside0 (Below w.heap.size w w49) := ⟨by rw [← hq_]; exact z0⟩; clear HO_3 HB hq_; have HO_3 := n0_; have HB := n1_; clear n0_ n1_))
                 have n0_ := Aside0.mk (Kd.R_drew HO_3.out)
                 have n1_ := Aside0.mk (below_drew1 HB.out)
                 clear HO_3
                 clear HB
                 have HO_3 := n0_
                 have HB := n1_
                 clear n0_ n1_
                 have p43 : 0 ≤ ((ji40) : Int) := of_decide_eq_true z3
                 have q43 : (ji40) < (16 : Int) := of_decide_eq_true z3
                 have hx43 := bt_at (⟨#[48, 49, 50, 51, 52, 53, 54, 55, 56, 57, 65, 66, 67, 68, 69, 70]⟩ : ByteArray) (ji40)
                 replace p43 := eq_true p43
                 replace q43 := eq_true q43
                 have p47 : 0 ≤ ((ji44) : Int) := of_decide_eq_true z3
                 have q47 : (ji44) < (16 : Int) := of_decide_eq_true z3
                 have hx47 := bt_at (⟨#[48, 49, 50, 51, 52, 53, 54, 55, 56, 57, 65, 66, 67, 68, 69, 70]⟩ : ByteArray) (ji44)
                 replace p47 := eq_true p47
                 replace q47 := eq_true q47
                 refine start_ (n := 10) (S := fun w' => True) (ds := []) #[false, false, false, false, false, false, false, false, false, false] (by kernel_rfl) rfl rfl trivial (fun hHeld => ?_); refine with_tabW impl_unescaped.tab10 impl_unescaped.bits10 (fun HT_ HW_ => ?_)
                 generalize w49.drew = w50 at HO_3 HB hHeld ⊢
                 refine pz 0 64 ?_
                 refine pz 1 65 ?_
                 refine pz 2 66 ?_
                 refine pz 4 68 ?_
                 refine pz 5 69 ?_
                 refine tk (i := 3) (N := some 67) (v := ?_) (a' := ?_) rfl rfl (take_ofW HT_.out HW_.out (by kernel_rfl)) (Or.inl ⟨by rfl, ?_⟩) hHeld ?_ ?_
                 rotate_left
                 ·intro w' _
                  go_simp
                  with_reducible rfl
                 rotate_left
                 ·simp only [Act.put, List.setIfInBounds_toArray, List.set_cons_zero, List.set_cons_succ, i64_w, i32_w]
                  rfl
                 refine tk (i := 6) (N := some 70) (v := ?_) (a' := ?_) rfl rfl (take_ofW HT_.out HW_.out (by kernel_rfl)) (Or.inl ⟨by rfl, ?_⟩) hHeld ?_ ?_
                 rotate_left
                 ·intro w' _
                  go_simp
                  with_reducible rfl
                 rotate_left
                 ·simp only [Act.put, List.setIfInBounds_toArray, List.set_cons_zero, List.set_cons_succ, i64_w, i32_w]
                  rfl
                 refine oz 7 71 (fun K hK => ?_)
                 refine Kd.R_lit_step (Kd.int .u8) _ 5 ?hg (N := 71) ?hd (xs := ([37, bt (⟨#[48, 49, 50, 51, 52, 53, 54, 55, 56, 57, 65, 66, 67, 68, 69, 70]⟩ : ByteArray) (ji40), bt (⟨#[48, 49, 50, 51, 52, 53, 54, 55, 56, 57, 65, 66, 67, 68, 69, 70]⟩ : ByteArray) (ji44)] : List Int)) (inner := [.int .u8 37, .int .u8 (bt (⟨#[48, 49, 50, 51, 52, 53, 54, 55, 56, 57, 65, 66, 67, 68, 69, 70]⟩ : ByteArray) (ji40)), .int .u8 (bt (⟨#[48, 49, 50, 51, 52, 53, 54, 55, 56, 57, 65, 66, 67, 68, 69, 70]⟩ : ByteArray) (ji44))]) (ok := fun _ => True) (okp := fun _ => True) ?hr ?hp (fun _ hk => hk) trivial (Below.refl _ _) (Nat.le_refl _) (by simp) ?_; (case hd => rfl); (case hg => rfl); (case hr => first | (go_simp; done) | (go_simp; rfl)); (case hp => exact (Reps.one (show Kd.M (Kd.int .u8) _ _ _ 37 [.int .u8 37] from rfl) (Reps.one (show Kd.M (Kd.int .u8) _ _ _ (bt (⟨#[48, 49, 50, 51, 52, 53, 54, 55, 56, 57, 65, 66, 67, 68, 69, 70]⟩ : ByteArray) (ji40)) [.int .u8 (bt (⟨#[48, 49, 50, 51, 52, 53, 54, 55, 56, 57, 65, 66, 67, 68, 69, 70]⟩ : ByteArray) (ji40))] from rfl) (Reps.one (show Kd.M (Kd.int .u8) _ _ _ (bt (⟨#[48, 49, 50, 51, 52, 53, 54, 55, 56, 57, 65, 66, 67, 68, 69, 70]⟩ : ByteArray) (ji44)) [.int .u8 (bt (⟨#[48, 49, 50, 51, 52, 53, 54, 55, 56, 57, 65, 66, 67, 68, 69, 70]⟩ : ByteArray) (ji44))] from rfl) (Reps.none _ _)))))
                 intro v126 w51 ho52 hb hg_ hnew_
                 clear hg_ hnew_
                 (first | rw [← Ny125.out] at ho52 | (simp only [Int.reduceToNat] at ho52; rw [← Ny125.out] at ho52))
                 have n0_ := Aside0.mk (Kd.R_elder' z16 (Kd.R_base ho52) hb)
                 have n1_ := Aside0.mk (Kd.R_lower (Kd.R_new' ho52 (Kd.R_lt z16)) (below_size z0))
                 have n2_ := Aside0.mk (below_step z0 hb)
                 clear HO_3
                 clear HB
                 have HO_3 := n0_
                 have HO127 := n1_
                 have HB := n2_
                 clear n0_ n1_ n2_
                 clear hb ho52
                 obtain ⟨Ao54, co54, eo54⟩ := Kd.R_slice HO127.out
                 (first | subst eo54 | (injection eo54 with f1_ f2_ f3_; have f4_ := f1_.symm; have f5_ := f3_.symm; clear f1_ f2_ f3_; subst f4_; subst f5_))
                 refine hK.out _ _ trivial (fun hHeld => ?_)
                 clear hK K
                 refine nz ?_
                 refine oz 8 72 (fun K hK => ?_)
                 refine Kd.R_append_rows_step (Kd.int .u8) (w0 := w) w.heap.size (by rfl) (.tmp 64) (.tmp 71) 22 5 (.int .u8 0) 1 rfl Tryz.underlying22 info5 rfl (by decide) (by omega) u3 x3_1 y125 _ _ _ (fun k_ => some k_ ≠ (.slice Ao54 y125.length co54 : Value).ownBlock) (fun _ => False) rfl rfl ?aO ?aR (fun _ _ h => h) (fun _ h => h.elim) ?aF ?aB ?aS ?aL ?_
                 (case aR => repeat (first | exact (Kd.R_reads' HO127.out).2.2 | (with_reducible refine Kd.C_alloc ?_ _) | (with_reducible refine Kd.C_drewN ?_ _) | (with_reducible refine Kd.C_drew ?_)))
                 (case aB => exact z0)
                 (case aF => exact (fun k_ hk => Kd.fresh' (Kd.R_lt (by (with_reducible repeat (first | apply Kd.R_alloc | apply Kd.R_drewN | apply Kd.R_drew)); exact HO127.out)) k_ hk))
                 (case aO => exact z101)
                 (case aS => exact (below_size z0))
                 (case aL => have := LMc48.out; omega)
                 intro v129 w53 ho hb hg hat
                 rw [← Ny128.out] at ho
                 have n0_ := Aside0.mk (Kd.R_after (ok := (fun _ => True)) (by (with_reducible repeat (first | apply Kd.R_alloc | apply Kd.R_drewN | apply Kd.R_drew)); exact HO127.out) hg hat)
                 have n1_ := Aside0.mk (hb)
                 have n2_ := Aside0.mk (ho)
                 clear HO127
                 clear HB
                 clear HO_3
                 have HO127 := n0_
                 have HB := n1_
                 have HO130 := n2_
                 clear n0_ n1_ n2_
                 clear ho hb hg hat
                 refine hK.out _ _ trivial (fun hHeld => ?_)
                 clear hK K
                 refine nz ?_
                 refine pz 9 3 ?_
                 refine done_ (done_of HT_.out (by kernel_rfl)) ?_
                 try go_wp2
                 go_roundg kj2
                 case measure => have := HK1.out; have := HJ2.out; omega
                 case rel => exact ⟨(y128), (wrap64 ((ji30) + 1)), (by first | rfl | (simp; done) | (simp only [← hji30] <;> (first | rfl | simp)) | (simp [*]; done)), H', ⟨z78⟩, ⟨by (with_reducible repeat (first | apply Kd.R_alloc | apply Kd.R_drewN | apply Kd.R_drew)); exact Kd.R_mono HO130.out (fun _ hk => trivial)⟩, ⟨z0⟩⟩
                ·rw [if_neg c48] at H
                 exact absurd H (by simp)
               ·rw [if_neg c46] at H
                exact absurd H (by simp)
              ·rw [if_neg c45] at H
               exact absurd H (by simp)
             ·rw [if_neg c42] at H
              exact absurd H (by simp)
            ·rw [if_neg c41] at H
             exact absurd H (by simp)
          ·rw [if_neg c32] at H
           exact absurd H (by simp)
         ·rw [if_neg c31] at H
          exact absurd H (by simp)
        ·rw [if_neg c27] at H
         exact absurd H (by simp)
       ·rw [if_neg c26] at H
        exact absurd H (by simp)
   ·rw [if_neg c2] at H
    have c2b0 : decide (x4_1 < (a0.size : Int)) = false := decide_eq_false c2
    clear c2
    obtain rfl := Option.some.inj H
    have hcv55 := own_string (P := Tryz.prog) Tryz.underlying22 Tryz.underlying5 Tryz.underlying9 (Kd.own_of_R HO_3.out)
    go_wp2
    go_ret
    exact ⟨z4, z0⟩

end Go.Proofs.YtkkolioolgpljaaGreatDoor.GFnCanons
