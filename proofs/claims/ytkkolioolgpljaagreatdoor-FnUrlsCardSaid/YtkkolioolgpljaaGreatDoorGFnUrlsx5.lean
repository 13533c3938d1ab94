-- Laid by gen.py of this session (over the kit's printing program): what the law FnUrls reaches, as Lean functions, and that Go comes to just that.
import Derived.Test.YtkkolioolgpljaaGreatDoorGFnUrlsx0
import Derived.Test.YtkkolioolgpljaaGreatDoorGFnUrlsx4
import Derived.Test.YtkkolioolgpljaaGreatDoorZFnUrls
namespace Go.Proofs.YtkkolioolgpljaaGreatDoor.GFnUrls
open Go.RowKit Go.Proofs.YtkkolioolgpljaaGreatDoorW.PrintWords Go.Proofs.YtkkolioolgpljaaGreatDoorW.PrintLast Go.Proofs.YtkkolioolgpljaaGreatDoorW.PrintMore Go.Proofs.YtkkolioolgpljaaGreatDoorW.Zs
attribute [local go_sem] max2_int min2_int max_two min_two max_three min_three max_four min_four   -- for this text's walks alone
set_option linter.unusedVariables false
set_option linter.unusedSimpArgs false

/-! ### spec_l7percent: function 51 -/
mutual
def spec_l7percent.l0 : Nat → ByteArray → List Int → Int → Option (ByteArray)
 | 0, _, _, _ => none
 | k + 1, x0, x3, x4 => if x4 < (x0.size : Int) then (if 0 ≤ x4 then (if (bt x0 x4) = 37 then (spec_l7percent.j1 k x0 x3 x4 (decide ((wrap64 (x4 + 2)) ≥ (x0.size : Int)))) else (spec_l7percent.j1 k x0 x3 x4 true)) else (none)) else (some (strOfNums x3))
def spec_l7percent.j1 : Nat → ByteArray → List Int → Int → Bool → Option (ByteArray)
 | 0, _, _, _, _ => none
 | k + 1, x0, x3, x4, x23 => if x23 = true then (if 0 ≤ x4 then (if x4 < (x0.size : Int) then (if x3.length < 140737488355328 then (spec_l7percent.l0 k x0 (x3 ++ [bt x0 x4]) (wrap64 (x4 + 1))) else (none)) else (none)) else (none)) else (if 0 ≤ (wrap64 (x4 + 1)) then (if (wrap64 (x4 + 1)) ≤ (wrap64 (x4 + 3)) then (if (wrap64 (x4 + 3)) ≤ (x0.size : Int) then ((spec_ReadHex.f k (x0.extract ((wrap64 (x4 + 1)) : Int).toNat ((wrap64 (x4 + 3)) : Int).toNat)).bind fun bt138 => (if bt138.2 = true then ((spec_l7free.f k ((bt138.1) % 256)).bind fun t140 => (if t140 = true then (if x3.length < 140737488355328 then (spec_l7percent.l0 k x0 (x3 ++ [(bt138.1) % 256]) (wrap64 ((wrap64 (x4 + 2)) + 1))) else (none)) else (if (wrap64 (x4 + 1)) < (x0.size : Int) then ((spec_l7upper.f (bt x0 (wrap64 (x4 + 1)))).bind fun t144 => (if 0 ≤ (wrap64 (x4 + 2)) then (if (wrap64 (x4 + 2)) < (x0.size : Int) then ((spec_l7upper.f (bt x0 (wrap64 (x4 + 2)))).bind fun t145 => ((some (([37, t144, t145] : List Int) : List Int)).bind fun y146 => (if x3.length + y146.length < 140737488355328 then (spec_l7percent.l0 k x0 (x3 ++ y146) (wrap64 ((wrap64 (x4 + 2)) + 1))) else (none)))) else (none)) else (none))) else (none)))) else (if 0 ≤ x4 then (if x4 < (x0.size : Int) then (if x3.length < 140737488355328 then (spec_l7percent.l0 k x0 (x3 ++ [bt x0 x4]) (wrap64 (x4 + 1))) else (none)) else (none)) else (none)))) else (none)) else (none)) else (none))
end
def spec_l7percent.f (k : Nat) (a0 : ByteArray) : Option (ByteArray) := spec_l7percent.l0 k a0 ([] : List Int) 0
theorem spec_l7percent.mono_l : ∀ k, (∀ y0 y1 y2, LeO (spec_l7percent.l0 k y0 y1 y2) (spec_l7percent.l0 (k + 1) y0 y1 y2)) ∧ (∀ y0 y1 y2 y3, LeO (spec_l7percent.j1 k y0 y1 y2 y3) (spec_l7percent.j1 (k + 1) y0 y1 y2 y3))
 | 0 => ⟨fun _ _ _ r h => by simp [spec_l7percent.l0] at h, fun _ _ _ _ r h => by simp [spec_l7percent.j1] at h⟩
 | k + 1 => by
  obtain ⟨ih0, ih1⟩ := spec_l7percent.mono_l k; refine ⟨?_, ?_⟩
  ·intro y0 y1 y2; unfold spec_l7percent.l0
   repeat' first | (with_reducible first | exact ih0 _ _ _ | exact ih1 _ _ _ _ | exact spec_ReadHex.mono _ _ | exact spec_l7free.mono _ _ | exact LeO.refl _ | exact LeO.none _ | refine LeO.ite ?_ ?_ | refine LeO.bind ?_ (fun _ => ?_)) | exact ih0 _ _ _ | exact ih1 _ _ _ _ | exact spec_ReadHex.mono _ _ | exact spec_l7free.mono _ _ | exact LeO.none _ | refine LeO.ite ?_ ?_ | refine LeO.bind ?_ (fun _ => ?_)
  ·intro y0 y1 y2 y3; unfold spec_l7percent.j1
   repeat' first | (with_reducible first | exact ih0 _ _ _ | exact ih1 _ _ _ _ | exact spec_ReadHex.mono _ _ | exact spec_l7free.mono _ _ | exact LeO.refl _ | exact LeO.none _ | refine LeO.ite ?_ ?_ | refine LeO.bind ?_ (fun _ => ?_)) | exact ih0 _ _ _ | exact ih1 _ _ _ _ | exact spec_ReadHex.mono _ _ | exact spec_l7free.mono _ _ | exact LeO.none _ | refine LeO.ite ?_ ?_ | refine LeO.bind ?_ (fun _ => ?_)
theorem spec_l7percent.mono : ∀ a0 k, LeO (spec_l7percent.f k a0) (spec_l7percent.f (k + 1) a0) := by
 intro a0 k; obtain ⟨ih0, ih1⟩ := spec_l7percent.mono_l k; unfold spec_l7percent.f
 repeat' first | (with_reducible first | exact ih0 _ _ _ | exact ih1 _ _ _ _ | exact spec_ReadHex.mono _ _ | exact spec_l7free.mono _ _ | exact LeO.refl _ | exact LeO.none _ | refine LeO.ite ?_ ?_ | refine LeO.bind ?_ (fun _ => ?_)) | exact ih0 _ _ _ | exact ih1 _ _ _ _ | exact spec_ReadHex.mono _ _ | exact spec_l7free.mono _ _ | exact LeO.none _ | refine LeO.ite ?_ ?_ | refine LeO.bind ?_ (fun _ => ?_)
def spec_l7percent.T8 : Bool × List (List Nat × List Nat) := (true, [([], []), ([], []), ([], []), ([2], [2]), ([1, 3], [1, 3]), ([4], [4]), ([], []), ([], []), ([7], [7]), ([6, 8], [6, 8]), ([9, 5], [9]), ([5, 10], [5, 10]), ([0, 11, 10], [0, 11]), ([12, 12, 0, 1, 2, 3, 4, 5, 6, 7, 8, 9, 10, 11, 12], [0, 12])])
def spec_l7percent.B8 : List Nat := [0, 0, 0, 4, 14, 30, 0, 0, 128, 448, 1022, 2046, 4095, 8191]
theorem spec_l7percent.tab8 : rtab .any (opsOf Tryz.f51 8) = spec_l7percent.T8 := by kernel_rfl
theorem spec_l7percent.bits8 : waitsOk spec_l7percent.T8.2 spec_l7percent.B8 = true := by kernel_rfl
set_option maxHeartbeats 8000000 in
set_option maxRecDepth 100000 in
theorem spec_l7percent.calls (k : Nat) (a0 : ByteArray) (r : ByteArray) (w : World) (h : spec_l7percent.f k a0 = some r) :
  Calls Tryz.prog 51 #[.string a0] w fun e w' => e = .returned (.string r) ∧ Below w.heap.size w w' := by
 have HB := Aside0.mk (Below.refl w.heap.size w); have H : (spec_l7percent.l0 k a0 ([] : List Int) 0) = some r := h; clear h; have H' := Aside0.mk H; clear H; go_enter Tryz.func51, Tryz.ntmps51
 go_wp2
 go_loopg [3, 4] k (fun kq v3 v4 w' => ∃ (x3_1 : List Int) (x4_1 : Int), v4 = .int .i64 x4_1 ∧ Aside0 (spec_l7percent.l0 kq a0 x3_1 x4_1 = some r) ∧ Aside0 (kq ≤ k) ∧ Aside0 (Kd.R (Kd.int .u8) 5 w' w.heap.size (fun _ => True) v3 x3_1) ∧ Aside0 (Below w.heap.size w w'))
 case atStart => exact ⟨(([] : List Int)), (0), z5, H', ⟨Nat.le_refl _⟩, ⟨z50⟩, ⟨z0⟩⟩
 case round =>
  clear H'; obtain ⟨x3_1, x4_1, rfl, HA, HK1, HO_3, HB⟩ := hrel
  cases gk with
  | zero => exact absurd HA.out (by simp [spec_l7percent.l0])
  | succ k1 =>
   have H := HA.out; clear HA; simp only [spec_l7percent.l0] at H
   by_cases c2 : x4_1 < (a0.size : Int)
   ·rw [if_pos c2] at H; have c2b0 : decide (x4_1 < (a0.size : Int)) = true := decide_eq_true c2; clear c2; have HC3 := Aside0.mk H; clear H; go_upto_region 5 with (fail)
    go_cut [23] (fun v23 wc => ∃ (kq : Nat) (x23_2 : Bool), v23 = .bool x23_2 ∧ Aside0 (spec_l7percent.j1 kq a0 x3_1 x4_1 x23_2 = some r) ∧ Aside0 (kq ≤ k1) ∧ Aside0 (Kd.R (Kd.int .u8) 5 wc w.heap.size (fun _ => True) u3 x3_1) ∧ Aside0 (Below w.heap.size w wc))
    case first =>
     have H := HC3.out; clear HC3
     by_cases c4 : 0 ≤ x4_1
     ·rw [if_pos c4] at H; have c4b0 : decide (0 ≤ x4_1) = true := decide_eq_true c4; clear c4; (first | rw [c4b0] | (simp only [i64_w, i32_w]; rw [c4b0]) | skip)
      by_cases c6 : (bt a0 x4_1) = 37
      ·rw [if_pos c6] at H; have c6b0 : ((bt a0 x4_1) == 37) = true := beq_iff_eq.mpr c6; have c6b1 : ((bt a0 x4_1) != 37) = false := bne_eq_false_iff_eq.mpr c6; clear c6; have H' := Aside0.mk H; clear H; have p5 : 0 ≤ (x4_1 : Int) := of_decide_eq_true z3; have q5 : x4_1 < (a0.size : Int) := of_decide_eq_true z3; have hx5 := bt_at a0 x4_1; replace p5 := eq_true p5; replace q5 := eq_true q5; go_wp2
       go_meet
       case rel => exact ⟨_, (decide ((wrap64 (x4_1 + 2)) ≥ (a0.size : Int))), z5, H', ⟨z77⟩, ⟨z19⟩, ⟨z0⟩⟩
      ·rw [if_neg c6] at H; have c6b0 : ((bt a0 x4_1) == 37) = false := beq_eq_false_iff_ne.mpr c6; have c6b1 : ((bt a0 x4_1) != 37) = true := bne_iff_ne.mpr c6; have H' := Aside0.mk H; clear H; have p5 : 0 ≤ (x4_1 : Int) := of_decide_eq_true z3; have q5 : x4_1 < (a0.size : Int) := of_decide_eq_true z3; have hx5 := bt_at a0 x4_1; replace p5 := eq_true p5; replace q5 := eq_true q5; go_wp2
       go_meet
       case rel => exact ⟨_, (true), z5, H', ⟨z77⟩, ⟨z19⟩, ⟨z0⟩⟩
     ·rw [if_neg c4] at H; exact absurd H (by simp)
    case rest =>
     clear HC3; (try clear c2); (try clear c2b0); (try clear p2); (try clear c4); (try clear c4b0); (try clear c5); (try clear p5); (try clear q5); (try clear hx5); (try clear c6); (try clear c6b0); (try clear c6b1); (try clear p6); (try clear p5); (try clear q5); obtain ⟨kq, x23_2, rfl, HA, HJ2, HO_3, HB⟩ := hcut
     cases kq with
     | zero => exact absurd HA.out (by simp [spec_l7percent.j1])
     | succ kj2 =>
      have H := HA.out; clear HA; simp only [spec_l7percent.j1] at H
      by_cases c7 : x23_2 = true
      ·subst c7; rw [if_pos rfl] at H
       by_cases c8 : 0 ≤ x4_1
       ·rw [if_pos c8] at H; have c8b0 : decide (0 ≤ x4_1) = true := decide_eq_true c8; clear c8
        by_cases c9 : x4_1 < (a0.size : Int)
        ·rw [if_pos c9] at H; have c9b0 : decide (x4_1 < (a0.size : Int)) = true := decide_eq_true c9; clear c9
         by_cases c11 : x3_1.length < 140737488355328
         ·rw [if_pos c11] at H; have LMc11 := Aside0.mk c11; clear c11; obtain ⟨y135, hy135⟩ : ∃ y_ : List Int, y_ = (x3_1 ++ [bt a0 x4_1]) := ⟨_, rfl⟩; replace H : (spec_l7percent.l0 kj2 a0 y135 (wrap64 (x4_1 + 1))) = some r := by first | (rw [hy135]; with_reducible exact H) | (have H2_ := (Option.bind_some _ _).symm.trans H; rw [hy135]; with_reducible exact H2_) | (have H2_ := (Option.bind_some _ _).symm.trans H; with_reducible exact H2_) | with_reducible exact H | (rw [hy135]; exact H) | exact H
          have Ny135 := Aside0.mk hy135; clear hy135; have H' := Aside0.mk H; clear H; have p10 : 0 ≤ (x4_1 : Int) := of_decide_eq_true z3; have q10 : x4_1 < (a0.size : Int) := of_decide_eq_true z3; have hx10 := bt_at a0 x4_1; replace p10 := eq_true p10; replace q10 := eq_true q10; go_wp2_with (first | ((with_reducible refine gate_builtin (b := .append) (xs := #[.tmp 24, .tmp 28]) rfl ?_); (try (refine gate_guard (by rfl) ?_; dsimp only)); at_builtin; refine Kd.R_append (Kd.int .u8) (w0 := w) w.heap.size rfl (.tmp 24) (.tmp 28) 22 5 (.int .u8 0) 1 rfl Tryz.underlying22 info5 rfl (by decide) (by omega) u3 x3_1 (bt a0 x4_1) [.int .u8 (bt a0 x4_1)] (fun _ => True) (fun _ => False) rfl rfl ?aP (fun _ hk => hk.elim) ?aF ?aO ?aB ?aS ?aL ?_; (case aP => exact rfl); (case aB => exact z0); (case aF => exact (fun _ _ => trivial)); (case aO => exact z19); (case aS => exact (below_size z0)); (case aL => have := LMc11.out; omega); intro v136 w12 ho hb hg hat; rw [← Ny135.out] at ho; replace HB := Aside0.mk (hb); have HO137 := Aside0.mk (ho); clear HO_3; clear ho hb hg hat))
          go_roundg kj2
          (case measure => have := HK1.out; have := HJ2.out; omega); case rel => exact ⟨(y135), (wrap64 (x4_1 + 1)), z5, H', ⟨z82⟩, ⟨by (with_reducible repeat (first | apply Kd.R_alloc | apply Kd.R_drewN | apply Kd.R_drew)); exact HO137.out⟩, ⟨z0⟩⟩
         ·rw [if_neg c11] at H; exact absurd H (by simp)
        ·rw [if_neg c9] at H; exact absurd H (by simp)
       ·rw [if_neg c8] at H; exact absurd H (by simp)
      ·replace c7 := Bool.eq_false_iff.mpr c7; subst c7; rw [if_neg Bool.false_ne_true] at H; obtain ⟨ji13, hji13⟩ : ∃ j_ : Int, (wrap64 (x4_1 + 1)) = j_ := ⟨_, rfl⟩; replace H : (if 0 ≤ (ji13) then (if (ji13) ≤ (wrap64 (x4_1 + 3)) then (if (wrap64 (x4_1 + 3)) ≤ (a0.size : Int) then ((spec_ReadHex.f kj2 (a0.extract ((ji13) : Int).toNat ((wrap64 (x4_1 + 3)) : Int).toNat)).bind fun bt138 => (if bt138.2 = true then ((spec_l7free.f kj2 ((bt138.1) % 256)).bind fun t140 => (if t140 = true then (if x3_1.length < 140737488355328 then (spec_l7percent.l0 kj2 a0 (x3_1 ++ [(bt138.1) % 256]) (wrap64 ((wrap64 (x4_1 + 2)) + 1))) else (none)) else (if (ji13) < (a0.size : Int) then ((spec_l7upper.f (bt a0 (ji13))).bind fun t144 => (if 0 ≤ (wrap64 (x4_1 + 2)) then (if (wrap64 (x4_1 + 2)) < (a0.size : Int) then ((spec_l7upper.f (bt a0 (wrap64 (x4_1 + 2)))).bind fun t145 => ((some (([37, t144, t145] : List Int) : List Int)).bind fun y146 => (if x3_1.length + y146.length < 140737488355328 then (spec_l7percent.l0 kj2 a0 (x3_1 ++ y146) (wrap64 ((wrap64 (x4_1 + 2)) + 1))) else (none)))) else (none)) else (none))) else (none)))) else (if 0 ≤ x4_1 then (if x4_1 < (a0.size : Int) then (if x3_1.length < 140737488355328 then (spec_l7percent.l0 kj2 a0 (x3_1 ++ [bt a0 x4_1]) ji13) else (none)) else (none)) else (none)))) else (none)) else (none)) else (none)) = some r := by first | (rw [hji13] at H; exact H) | (simp only [hji13] at H ⊢; exact H)
       have hji13w : (IntKind.i64.wrap (x4_1 + 1)) = ji13 := (i64_w _).trans hji13
       by_cases c14 : 0 ≤ (ji13)
       ·rw [if_pos c14] at H; have c14b0 := eq_true c14; have c14b1 : decide (0 ≤ (ji13)) = true := decide_eq_true c14; clear c14
        by_cases c15 : (ji13) ≤ (wrap64 (x4_1 + 3))
        ·rw [if_pos c15] at H; have c15b0 := eq_true c15; have c15b1 : decide ((ji13) ≤ (wrap64 (x4_1 + 3))) = true := decide_eq_true c15
         by_cases c16 : (wrap64 (x4_1 + 3)) ≤ (a0.size : Int)
         ·rw [if_pos c16] at H; have c16b0 := eq_true c16; have c16b1 : decide ((wrap64 (x4_1 + 3)) ≤ (a0.size : Int)) = true := decide_eq_true c16; replace H := Option.bind_eq_some_iff.mp H; obtain ⟨⟨t138, t139⟩, A170, H⟩ := H; (try dsimp only at H); have A17 := Aside0.mk A170; clear A170; have HC18 := Aside0.mk H; clear H; go_upto_if 53 with (first | ((with_reducible refine gate_callee (f := 77) rfl ?_); refine goesL_ (some 37) rfl rfl Tryz.func77 (by kernel_rfl) rfl #[.string (a0.extract ((ji13) : Int).toNat ((wrap64 (x4_1 + 3)) : Int).toNat)] rfl z92 ?_; (with_reducible refine (spec_ReadHex.calls kj2 (a0.extract ((ji13) : Int).toNat ((wrap64 (x4_1 + 3)) : Int).toNat) t138 t139 _ A17.out).mono ?_); rintro e w' ⟨rfl, ⟨nd, rfl⟩⟩; refine ⟨_, rfl, ?_⟩))
          (try (rw [drewN_self wc]; generalize hq_ : World.drewN wc _ = wc; have n0_ : Aside0 (Kd.R (Kd.int .u8) 5 wc w.heap.size (fun _ => True) u3 x3_1) := ⟨by rw [← hq_]; exact z19⟩; have n1_ : Aside0 (Below w.heap.size w wc) := ⟨by rw [← hq_]; exact z0⟩; clear HO_3 HB hq_; have HO_3 := n0_; have HB := n1_; clear n0_ n1_)); have H := HC18.out; clear HC18
          by_cases c19 : t139 = true
          ·subst c19; rw [if_pos rfl] at H; replace H := Option.bind_eq_some_iff.mp H; obtain ⟨t140, A200, H⟩ := H; (try dsimp only at H); have A20 := Aside0.mk A200; clear A200; have HC21 := Aside0.mk H; clear H; go_upto_if 62 with (first | ((with_reducible refine gate_callee (f := 78) rfl ?_); refine goesR_ 65 Tryz.func78 #[.int .u8 ((t138) % 256)] (spec_l7free.calls kj2 ((t138) % 256) t140 _ A20.out) ?_; rintro w' ⟨nd, rfl⟩))
           (try (rw [drewN_self wc]; generalize hq_ : World.drewN wc _ = wc; have n0_ : Aside0 (Kd.R (Kd.int .u8) 5 wc w.heap.size (fun _ => True) u3 x3_1) := ⟨by rw [← hq_]; exact z19⟩; have n1_ : Aside0 (Below w.heap.size w wc) := ⟨by rw [← hq_]; exact z0⟩; clear HO_3 HB hq_; have HO_3 := n0_; have HB := n1_; clear n0_ n1_)); have H := HC21.out; clear HC21
           by_cases c22 : t140 = true
           ·subst c22; rw [if_pos rfl] at H
            by_cases c23 : x3_1.length < 140737488355328
            ·rw [if_pos c23] at H; have LMc23 := Aside0.mk c23; clear c23; obtain ⟨y141, hy141⟩ : ∃ y_ : List Int, y_ = (x3_1 ++ [(t138) % 256]) := ⟨_, rfl⟩; replace H : (spec_l7percent.l0 kj2 a0 y141 (wrap64 ((wrap64 (x4_1 + 2)) + 1))) = some r := by first | (rw [hy141]; with_reducible exact H) | (have H2_ := (Option.bind_some _ _).symm.trans H; rw [hy141]; with_reducible exact H2_) | (have H2_ := (Option.bind_some _ _).symm.trans H; with_reducible exact H2_) | with_reducible exact H | (rw [hy141]; exact H) | exact H
             have Ny141 := Aside0.mk hy141; clear hy141; have H' := Aside0.mk H; clear H; go_wp2_with (first | ((with_reducible refine gate_builtin (b := .append) (xs := #[.tmp 66, .tmp 69]) rfl ?_); (try (refine gate_guard (by rfl) ?_; dsimp only)); at_builtin; refine Kd.R_append (Kd.int .u8) (w0 := w) w.heap.size rfl (.tmp 66) (.tmp 69) 22 5 (.int .u8 0) 1 rfl Tryz.underlying22 info5 rfl (by decide) (by omega) u3 x3_1 ((t138) % 256) [.int .u8 ((t138) % 256)] (fun _ => True) (fun _ => False) rfl rfl ?aP (fun _ hk => hk.elim) ?aF ?aO ?aB ?aS ?aL ?_; (case aP => exact rfl); (case aB => exact z0); (case aF => exact (fun _ _ => trivial)); (case aO => exact z19); (case aS => exact (below_size z0)); (case aL => have := LMc23.out; omega); intro v142 w24 ho hb hg hat; rw [← Ny141.out] at ho; replace HB := Aside0.mk (hb); have HO143 := Aside0.mk (ho); clear HO_3; clear ho hb hg hat))
             go_roundg kj2
             (case measure => have := HK1.out; have := HJ2.out; omega); case rel => exact ⟨(y141), (wrap64 ((wrap64 (x4_1 + 2)) + 1)), z5, H', ⟨z82⟩, ⟨by (with_reducible repeat (first | apply Kd.R_alloc | apply Kd.R_drewN | apply Kd.R_drew)); exact HO143.out⟩, ⟨z0⟩⟩
            ·rw [if_neg c23] at H; exact absurd H (by simp)
           ·replace c22 := Bool.eq_false_iff.mpr c22; subst c22; rw [if_neg Bool.false_ne_true] at H
            by_cases c25 : (ji13) < (a0.size : Int)
            ·rw [if_pos c25] at H; have c25b0 : decide ((ji13) < (a0.size : Int)) = true := decide_eq_true c25; clear c25; (first | rw [c25b0] | (simp only [i64_w, i32_w]; rw [c25b0]) | skip); replace H := Option.bind_eq_some_iff.mp H; obtain ⟨t144, A270, H⟩ := H; (try dsimp only at H); have A27 := Aside0.mk A270; clear A270; obtain ⟨ji28, hji28⟩ : ∃ j_ : Int, (wrap64 (x4_1 + 2)) = j_ := ⟨_, rfl⟩; replace H : (if 0 ≤ (ji28) then (if (ji28) < (a0.size : Int) then ((spec_l7upper.f (bt a0 (ji28))).bind fun t145 => ((some (([37, t144, t145] : List Int) : List Int)).bind fun y146 => (if x3_1.length + y146.length < 140737488355328 then (spec_l7percent.l0 kj2 a0 (x3_1 ++ y146) (wrap64 ((ji28) + 1))) else (none)))) else (none)) else (none)) = some r := by first | (rw [hji28] at H; exact H) | (simp only [hji28] at H ⊢; exact H)
             (try rw [hji28] at A27); have hji28w : (IntKind.i64.wrap (x4_1 + 2)) = ji28 := (i64_w _).trans hji28
             by_cases c29 : 0 ≤ (ji28)
             ·rw [if_pos c29] at H; have c29b0 : decide (0 ≤ (ji28)) = true := decide_eq_true c29; clear c29
              by_cases c30 : (ji28) < (a0.size : Int)
              ·rw [if_pos c30] at H; have c30b0 : decide ((ji28) < (a0.size : Int)) = true := decide_eq_true c30; clear c30; replace H := Option.bind_eq_some_iff.mp H; obtain ⟨t145, A320, H⟩ := H; (try dsimp only at H); have A32 := Aside0.mk A320; clear A320; obtain ⟨y146, hy146⟩ : ∃ y_ : List Int, y_ = (([37, t144, t145] : List Int)) := ⟨_, rfl⟩; replace H : (if x3_1.length + y146.length < 140737488355328 then (spec_l7percent.l0 kj2 a0 (x3_1 ++ y146) (wrap64 ((ji28) + 1))) else (none)) = some r := by first | (rw [hy146]; with_reducible exact H) | (have H2_ := (Option.bind_some _ _).symm.trans H; rw [hy146]; with_reducible exact H2_) | (have H2_ := (Option.bind_some _ _).symm.trans H; with_reducible exact H2_) | with_reducible exact H | (rw [hy146]; exact H) | exact H
               have Ny146 := Aside0.mk hy146; clear hy146
               by_cases c33 : x3_1.length + y146.length < 140737488355328
               ·rw [if_pos c33] at H; have LMc33 := Aside0.mk c33; clear c33; obtain ⟨y149, hy149⟩ : ∃ y_ : List Int, y_ = (x3_1 ++ y146) := ⟨_, rfl⟩; replace H : (spec_l7percent.l0 kj2 a0 y149 (wrap64 ((ji28) + 1))) = some r := by first | (rw [hy149]; with_reducible exact H) | (have H2_ := (Option.bind_some _ _).symm.trans H; rw [hy149]; with_reducible exact H2_) | (have H2_ := (Option.bind_some _ _).symm.trans H; with_reducible exact H2_) | with_reducible exact H | (rw [hy149]; exact H) | exact H
                have Ny149 := Aside0.mk hy149; clear hy149; have H' := Aside0.mk H; clear H; (try go_wp2); replace HO_3 := Aside0.mk (Kd.R_drew HO_3.out); replace HB := Aside0.mk (below_drew1 HB.out); have p26 : 0 ≤ ((ji13) : Int) := of_decide_eq_true z3; have q26 : (ji13) < (a0.size : Int) := of_decide_eq_true z3; have hx26 := bt_at a0 (ji13); replace p26 := eq_true p26; replace q26 := eq_true q26; have p31 : 0 ≤ ((ji28) : Int) := of_decide_eq_true z3; have q31 : (ji28) < (a0.size : Int) := of_decide_eq_true z3; have hx31 := bt_at a0 (ji28); replace p31 := eq_true p31; replace q31 := eq_true q31; refine st_ (n := 14) (S := fun w' => True) (ds := []) trivial (fun hHeld => ?_); refine with_tabW spec_l7percent.tab8 spec_l7percent.bits8 (fun HT_ HW_ => ?_); generalize wc.drew = w34 at HO_3 HB hHeld ⊢; refine pz 0 40 ?_; refine pz 1 41 ?_; refine pz 2 42 ?_; refine pz 3 43 ?_; refine pz 6 46 ?_; refine pz 7 47 ?_; refine pz 8 48 ?_; refine tk (i := 4) (N := some 44) (v := ?_) (a' := ?_) rfl rfl (take_ofW HT_.out HW_.out (by kernel_rfl)) (Or.inl ⟨by rfl, ?_⟩) hHeld ?_ ?_; rotate_left
                ·intro w' _; go_simp; with_reducible rfl
                rotate_left
                ·simp only [Act.put, List.setIfInBounds_toArray, List.set_cons_zero, List.set_cons_succ, i64_w, i32_w]; rfl
                refine tk (i := 9) (N := some 49) (v := ?_) (a' := ?_) rfl rfl (take_ofW HT_.out HW_.out (by kernel_rfl)) (Or.inl ⟨by rfl, ?_⟩) hHeld ?_ ?_; rotate_left
                ·intro w' _; go_simp; with_reducible rfl
                rotate_left
                ·simp only [Act.put, List.setIfInBounds_toArray, List.set_cons_zero, List.set_cons_succ, i64_w, i32_w]; rfl
                refine oz 5 45 (fun K hK => ?_); refine goes_ Tryz.func79 (by kernel_rfl) rfl #[.int .u8 (bt a0 (ji13))] (by rfl) rfl rfl z92 ?_; (with_reducible refine (spec_l7upper.calls (bt a0 (ji13)) t144 _ A27.out).mono ?_); rintro e w' ⟨rfl, ⟨nd, rfl⟩⟩; refine ⟨_, rfl, ?_⟩; refine hK.out _ _ trivial (fun hHeld => ?_); clear hK K; refine nz ?_; refine oz 10 50 (fun K hK => ?_); refine goes_ Tryz.func79 (by kernel_rfl) rfl #[.int .u8 (bt a0 (ji28))] (by rfl) rfl rfl (by (try simp only [List.map_toArray, List.map_cons, List.map_nil]); first | done | (simp only [hji28]; rfl) | rfl | (simp only [List.length_drop, List.length_take]; rfl)) ?_; (with_reducible refine (spec_l7upper.calls (bt a0 (ji28)) t145 _ A32.out).mono ?_); rintro e w' ⟨rfl, ⟨nd, rfl⟩⟩; refine ⟨_, rfl, ?_⟩; refine hK.out _ _ trivial (fun hHeld => ?_); clear hK K; refine nz ?_; refine oz 11 51 (fun K hK => ?_); refine Kd.R_lit_step (Kd.int .u8) _ 5 ?hg (N := 51) ?hd (xs := ([37, t144, t145] : List Int)) (inner := [.int .u8 37, .int .u8 t144, .int .u8 t145]) (ok := fun _ => True) (okp := fun _ => True) ?hr ?hp (fun _ hk => hk) trivial (Below.refl _ _) (Nat.le_refl _) (by simp) ?_; (case hd => rfl); (case hg => rfl); (case hr => first | (go_simp; done) | (go_simp; rfl)); (case hp => exact (Reps.one (show Kd.M (Kd.int .u8) _ _ _ 37 [.int .u8 37] from rfl) (Reps.one (show Kd.M (Kd.int .u8) _ _ _ t144 [.int .u8 t144] from rfl) (Reps.one (show Kd.M (Kd.int .u8) _ _ _ t145 [.int .u8 t145] from rfl) (Reps.none _ _))))); intro v147 w35 ho36 hb hg_ hnew_; clear hg_ hnew_; (first | rw [← Ny146.out] at ho36 | (simp only [Int.reduceToNat] at ho36; rw [← Ny146.out] at ho36)); have HO148 := Aside0.mk (Kd.R_lower (Kd.R_new' ho36 (Kd.R_lt z19)) (below_size z0)); replace HO_3 := Aside0.mk (Kd.R_elder' z19 (Kd.R_base ho36) hb); replace HB := Aside0.mk (below_step z0 hb); clear hb ho36; obtain ⟨Ao38, co38, eo38⟩ := Kd.R_slice HO148.out; (first | subst eo38 | (injection eo38 with f1_ f2_ f3_; have f4_ := f1_.symm; have f5_ := f3_.symm; clear f1_ f2_ f3_; subst f4_; subst f5_)); refine hK.out _ _ trivial (fun hHeld => ?_); clear hK K; refine nz ?_; refine oz 12 52 (fun K hK => ?_); refine Kd.R_append_rows_step (Kd.int .u8) (w0 := w) w.heap.size (by rfl) (.tmp 40) (.tmp 51) 22 5 (.int .u8 0) 1 rfl Tryz.underlying22 info5 rfl (by decide) (by omega) u3 x3_1 y146 _ _ _ (fun k_ => some k_ ≠ (.slice Ao38 y146.length co38 : Value).ownBlock) (fun _ => False) rfl rfl ?aO ?aR (fun _ _ h => h) (fun _ h => h.elim) ?aF ?aB ?aS ?aL ?_; (case aR => repeat (first | exact (Kd.R_reads' HO148.out).2.2 | (with_reducible refine Kd.C_alloc ?_ _) | (with_reducible refine Kd.C_drewN ?_ _) | (with_reducible refine Kd.C_drew ?_))); (case aB => exact z0); (case aF => exact (fun k_ hk => Kd.fresh' (Kd.R_lt (by (with_reducible repeat (first | apply Kd.R_alloc | apply Kd.R_drewN | apply Kd.R_drew)); exact HO148.out)) k_ hk)); (case aO => exact z99); (case aS => exact (below_size z0)); (case aL => have := LMc33.out; omega); intro v150 w37 ho hb hg hat; rw [← Ny149.out] at ho; replace HO148 := Aside0.mk (Kd.R_after (ok := (fun _ => True)) (by (with_reducible repeat (first | apply Kd.R_alloc | apply Kd.R_drewN | apply Kd.R_drew)); exact HO148.out) hg hat); replace HB := Aside0.mk (hb); have HO151 := Aside0.mk (ho); clear HO_3; clear ho hb hg hat; refine hK.out _ _ trivial (fun hHeld => ?_); clear hK K; refine nz ?_; refine pz 13 3 ?_; refine done_ (done_of HT_.out (by kernel_rfl)) ?_; (try go_wp2); go_roundg kj2
                (case measure => have := HK1.out; have := HJ2.out; omega); case rel => exact ⟨(y149), (wrap64 ((ji28) + 1)), (by first | rfl | (simp; done) | (simp only [← hji28] <;> (first | rfl | simp)) | (simp [*]; done)), H', ⟨z82⟩, ⟨by (with_reducible repeat (first | apply Kd.R_alloc | apply Kd.R_drewN | apply Kd.R_drew)); exact Kd.R_mono HO151.out (fun _ hk => trivial)⟩, ⟨z0⟩⟩
               ·rw [if_neg c33] at H; exact absurd H (by simp)
              ·rw [if_neg c30] at H; exact absurd H (by simp)
             ·rw [if_neg c29] at H; exact absurd H (by simp)
            ·rw [if_neg c25] at H; exact absurd H (by simp)
          ·replace c19 := Bool.eq_false_iff.mpr c19; subst c19; rw [if_neg Bool.false_ne_true] at H
           by_cases c39 : 0 ≤ x4_1
           ·rw [if_pos c39] at H; have c39b0 : decide (0 ≤ x4_1) = true := decide_eq_true c39; clear c39; (first | rw [c39b0] | (simp only [i64_w, i32_w]; rw [c39b0]) | skip)
            by_cases c40 : x4_1 < (a0.size : Int)
            ·rw [if_pos c40] at H; have c40b0 : decide (x4_1 < (a0.size : Int)) = true := decide_eq_true c40; clear c40
             by_cases c42 : x3_1.length < 140737488355328
             ·rw [if_pos c42] at H; have LMc42 := Aside0.mk c42; clear c42; obtain ⟨y152, hy152⟩ : ∃ y_ : List Int, y_ = (x3_1 ++ [bt a0 x4_1]) := ⟨_, rfl⟩; replace H : (spec_l7percent.l0 kj2 a0 y152 ji13) = some r := by first | (rw [hy152]; with_reducible exact H) | (have H2_ := (Option.bind_some _ _).symm.trans H; rw [hy152]; with_reducible exact H2_) | (have H2_ := (Option.bind_some _ _).symm.trans H; with_reducible exact H2_) | with_reducible exact H | (rw [hy152]; exact H) | exact H
              have Ny152 := Aside0.mk hy152; clear hy152; have H' := Aside0.mk H; clear H; have p41 : 0 ≤ (x4_1 : Int) := of_decide_eq_true z3; have q41 : x4_1 < (a0.size : Int) := of_decide_eq_true z3; have hx41 := bt_at a0 x4_1; replace p41 := eq_true p41; replace q41 := eq_true q41; go_wp2_with (first | ((with_reducible refine gate_builtin (b := .append) (xs := #[.tmp 56, .tmp 60]) rfl ?_); (try (refine gate_guard (by rfl) ?_; dsimp only)); at_builtin; refine Kd.R_append (Kd.int .u8) (w0 := w) w.heap.size rfl (.tmp 56) (.tmp 60) 22 5 (.int .u8 0) 1 rfl Tryz.underlying22 info5 rfl (by decide) (by omega) u3 x3_1 (bt a0 x4_1) [.int .u8 (bt a0 x4_1)] (fun _ => True) (fun _ => False) rfl rfl ?aP (fun _ hk => hk.elim) ?aF ?aO ?aB ?aS ?aL ?_; (case aP => exact rfl); (case aB => exact z0); (case aF => exact (fun _ _ => trivial)); (case aO => exact z19); (case aS => exact (below_size z0)); (case aL => have := LMc42.out; omega); intro v153 w43 ho hb hg hat; rw [← Ny152.out] at ho; replace HB := Aside0.mk (hb); have HO154 := Aside0.mk (ho); clear HO_3; clear ho hb hg hat))
              go_roundg kj2
              (case measure => have := HK1.out; have := HJ2.out; omega); case rel => exact ⟨(y152), (ji13), (by first | rfl | (simp; done) | (simp only [← hji13] <;> (first | rfl | simp)) | (simp [*]; done)), H', ⟨z82⟩, ⟨by (with_reducible repeat (first | apply Kd.R_alloc | apply Kd.R_drewN | apply Kd.R_drew)); exact HO154.out⟩, ⟨z0⟩⟩
             ·rw [if_neg c42] at H; exact absurd H (by simp)
            ·rw [if_neg c40] at H; exact absurd H (by simp)
           ·rw [if_neg c39] at H; exact absurd H (by simp)
         ·rw [if_neg c16] at H; exact absurd H (by simp)
        ·rw [if_neg c15] at H; exact absurd H (by simp)
       ·rw [if_neg c14] at H; exact absurd H (by simp)
   ·rw [if_neg c2] at H; have c2b0 : decide (x4_1 < (a0.size : Int)) = false := decide_eq_false c2; clear c2; obtain rfl := Option.some.inj H; have hcv44 := own_string (P := Tryz.prog) Tryz.underlying22 Tryz.underlying5 Tryz.underlying9 (Kd.own_of_R HO_3.out); go_wp2
    go_ret; exact ⟨z2, z0⟩

end Go.Proofs.YtkkolioolgpljaaGreatDoor.GFnUrls
