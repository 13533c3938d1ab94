-- Laid by gen.py of this session (over the kit's printing program): what the law FnHops reaches, as Lean functions, and that Go comes to just that.
import Derived.Test.YtkkolioolgpljaaGreatGFnHopsx0
import Derived.Test.YtkkolioolgpljaaGreatGFnHopsx7
import Derived.Test.YtkkolioolgpljaaGreatGFnHopsx8
import Derived.Test.YtkkolioolgpljaaGreatZFnHops
namespace Go.Proofs.YtkkolioolgpljaaGreat.GFnHops
open Go.RowKit Go.Proofs.YtkkolioolgpljaaGreatW.PrintWords Go.Proofs.YtkkolioolgpljaaGreatW.PrintLast Go.Proofs.YtkkolioolgpljaaGreatW.PrintMore Go.Proofs.YtkkolioolgpljaaGreatW.Zs
attribute [local go_sem] max2_int min2_int max_two min_two max_three min_three max_four min_four   -- for this text's walks alone
set_option linter.unusedVariables false
set_option linter.unusedSimpArgs false

/-! ### spec_Elements: function 36 -/
mutual
def spec_Elements.l0 : Nat → ByteArray → List ByteArray → Int → Bool → Int → Option (List ByteArray)
 | 0, _, _, _, _, _ => none
 | k + 1, x0, x3, x4, x5, x6 => if x6 ≤ (x0.size : Int) then (if x6 = (x0.size : Int) then (spec_Elements.j1 k x0 x3 x4 x5 x6 true) else (if x5 = true then (spec_Elements.j1 k x0 x3 x4 x5 x6 false) else (if 0 ≤ x6 then (if x6 < (x0.size : Int) then (spec_Elements.j1 k x0 x3 x4 x5 x6 ((bt x0 x6) == 44)) else (none)) else (none)))) else (some x3)
def spec_Elements.j1 : Nat → ByteArray → List ByteArray → Int → Bool → Int → Bool → Option (List ByteArray)
 | 0, _, _, _, _, _, _ => none
 | k + 1, x0, x3, x4, x5, x6, x30 => if x30 = true then (if 0 ≤ x4 then (if x4 ≤ x6 then (if x6 ≤ (x0.size : Int) then ((spec_Trim.f k (x0.extract (x4 : Int).toNat (x6 : Int).toNat)).bind fun t283 => (if (t283.size : Int) > 0 then (if x3.length < 8796093022208 then (spec_Elements.l0 k x0 (x3 ++ [t283]) (wrap64 (x6 + 1)) x5 (wrap64 (x6 + 1))) else (none)) else (spec_Elements.l0 k x0 x3 (wrap64 (x6 + 1)) x5 (wrap64 (x6 + 1))))) else (none)) else (none)) else (none)) else (if 0 ≤ x6 then (if x6 < (x0.size : Int) then (if (bt x0 x6) = 34 then (spec_Elements.l0 k x0 x3 x4 (!x5) (wrap64 (x6 + 1))) else (if x5 = true then (if (bt x0 x6) = 92 then (if (wrap64 (x6 + 1)) < (x0.size : Int) then (spec_Elements.l0 k x0 x3 x4 x5 (wrap64 ((wrap64 (x6 + 1)) + 1))) else (spec_Elements.l0 k x0 x3 x4 x5 (wrap64 (x6 + 1)))) else (spec_Elements.l0 k x0 x3 x4 x5 (wrap64 (x6 + 1)))) else (spec_Elements.l0 k x0 x3 x4 x5 (wrap64 (x6 + 1))))) else (none)) else (none))
end
def spec_Elements.f (k : Nat) (a0 : ByteArray) : Option (List ByteArray) := if (a0.size : Int) > 4000 then (some ([] : List ByteArray)) else (spec_Elements.l0 k a0 ([] : List ByteArray) 0 false 0)
theorem spec_Elements.mono_l : ∀ k, (∀ y0 y1 y2 y3 y4, LeO (spec_Elements.l0 k y0 y1 y2 y3 y4) (spec_Elements.l0 (k + 1) y0 y1 y2 y3 y4)) ∧ (∀ y0 y1 y2 y3 y4 y5, LeO (spec_Elements.j1 k y0 y1 y2 y3 y4 y5) (spec_Elements.j1 (k + 1) y0 y1 y2 y3 y4 y5))
 | 0 => ⟨fun _ _ _ _ _ r h => by simp [spec_Elements.l0] at h, fun _ _ _ _ _ _ r h => by simp [spec_Elements.j1] at h⟩
 | k + 1 => by
  obtain ⟨ih0, ih1⟩ := spec_Elements.mono_l k; refine ⟨?_, ?_⟩
  ·intro y0 y1 y2 y3 y4; unfold spec_Elements.l0
   repeat' first | (with_reducible first | exact ih0 _ _ _ _ _ | exact ih1 _ _ _ _ _ _ | exact spec_Trim.mono _ _ | exact LeO.refl _ | exact LeO.none _ | refine LeO.ite ?_ ?_ | refine LeO.bind ?_ (fun _ => ?_)) | exact ih0 _ _ _ _ _ | exact ih1 _ _ _ _ _ _ | exact spec_Trim.mono _ _ | exact LeO.none _ | refine LeO.ite ?_ ?_ | refine LeO.bind ?_ (fun _ => ?_)
  ·intro y0 y1 y2 y3 y4 y5; unfold spec_Elements.j1
   repeat' first | (with_reducible first | exact ih0 _ _ _ _ _ | exact ih1 _ _ _ _ _ _ | exact spec_Trim.mono _ _ | exact LeO.refl _ | exact LeO.none _ | refine LeO.ite ?_ ?_ | refine LeO.bind ?_ (fun _ => ?_)) | exact ih0 _ _ _ _ _ | exact ih1 _ _ _ _ _ _ | exact spec_Trim.mono _ _ | exact LeO.none _ | refine LeO.ite ?_ ?_ | refine LeO.bind ?_ (fun _ => ?_)
theorem spec_Elements.mono : ∀ a0 k, LeO (spec_Elements.f k a0) (spec_Elements.f (k + 1) a0) := by
 intro a0 k; obtain ⟨ih0, ih1⟩ := spec_Elements.mono_l k; unfold spec_Elements.f
 repeat' first | (with_reducible first | exact ih0 _ _ _ _ _ | exact ih1 _ _ _ _ _ _ | exact spec_Trim.mono _ _ | exact LeO.refl _ | exact LeO.none _ | refine LeO.ite ?_ ?_ | refine LeO.bind ?_ (fun _ => ?_)) | exact ih0 _ _ _ _ _ | exact ih1 _ _ _ _ _ _ | exact spec_Trim.mono _ _ | exact LeO.none _ | refine LeO.ite ?_ ?_ | refine LeO.bind ?_ (fun _ => ?_)
set_option maxHeartbeats 40000000 in
set_option maxRecDepth 100000 in
theorem spec_Elements.calls (k : Nat) (a0 : ByteArray) (r : List ByteArray) (w : World) (h : spec_Elements.f k a0 = some r) :
  Calls Tryz.prog 36 #[.string a0] w fun e w' => ∃ v0_ : Value, e = .returned (v0_) ∧ Kd.R Kd.string 9 w' w.heap.size (fun _ => True) v0_ r ∧ Below w.heap.size w w' := by
 have HB := Aside0.mk (Below.refl w.heap.size w); have H : (if (a0.size : Int) > 4000 then (some ([] : List ByteArray)) else (spec_Elements.l0 k a0 ([] : List ByteArray) 0 false 0)) = some r := h; clear h
 by_cases c2 : (a0.size : Int) > 4000
 ·rw [if_pos c2] at H; have c2b0 : decide (4000 < (a0.size : Int)) = true := decide_eq_true c2; have c2b1 : decide (4000 < a0.size) = true := decide_eq_true (by omega); clear c2; obtain rfl := Option.some.inj H; go_enter Tryz.func36, Tryz.ntmps36
  go_wp2
  go_ret; exact ⟨_, zz4, zz12, zz0⟩
 ·rw [if_neg c2] at H; have c2b0 : decide (4000 < (a0.size : Int)) = false := decide_eq_false c2; have c2b1 : decide (4000 < a0.size) = false := decide_eq_false (by omega); clear c2; have H' := Aside0.mk H; clear H; go_enter Tryz.func36, Tryz.ntmps36
  go_wp2
  go_loopg [3, 4, 5, 6] k (fun kq v3 v4 v5 v6 w' => ∃ (x3_1 : List ByteArray) (x4_1 : Int) (x5_1 : Bool) (x6_1 : Int), v4 = .int .i64 x4_1 ∧ v5 = .bool x5_1 ∧ v6 = .int .i64 x6_1 ∧ Aside0 (spec_Elements.l0 kq a0 x3_1 x4_1 x5_1 x6_1 = some r) ∧ Aside0 (kq ≤ k) ∧ Aside0 (Kd.R Kd.string 9 w' w.heap.size (fun _ => True) v3 x3_1) ∧ Aside0 (Below w.heap.size w w'))
  case atStart => exact ⟨(([] : List ByteArray)), (0), (false), (0), zz3, zz3, zz3, H', ⟨Nat.le_refl _⟩, ⟨zz12⟩, ⟨zz0⟩⟩
  case round =>
   clear H'; (try clear c2); (try clear c2b0); (try clear c2b1); (try clear p2); obtain ⟨x3_1, x4_1, x5_1, x6_1, rfl, rfl, rfl, HA, HK1, HO_3, HB⟩ := hrel
   cases gk with
   | zero => exact absurd HA.out (by simp [spec_Elements.l0])
   | succ k1 =>
    have H := HA.out; clear HA; simp only [spec_Elements.l0] at H
    by_cases c3 : x6_1 ≤ (a0.size : Int)
    ·rw [if_pos c3] at H; have c3b0 : decide (x6_1 ≤ (a0.size : Int)) = true := decide_eq_true c3; clear c3; have HC4 := Aside0.mk H; clear H; go_upto_region 9 with (fail)
     go_cut [30] (fun v30 wc => ∃ (kq : Nat) (x30_3 : Bool), v30 = .bool x30_3 ∧ Aside0 (spec_Elements.j1 kq a0 x3_1 x4_1 x5_1 x6_1 x30_3 = some r) ∧ Aside0 (kq ≤ k1) ∧ Aside0 (Kd.R Kd.string 9 wc w.heap.size (fun _ => True) u3 x3_1) ∧ Aside0 (Below w.heap.size w wc))
     case first =>
      have H := HC4.out; clear HC4
      by_cases c5 : x6_1 = (a0.size : Int)
      ·rw [if_pos c5] at H; have c5b0 : (x6_1 == (a0.size : Int)) = true := beq_iff_eq.mpr c5; have c5b1 : (x6_1 != (a0.size : Int)) = false := bne_eq_false_iff_eq.mpr c5; clear c5; (first | rw [c5b0] | (simp only [i64_w, i32_w]; rw [c5b0]) | rw [c5b1] | skip); have H' := Aside0.mk H; clear H; go_wp2
       go_meet
       case rel => exact ⟨_, (true), zz3, H', ⟨zz30⟩, ⟨zz7⟩, ⟨zz0⟩⟩
      ·rw [if_neg c5] at H; have c5b0 : (x6_1 == (a0.size : Int)) = false := beq_eq_false_iff_ne.mpr c5; have c5b1 : (x6_1 != (a0.size : Int)) = true := bne_iff_ne.mpr c5; (first | rw [c5b0] | (simp only [i64_w, i32_w]; rw [c5b0]) | rw [c5b1] | skip)
       by_cases c6 : x5_1 = true
       ·subst c6; rw [if_pos rfl] at H; have H' := Aside0.mk H; clear H; go_wp2
        go_meet
        case rel => exact ⟨_, (false), zz3, H', ⟨zz30⟩, ⟨zz7⟩, ⟨zz0⟩⟩
       ·replace c6 := Bool.eq_false_iff.mpr c6; subst c6; rw [if_neg Bool.false_ne_true] at H
        by_cases c7 : 0 ≤ x6_1
        ·rw [if_pos c7] at H; have c7b0 : decide (0 ≤ x6_1) = true := decide_eq_true c7; clear c7
         by_cases c8 : x6_1 < (a0.size : Int)
         ·rw [if_pos c8] at H; have c8b0 : decide (x6_1 < (a0.size : Int)) = true := decide_eq_true c8; clear c8; have H' := Aside0.mk H; clear H; have p9 : 0 ≤ (x6_1 : Int) := of_decide_eq_true zz6; have q9 : x6_1 < (a0.size : Int) := of_decide_eq_true zz6; have hx9 := bt_at a0 x6_1; replace p9 := eq_true p9; replace q9 := eq_true q9; go_wp2
          go_meet
          case rel => exact ⟨_, (((bt a0 x6_1) == 44)), zz3, H', ⟨zz30⟩, ⟨zz7⟩, ⟨zz0⟩⟩
         ·rw [if_neg c8] at H; exact absurd H (by simp)
        ·rw [if_neg c7] at H; exact absurd H (by simp)
     case rest =>
      clear HC4; (try clear c2); (try clear c2b0); (try clear c2b1); (try clear p2); (try clear c3); (try clear c3b0); (try clear c5); (try clear c5b0); (try clear c5b1); (try clear c6); (try clear c7); (try clear c7b0); (try clear c8); (try clear c8b0); (try clear p9); (try clear q9); (try clear hx9); (try clear p2); (try clear p9); (try clear q9); obtain ⟨kq, x30_3, rfl, HA, HJ3, HO_3, HB⟩ := hcut
      cases kq with
      | zero => exact absurd HA.out (by simp [spec_Elements.j1])
      | succ kj3 =>
       have H := HA.out; clear HA; simp only [spec_Elements.j1] at H
       by_cases c10 : x30_3 = true
       ·subst c10; rw [if_pos rfl] at H
        by_cases c11 : 0 ≤ x4_1
        ·rw [if_pos c11] at H; have c11b0 := eq_true c11; have c11b1 : decide (0 ≤ x4_1) = true := decide_eq_true c11; clear c11
         by_cases c12 : x4_1 ≤ x6_1
         ·rw [if_pos c12] at H; have c12b0 := eq_true c12; have c12b1 : decide (x4_1 ≤ x6_1) = true := decide_eq_true c12; clear c12
          by_cases c13 : x6_1 ≤ (a0.size : Int)
          ·rw [if_pos c13] at H; have c13b0 := eq_true c13; have c13b1 : decide (x6_1 ≤ (a0.size : Int)) = true := decide_eq_true c13; clear c13; replace H := Option.bind_eq_some_iff.mp H; obtain ⟨t283, A140, H⟩ := H; (try dsimp only at H); have A14 := Aside0.mk A140; clear A140; have HC15 := Aside0.mk H; clear H; go_upto_if 38 with (first | ((with_reducible refine gate_callee (f := 55) rfl ?_); refine goesR_ 35 Tryz.func55 #[.string (a0.extract (x4_1 : Int).toNat (x6_1 : Int).toNat)] (spec_Trim.calls kj3 (a0.extract (x4_1 : Int).toNat (x6_1 : Int).toNat) t283 _ A14.out) ?_; rintro w' ⟨nd, rfl⟩))
           (try simp only [Act.put, List.setIfInBounds_toArray, List.set_cons_zero, List.set_cons_succ]); (try (rw [drewN_self wc]; generalize hq_ : World.drewN wc _ = wc; have n0_ : Aside0 (Kd.R Kd.string 9 wc w.heap.size (fun _ => True) u3 x3_1) := ⟨by rw [← hq_]; exact zz7⟩; have n1_ : Aside0 (Below w.heap.size w wc) := ⟨by rw [← hq_]; exact zz0⟩; clear HO_3 HB hq_; have HO_3 := n0_; have HB := n1_; clear n0_ n1_)); have H := HC15.out; clear HC15
           by_cases c16 : (t283.size : Int) > 0
           ·rw [if_pos c16] at H; have c16b0 : decide (0 < (t283.size : Int)) = true := decide_eq_true c16; have c16b1 : decide (0 < t283.size) = true := decide_eq_true (by omega); clear c16; (first | rw [c16b0] | (simp only [i64_w, i32_w]; rw [c16b0]) | rw [c16b1] | skip)
            by_cases c17 : x3_1.length < 8796093022208
            ·rw [if_pos c17] at H; have LMc17 := Aside0.mk c17; clear c17; obtain ⟨y284, hy284⟩ : ∃ y_ : List ByteArray, y_ = (x3_1 ++ [t283]) := ⟨_, rfl⟩; replace H : (spec_Elements.l0 kj3 a0 y284 (wrap64 (x6_1 + 1)) x5_1 (wrap64 (x6_1 + 1))) = some r := by first | (rw [hy284]; with_reducible exact H) | (have H2_ := (Option.bind_some _ _).symm.trans H; rw [hy284]; with_reducible exact H2_) | (have H2_ := (Option.bind_some _ _).symm.trans H; with_reducible exact H2_) | with_reducible exact H | (rw [hy284]; exact H) | exact H
             have Ny284 := Aside0.mk hy284; clear hy284; have H' := Aside0.mk H; clear H; go_wp2_with (first | ((with_reducible refine gate_builtin (b := .append) (xs := #[.tmp 39, .tmp 41]) rfl ?_); (try (refine gate_guard (by rfl) ?_; dsimp only)); at_builtin; refine Kd.R_append Kd.string (w0 := w) w.heap.size rfl (.tmp 39) (.tmp 41) 26 9 (.string ⟨#[]⟩) 16 rfl Tryz.underlying26 info9 rfl (by decide) (by omega) u3 x3_1 t283 [.string t283] (fun _ => True) (fun _ => False) rfl rfl ?aP (fun _ hk => hk.elim) ?aF ?aO ?aB ?aS ?aL ?_; (case aP => exact rfl); (case aB => exact zz0); (case aF => exact (fun _ _ => trivial)); (case aO => exact zz7); (case aS => exact (below_size zz0)); (case aL => have := LMc17.out; omega); intro v285 w18 ho hb hg hat; rw [← Ny284.out] at ho; replace HB := Aside0.mk (hb); have HO286 := Aside0.mk (ho); clear HO_3; clear ho hb hg hat))
             go_roundg kj3
             (case measure => have := HK1.out; have := HJ3.out; omega); case rel => exact ⟨(y284), (wrap64 (x6_1 + 1)), (x5_1), (wrap64 (x6_1 + 1)), zz3, zz3, zz3, H', ⟨zz35⟩, ⟨by (with_reducible repeat (first | apply Kd.R_alloc | apply Kd.R_drewN | apply Kd.R_drew)); exact HO286.out⟩, ⟨zz0⟩⟩
            ·rw [if_neg c17] at H; exact absurd H (by simp)
           ·rw [if_neg c16] at H; have c16b0 : decide (0 < (t283.size : Int)) = false := decide_eq_false c16; have c16b1 : decide (0 < t283.size) = false := decide_eq_false (by omega); clear c16; (first | rw [c16b0] | (simp only [i64_w, i32_w]; rw [c16b0]) | rw [c16b1] | skip); have H' := Aside0.mk H; clear H; go_wp2
            go_roundg kj3
            (case measure => have := HK1.out; have := HJ3.out; omega); case rel => exact ⟨(x3_1), (wrap64 (x6_1 + 1)), (x5_1), (wrap64 (x6_1 + 1)), zz3, zz3, zz3, H', ⟨zz35⟩, ⟨zz7⟩, ⟨zz0⟩⟩
          ·rw [if_neg c13] at H; exact absurd H (by simp)
         ·rw [if_neg c12] at H; exact absurd H (by simp)
        ·rw [if_neg c11] at H; exact absurd H (by simp)
       ·replace c10 := Bool.eq_false_iff.mpr c10; subst c10; rw [if_neg Bool.false_ne_true] at H
        by_cases c19 : 0 ≤ x6_1
        ·rw [if_pos c19] at H; have c19b0 : decide (0 ≤ x6_1) = true := decide_eq_true c19; clear c19
         by_cases c20 : x6_1 < (a0.size : Int)
         ·rw [if_pos c20] at H; have c20b0 : decide (x6_1 < (a0.size : Int)) = true := decide_eq_true c20; clear c20
          by_cases c22 : (bt a0 x6_1) = 34
          ·rw [if_pos c22] at H; have c22b0 : ((bt a0 x6_1) == 34) = true := beq_iff_eq.mpr c22; have c22b1 : ((bt a0 x6_1) != 34) = false := bne_eq_false_iff_eq.mpr c22; clear c22; have H' := Aside0.mk H; clear H; have p21 : 0 ≤ (x6_1 : Int) := of_decide_eq_true zz6; have q21 : x6_1 < (a0.size : Int) := of_decide_eq_true zz6; have hx21 := bt_at a0 x6_1; replace p21 := eq_true p21; replace q21 := eq_true q21; go_wp2
           go_roundg kj3
           (case measure => have := HK1.out; have := HJ3.out; omega); case rel => exact ⟨(x3_1), (x4_1), (!x5_1), (wrap64 (x6_1 + 1)), zz3, zz3, zz3, H', ⟨zz35⟩, ⟨zz7⟩, ⟨zz0⟩⟩
          ·rw [if_neg c22] at H; have c22b0 : ((bt a0 x6_1) == 34) = false := beq_eq_false_iff_ne.mpr c22; have c22b1 : ((bt a0 x6_1) != 34) = true := bne_iff_ne.mpr c22; have HC23 := Aside0.mk H; clear H; have p21 : 0 ≤ (x6_1 : Int) := of_decide_eq_true zz6; have q21 : x6_1 < (a0.size : Int) := of_decide_eq_true zz6; have hx21 := bt_at a0 x6_1; replace p21 := eq_true p21; replace q21 := eq_true q21
           repeat' (first | (go_big_may; (fail)) | go_values | go_skip | go_big_skip | go_big_want | ((first | (with_reducible refine gate_nog rfl ?_) | (fail_if_success with_reducible refine gate_any ?_)); go_step) | go_upon | simp only [Bool.not_true, Bool.not_false, Bool.true_and, Bool.false_and, Bool.true_or, Bool.false_or] | dsimp only)
           have H := HC23.out; clear HC23
           by_cases c24 : x5_1 = true
           ·subst c24; rw [if_pos rfl] at H; have HC26 := Aside0.mk H; clear H; have p25 : 0 ≤ (x6_1 : Int) := of_decide_eq_true zz6; have q25 : x6_1 < (a0.size : Int) := of_decide_eq_true zz6; have hx25 := bt_at a0 x6_1; replace p25 := eq_true p25; replace q25 := eq_true q25
            repeat' (first | (go_big_may; (fail)) | go_values | go_skip | go_big_skip | go_big_want | ((first | (with_reducible refine gate_nog rfl ?_) | (fail_if_success with_reducible refine gate_any ?_)); go_step) | go_upon | simp only [Bool.not_true, Bool.not_false, Bool.true_and, Bool.false_and, Bool.true_or, Bool.false_or] | dsimp only)
            have H := HC26.out; clear HC26
            by_cases c27 : (bt a0 x6_1) = 92
            ·rw [if_pos c27] at H; have c27b0 : ((bt a0 x6_1) == 92) = true := beq_iff_eq.mpr c27; have c27b1 : ((bt a0 x6_1) != 92) = false := bne_eq_false_iff_eq.mpr c27; clear c27; (first | rw [c27b0] | (simp only [i64_w, i32_w]; rw [c27b0]) | rw [c27b1] | skip)
             by_cases c28 : (wrap64 (x6_1 + 1)) < (a0.size : Int)
             ·rw [if_pos c28] at H; have c28b0 : decide ((wrap64 (x6_1 + 1)) < (a0.size : Int)) = true := decide_eq_true c28; clear c28; have H' := Aside0.mk H; clear H; go_wp2
              go_roundg kj3
              (case measure => have := HK1.out; have := HJ3.out; omega); case rel => exact ⟨(x3_1), (x4_1), (true), (wrap64 ((wrap64 (x6_1 + 1)) + 1)), zz3, zz3, zz3, H', ⟨zz35⟩, ⟨zz7⟩, ⟨zz0⟩⟩
             ·rw [if_neg c28] at H; have c28b0 : decide ((wrap64 (x6_1 + 1)) < (a0.size : Int)) = false := decide_eq_false c28; clear c28; have H' := Aside0.mk H; clear H; go_wp2
              go_roundg kj3
              (case measure => have := HK1.out; have := HJ3.out; omega); case rel => exact ⟨(x3_1), (x4_1), (true), (wrap64 (x6_1 + 1)), zz3, zz3, zz3, H', ⟨zz35⟩, ⟨zz7⟩, ⟨zz0⟩⟩
            ·rw [if_neg c27] at H; have c27b0 : ((bt a0 x6_1) == 92) = false := beq_eq_false_iff_ne.mpr c27; have c27b1 : ((bt a0 x6_1) != 92) = true := bne_iff_ne.mpr c27; (first | rw [c27b0] | (simp only [i64_w, i32_w]; rw [c27b0]) | rw [c27b1] | skip); have H' := Aside0.mk H; clear H; go_wp2
             go_roundg kj3
             (case measure => have := HK1.out; have := HJ3.out; omega); case rel => exact ⟨(x3_1), (x4_1), (true), (wrap64 (x6_1 + 1)), zz3, zz3, zz3, H', ⟨zz35⟩, ⟨zz7⟩, ⟨zz0⟩⟩
           ·replace c24 := Bool.eq_false_iff.mpr c24; subst c24; rw [if_neg Bool.false_ne_true] at H; have H' := Aside0.mk H; clear H; go_wp2
            go_roundg kj3
            (case measure => have := HK1.out; have := HJ3.out; omega); case rel => exact ⟨(x3_1), (x4_1), (false), (wrap64 (x6_1 + 1)), zz3, zz3, zz3, H', ⟨zz35⟩, ⟨zz7⟩, ⟨zz0⟩⟩
         ·rw [if_neg c20] at H; exact absurd H (by simp)
        ·rw [if_neg c19] at H; exact absurd H (by simp)
    ·rw [if_neg c3] at H; have c3b0 : decide (x6_1 ≤ (a0.size : Int)) = false := decide_eq_false c3; clear c3; obtain rfl := Option.some.inj H; go_wp2
     go_ret; exact ⟨_, zz4, zz7, zz0⟩

/-! ### spec_Fold: function 21 -/
theorem spec_Fold_low (x : Int) : spec_l1lower.f x = some (lowI x) := by unfold spec_l1lower.f lowI; split <;> (try split) <;> rfl
def spec_Fold.f (a0 : ByteArray) : Option (ByteArray) := if a0.size ≤ 1099511627776 then some (strOfNums ((bytesOf a0).map lowI)) else none
set_option maxHeartbeats 8000000 in
set_option maxRecDepth 100000 in
theorem spec_Fold.calls (a0 : ByteArray) (r : ByteArray) (w : World) (h : spec_Fold.f a0 = some r) :
  Calls Tryz.prog 21 #[.string a0] w fun e w' => e = .returned (.string r) ∧ Below w.heap.size w w' := by
 have hu22 := Tryz.underlying22; unfold spec_Fold.f at h
 by_cases hlim : a0.size ≤ 1099511627776
 ·rw [if_pos hlim] at h; obtain rfl := Option.some.inj h; clear h; have HL := Aside0.mk hlim; clear hlim; have kb := fun W => print_bytes (P := Tryz.prog) 9 22 5 Tryz.underlying9 Tryz.underlying22 Tryz.underlying5 a0 W; go_enter Tryz.func21, Tryz.ntmps21
  go_wp2
  go_loopg [4] (a0.size + 1) (fun kq v4 w' => ∃ (x4 : Int), v4 = .int .i64 x4 ∧ Aside0 (∃ j : Nat, x4 = (j : Int) ∧ j ≤ a0.size ∧ kq + j = a0.size + 1 ∧ BRow w' w.heap.size (lowTo a0 j)) ∧ Aside0 (w.heap.size < w'.heap.size ∧ Below w.heap.size w w'))
  case atStart =>
   exact ⟨0, rfl, ⟨0, rfl, by omega, by omega, by rw [lowTo_zero]; exact BRow.new _ _ _⟩, ⟨by rw [Lib.bytesWorld_size]; omega, bytes_below (Below.refl _ _) (Nat.le_refl _) _ _⟩⟩
  case round =>
   obtain ⟨x4, rfl, HJ, HB⟩ := hrel; obtain ⟨j, hxj, hjl, hkj, hbr⟩ := HJ.out; clear HJ; have HX := Aside0.mk hxj; have HJL := Aside0.mk hjl; have HK := Aside0.mk hkj; have HR := Aside0.mk hbr; clear hxj hjl hkj hbr
   cases gk with
   | zero => have := HK.out; have := HJL.out; omega
   | succ k1 =>
   by_cases hlt : j < a0.size
   ·have c1 : decide (x4 < (a0.size : Int)) = true := decide_eq_true (by have := HX.out; omega); have p9 : 0 ≤ (x4 : Int) := by have := HX.out; omega
    have q9 : x4 < (a0.size : Int) := of_decide_eq_true c1; have HLT := Aside0.mk hlt; have hx0 := HR.out.cell x4.toNat zz41; have hfz := HR.out.frozen x4.toNat zz41; have hbj : (lowTo a0 j).getD x4.toNat 0 = (bytesOf a0).getD j 0 := by rw [HX.out, Int.toNat_natCast]; exact lowTo_get _ _ hlt
    have hset := lowTo_set a0 j hlt; rw [hbj] at hx0; generalize (bytesOf a0).getD j 0 = b at hx0 hset; have HS := Aside0.mk hset; clear hlt hset hbj; replace p9 := eq_true p9; replace q9 := eq_true q9; go_wp2_with fail
    refine (spec_l1lower.calls b (lowI b) _ (spec_Fold_low b)).mono ?_; rintro e w2 ⟨rfl, ⟨nd, rfl⟩⟩; go_wp2
    go_roundg k1
    case measure => omega
    case rel =>
     have hx := HX.out; have hk := HK.out; have hlt := HLT.out; have hl := HL.out; have hxn : x4.toNat = j := by omega
     refine ⟨_, rfl, ⟨j + 1, by rw [hx]; unfold wrap64; omega, by omega, by omega, ?_⟩, ⟨?_, ?_⟩⟩
     ·rw [← HS.out, hxn]; exact HR.out.set j _
     ·have := HB.out.1; simpa using this
     ·exact (HB.out.2.trans (pw_below_drewN (Below.refl _ _) nd)).setCell (Nat.le_refl _) _
   ·have c1 : decide (x4 < (a0.size : Int)) = false := decide_eq_false (by have := HX.out; omega); have hj2 : j = a0.size := by have := HJL.out; omega
    have hst := HR.out.string (P := Tryz.prog) (c := grownCap w a0.size 0 5) (src := 22) (dst := 9) Tryz.underlying22 Tryz.underlying5 Tryz.underlying9 (lowTo_length a0 j HJL.out); rw [hj2, lowTo_all] at hst; go_wp2_with fail
    go_ret; exact ⟨rfl, HB.out.2⟩
 ·rw [if_neg hlim] at h; cases h


/-! ### spec_SameFold: function 7 -/
def spec_SameFold.f (a0 : ByteArray) (a1 : ByteArray) : Option (Bool) := (spec_Fold.f a0).bind fun t287 => ((spec_Fold.f a1).bind fun t288 => (some (t287.toList == t288.toList)))
set_option maxHeartbeats 40000000 in
set_option maxRecDepth 100000 in
theorem spec_SameFold.calls (a0 : ByteArray) (a1 : ByteArray) (r : Bool) (w : World) (h : spec_SameFold.f a0 a1 = some r) :
  Calls Tryz.prog 7 #[.string a0, .string a1] w fun e w' => e = .returned (.bool r) ∧ Below w.heap.size w w' := by
 have HB := Aside0.mk (Below.refl w.heap.size w); have H : ((spec_Fold.f a0).bind fun t287 => ((spec_Fold.f a1).bind fun t288 => (some (t287.toList == t288.toList)))) = some r := h; clear h; replace H := Option.bind_eq_some_iff.mp H; obtain ⟨t287, A30, H⟩ := H; (try dsimp only at H); have A3 := Aside0.mk A30; clear A30; replace H := Option.bind_eq_some_iff.mp H; obtain ⟨t288, A40, H⟩ := H; (try dsimp only at H); have A4 := Aside0.mk A40; clear A40; obtain rfl := Option.some.inj H; go_enter Tryz.func7, Tryz.ntmps7
 go_wp2_with (first | ((with_reducible refine gate_callee (f := 21) rfl ?_); refine goesR_ 6 Tryz.func21 #[.string a0] (spec_Fold.calls a0 t287 _ A3.out) ?_; rintro w5 hb; replace HB := Aside0.mk (below_step zz0 hb); (try clear hb)) | ((with_reducible refine gate_callee (f := 21) rfl ?_); refine goesR_ 8 Tryz.func21 #[.string a1] (spec_Fold.calls a1 t288 _ A4.out) ?_; rintro w6 hb; replace HB := Aside0.mk (below_step zz0 hb); (try clear hb)))
 go_ret; exact ⟨zz4, zz0⟩

/-! ### spec_Values: function 56 -/
def spec_Values.l0 : Nat → List (S30) → ByteArray → List ByteArray → Int → Option (List ByteArray)
 | 0, _, _, _, _ => none
 | k + 1, x0, x1, x5, x6 => if x6 < (x0.length : Int) then (if 0 ≤ x6 then ((spec_SameFold.f ((rd_T30 x0 x6).f0) x1).bind fun t291 => (if t291 = true then (if x5.length < 8796093022208 then (spec_Values.l0 k x0 x1 (x5 ++ [(rd_T30 x0 x6).f1]) (wrap64 (x6 + 1))) else (none)) else (spec_Values.l0 k x0 x1 x5 (wrap64 (x6 + 1))))) else (none)) else (some x5)
def spec_Values.f (k : Nat) (l0 : List (S30)) (a1 : ByteArray) : Option (List ByteArray) := (spec_FieldsOk.f k l0).bind fun t289 => (if t289 = true then (spec_Values.l0 k l0 a1 ([] : List ByteArray) 0) else (some ([] : List ByteArray)))
theorem spec_Values.mono_l : ∀ k, (∀ y0 y1 y2 y3, LeO (spec_Values.l0 k y0 y1 y2 y3) (spec_Values.l0 (k + 1) y0 y1 y2 y3))
 | 0 => fun _ _ _ _ r h => by simp [spec_Values.l0] at h
 | k + 1 => by
  have ih0 := spec_Values.mono_l k
  ·intro y0 y1 y2 y3; unfold spec_Values.l0
   repeat' first | (with_reducible first | exact ih0 _ _ _ _ | exact spec_FieldsOk.mono _ _ | exact LeO.refl _ | exact LeO.none _ | refine LeO.ite ?_ ?_ | refine LeO.bind ?_ (fun _ => ?_)) | exact ih0 _ _ _ _ | exact spec_FieldsOk.mono _ _ | exact LeO.none _ | refine LeO.ite ?_ ?_ | refine LeO.bind ?_ (fun _ => ?_)
theorem spec_Values.mono : ∀ a0 a1 k, LeO (spec_Values.f k a0 a1) (spec_Values.f (k + 1) a0 a1) := by
 intro a0 a1 k; have ih0 := spec_Values.mono_l k; unfold spec_Values.f
 repeat' first | (with_reducible first | exact ih0 _ _ _ _ | exact spec_FieldsOk.mono _ _ | exact LeO.refl _ | exact LeO.none _ | refine LeO.ite ?_ ?_ | refine LeO.bind ?_ (fun _ => ?_)) | exact ih0 _ _ _ _ | exact spec_FieldsOk.mono _ _ | exact LeO.none _ | refine LeO.ite ?_ ?_ | refine LeO.bind ?_ (fun _ => ?_)
set_option maxHeartbeats 40000000 in
set_option maxRecDepth 100000 in
theorem spec_Values.calls (k : Nat) (A0 : Option Addr) (c0 : Nat) (l0 : List (S30)) (a1 : ByteArray) (r : List ByteArray) (w : World) (hr0 : Kd.C k30 w A0 l0.length l0) (hc0 : l0.length ≤ c0) (h : spec_Values.f k l0 a1 = some r) :
  Calls Tryz.prog 56 #[.slice A0 l0.length c0, .string a1] w fun e w' => ∃ v0_ : Value, e = .returned (v0_) ∧ Kd.R Kd.string 9 w' w.heap.size (fun _ => True) v0_ r ∧ Below w.heap.size w w' := by
 have HR0 := Aside0.mk hr0; have HC0 := Aside0.mk hc0; clear hr0 hc0; have HB := Aside0.mk (Below.refl w.heap.size w); have H : ((spec_FieldsOk.f k l0).bind fun t289 => (if t289 = true then (spec_Values.l0 k l0 a1 ([] : List ByteArray) 0) else (some ([] : List ByteArray)))) = some r := h; clear h; replace H := Option.bind_eq_some_iff.mp H; obtain ⟨t289, A30, H⟩ := H; (try dsimp only at H); have A3 := Aside0.mk A30; clear A30; have HC4 := Aside0.mk H; clear H; go_enter Tryz.func56, Tryz.ntmps56
 go_upto_if 9 with (first | ((with_reducible refine gate_callee (f := 17) rfl ?_); refine goesQ_ 8 Tryz.func17 #[.slice A0 l0.length c0] ?_; (with_reducible refine (spec_FieldsOk.calls k _ _ l0 t289 _ ?side1 ?side2 A3.out).mono ?_); (case side1 => repeat (first | exact HR0.out | (with_reducible refine Kd.C_alloc ?_ _) | (with_reducible refine Kd.C_drewN ?_ _) | (with_reducible refine Kd.C_drew ?_))); (case side2 => exact HC0.out); rintro e w5 ⟨rfl, hb⟩; refine ⟨_, rfl, ?_⟩; replace HB := Aside0.mk (below_step zz0 hb); (try clear hb)))
 (try simp only [Act.put, List.setIfInBounds_toArray, List.set_cons_zero, List.set_cons_succ]); have H := HC4.out; clear HC4
 by_cases c6 : t289 = true
 ·subst c6; rw [if_pos rfl] at H; have H' := Aside0.mk H; clear H; go_wp2
  go_loopg [5, 6] k (fun kq v5 v6 w' => ∃ (x5_1 : List ByteArray) (x6_1 : Int), v6 = .int .i64 x6_1 ∧ Aside0 (spec_Values.l0 kq l0 a1 x5_1 x6_1 = some r) ∧ Aside0 (kq ≤ k) ∧ Aside0 (Kd.R Kd.string 9 w' w.heap.size (fun _ => True) v5 x5_1) ∧ Aside0 (Below w.heap.size w w'))
  case atStart => exact ⟨(([] : List ByteArray)), (0), zz3, H', ⟨Nat.le_refl _⟩, ⟨zz12⟩, ⟨zz0⟩⟩
  case round =>
   clear H'; (try clear c1); (try clear p2); (try clear c5); (try clear c6); obtain ⟨x5_1, x6_1, rfl, HA, HK1, HO_5, HB⟩ := hrel
   cases gk with
   | zero => exact absurd HA.out (by simp [spec_Values.l0])
   | succ k1 =>
    have H := HA.out; clear HA; simp only [spec_Values.l0] at H
    by_cases c7 : x6_1 < (l0.length : Int)
    ·rw [if_pos c7] at H; have c7b0 : decide (x6_1 < (l0.length : Int)) = true := decide_eq_true c7; clear c7; (first | rw [c7b0] | (simp only [i64_w, i32_w]; rw [c7b0]) | skip)
     by_cases c8 : 0 ≤ x6_1
     ·rw [if_pos c8] at H; have c8b0 : decide (0 ≤ x6_1) = true := decide_eq_true c8; clear c8; replace H := Option.bind_eq_some_iff.mp H; obtain ⟨t291, A90, H⟩ := H; (try dsimp only at H); have A9 := Aside0.mk A90; clear A90; have HC10 := Aside0.mk H; clear H; have p290 : 0 ≤ (x6_1 : Int) := of_decide_eq_true zz6; have q290 : x6_1 < (l0.length : Int) := of_decide_eq_true zz6; obtain ⟨ad290, e290, W290⟩ := at_T30 HR0.out x6_1 p290 q290; cases e290; obtain ⟨hx290_0, hx290_1⟩ := El30.up HB.out W290; replace p290 := eq_true p290; replace q290 := eq_true q290; go_upto_if 22 with (first | ((with_reducible refine gate_callee (f := 7) rfl ?_); refine goesR_ 22 Tryz.func7 #[.string ((rd_T30 l0 x6_1).f0), .string a1] (spec_SameFold.calls ((rd_T30 l0 x6_1).f0) a1 t291 _ A9.out) ?_; rintro w11 hb; replace HO_5 := Aside0.mk (Kd.R_below zz9 hb); replace HB := Aside0.mk (below_step zz0 hb); (try clear hb)))
      (try simp only [Act.put, List.setIfInBounds_toArray, List.set_cons_zero, List.set_cons_succ]); have H := HC10.out; clear HC10
      by_cases c12 : t291 = true
      ·subst c12; rw [if_pos rfl] at H
       by_cases c13 : x5_1.length < 8796093022208
       ·rw [if_pos c13] at H; have LMc13 := Aside0.mk c13; clear c13; obtain ⟨y293, hy293⟩ : ∃ y_ : List ByteArray, y_ = (x5_1 ++ [(rd_T30 l0 x6_1).f1]) := ⟨_, rfl⟩; replace H : (spec_Values.l0 k1 l0 a1 y293 (wrap64 (x6_1 + 1))) = some r := by first | (rw [hy293]; with_reducible exact H) | (have H2_ := (Option.bind_some _ _).symm.trans H; rw [hy293]; with_reducible exact H2_) | (have H2_ := (Option.bind_some _ _).symm.trans H; with_reducible exact H2_) | with_reducible exact H | (rw [hy293]; exact H) | exact H
        have Ny293 := Aside0.mk hy293; clear hy293; have H' := Aside0.mk H; clear H; have p292 : 0 ≤ (x6_1 : Int) := of_decide_eq_true zz6; have q292 : x6_1 < (l0.length : Int) := of_decide_eq_true zz6; obtain ⟨ad292, e292, W292⟩ := at_T30 HR0.out x6_1 p292 q292; obtain rfl : ad290 = ad292 := (by injection e292); obtain ⟨hx292_0, hx292_1⟩ := El30.up HB.out W292; replace p292 := eq_true p292; replace q292 := eq_true q292; go_wp2_with (first | ((with_reducible refine gate_builtin (b := .append) (xs := #[.tmp 23, .tmp 29]) rfl ?_); at_builtin; refine Kd.R_append Kd.string (w0 := w) w.heap.size rfl (.tmp 23) (.tmp 29) 26 9 (.string ⟨#[]⟩) 16 rfl Tryz.underlying26 info9 rfl (by decide) (by omega) u5 x5_1 ((rd_T30 l0 x6_1).f1) [.string ((rd_T30 l0 x6_1).f1)] (fun _ => True) (fun _ => False) rfl rfl ?aP (fun _ hk => hk.elim) ?aF ?aO ?aB ?aS ?aL ?_; (case aP => exact rfl); (case aB => exact zz0); (case aF => exact (fun _ _ => trivial)); (case aO => exact zz9); (case aS => exact (below_size zz0)); (case aL => have := LMc13.out; omega); intro v294 w14 ho hb hg hat; rw [← Ny293.out] at ho; replace HB := Aside0.mk (hb); have HO295 := Aside0.mk (ho); clear HO_5; clear ho hb hg hat))
        go_roundg k1
        (case measure => have := HK1.out; omega); case rel => exact ⟨(y293), (wrap64 (x6_1 + 1)), zz3, H', ⟨zz24⟩, ⟨by (with_reducible repeat (first | apply Kd.R_alloc | apply Kd.R_drewN | apply Kd.R_drew)); exact HO295.out⟩, ⟨zz0⟩⟩
       ·rw [if_neg c13] at H; exact absurd H (by simp)
      ·replace c12 := Bool.eq_false_iff.mpr c12; subst c12; rw [if_neg Bool.false_ne_true] at H; have H' := Aside0.mk H; clear H; go_wp2
       go_roundg k1
       (case measure => have := HK1.out; omega); case rel => exact ⟨(x5_1), (wrap64 (x6_1 + 1)), zz3, H', ⟨zz24⟩, ⟨zz9⟩, ⟨zz0⟩⟩
     ·rw [if_neg c8] at H; exact absurd H (by simp)
    ·rw [if_neg c7] at H; have c7b0 : decide (x6_1 < (l0.length : Int)) = false := decide_eq_false c7; clear c7; (first | rw [c7b0] | (simp only [i64_w, i32_w]; rw [c7b0]) | skip); obtain rfl := Option.some.inj H; go_wp2
     go_ret; exact ⟨_, zz4, zz9, zz0⟩
 ·replace c6 := Bool.eq_false_iff.mpr c6; subst c6; rw [if_neg Bool.false_ne_true] at H; obtain rfl := Option.some.inj H; go_wp2
  go_ret; exact ⟨_, zz4, zz12, zz0⟩

/-! ### spec_Joined: function 37 -/
def spec_Joined.l0 : Nat → List ByteArray → ByteArray → Int → Option (ByteArray)
 | 0, _, _, _ => none
 | k + 1, x5, x6, x7 => if x7 < (x5.length : Int) then (if x7 > 0 then (if x6.size + 2 ≤ 9223372036854775807 then (if 0 ≤ x7 then (if (x6 ++ (⟨#[44, 32]⟩ : ByteArray)).size + (rdOf ByteArray.empty x5 x7).size ≤ 9223372036854775807 then (spec_Joined.l0 k x5 ((x6 ++ (⟨#[44, 32]⟩ : ByteArray)) ++ (rdOf ByteArray.empty x5 x7)) (wrap64 (x7 + 1))) else (none)) else (none)) else (none)) else (if 0 ≤ x7 then (if x6.size + (rdOf ByteArray.empty x5 x7).size ≤ 9223372036854775807 then (spec_Joined.l0 k x5 (x6 ++ (rdOf ByteArray.empty x5 x7)) (wrap64 (x7 + 1))) else (none)) else (none))) else (some x6)
def spec_Joined.f (k : Nat) (l0 : List (S30)) (a1 : ByteArray) : Option (ByteArray) := (spec_Values.f k l0 a1).bind fun t296 => (spec_Joined.l0 k t296 (⟨#[]⟩ : ByteArray) 0)
theorem spec_Joined.mono_l : ∀ k, (∀ y0 y1 y2, LeO (spec_Joined.l0 k y0 y1 y2) (spec_Joined.l0 (k + 1) y0 y1 y2))
 | 0 => fun _ _ _ r h => by simp [spec_Joined.l0] at h
 | k + 1 => by
  have ih0 := spec_Joined.mono_l k
  ·intro y0 y1 y2; unfold spec_Joined.l0
   repeat' first | (with_reducible first | exact ih0 _ _ _ | exact spec_Values.mono _ _ _ | exact LeO.refl _ | exact LeO.none _ | refine LeO.ite ?_ ?_ | refine LeO.bind ?_ (fun _ => ?_)) | exact ih0 _ _ _ | exact spec_Values.mono _ _ _ | exact LeO.none _ | refine LeO.ite ?_ ?_ | refine LeO.bind ?_ (fun _ => ?_)
theorem spec_Joined.mono : ∀ a0 a1 k, LeO (spec_Joined.f k a0 a1) (spec_Joined.f (k + 1) a0 a1) := by
 intro a0 a1 k; have ih0 := spec_Joined.mono_l k; unfold spec_Joined.f
 repeat' first | (with_reducible first | exact ih0 _ _ _ | exact spec_Values.mono _ _ _ | exact LeO.refl _ | exact LeO.none _ | refine LeO.ite ?_ ?_ | refine LeO.bind ?_ (fun _ => ?_)) | exact ih0 _ _ _ | exact spec_Values.mono _ _ _ | exact LeO.none _ | refine LeO.ite ?_ ?_ | refine LeO.bind ?_ (fun _ => ?_)
set_option maxHeartbeats 40000000 in
set_option maxRecDepth 100000 in
theorem spec_Joined.calls (k : Nat) (A0 : Option Addr) (c0 : Nat) (l0 : List (S30)) (a1 : ByteArray) (r : ByteArray) (w : World) (hr0 : Kd.C k30 w A0 l0.length l0) (hc0 : l0.length ≤ c0) (h : spec_Joined.f k l0 a1 = some r) :
  Calls Tryz.prog 37 #[.slice A0 l0.length c0, .string a1] w fun e w' => e = .returned (.string r) ∧ Below w.heap.size w w' := by
 have HR0 := Aside0.mk hr0; have HC0 := Aside0.mk hc0; clear hr0 hc0; have HB := Aside0.mk (Below.refl w.heap.size w); have H : ((spec_Values.f k l0 a1).bind fun t296 => (spec_Joined.l0 k t296 (⟨#[]⟩ : ByteArray) 0)) = some r := h; clear h; replace H := Option.bind_eq_some_iff.mp H; obtain ⟨t296, A30, H⟩ := H; (try dsimp only at H); have A3 := Aside0.mk A30; clear A30; have H' := Aside0.mk H; clear H; go_enter Tryz.func37, Tryz.ntmps37
 go_wp2_with (first | ((with_reducible refine gate_callee (f := 56) rfl ?_); refine goesQ_ 10 Tryz.func56 #[.slice A0 l0.length c0, .string a1] ?_; (with_reducible refine (spec_Values.calls k _ _ l0 a1 t296 _ ?side1 ?side2 A3.out).mono ?_); (case side1 => repeat (first | exact HR0.out | (with_reducible refine Kd.C_alloc ?_ _) | (with_reducible refine Kd.C_drewN ?_ _) | (with_reducible refine Kd.C_drew ?_))); (case side2 => exact HC0.out); rintro e w4 ⟨v297, rfl, ho0, hb⟩; refine ⟨_, rfl, ?_⟩; have HO298 := Aside0.mk (Kd.R_lower ho0 (below_size zz0)); replace HB := Aside0.mk (below_step zz0 hb); (try clear hb); (try clear ho0)))
 go_loopg [6, 7] k (fun kq v6 v7 w' => ∃ (x6_1 : ByteArray) (x7_1 : Int), v6 = .string x6_1 ∧ v7 = .int .i64 x7_1 ∧ Aside0 (spec_Joined.l0 kq t296 x6_1 x7_1 = some r) ∧ Aside0 (kq ≤ k) ∧ Aside0 (Kd.R Kd.string 9 w' w.heap.size (fun _ => True) v297 t296) ∧ Aside0 (Below w.heap.size w w'))
 case atStart => exact ⟨((⟨#[]⟩ : ByteArray)), (0), zz3, zz3, H', ⟨Nat.le_refl _⟩, ⟨by (with_reducible repeat (first | apply Kd.R_alloc | apply Kd.R_drewN | apply Kd.R_drew)); exact HO298.out⟩, ⟨zz0⟩⟩
 case round =>
  clear H'; (try clear p2); (try clear c3); obtain ⟨x6_1, x7_1, rfl, rfl, HA, HK1, HO_5, HB⟩ := hrel
  cases gk with
  | zero => exact absurd HA.out (by simp [spec_Joined.l0])
  | succ k1 =>
   have H := HA.out; clear HA; simp only [spec_Joined.l0] at H
   by_cases c5 : x7_1 < (t296.length : Int)
   ·rw [if_pos c5] at H; have c5b0 : decide (x7_1 < (t296.length : Int)) = true := decide_eq_true c5; clear c5
    by_cases c6 : x7_1 > 0
    ·rw [if_pos c6] at H; have c6b0 : decide (0 < x7_1) = true := decide_eq_true c6; clear c6
     by_cases c7 : x6_1.size + 2 ≤ 9223372036854775807
     ·rw [if_pos c7] at H; have c7b0 := eq_true c7; have c7b1 : decide (x6_1.size + 2 ≤ 9223372036854775807) = true := decide_eq_true c7; try have c7b2 : (9223372036854775807 < x6_1.size + 2) = False := eq_false (Nat.not_lt.2 c7)
      by_cases c8 : 0 ≤ x7_1
      ·rw [if_pos c8] at H; have c8b0 : decide (0 ≤ x7_1) = true := decide_eq_true c8; clear c8
       by_cases c9 : (x6_1 ++ (⟨#[44, 32]⟩ : ByteArray)).size + (rdOf ByteArray.empty t296 x7_1).size ≤ 9223372036854775807
       ·rw [if_pos c9] at H; have c9b0 := eq_true c9; have c9b1 : decide ((x6_1 ++ (⟨#[44, 32]⟩ : ByteArray)).size + (rdOf ByteArray.empty t296 x7_1).size ≤ 9223372036854775807) = true := decide_eq_true c9; (try have c9b2 : (9223372036854775807 < (x6_1 ++ (⟨#[44, 32]⟩ : ByteArray)).size + (rdOf ByteArray.empty t296 x7_1).size) = False := eq_false (Nat.not_lt.2 c9)); (try have c9z := c9b2; simp only [ByteArray.size_append, show (⟨#[44, 32]⟩ : ByteArray).size = 2 from rfl] at c9z; have c9b3 := c9z); have H' := Aside0.mk H; clear H; obtain ⟨Ao10, co10, eo10⟩ := Kd.R_slice HO_5.out; subst eo10; have p299 : 0 ≤ (x7_1 : Int) := of_decide_eq_true zz6; have q299 : x7_1 < (t296.length : Int) := of_decide_eq_true zz6; obtain ⟨ad299, e299, hx299_0⟩ := Kd.at_string (Kd.R_reads' HO_5.out).2.2 x7_1 p299 q299; cases e299; replace p299 := eq_true p299; replace q299 := eq_true q299; go_wp2
        go_roundg k1
        (case measure => have := HK1.out; omega); case rel => exact ⟨((x6_1 ++ (⟨#[44, 32]⟩ : ByteArray)) ++ (rdOf ByteArray.empty t296 x7_1)), (wrap64 (x7_1 + 1)), zz3, zz3, H', ⟨zz24⟩, ⟨zz9⟩, ⟨zz0⟩⟩
       ·rw [if_neg c9] at H; exact absurd H (by simp)
      ·rw [if_neg c8] at H; exact absurd H (by simp)
     ·rw [if_neg c7] at H; exact absurd H (by simp)
    ·rw [if_neg c6] at H; have c6b0 : decide (0 < x7_1) = false := decide_eq_false c6; clear c6
     by_cases c11 : 0 ≤ x7_1
     ·rw [if_pos c11] at H; have c11b0 : decide (0 ≤ x7_1) = true := decide_eq_true c11; clear c11
      by_cases c12 : x6_1.size + (rdOf ByteArray.empty t296 x7_1).size ≤ 9223372036854775807
      ·rw [if_pos c12] at H; have c12b0 := eq_true c12; have c12b1 : decide (x6_1.size + (rdOf ByteArray.empty t296 x7_1).size ≤ 9223372036854775807) = true := decide_eq_true c12; (try have c12b2 : (9223372036854775807 < x6_1.size + (rdOf ByteArray.empty t296 x7_1).size) = False := eq_false (Nat.not_lt.2 c12)); have H' := Aside0.mk H; clear H; obtain ⟨Ao13, co13, eo13⟩ := Kd.R_slice HO_5.out; subst eo13; have p300 : 0 ≤ (x7_1 : Int) := of_decide_eq_true zz6; have q300 : x7_1 < (t296.length : Int) := of_decide_eq_true zz6; obtain ⟨ad300, e300, hx300_0⟩ := Kd.at_string (Kd.R_reads' HO_5.out).2.2 x7_1 p300 q300; cases e300; replace p300 := eq_true p300; replace q300 := eq_true q300; go_wp2
       go_roundg k1
       (case measure => have := HK1.out; omega); case rel => exact ⟨(x6_1 ++ (rdOf ByteArray.empty t296 x7_1)), (wrap64 (x7_1 + 1)), zz3, zz3, H', ⟨zz24⟩, ⟨zz9⟩, ⟨zz0⟩⟩
      ·rw [if_neg c12] at H; exact absurd H (by simp)
     ·rw [if_neg c11] at H; exact absurd H (by simp)
   ·rw [if_neg c5] at H; have c5b0 : decide (x7_1 < (t296.length : Int)) = false := decide_eq_false c5; clear c5; obtain rfl := Option.some.inj H; obtain ⟨Ao14, co14, eo14⟩ := Kd.R_slice HO_5.out; subst eo14; go_wp2
    go_ret; exact ⟨zz4, zz0⟩

/-! ### spec_Words: function 18 -/
def spec_Words.f (k : Nat) (l0 : List (S30)) (a1 : ByteArray) : Option (List ByteArray) := (spec_Joined.f k l0 a1).bind fun t301 => ((spec_Elements.f k t301).bind fun t302 => (some t302))
theorem spec_Words.mono : ∀ a0 a1 k, LeO (spec_Words.f k a0 a1) (spec_Words.f (k + 1) a0 a1) := by
 intro a0 a1 k; unfold spec_Words.f
 repeat' first | (with_reducible first | exact spec_Elements.mono _ _ | exact spec_Joined.mono _ _ _ | exact LeO.refl _ | exact LeO.none _ | refine LeO.ite ?_ ?_ | refine LeO.bind ?_ (fun _ => ?_)) | exact spec_Elements.mono _ _ | exact spec_Joined.mono _ _ _ | exact LeO.none _ | refine LeO.ite ?_ ?_ | refine LeO.bind ?_ (fun _ => ?_)
set_option maxHeartbeats 40000000 in
set_option maxRecDepth 100000 in
theorem spec_Words.calls (k : Nat) (A0 : Option Addr) (c0 : Nat) (l0 : List (S30)) (a1 : ByteArray) (r : List ByteArray) (w : World) (hr0 : Kd.C k30 w A0 l0.length l0) (hc0 : l0.length ≤ c0) (h : spec_Words.f k l0 a1 = some r) :
  Calls Tryz.prog 18 #[.slice A0 l0.length c0, .string a1] w fun e w' => ∃ v0_ : Value, e = .returned (v0_) ∧ Kd.R Kd.string 9 w' w.heap.size (fun _ => True) v0_ r ∧ Below w.heap.size w w' := by
 have HR0 := Aside0.mk hr0; have HC0 := Aside0.mk hc0; clear hr0 hc0; have HB := Aside0.mk (Below.refl w.heap.size w); have H : ((spec_Joined.f k l0 a1).bind fun t301 => ((spec_Elements.f k t301).bind fun t302 => (some t302))) = some r := h; clear h; replace H := Option.bind_eq_some_iff.mp H; obtain ⟨t301, A30, H⟩ := H; (try dsimp only at H); have A3 := Aside0.mk A30; clear A30; replace H := Option.bind_eq_some_iff.mp H; obtain ⟨t302, A40, H⟩ := H; (try dsimp only at H); have A4 := Aside0.mk A40; clear A40; obtain rfl := Option.some.inj H; go_enter Tryz.func18, Tryz.ntmps18
 go_wp2_with (first | ((with_reducible refine gate_callee (f := 37) rfl ?_); refine goesQ_ 7 Tryz.func37 #[.slice A0 l0.length c0, .string a1] ?_; (with_reducible refine (spec_Joined.calls k _ _ l0 a1 t301 _ ?side1 ?side2 A3.out).mono ?_); (case side1 => repeat (first | exact HR0.out | (with_reducible refine Kd.C_alloc ?_ _) | (with_reducible refine Kd.C_drewN ?_ _) | (with_reducible refine Kd.C_drew ?_))); (case side2 => exact HC0.out); rintro e w5 ⟨rfl, hb⟩; refine ⟨_, rfl, ?_⟩; replace HB := Aside0.mk (below_step zz0 hb); (try clear hb)) | ((with_reducible refine gate_callee (f := 36) rfl ?_); refine goesQ_ 8 Tryz.func36 #[.string t301] ?_; (with_reducible refine (spec_Elements.calls k t301 t302 _ A4.out).mono ?_); rintro e w6 ⟨v303, rfl, ho0, hb⟩; refine ⟨_, rfl, ?_⟩; have HO304 := Aside0.mk (Kd.R_lower ho0 (below_size zz0)); replace HB := Aside0.mk (below_step zz0 hb); (try clear hb); (try clear ho0)))
 go_ret; exact ⟨_, zz4, by (with_reducible repeat (first | apply Kd.R_alloc | apply Kd.R_drewN | apply Kd.R_drew)); exact HO304.out, zz0⟩

end Go.Proofs.YtkkolioolgpljaaGreat.GFnHops
