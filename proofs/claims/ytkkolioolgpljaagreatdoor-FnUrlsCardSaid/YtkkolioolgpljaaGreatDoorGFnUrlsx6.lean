-- Laid by gen.py of this session (over the kit's printing program): what the law FnUrls reaches, as Lean functions, and that Go comes to just that.
import Derived.Test.YtkkolioolgpljaaGreatDoorGFnUrlsx0
import Derived.Test.YtkkolioolgpljaaGreatDoorGFnUrlsx3
import Derived.Test.YtkkolioolgpljaaGreatDoorGFnUrlsx5
import Derived.Test.YtkkolioolgpljaaGreatDoorZFnUrls
namespace Go.Proofs.YtkkolioolgpljaaGreatDoor.GFnUrls
open Go.RowKit Go.Proofs.YtkkolioolgpljaaGreatDoorW.PrintWords Go.Proofs.YtkkolioolgpljaaGreatDoorW.PrintLast Go.Proofs.YtkkolioolgpljaaGreatDoorW.PrintMore Go.Proofs.YtkkolioolgpljaaGreatDoorW.Zs
attribute [local go_sem] max2_int min2_int max_two min_two max_three min_three max_four min_four   -- for this text's walks alone
set_option linter.unusedVariables false
set_option linter.unusedSimpArgs false

theorem spec_CleanPath_ownB (A : Option Addr) (n c : Nat) : (Value.slice A n c).ownBlock = A.map Addr.block := by cases A <;> rfl
/-! ### spec_CleanPath: function 19 -/
mutual
def spec_CleanPath.j0 : Nat → ByteArray → Bool → Option (ByteArray)
 | 0, _, _ => none
 | k + 1, x0, x27 => if x27 = true then (some (⟨#[]⟩ : ByteArray)) else (spec_CleanPath.l0 k x0 0)
def spec_CleanPath.l0 : Nat → ByteArray → Int → Option (ByteArray)
 | 0, _, _ => none
 | k + 1, x0, x3 => if x3 < (x0.size : Int) then (if 0 ≤ x3 then (if (bt x0 x3) = 35 then (some (⟨#[]⟩ : ByteArray)) else (if (bt x0 x3) = 63 then (some (⟨#[]⟩ : ByteArray)) else (spec_CleanPath.l0 k x0 (wrap64 (x3 + 1))))) else (none)) else ((spec_l7percent.f k x0).bind fun t156 => (if 1 ≤ (t156.size : Int) then ((spec_l7split.f k (t156.extract 1 t156.size) 47).bind fun t157 => (spec_CleanPath.l1 k t157 ([] : List ByteArray) 0)) else (none)))
def spec_CleanPath.l1 : Nat → List ByteArray → List ByteArray → Int → Option (ByteArray)
 | 0, _, _, _ => none
 | k + 1, x4, x5, x6 => if x6 < (x4.length : Int) then (if 0 ≤ x6 then (if (rdOf ByteArray.empty x4 x6).toList = ([46] : List UInt8) then (spec_CleanPath.j3 k x4 x5 x6 true) else (spec_CleanPath.j3 k x4 x5 x6 ((rdOf ByteArray.empty x4 x6).toList == ([46, 46] : List UInt8)))) else (none)) else (spec_CleanPath.l2 k x5 (⟨#[]⟩ : ByteArray) 0)
def spec_CleanPath.j3 : Nat → List ByteArray → List ByteArray → Int → Bool → Option (ByteArray)
 | 0, _, _, _, _ => none
 | k + 1, x4, x5, x6, x7 => if 0 ≤ x6 then (if x6 < (x4.length : Int) then (if (rdOf ByteArray.empty x4 x6).toList = ([46, 46] : List UInt8) then (spec_CleanPath.j4 k x4 x5 x6 x7 (decide ((x5.length : Int) > 0))) else (spec_CleanPath.j4 k x4 x5 x6 x7 false)) else (none)) else (none)
def spec_CleanPath.j4 : Nat → List ByteArray → List ByteArray → Int → Bool → Bool → Option (ByteArray)
 | 0, _, _, _, _, _ => none
 | k + 1, x4, x5, x6, x7, x75 => if x75 = true then (if 0 ≤ (wrap64 ((x5.length : Int) - 1)) then (if (wrap64 ((x5.length : Int) - 1)) ≤ (x5.length : Int) then (spec_CleanPath.j5 k x4 (x5.take ((wrap64 ((x5.length : Int) - 1)) : Int).toNat) x6 x7) else (none)) else (none)) else (spec_CleanPath.j5 k x4 x5 x6 x7)
def spec_CleanPath.j5 : Nat → List ByteArray → List ByteArray → Int → Bool → Option (ByteArray)
 | 0, _, _, _, _ => none
 | k + 1, x4, x5, x6, x7 => if x7 = true then (if (wrap64 (x6 + 1)) = (x4.length : Int) then (if x5.length < 8796093022208 then (spec_CleanPath.l1 k x4 (x5 ++ [(⟨#[]⟩ : ByteArray)]) (wrap64 (x6 + 1))) else (none)) else (spec_CleanPath.l1 k x4 x5 (wrap64 (x6 + 1)))) else (if 0 ≤ x6 then (if x6 < (x4.length : Int) then (if x5.length < 8796093022208 then (spec_CleanPath.l1 k x4 (x5 ++ [rdOf ByteArray.empty x4 x6]) (wrap64 (x6 + 1))) else (none)) else (none)) else (none))
def spec_CleanPath.l2 : Nat → List ByteArray → ByteArray → Int → Option (ByteArray)
 | 0, _, _, _ => none
 | k + 1, x5, x8, x9 => if x9 < (x5.length : Int) then (if x8.size + 1 ≤ 9223372036854775807 then (if 0 ≤ x9 then (if (x8 ++ (⟨#[47]⟩ : ByteArray)).size + (rdOf ByteArray.empty x5 x9).size ≤ 9223372036854775807 then (spec_CleanPath.l2 k x5 ((x8 ++ (⟨#[47]⟩ : ByteArray)) ++ (rdOf ByteArray.empty x5 x9)) (wrap64 (x9 + 1))) else (none)) else (none)) else (none)) else (if x8.toList = ([] : List UInt8) then (some (⟨#[47]⟩ : ByteArray)) else (some x8))
end
def spec_CleanPath.f (k : Nat) (a0 : ByteArray) : Option (ByteArray) := if (a0.size : Int) = 0 then (spec_CleanPath.j0 k a0 true) else (if (a0.size : Int) > 200 then (spec_CleanPath.j0 k a0 true) else (if 0 < (a0.size : Int) then (if (bt a0 0) = 47 then ((spec_l6visible.f k a0).bind fun t155 => (spec_CleanPath.j0 k a0 (!t155))) else (spec_CleanPath.j0 k a0 true)) else (none)))
theorem spec_CleanPath.mono_l : ∀ k, (∀ y0 y1, LeO (spec_CleanPath.j0 k y0 y1) (spec_CleanPath.j0 (k + 1) y0 y1)) ∧ (∀ y0 y1, LeO (spec_CleanPath.l0 k y0 y1) (spec_CleanPath.l0 (k + 1) y0 y1)) ∧ (∀ y0 y1 y2, LeO (spec_CleanPath.l1 k y0 y1 y2) (spec_CleanPath.l1 (k + 1) y0 y1 y2)) ∧ (∀ y0 y1 y2 y3, LeO (spec_CleanPath.j3 k y0 y1 y2 y3) (spec_CleanPath.j3 (k + 1) y0 y1 y2 y3)) ∧ (∀ y0 y1 y2 y3 y4, LeO (spec_CleanPath.j4 k y0 y1 y2 y3 y4) (spec_CleanPath.j4 (k + 1) y0 y1 y2 y3 y4)) ∧ (∀ y0 y1 y2 y3, LeO (spec_CleanPath.j5 k y0 y1 y2 y3) (spec_CleanPath.j5 (k + 1) y0 y1 y2 y3)) ∧ (∀ y0 y1 y2, LeO (spec_CleanPath.l2 k y0 y1 y2) (spec_CleanPath.l2 (k + 1) y0 y1 y2))
 | 0 => ⟨fun _ _ r h => by simp [spec_CleanPath.j0] at h, fun _ _ r h => by simp [spec_CleanPath.l0] at h, fun _ _ _ r h => by simp [spec_CleanPath.l1] at h, fun _ _ _ _ r h => by simp [spec_CleanPath.j3] at h, fun _ _ _ _ _ r h => by simp [spec_CleanPath.j4] at h, fun _ _ _ _ r h => by simp [spec_CleanPath.j5] at h, fun _ _ _ r h => by simp [spec_CleanPath.l2] at h⟩
 | k + 1 => by
  obtain ⟨ih0, ih1, ih2, ih3, ih4, ih5, ih6⟩ := spec_CleanPath.mono_l k; refine ⟨?_, ?_, ?_, ?_, ?_, ?_, ?_⟩
  ·intro y0 y1; unfold spec_CleanPath.j0
   repeat' first | (with_reducible first | exact ih0 _ _ | exact ih1 _ _ | exact ih2 _ _ _ | exact ih3 _ _ _ _ | exact ih4 _ _ _ _ _ | exact ih5 _ _ _ _ | exact ih6 _ _ _ | exact spec_l6visible.mono _ _ | exact spec_l7percent.mono _ _ | exact spec_l7split.mono _ _ _ | exact LeO.refl _ | exact LeO.none _ | refine LeO.ite ?_ ?_ | refine LeO.bind ?_ (fun _ => ?_)) | exact ih0 _ _ | exact ih1 _ _ | exact ih2 _ _ _ | exact ih3 _ _ _ _ | exact ih4 _ _ _ _ _ | exact ih5 _ _ _ _ | exact ih6 _ _ _ | exact spec_l6visible.mono _ _ | exact spec_l7percent.mono _ _ | exact spec_l7split.mono _ _ _ | exact LeO.none _ | refine LeO.ite ?_ ?_ | refine LeO.bind ?_ (fun _ => ?_)
  ·intro y0 y1; unfold spec_CleanPath.l0
   repeat' first | (with_reducible first | exact ih0 _ _ | exact ih1 _ _ | exact ih2 _ _ _ | exact ih3 _ _ _ _ | exact ih4 _ _ _ _ _ | exact ih5 _ _ _ _ | exact ih6 _ _ _ | exact spec_l6visible.mono _ _ | exact spec_l7percent.mono _ _ | exact spec_l7split.mono _ _ _ | exact LeO.refl _ | exact LeO.none _ | refine LeO.ite ?_ ?_ | refine LeO.bind ?_ (fun _ => ?_)) | exact ih0 _ _ | exact ih1 _ _ | exact ih2 _ _ _ | exact ih3 _ _ _ _ | exact ih4 _ _ _ _ _ | exact ih5 _ _ _ _ | exact ih6 _ _ _ | exact spec_l6visible.mono _ _ | exact spec_l7percent.mono _ _ | exact spec_l7split.mono _ _ _ | exact LeO.none _ | refine LeO.ite ?_ ?_ | refine LeO.bind ?_ (fun _ => ?_)
  ·intro y0 y1 y2; unfold spec_CleanPath.l1
   repeat' first | (with_reducible first | exact ih0 _ _ | exact ih1 _ _ | exact ih2 _ _ _ | exact ih3 _ _ _ _ | exact ih4 _ _ _ _ _ | exact ih5 _ _ _ _ | exact ih6 _ _ _ | exact spec_l6visible.mono _ _ | exact spec_l7percent.mono _ _ | exact spec_l7split.mono _ _ _ | exact LeO.refl _ | exact LeO.none _ | refine LeO.ite ?_ ?_ | refine LeO.bind ?_ (fun _ => ?_)) | exact ih0 _ _ | exact ih1 _ _ | exact ih2 _ _ _ | exact ih3 _ _ _ _ | exact ih4 _ _ _ _ _ | exact ih5 _ _ _ _ | exact ih6 _ _ _ | exact spec_l6visible.mono _ _ | exact spec_l7percent.mono _ _ | exact spec_l7split.mono _ _ _ | exact LeO.none _ | refine LeO.ite ?_ ?_ | refine LeO.bind ?_ (fun _ => ?_)
  ·intro y0 y1 y2 y3; unfold spec_CleanPath.j3
   repeat' first | (with_reducible first | exact ih0 _ _ | exact ih1 _ _ | exact ih2 _ _ _ | exact ih3 _ _ _ _ | exact ih4 _ _ _ _ _ | exact ih5 _ _ _ _ | exact ih6 _ _ _ | exact spec_l6visible.mono _ _ | exact spec_l7percent.mono _ _ | exact spec_l7split.mono _ _ _ | exact LeO.refl _ | exact LeO.none _ | refine LeO.ite ?_ ?_ | refine LeO.bind ?_ (fun _ => ?_)) | exact ih0 _ _ | exact ih1 _ _ | exact ih2 _ _ _ | exact ih3 _ _ _ _ | exact ih4 _ _ _ _ _ | exact ih5 _ _ _ _ | exact ih6 _ _ _ | exact spec_l6visible.mono _ _ | exact spec_l7percent.mono _ _ | exact spec_l7split.mono _ _ _ | exact LeO.none _ | refine LeO.ite ?_ ?_ | refine LeO.bind ?_ (fun _ => ?_)
  ·intro y0 y1 y2 y3 y4; unfold spec_CleanPath.j4
   repeat' first | (with_reducible first | exact ih0 _ _ | exact ih1 _ _ | exact ih2 _ _ _ | exact ih3 _ _ _ _ | exact ih4 _ _ _ _ _ | exact ih5 _ _ _ _ | exact ih6 _ _ _ | exact spec_l6visible.mono _ _ | exact spec_l7percent.mono _ _ | exact spec_l7split.mono _ _ _ | exact LeO.refl _ | exact LeO.none _ | refine LeO.ite ?_ ?_ | refine LeO.bind ?_ (fun _ => ?_)) | exact ih0 _ _ | exact ih1 _ _ | exact ih2 _ _ _ | exact ih3 _ _ _ _ | exact ih4 _ _ _ _ _ | exact ih5 _ _ _ _ | exact ih6 _ _ _ | exact spec_l6visible.mono _ _ | exact spec_l7percent.mono _ _ | exact spec_l7split.mono _ _ _ | exact LeO.none _ | refine LeO.ite ?_ ?_ | refine LeO.bind ?_ (fun _ => ?_)
  ·intro y0 y1 y2 y3; unfold spec_CleanPath.j5
   repeat' first | (with_reducible first | exact ih0 _ _ | exact ih1 _ _ | exact ih2 _ _ _ | exact ih3 _ _ _ _ | exact ih4 _ _ _ _ _ | exact ih5 _ _ _ _ | exact ih6 _ _ _ | exact spec_l6visible.mono _ _ | exact spec_l7percent.mono _ _ | exact spec_l7split.mono _ _ _ | exact LeO.refl _ | exact LeO.none _ | refine LeO.ite ?_ ?_ | refine LeO.bind ?_ (fun _ => ?_)) | exact ih0 _ _ | exact ih1 _ _ | exact ih2 _ _ _ | exact ih3 _ _ _ _ | exact ih4 _ _ _ _ _ | exact ih5 _ _ _ _ | exact ih6 _ _ _ | exact spec_l6visible.mono _ _ | exact spec_l7percent.mono _ _ | exact spec_l7split.mono _ _ _ | exact LeO.none _ | refine LeO.ite ?_ ?_ | refine LeO.bind ?_ (fun _ => ?_)
  ·intro y0 y1 y2; unfold spec_CleanPath.l2
   repeat' first | (with_reducible first | exact ih0 _ _ | exact ih1 _ _ | exact ih2 _ _ _ | exact ih3 _ _ _ _ | exact ih4 _ _ _ _ _ | exact ih5 _ _ _ _ | exact ih6 _ _ _ | exact spec_l6visible.mono _ _ | exact spec_l7percent.mono _ _ | exact spec_l7split.mono _ _ _ | exact LeO.refl _ | exact LeO.none _ | refine LeO.ite ?_ ?_ | refine LeO.bind ?_ (fun _ => ?_)) | exact ih0 _ _ | exact ih1 _ _ | exact ih2 _ _ _ | exact ih3 _ _ _ _ | exact ih4 _ _ _ _ _ | exact ih5 _ _ _ _ | exact ih6 _ _ _ | exact spec_l6visible.mono _ _ | exact spec_l7percent.mono _ _ | exact spec_l7split.mono _ _ _ | exact LeO.none _ | refine LeO.ite ?_ ?_ | refine LeO.bind ?_ (fun _ => ?_)
theorem spec_CleanPath.mono : ∀ a0 k, LeO (spec_CleanPath.f k a0) (spec_CleanPath.f (k + 1) a0) := by
 intro a0 k; obtain ⟨ih0, ih1, ih2, ih3, ih4, ih5, ih6⟩ := spec_CleanPath.mono_l k; unfold spec_CleanPath.f
 repeat' first | (with_reducible first | exact ih0 _ _ | exact ih1 _ _ | exact ih2 _ _ _ | exact ih3 _ _ _ _ | exact ih4 _ _ _ _ _ | exact ih5 _ _ _ _ | exact ih6 _ _ _ | exact spec_l6visible.mono _ _ | exact spec_l7percent.mono _ _ | exact spec_l7split.mono _ _ _ | exact LeO.refl _ | exact LeO.none _ | refine LeO.ite ?_ ?_ | refine LeO.bind ?_ (fun _ => ?_)) | exact ih0 _ _ | exact ih1 _ _ | exact ih2 _ _ _ | exact ih3 _ _ _ _ | exact ih4 _ _ _ _ _ | exact ih5 _ _ _ _ | exact ih6 _ _ _ | exact spec_l6visible.mono _ _ | exact spec_l7percent.mono _ _ | exact spec_l7split.mono _ _ _ | exact LeO.none _ | refine LeO.ite ?_ ?_ | refine LeO.bind ?_ (fun _ => ?_)
set_option maxHeartbeats 8000000 in
set_option maxRecDepth 100000 in
theorem spec_CleanPath.calls (k : Nat) (a0 : ByteArray) (r : ByteArray) (w : World) (h : spec_CleanPath.f k a0 = some r) :
  Calls Tryz.prog 19 #[.string a0] w fun e w' => e = .returned (.string r) ∧ Below w.heap.size w w' := by
 have HB := Aside0.mk (Below.refl w.heap.size w); have H : (if (a0.size : Int) = 0 then (spec_CleanPath.j0 k a0 true) else (if (a0.size : Int) > 200 then (spec_CleanPath.j0 k a0 true) else (if 0 < (a0.size : Int) then (if (bt a0 0) = 47 then ((spec_l6visible.f k a0).bind fun t155 => (spec_CleanPath.j0 k a0 (!t155))) else (spec_CleanPath.j0 k a0 true)) else (none)))) = some r := h; clear h; have HC2 := Aside0.mk H; clear H; go_enter Tryz.func19, Tryz.ntmps19
 go_upto_region 1 with (fail)
 go_cut [27] (fun v27 wc => ∃ (kq : Nat) (x27_1 : Bool), v27 = .bool x27_1 ∧ Aside0 (spec_CleanPath.j0 kq a0 x27_1 = some r) ∧ Aside0 (kq ≤ k) ∧ Aside0 (Below w.heap.size w wc))
 case first =>
  have H := HC2.out; clear HC2
  by_cases c3 : (a0.size : Int) = 0
  ·rw [if_pos c3] at H; have c3b0 : ((a0.size : Int) == 0) = true := beq_iff_eq.mpr c3; have c3b1 : ((a0.size : Int) != 0) = false := bne_eq_false_iff_eq.mpr c3; clear c3; (first | rw [c3b0] | (simp only [i64_w, i32_w]; rw [c3b0]) | skip); have H' := Aside0.mk H; clear H; go_wp2
   go_meet
   case rel => exact ⟨_, (true), z5, H', ⟨z35⟩, ⟨z0⟩⟩
  ·rw [if_neg c3] at H; have c3b0 : ((a0.size : Int) == 0) = false := beq_eq_false_iff_ne.mpr c3; have c3b1 : ((a0.size : Int) != 0) = true := bne_iff_ne.mpr c3; (first | rw [c3b0] | (simp only [i64_w, i32_w]; rw [c3b0]) | skip)
   by_cases c4 : (a0.size : Int) > 200
   ·rw [if_pos c4] at H; have c4b0 : decide (200 < (a0.size : Int)) = true := decide_eq_true c4; have c4b1 : decide (200 < a0.size) = true := decide_eq_true (by omega); clear c4; have H' := Aside0.mk H; clear H; go_wp2
    go_meet
    case rel => exact ⟨_, (true), z5, H', ⟨z35⟩, ⟨z0⟩⟩
   ·rw [if_neg c4] at H; have c4b0 : decide (200 < (a0.size : Int)) = false := decide_eq_false c4; have c4b1 : decide (200 < a0.size) = false := decide_eq_false (by omega); clear c4
    by_cases c5 : 0 < (a0.size : Int)
    ·rw [if_pos c5] at H; have c5b0 : decide (0 < (a0.size : Int)) = true := decide_eq_true c5; have c5b1 : decide (0 < a0.size) = true := decide_eq_true (by omega); clear c5
     by_cases c7 : (bt a0 0) = 47
     ·rw [if_pos c7] at H; have c7b0 : ((bt a0 0) == 47) = true := beq_iff_eq.mpr c7; have c7b1 : ((bt a0 0) != 47) = false := bne_eq_false_iff_eq.mpr c7; clear c7; replace H := Option.bind_eq_some_iff.mp H; obtain ⟨t155, A80, H⟩ := H; (try dsimp only at H); have A8 := Aside0.mk A80; clear A80; have H' := Aside0.mk H; clear H; have p6 : 0 ≤ (0 : Int) := (by omega); have q6 : 0 < a0.size := (by have : (0 : Int) < (a0.size : Int) := of_decide_eq_true z3; omega); have hx6 : ∀ h : 0 < a0.size, ((a0[0]'h).toNat : Int) = bt a0 0 := bt_at a0 0; clear p6; have qi6 : (0 < (a0.size : Int)) = True := eq_true (of_decide_eq_true z3); replace q6 := eq_true q6; go_wp2_with (first | (go_at_call 20; (with_reducible refine (spec_l6visible.calls k a0 t155 _ A8.out).mono ?_); rintro e w' ⟨rfl, ⟨nd, rfl⟩⟩))
      go_meet
      case rel => exact ⟨_, (!t155), z5, H', ⟨z35⟩, ⟨z0⟩⟩
     ·rw [if_neg c7] at H; have c7b0 : ((bt a0 0) == 47) = false := beq_eq_false_iff_ne.mpr c7; have c7b1 : ((bt a0 0) != 47) = true := bne_iff_ne.mpr c7; have H' := Aside0.mk H; clear H; have p6 : 0 ≤ (0 : Int) := (by omega); have q6 : 0 < a0.size := (by have : (0 : Int) < (a0.size : Int) := of_decide_eq_true z3; omega); have hx6 : ∀ h : 0 < a0.size, ((a0[0]'h).toNat : Int) = bt a0 0 := bt_at a0 0; clear p6; have qi6 : (0 < (a0.size : Int)) = True := eq_true (of_decide_eq_true z3); replace q6 := eq_true q6; go_wp2
      go_meet
      case rel => exact ⟨_, (true), z5, H', ⟨z35⟩, ⟨z0⟩⟩
    ·rw [if_neg c5] at H; exact absurd H (by simp)
 case rest =>
  clear HC2; (try clear c1); (try clear p2); (try clear c3); (try clear c3b0); (try clear c3b1); (try clear c4); (try clear c4b0); (try clear c4b1); (try clear c5); (try clear c5b0); (try clear c5b1); (try clear p6); (try clear q6); (try clear hx6); (try clear qi6); (try clear c7); (try clear c7b0); (try clear c7b1); (try clear p6); (try clear q6); obtain ⟨kq, x27_1, rfl, HA, HJ1, HB⟩ := hcut
  cases kq with
  | zero => exact absurd HA.out (by simp [spec_CleanPath.j0])
  | succ kj1 =>
   have H := HA.out; clear HA; simp only [spec_CleanPath.j0] at H
   by_cases c9 : x27_1 = true
   ·subst c9; rw [if_pos rfl] at H; obtain rfl := Option.some.inj H; go_wp2
    go_ret; exact ⟨z2, z0⟩
   ·replace c9 := Bool.eq_false_iff.mpr c9; subst c9; rw [if_neg Bool.false_ne_true] at H; have H' := Aside0.mk H; clear H; go_wp2
    go_loopg [3] kj1 (fun kq v3 w' => ∃ (x3_2 : Int), v3 = .int .i64 x3_2 ∧ Aside0 (spec_CleanPath.l0 kq a0 x3_2 = some r) ∧ Aside0 (kq ≤ kj1) ∧ Aside0 (Below w.heap.size w w'))
    case atStart => exact ⟨(0), z5, H', ⟨Nat.le_refl _⟩, ⟨z0⟩⟩
    case round =>
     clear H'; (try clear c1); (try clear p2); (try clear c3); (try clear c3b0); (try clear c3b1); (try clear c4); (try clear c4b0); (try clear c4b1); (try clear c5); (try clear c5b0); (try clear c5b1); (try clear p6); (try clear q6); (try clear hx6); (try clear qi6); (try clear c7); (try clear c7b0); (try clear c7b1); (try clear c9); (try clear p2); (try clear p6); (try clear q6); obtain ⟨x3_2, rfl, HA, HK2, HB⟩ := hrel
     cases gk with
     | zero => exact absurd HA.out (by simp [spec_CleanPath.l0])
     | succ k2 =>
      have H := HA.out; clear HA; simp only [spec_CleanPath.l0] at H
      by_cases c10 : x3_2 < (a0.size : Int)
      ·rw [if_pos c10] at H; have c10b0 : decide (x3_2 < (a0.size : Int)) = true := decide_eq_true c10; clear c10
       by_cases c11 : 0 ≤ x3_2
       ·rw [if_pos c11] at H; have c11b0 : decide (0 ≤ x3_2) = true := decide_eq_true c11; clear c11
        by_cases c13 : (bt a0 x3_2) = 35
        ·rw [if_pos c13] at H; have c13b0 : ((bt a0 x3_2) == 35) = true := beq_iff_eq.mpr c13; have c13b1 : ((bt a0 x3_2) != 35) = false := bne_eq_false_iff_eq.mpr c13; clear c13; obtain rfl := Option.some.inj H; have p12 : 0 ≤ (x3_2 : Int) := of_decide_eq_true z3; have q12 : x3_2 < (a0.size : Int) := of_decide_eq_true z3; have hx12 := bt_at a0 x3_2; replace p12 := eq_true p12; replace q12 := eq_true q12; go_wp2
         go_ret; exact ⟨z2, z0⟩
        ·rw [if_neg c13] at H; have c13b0 : ((bt a0 x3_2) == 35) = false := beq_eq_false_iff_ne.mpr c13; have c13b1 : ((bt a0 x3_2) != 35) = true := bne_iff_ne.mpr c13
         by_cases c15 : (bt a0 x3_2) = 63
         ·rw [if_pos c15] at H; have c15b0 : ((bt a0 x3_2) == 63) = true := beq_iff_eq.mpr c15; have c15b1 : ((bt a0 x3_2) != 63) = false := bne_eq_false_iff_eq.mpr c15; clear c15; obtain rfl := Option.some.inj H; have p12 : 0 ≤ (x3_2 : Int) := of_decide_eq_true z3; have q12 : x3_2 < (a0.size : Int) := of_decide_eq_true z3; have hx12 := bt_at a0 x3_2; replace p12 := eq_true p12; replace q12 := eq_true q12; have p14 : 0 ≤ (x3_2 : Int) := of_decide_eq_true z3; have q14 : x3_2 < (a0.size : Int) := of_decide_eq_true z3; have hx14 := bt_at a0 x3_2; replace p14 := eq_true p14; replace q14 := eq_true q14; go_wp2
          go_ret; exact ⟨z2, z0⟩
         ·rw [if_neg c15] at H; have c15b0 : ((bt a0 x3_2) == 63) = false := beq_eq_false_iff_ne.mpr c15; have c15b1 : ((bt a0 x3_2) != 63) = true := bne_iff_ne.mpr c15; have H' := Aside0.mk H; clear H; have p12 : 0 ≤ (x3_2 : Int) := of_decide_eq_true z3; have q12 : x3_2 < (a0.size : Int) := of_decide_eq_true z3; have hx12 := bt_at a0 x3_2; replace p12 := eq_true p12; replace q12 := eq_true q12; have p14 : 0 ≤ (x3_2 : Int) := of_decide_eq_true z3; have q14 : x3_2 < (a0.size : Int) := of_decide_eq_true z3; have hx14 := bt_at a0 x3_2; replace p14 := eq_true p14; replace q14 := eq_true q14; go_wp2
          go_roundg k2
          (case measure => have := HJ1.out; have := HK2.out; omega); case rel => exact ⟨(wrap64 (x3_2 + 1)), z5, H', ⟨z83⟩, ⟨z0⟩⟩
       ·rw [if_neg c11] at H; exact absurd H (by simp)
      ·rw [if_neg c10] at H; have c10b0 : decide (x3_2 < (a0.size : Int)) = false := decide_eq_false c10; clear c10; replace H := Option.bind_eq_some_iff.mp H; obtain ⟨t156, A160, H⟩ := H; (try dsimp only at H); have A16 := Aside0.mk A160; clear A160
       by_cases c17 : 1 ≤ (t156.size : Int)
       ·rw [if_pos c17] at H; have c17b0 := eq_true c17; have c17b1 : decide (1 ≤ (t156.size : Int)) = true := decide_eq_true c17; clear c17; replace H := Option.bind_eq_some_iff.mp H; obtain ⟨t157, A180, H⟩ := H; (try dsimp only at H); have A18 := Aside0.mk A180; clear A180; have H' := Aside0.mk H; clear H; go_wp2_with (first | ((with_reducible refine gate_callee (f := 51) rfl ?_); refine goesR_ 45 Tryz.func51 #[.string a0] (spec_l7percent.calls k2 a0 t156 _ A16.out) ?_; rintro w19 hb; replace HB := Aside0.mk (below_step z0 hb); (try clear hb)) | ((with_reducible refine gate_callee (f := 49) rfl ?_); refine goesQ_ 47 Tryz.func49 #[.string (t156.extract 1 t156.size), .int .u8 47] ?_; (with_reducible refine (spec_l7split.calls k2 (t156.extract 1 t156.size) 47 t157 _ A18.out).mono ?_); rintro e w20 ⟨v158, rfl, ho0, hb⟩; refine ⟨_, rfl, ?_⟩; have HO159 := Aside0.mk (Kd.R_lower ho0 (below_size z0)); replace HB := Aside0.mk (below_step z0 hb); (try clear hb); (try clear ho0)))
        go_loopg [5, 6] k2 (fun kq v5 v6 w' => ∃ (x5_3 : List ByteArray) (x6_3 : Int), v6 = .int .i64 x6_3 ∧ Aside0 (spec_CleanPath.l1 kq t157 x5_3 x6_3 = some r) ∧ Aside0 (kq ≤ k2) ∧ Aside0 (Kd.R Kd.string 9 w' w.heap.size (fun k_ => some k_ ≠ (v5 : Value).ownBlock) v158 t157) ∧ Aside0 (Kd.R Kd.string 9 w' w.heap.size (fun k_ => some k_ ≠ (v158 : Value).ownBlock) v5 x5_3) ∧ Aside0 (Below w.heap.size w w'))
        case atStart => exact ⟨(([] : List ByteArray)), (0), z5, H', ⟨Nat.le_refl _⟩, ⟨by (with_reducible repeat (first | apply Kd.R_alloc | apply Kd.R_drewN | apply Kd.R_drew)); exact Kd.R_mono HO159.out (fun _ hk => (by simp [Value.ownBlock]))⟩, ⟨z50⟩, ⟨z0⟩⟩
        case round =>
         clear H'; (try clear c1); (try clear p1); (try clear q1); (try clear hx1); (try clear p2); (try clear c3); (try clear c3b0); (try clear c3b1); (try clear c4); (try clear c4b0); (try clear c4b1); (try clear c5); (try clear c5b0); (try clear c5b1); (try clear p6); (try clear q6); (try clear hx6); (try clear qi6); (try clear c7); (try clear c7b0); (try clear c7b1); (try clear c9); (try clear c10); (try clear c10b0); (try clear c11); (try clear c11b0); (try clear p12); (try clear q12); (try clear hx12); (try clear c13); (try clear c13b0); (try clear c13b1); (try clear p14); (try clear q14); (try clear hx14); (try clear c15); (try clear c15b0); (try clear c15b1); (try clear c17); (try clear c17b0); (try clear c17b1); (try clear c19); (try clear p12); (try clear p14); (try clear p2); (try clear p6); (try clear q12); (try clear q14); (try clear q6); obtain ⟨x5_3, x6_3, rfl, HA, HK3, HO_4, HO_5, HB⟩ := hrel
         cases gk with
         | zero => exact absurd HA.out (by simp [spec_CleanPath.l1])
         | succ k3 =>
          have H := HA.out; clear HA; simp only [spec_CleanPath.l1] at H
          by_cases c21 : x6_3 < (t157.length : Int)
          ·rw [if_pos c21] at H; have c21b0 : decide (x6_3 < (t157.length : Int)) = true := decide_eq_true c21; clear c21; have HC22 := Aside0.mk H; clear H; obtain ⟨Ao23, co23, eo23⟩ := Kd.R_slice HO_4.out; subst eo23; go_upto_region 13 with (fail)
           go_cut [7] (fun v7 wc => ∃ (kq : Nat) (x7_21 : Bool), v7 = .bool x7_21 ∧ Aside0 (spec_CleanPath.j3 kq t157 x5_3 x6_3 x7_21 = some r) ∧ Aside0 (kq ≤ k3) ∧ Aside0 (Kd.R Kd.string 9 wc w.heap.size (fun k_ => some k_ ≠ (u5 : Value).ownBlock) (.slice Ao23 t157.length co23) t157) ∧ Aside0 (Kd.R Kd.string 9 wc w.heap.size (fun k_ => some k_ ≠ ((.slice Ao23 t157.length co23) : Value).ownBlock) u5 x5_3) ∧ Aside0 (Below w.heap.size w wc))
           case first =>
            have H := HC22.out; clear HC22
            by_cases c24 : 0 ≤ x6_3
            ·rw [if_pos c24] at H; have c24b0 : decide (0 ≤ x6_3) = true := decide_eq_true c24; clear c24; (first | rw [c24b0] | (simp only [i64_w, i32_w]; rw [c24b0]) | skip)
             by_cases c25 : (rdOf ByteArray.empty t157 x6_3).toList = ([46] : List UInt8)
             ·rw [if_pos c25] at H; have c25b0 : ((rdOf ByteArray.empty t157 x6_3).toList == ([46] : List UInt8)) = true := beq_iff_eq.mpr c25; have c25b1 : ((rdOf ByteArray.empty t157 x6_3).toList != ([46] : List UInt8)) = false := bne_eq_false_iff_eq.mpr c25; clear c25; have H' := Aside0.mk H; clear H; have p160 : 0 ≤ (x6_3 : Int) := of_decide_eq_true z3; have q160 : x6_3 < (t157.length : Int) := of_decide_eq_true z3; obtain ⟨ad160, e160, hx160_0⟩ := Kd.at_string (Kd.R_reads' HO_4.out).2.2 x6_3 p160 q160; cases e160; replace p160 := eq_true p160; replace q160 := eq_true q160; go_wp2
              go_meet
              case rel => exact ⟨_, (true), z5, H', ⟨by have := HJ1.out; have := HK2.out; have := HK3.out; first | omega | exact Nat.le_refl _⟩, ⟨z102⟩, ⟨z101⟩, ⟨z0⟩⟩
             ·rw [if_neg c25] at H; have c25b0 : ((rdOf ByteArray.empty t157 x6_3).toList == ([46] : List UInt8)) = false := beq_eq_false_iff_ne.mpr c25; have c25b1 : ((rdOf ByteArray.empty t157 x6_3).toList != ([46] : List UInt8)) = true := bne_iff_ne.mpr c25; have H' := Aside0.mk H; clear H; have p160 : 0 ≤ (x6_3 : Int) := of_decide_eq_true z3; have q160 : x6_3 < (t157.length : Int) := of_decide_eq_true z3; obtain ⟨ad160, e160, hx160_0⟩ := Kd.at_string (Kd.R_reads' HO_4.out).2.2 x6_3 p160 q160; cases e160; replace p160 := eq_true p160; replace q160 := eq_true q160; have p161 : 0 ≤ (x6_3 : Int) := of_decide_eq_true z3; have q161 : x6_3 < (t157.length : Int) := of_decide_eq_true z3; obtain ⟨ad161, e161, hx161_0⟩ := Kd.at_string (Kd.R_reads' HO_4.out).2.2 x6_3 p161 q161; obtain rfl : ad160 = ad161 := (by injection e161); replace p161 := eq_true p161; replace q161 := eq_true q161; go_wp2
              go_meet
              case rel => exact ⟨_, (((rdOf ByteArray.empty t157 x6_3).toList == ([46, 46] : List UInt8))), z5, H', ⟨by have := HJ1.out; have := HK2.out; have := HK3.out; first | omega | exact Nat.le_refl _⟩, ⟨z102⟩, ⟨z101⟩, ⟨z0⟩⟩
            ·rw [if_neg c24] at H; exact absurd H (by simp)
           case rest =>
            clear HC22; (try clear c1); (try clear p1); (try clear q1); (try clear hx1); (try clear c2); (try clear p2); (try clear c3); (try clear c3b0); (try clear c3b1); (try clear c4); (try clear c4b0); (try clear c4b1); (try clear c5); (try clear c5b0); (try clear c5b1); (try clear p6); (try clear q6); (try clear hx6); (try clear qi6); (try clear c7); (try clear c7b0); (try clear c7b1); (try clear c9); (try clear c10); (try clear c10b0); (try clear c11); (try clear c11b0); (try clear p12); (try clear q12); (try clear hx12); (try clear c13); (try clear c13b0); (try clear c13b1); (try clear p14); (try clear q14); (try clear hx14); (try clear c15); (try clear c15b0); (try clear c15b1); (try clear p16); (try clear q16); (try clear hx16); (try clear c17); (try clear c17b0); (try clear c17b1); (try clear c19); (try clear c21); (try clear c21b0); (try clear c24); (try clear c24b0); (try clear c25); (try clear c25b0); (try clear c25b1); (try clear hx160_0); (try clear hx161_0); (try clear p1); (try clear p12); (try clear p14); (try clear p160); (try clear p161); (try clear p2); (try clear p6); (try clear q1); (try clear q12); (try clear q14); (try clear q160); (try clear q161); (try clear q6); obtain ⟨kq, x7_21, rfl, HA, HJ21, HO_4, HO_5, HB⟩ := hcut
            cases kq with
            | zero => exact absurd HA.out (by simp [spec_CleanPath.j3])
            | succ kj21 =>
             have H := HA.out; clear HA; simp only [spec_CleanPath.j3] at H; have HC26 := Aside0.mk H; clear H; go_upto_region 14 with (fail)
             go_cut [75] (fun v75 wc => ∃ (kq : Nat) (x75_25 : Bool), v75 = .bool x75_25 ∧ Aside0 (spec_CleanPath.j4 kq t157 x5_3 x6_3 x7_21 x75_25 = some r) ∧ Aside0 (kq ≤ kj21) ∧ Aside0 (Kd.R Kd.string 9 wc w.heap.size (fun k_ => some k_ ≠ (u5 : Value).ownBlock) (.slice Ao23 t157.length co23) t157) ∧ Aside0 (Kd.R Kd.string 9 wc w.heap.size (fun k_ => some k_ ≠ ((.slice Ao23 t157.length co23) : Value).ownBlock) u5 x5_3) ∧ Aside0 (Below w.heap.size w wc))
             case first =>
              have H := HC26.out; clear HC26
              by_cases c27 : 0 ≤ x6_3
              ·rw [if_pos c27] at H; have c27b0 : decide (0 ≤ x6_3) = true := decide_eq_true c27; clear c27; (first | rw [c27b0] | (simp only [i64_w, i32_w]; rw [c27b0]) | skip)
               by_cases c28 : x6_3 < (t157.length : Int)
               ·rw [if_pos c28] at H; have c28b0 : decide (x6_3 < (t157.length : Int)) = true := decide_eq_true c28; clear c28
                by_cases c29 : (rdOf ByteArray.empty t157 x6_3).toList = ([46, 46] : List UInt8)
                ·rw [if_pos c29] at H; have c29b0 : ((rdOf ByteArray.empty t157 x6_3).toList == ([46, 46] : List UInt8)) = true := beq_iff_eq.mpr c29; have c29b1 : ((rdOf ByteArray.empty t157 x6_3).toList != ([46, 46] : List UInt8)) = false := bne_eq_false_iff_eq.mpr c29; clear c29; have H' := Aside0.mk H; clear H; have p162 : 0 ≤ (x6_3 : Int) := of_decide_eq_true z3; have q162 : x6_3 < (t157.length : Int) := of_decide_eq_true z3; obtain ⟨ad162, e162, hx162_0⟩ := Kd.at_string (Kd.R_reads' HO_4.out).2.2 x6_3 p162 q162; cases e162; replace p162 := eq_true p162; replace q162 := eq_true q162; obtain ⟨Ao30, co30, eo30⟩ := Kd.R_slice HO_5.out; subst eo30; go_wp2
                 go_meet
                 case rel => exact ⟨_, (decide ((x5_3.length : Int) > 0)), z5, H', ⟨by have := HJ1.out; have := HK2.out; have := HK3.out; have := HJ21.out; first | omega | exact Nat.le_refl _⟩, ⟨z102⟩, ⟨z101⟩, ⟨z0⟩⟩
                ·rw [if_neg c29] at H; have c29b0 : ((rdOf ByteArray.empty t157 x6_3).toList == ([46, 46] : List UInt8)) = false := beq_eq_false_iff_ne.mpr c29; have c29b1 : ((rdOf ByteArray.empty t157 x6_3).toList != ([46, 46] : List UInt8)) = true := bne_iff_ne.mpr c29; have H' := Aside0.mk H; clear H; have p162 : 0 ≤ (x6_3 : Int) := of_decide_eq_true z3; have q162 : x6_3 < (t157.length : Int) := of_decide_eq_true z3; obtain ⟨ad162, e162, hx162_0⟩ := Kd.at_string (Kd.R_reads' HO_4.out).2.2 x6_3 p162 q162; cases e162; replace p162 := eq_true p162; replace q162 := eq_true q162; go_wp2
                 go_meet
                 case rel => exact ⟨_, (false), z5, H', ⟨by have := HJ1.out; have := HK2.out; have := HK3.out; have := HJ21.out; first | omega | exact Nat.le_refl _⟩, ⟨z102⟩, ⟨z101⟩, ⟨z0⟩⟩
               ·rw [if_neg c28] at H; exact absurd H (by simp)
              ·rw [if_neg c27] at H; exact absurd H (by simp)
             case rest =>
              clear HC26; (try clear c1); (try clear p1); (try clear q1); (try clear hx1); (try clear c2); (try clear p2); (try clear c3); (try clear c3b0); (try clear c3b1); (try clear c4); (try clear c4b0); (try clear c4b1); (try clear c5); (try clear c5b0); (try clear c5b1); (try clear p6); (try clear q6); (try clear hx6); (try clear qi6); (try clear c7); (try clear c7b0); (try clear c7b1); (try clear c9); (try clear c10); (try clear c10b0); (try clear c11); (try clear c11b0); (try clear p12); (try clear q12); (try clear hx12); (try clear c13); (try clear c13b0); (try clear c13b1); (try clear p14); (try clear q14); (try clear hx14); (try clear c15); (try clear c15b0); (try clear c15b1); (try clear p16); (try clear q16); (try clear hx16); (try clear c17); (try clear c17b0); (try clear c17b1); (try clear c19); (try clear c21); (try clear c21b0); (try clear c24); (try clear c24b0); (try clear c25); (try clear c25b0); (try clear c25b1); (try clear c27); (try clear c27b0); (try clear c28); (try clear c28b0); (try clear c29); (try clear c29b0); (try clear c29b1); (try clear hx160_0); (try clear hx161_0); (try clear hx162_0); (try clear p1); (try clear p12); (try clear p14); (try clear p16); (try clear p160); (try clear p161); (try clear p162); (try clear p2); (try clear p6); (try clear q1); (try clear q12); (try clear q14); (try clear q16); (try clear q160); (try clear q161); (try clear q162); (try clear q6); obtain ⟨kq, x75_25, rfl, HA, HJ25, HO_4, HO_5, HB⟩ := hcut
              cases kq with
              | zero => exact absurd HA.out (by simp [spec_CleanPath.j4])
              | succ kj25 =>
               have H := HA.out; clear HA; simp only [spec_CleanPath.j4] at H; have HC31 := Aside0.mk H; clear H; go_upto_if 75 with (fail)
               go_cut [5] (fun v5 wc => ∃ (kq : Nat) (x5_30 : List ByteArray), Aside0 (spec_CleanPath.j5 kq t157 x5_30 x6_3 x7_21 = some r) ∧ Aside0 (kq ≤ kj25) ∧ Aside0 (Kd.R Kd.string 9 wc w.heap.size (fun k_ => some k_ ≠ (v5 : Value).ownBlock) (.slice Ao23 t157.length co23) t157) ∧ Aside0 (Kd.R Kd.string 9 wc w.heap.size (fun k_ => some k_ ≠ ((.slice Ao23 t157.length co23) : Value).ownBlock) v5 x5_30) ∧ Aside0 (Below w.heap.size w wc))
               case first =>
                have H := HC31.out; clear HC31
                by_cases c32 : x75_25 = true
                ·subst c32; rw [if_pos rfl] at H; obtain ⟨ji33, hji33⟩ : ∃ j_ : Int, (wrap64 ((x5_3.length : Int) - 1)) = j_ := ⟨_, rfl⟩; replace H : (if 0 ≤ (ji33) then (if (ji33) ≤ (x5_3.length : Int) then (spec_CleanPath.j5 kj25 t157 (x5_3.take ((ji33) : Int).toNat) x6_3 x7_21) else (none)) else (none)) = some r := by first | (rw [hji33] at H; exact H) | (simp only [hji33] at H ⊢; exact H)
                 have hji33w : (IntKind.i64.wrap ((x5_3.length : Int) - 1)) = ji33 := (i64_w _).trans hji33
                 by_cases c34 : 0 ≤ (ji33)
                 ·rw [if_pos c34] at H; have c34b0 := eq_true c34; have c34b1 : decide (0 ≤ (ji33)) = true := decide_eq_true c34; clear c34
                  by_cases c35 : (ji33) ≤ (x5_3.length : Int)
                  ·rw [if_pos c35] at H; have c35b0 := eq_true c35; have c35b1 : decide ((ji33) ≤ (x5_3.length : Int)) = true := decide_eq_true c35; clear c35; obtain ⟨y163, hy163⟩ : ∃ y_ : List ByteArray, y_ = (x5_3.take ((ji33) : Int).toNat) := ⟨_, rfl⟩; replace H : (spec_CleanPath.j5 kj25 t157 y163 x6_3 x7_21) = some r := by first | (rw [hy163]; with_reducible exact H) | (have H2_ := (Option.bind_some _ _).symm.trans H; rw [hy163]; with_reducible exact H2_) | (have H2_ := (Option.bind_some _ _).symm.trans H; with_reducible exact H2_) | with_reducible exact H | (rw [hy163]; exact H) | exact H
                   have Ny163 := Aside0.mk hy163; clear hy163; have H' := Aside0.mk H; clear H; obtain ⟨Ao36, co36, eo36⟩ := Kd.R_slice HO_5.out; subst eo36; have q37 : ((ji33) : Int) ≤ ((x5_3.length : Int) : Int) := of_decide_eq_true z3; obtain ⟨i037, hi037, _, hsz37, _⟩ := info_parts info9; have hcut37 := cut_to (P := Tryz.prog) 43 9 .i64 Tryz.underlying43 hi037 Ao36 x5_3.length co36 (ji33) (of_decide_eq_true z3) q37 (Kd.R_reads' HO_5.out).2.1; have hr37 := Kd.R_take (m := ((ji33) : Int).toNat) HO_5.out (by omega); have hy37 : y163.length = ((ji33) : Int).toNat := (by rw [Ny163.out, List.length_take]; omega); rw [← Ny163.out] at hr37; rw [← hy37] at hr37 hcut37; clear hy37 hi037 hsz37 HO_5; have HO165 := Aside0.mk hr37; clear hr37; replace q37 := eq_true q37; go_wp2
                   go_meet
                   case rel => exact ⟨_, (y163), H', ⟨by have := HJ1.out; have := HK2.out; have := HK3.out; have := HJ21.out; have := HJ25.out; first | omega | exact Nat.le_refl _⟩, ⟨z102⟩, ⟨by (with_reducible repeat (first | apply Kd.R_alloc | apply Kd.R_drewN | apply Kd.R_drew)); first | exact HO165.out | exact Kd.R_mono HO165.out (fun _ hk_ => z51)⟩, ⟨z0⟩⟩
                  ·rw [if_neg c35] at H; exact absurd H (by simp)
                 ·rw [if_neg c34] at H; exact absurd H (by simp)
                ·replace c32 := Bool.eq_false_iff.mpr c32; subst c32; rw [if_neg Bool.false_ne_true] at H; have H' := Aside0.mk H; clear H; go_wp2
                 go_meet
                 case rel => exact ⟨_, (x5_3), H', ⟨by have := HJ1.out; have := HK2.out; have := HK3.out; have := HJ21.out; have := HJ25.out; first | omega | exact Nat.le_refl _⟩, ⟨z102⟩, ⟨z101⟩, ⟨z0⟩⟩
               case rest =>
                clear HC31; (try clear c1); (try clear p1); (try clear q1); (try clear hx1); (try clear c2); (try clear p2); (try clear c3); (try clear c3b0); (try clear c3b1); (try clear q3); (try clear c4); (try clear c4b0); (try clear c4b1); (try clear c5); (try clear c5b0); (try clear c5b1); (try clear p6); (try clear q6); (try clear hx6); (try clear qi6); (try clear c7); (try clear c7b0); (try clear c7b1); (try clear c9); (try clear c10); (try clear c10b0); (try clear c11); (try clear c11b0); (try clear p12); (try clear q12); (try clear hx12); (try clear c13); (try clear c13b0); (try clear c13b1); (try clear p14); (try clear q14); (try clear hx14); (try clear c15); (try clear c15b0); (try clear c15b1); (try clear p16); (try clear q16); (try clear hx16); (try clear c17); (try clear c17b0); (try clear c17b1); (try clear c19); (try clear c21); (try clear c21b0); (try clear c24); (try clear c24b0); (try clear c25); (try clear c25b0); (try clear c25b1); (try clear c27); (try clear c27b0); (try clear c28); (try clear c28b0); (try clear c29); (try clear c29b0); (try clear c29b1); (try clear c32); (try clear c34); (try clear c34b0); (try clear c34b1); (try clear c35); (try clear c35b0); (try clear c35b1); (try clear q37); (try clear hx160_0); (try clear hx161_0); (try clear hx162_0); (try clear p1); (try clear p12); (try clear p14); (try clear p16); (try clear p160); (try clear p161); (try clear p162); (try clear p2); (try clear p6); (try clear q1); (try clear q12); (try clear q14); (try clear q16); (try clear q160); (try clear q161); (try clear q162); (try clear q37); (try clear q6); obtain ⟨kq, x5_30, HA, HJ30, HO_4, HO_5, HB⟩ := hcut
                cases kq with
                | zero => exact absurd HA.out (by simp [spec_CleanPath.j5])
                | succ kj30 =>
                 have H := HA.out; clear HA; simp only [spec_CleanPath.j5] at H
                 by_cases c38 : x7_21 = true
                 ·subst c38; rw [if_pos rfl] at H
                  by_cases c39 : (wrap64 (x6_3 + 1)) = (t157.length : Int)
                  ·rw [if_pos c39] at H; have c39b0 : ((wrap64 (x6_3 + 1)) == (t157.length : Int)) = true := beq_iff_eq.mpr c39; have c39b1 : ((wrap64 (x6_3 + 1)) != (t157.length : Int)) = false := bne_eq_false_iff_eq.mpr c39; clear c39
                   by_cases c40 : x5_30.length < 8796093022208
                   ·rw [if_pos c40] at H; have LMc40 := Aside0.mk c40; clear c40; obtain ⟨y166, hy166⟩ : ∃ y_ : List ByteArray, y_ = (x5_30 ++ [(⟨#[]⟩ : ByteArray)]) := ⟨_, rfl⟩; replace H : (spec_CleanPath.l1 kj30 t157 y166 (wrap64 (x6_3 + 1))) = some r := by first | (rw [hy166]; with_reducible exact H) | (have H2_ := (Option.bind_some _ _).symm.trans H; rw [hy166]; with_reducible exact H2_) | (have H2_ := (Option.bind_some _ _).symm.trans H; with_reducible exact H2_) | with_reducible exact H | (rw [hy166]; exact H) | exact H
                    have Ny166 := Aside0.mk hy166; clear hy166; have H' := Aside0.mk H; clear H; go_wp2_with (first | ((with_reducible refine gate_builtin (b := .append) (xs := #[.tmp 95, .tmp 96]) rfl ?_); (try (refine gate_guard (by rfl) ?_; dsimp only)); at_builtin; refine Kd.R_append Kd.string (w0 := w) w.heap.size rfl (.tmp 95) (.tmp 96) 43 9 (.string ⟨#[]⟩) 16 rfl Tryz.underlying43 info9 rfl (by decide) (by omega) u5 x5_30 (⟨#[]⟩ : ByteArray) [.string (⟨#[]⟩ : ByteArray)] (fun k_ => some k_ ≠ (.slice Ao23 t157.length co23 : Value).ownBlock) (fun _ => False) rfl rfl ?aP (fun _ hk => hk.elim) ?aF ?aO ?aB ?aS ?aL ?_; (case aP => exact rfl); (case aB => exact z0); (case aF => exact (fun k_ hk => Kd.fresh' (Kd.R_lt z48) k_ hk)); (case aO => exact z59); (case aS => exact (below_size z0)); (case aL => have := LMc40.out; omega); intro v167 w41 ho hb hg hat; rw [← Ny166.out] at ho; replace HO_4 := Aside0.mk (Kd.R_after (ok := (fun _ => True)) z54 hg hat); replace HB := Aside0.mk (hb); have HO168 := Aside0.mk (ho); clear HO_5; clear ho hb hg hat))
                    go_roundg kj30
                    (case measure => have := HJ1.out; have := HK2.out; have := HK3.out; have := HJ21.out; have := HJ25.out; have := HJ30.out; omega); case rel => exact ⟨(y166), (wrap64 (x6_3 + 1)), z5, H', ⟨z84⟩, ⟨z76⟩, ⟨by (with_reducible repeat (first | apply Kd.R_alloc | apply Kd.R_drewN | apply Kd.R_drew)); first | exact HO168.out | exact Kd.R_mono HO168.out (fun _ hk_ => z51)⟩, ⟨z0⟩⟩
                   ·rw [if_neg c40] at H; exact absurd H (by simp)
                  ·rw [if_neg c39] at H; have c39b0 : ((wrap64 (x6_3 + 1)) == (t157.length : Int)) = false := beq_eq_false_iff_ne.mpr c39; have c39b1 : ((wrap64 (x6_3 + 1)) != (t157.length : Int)) = true := bne_iff_ne.mpr c39; have H' := Aside0.mk H; clear H; go_wp2
                   go_roundg kj30
                   (case measure => have := HJ1.out; have := HK2.out; have := HK3.out; have := HJ21.out; have := HJ25.out; have := HJ30.out; omega); case rel => exact ⟨(x5_30), (wrap64 (x6_3 + 1)), z5, H', ⟨z84⟩, ⟨z102⟩, ⟨z101⟩, ⟨z0⟩⟩
                 ·replace c38 := Bool.eq_false_iff.mpr c38; subst c38; rw [if_neg Bool.false_ne_true] at H
                  by_cases c42 : 0 ≤ x6_3
                  ·rw [if_pos c42] at H; have c42b0 : decide (0 ≤ x6_3) = true := decide_eq_true c42; clear c42
                   by_cases c43 : x6_3 < (t157.length : Int)
                   ·rw [if_pos c43] at H; have c43b0 : decide (x6_3 < (t157.length : Int)) = true := decide_eq_true c43; clear c43
                    by_cases c44 : x5_30.length < 8796093022208
                    ·rw [if_pos c44] at H; have LMc44 := Aside0.mk c44; clear c44; obtain ⟨y170, hy170⟩ : ∃ y_ : List ByteArray, y_ = (x5_30 ++ [rdOf ByteArray.empty t157 x6_3]) := ⟨_, rfl⟩; replace H : (spec_CleanPath.l1 kj30 t157 y170 (wrap64 (x6_3 + 1))) = some r := by first | (rw [hy170]; with_reducible exact H) | (have H2_ := (Option.bind_some _ _).symm.trans H; rw [hy170]; with_reducible exact H2_) | (have H2_ := (Option.bind_some _ _).symm.trans H; with_reducible exact H2_) | with_reducible exact H | (rw [hy170]; exact H) | exact H
                     have Ny170 := Aside0.mk hy170; clear hy170; have H' := Aside0.mk H; clear H; have p169 : 0 ≤ (x6_3 : Int) := of_decide_eq_true z3; have q169 : x6_3 < (t157.length : Int) := of_decide_eq_true z3; obtain ⟨ad169, e169, hx169_0⟩ := Kd.at_string (Kd.R_reads' HO_4.out).2.2 x6_3 p169 q169; cases e169; replace p169 := eq_true p169; replace q169 := eq_true q169; go_wp2_with (first | ((with_reducible refine gate_builtin (b := .append) (xs := #[.tmp 83, .tmp 88]) rfl ?_); (try (refine gate_guard (by rfl) ?_; dsimp only)); at_builtin; refine Kd.R_append Kd.string (w0 := w) w.heap.size rfl (.tmp 83) (.tmp 88) 43 9 (.string ⟨#[]⟩) 16 rfl Tryz.underlying43 info9 rfl (by decide) (by omega) u5 x5_30 (rdOf ByteArray.empty t157 x6_3) [.string (rdOf ByteArray.empty t157 x6_3)] (fun k_ => some k_ ≠ (.slice (some ad169) t157.length co23 : Value).ownBlock) (fun _ => False) rfl rfl ?aP (fun _ hk => hk.elim) ?aF ?aO ?aB ?aS ?aL ?_; (case aP => exact rfl); (case aB => exact z0); (case aF => exact (fun k_ hk => Kd.fresh' (Kd.R_lt z48) k_ hk)); (case aO => exact z59); (case aS => exact (below_size z0)); (case aL => have := LMc44.out; omega); intro v171 w45 ho hb hg hat; rw [← Ny170.out] at ho; replace HO_4 := Aside0.mk (Kd.R_after (ok := (fun _ => True)) z54 hg hat); replace HB := Aside0.mk (hb); have HO172 := Aside0.mk (ho); clear HO_5; clear ho hb hg hat))
                     go_roundg kj30
                     (case measure => have := HJ1.out; have := HK2.out; have := HK3.out; have := HJ21.out; have := HJ25.out; have := HJ30.out; omega); case rel => exact ⟨(y170), (wrap64 (x6_3 + 1)), z5, H', ⟨z84⟩, ⟨z76⟩, ⟨by (with_reducible repeat (first | apply Kd.R_alloc | apply Kd.R_drewN | apply Kd.R_drew)); first | exact HO172.out | exact Kd.R_mono HO172.out (fun _ hk_ => z51)⟩, ⟨z0⟩⟩
                    ·rw [if_neg c44] at H; exact absurd H (by simp)
                   ·rw [if_neg c43] at H; exact absurd H (by simp)
                  ·rw [if_neg c42] at H; exact absurd H (by simp)
          ·rw [if_neg c21] at H; have c21b0 : decide (x6_3 < (t157.length : Int)) = false := decide_eq_false c21; clear c21; have H' := Aside0.mk H; clear H; obtain ⟨Ao46, co46, eo46⟩ := Kd.R_slice HO_4.out; subst eo46; go_wp2
           go_loopg [8, 9] k3 (fun kq v8 v9 w' => ∃ (x8_4 : ByteArray) (x9_4 : Int), v8 = .string x8_4 ∧ v9 = .int .i64 x9_4 ∧ Aside0 (spec_CleanPath.l2 kq x5_3 x8_4 x9_4 = some r) ∧ Aside0 (kq ≤ k3) ∧ Aside0 (Kd.R Kd.string 9 w' w.heap.size (fun _ => True) u5 x5_3) ∧ Aside0 (Below w.heap.size w w'))
           case atStart => exact ⟨((⟨#[]⟩ : ByteArray)), (0), z5, z5, H', ⟨Nat.le_refl _⟩, ⟨by (with_reducible repeat (first | apply Kd.R_alloc | apply Kd.R_drewN | apply Kd.R_drew)); exact Kd.R_mono HO_5.out (fun _ hk => trivial)⟩, ⟨z0⟩⟩
           case round =>
            clear H'; (try clear c1); (try clear p1); (try clear q1); (try clear hx1); (try clear c2); (try clear p2); (try clear c3); (try clear c3b0); (try clear c3b1); (try clear q3); (try clear c4); (try clear c4b0); (try clear c4b1); (try clear c5); (try clear c5b0); (try clear c5b1); (try clear p6); (try clear q6); (try clear hx6); (try clear qi6); (try clear c7); (try clear c7b0); (try clear c7b1); (try clear c9); (try clear c10); (try clear c10b0); (try clear c11); (try clear c11b0); (try clear p12); (try clear q12); (try clear hx12); (try clear c13); (try clear c13b0); (try clear c13b1); (try clear p14); (try clear q14); (try clear hx14); (try clear c15); (try clear c15b0); (try clear c15b1); (try clear p16); (try clear q16); (try clear hx16); (try clear c17); (try clear c17b0); (try clear c17b1); (try clear c19); (try clear c21); (try clear c21b0); (try clear c24); (try clear c24b0); (try clear c25); (try clear c25b0); (try clear c25b1); (try clear c27); (try clear c27b0); (try clear c28); (try clear c28b0); (try clear c29); (try clear c29b0); (try clear c29b1); (try clear c32); (try clear c34); (try clear c34b0); (try clear c34b1); (try clear c35); (try clear c35b0); (try clear c35b1); (try clear q37); (try clear c38); (try clear c39); (try clear c39b0); (try clear c39b1); (try clear c40); (try clear c42); (try clear c42b0); (try clear c43); (try clear c43b0); (try clear c44); (try clear hx160_0); (try clear hx161_0); (try clear hx162_0); (try clear hx169_0); (try clear p1); (try clear p12); (try clear p14); (try clear p16); (try clear p160); (try clear p161); (try clear p162); (try clear p169); (try clear p2); (try clear p6); (try clear q1); (try clear q12); (try clear q14); (try clear q16); (try clear q160); (try clear q161); (try clear q162); (try clear q169); (try clear q3); (try clear q37); (try clear q6); obtain ⟨x8_4, x9_4, rfl, rfl, HA, HK4, HO_5, HB⟩ := hrel
            cases gk with
            | zero => exact absurd HA.out (by simp [spec_CleanPath.l2])
            | succ k4 =>
             have H := HA.out; clear HA; simp only [spec_CleanPath.l2] at H
             by_cases c47 : x9_4 < (x5_3.length : Int)
             ·rw [if_pos c47] at H; have c47b0 : decide (x9_4 < (x5_3.length : Int)) = true := decide_eq_true c47; clear c47
              by_cases c48 : x8_4.size + 1 ≤ 9223372036854775807
              ·rw [if_pos c48] at H; have c48b0 := eq_true c48; have c48b1 : decide (x8_4.size + 1 ≤ 9223372036854775807) = true := decide_eq_true c48; try have c48b2 : (9223372036854775807 < x8_4.size + 1) = False := eq_false (Nat.not_lt.2 c48)
               by_cases c49 : 0 ≤ x9_4
               ·rw [if_pos c49] at H; have c49b0 : decide (0 ≤ x9_4) = true := decide_eq_true c49; clear c49
                by_cases c50 : (x8_4 ++ (⟨#[47]⟩ : ByteArray)).size + (rdOf ByteArray.empty x5_3 x9_4).size ≤ 9223372036854775807
                ·rw [if_pos c50] at H; have c50b0 := eq_true c50; have c50b1 : decide ((x8_4 ++ (⟨#[47]⟩ : ByteArray)).size + (rdOf ByteArray.empty x5_3 x9_4).size ≤ 9223372036854775807) = true := decide_eq_true c50; (try have c50b2 : (9223372036854775807 < (x8_4 ++ (⟨#[47]⟩ : ByteArray)).size + (rdOf ByteArray.empty x5_3 x9_4).size) = False := eq_false (Nat.not_lt.2 c50)); (try have c50z := c50b2; simp only [ByteArray.size_append, show (⟨#[47]⟩ : ByteArray).size = 1 from rfl] at c50z; have c50b3 := c50z); have H' := Aside0.mk H; clear H; obtain ⟨Ao51, co51, eo51⟩ := Kd.R_slice HO_5.out; subst eo51; have p173 : 0 ≤ (x9_4 : Int) := of_decide_eq_true z3; have q173 : x9_4 < (x5_3.length : Int) := of_decide_eq_true z3; obtain ⟨ad173, e173, hx173_0⟩ := Kd.at_string (Kd.R_reads' HO_5.out).2.2 x9_4 p173 q173; cases e173; replace p173 := eq_true p173; replace q173 := eq_true q173; go_wp2
                 go_roundg k4
                 (case measure => have := HJ1.out; have := HK2.out; have := HK3.out; have := HK4.out; omega); case rel => exact ⟨((x8_4 ++ (⟨#[47]⟩ : ByteArray)) ++ (rdOf ByteArray.empty x5_3 x9_4)), (wrap64 (x9_4 + 1)), z5, z5, H', ⟨by have := HJ1.out; have := HK2.out; have := HK3.out; have := HK4.out; omega⟩, ⟨z101⟩, ⟨z0⟩⟩
                ·rw [if_neg c50] at H; exact absurd H (by simp)
               ·rw [if_neg c49] at H; exact absurd H (by simp)
              ·rw [if_neg c48] at H; exact absurd H (by simp)
             ·rw [if_neg c47] at H; have c47b0 : decide (x9_4 < (x5_3.length : Int)) = false := decide_eq_false c47; clear c47
              by_cases c52 : x8_4.toList = ([] : List UInt8)
              ·rw [if_pos c52] at H; have c52b0 : (x8_4.toList == ([] : List UInt8)) = true := beq_iff_eq.mpr c52; have c52e : x8_4.toList.isEmpty = true := by have hz_ := beq_iff_eq.1 c52b0; rw [hz_]; rfl
               (try rw [c52e]); have c52b1 : (x8_4.toList != ([] : List UInt8)) = false := bne_eq_false_iff_eq.mpr c52; clear c52; obtain rfl := Option.some.inj H; obtain ⟨Ao53, co53, eo53⟩ := Kd.R_slice HO_5.out; subst eo53; go_wp2
               go_ret; exact ⟨z2, z0⟩
              ·rw [if_neg c52] at H; have c52b0 : (x8_4.toList == ([] : List UInt8)) = false := beq_eq_false_iff_ne.mpr c52; have c52e : x8_4.toList.isEmpty = false := by cases hz_ : x8_4.toList with | nil => (rw [hz_] at c52b0; exact absurd c52b0 (by decide)) | cons _ _ => rfl
               (try rw [c52e]); have c52b1 : (x8_4.toList != ([] : List UInt8)) = true := bne_iff_ne.mpr c52; obtain rfl := Option.some.inj H; obtain ⟨Ao54, co54, eo54⟩ := Kd.R_slice HO_5.out; subst eo54; go_wp2
               go_ret; exact ⟨z2, z0⟩
       ·rw [if_neg c17] at H; exact absurd H (by simp)

end Go.Proofs.YtkkolioolgpljaaGreatDoor.GFnUrls
