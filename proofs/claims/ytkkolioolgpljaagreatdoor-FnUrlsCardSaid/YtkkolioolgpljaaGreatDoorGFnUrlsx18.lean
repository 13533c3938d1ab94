-- Laid by gen.py of this session (over the kit's printing program): what the law FnUrls reaches, as Lean functions, and that Go comes to just that.
import Derived.Test.YtkkolioolgpljaaGreatDoorGFnUrlsx0
import Derived.Test.YtkkolioolgpljaaGreatDoorGFnUrlsx15
import Derived.Test.YtkkolioolgpljaaGreatDoorGFnUrlsx17
import Derived.Test.YtkkolioolgpljaaGreatDoorZFnUrls
namespace Go.Proofs.YtkkolioolgpljaaGreatDoor.GFnUrls
open Go.RowKit Go.Proofs.YtkkolioolgpljaaGreatDoorW.PrintWords Go.Proofs.YtkkolioolgpljaaGreatDoorW.PrintLast Go.Proofs.YtkkolioolgpljaaGreatDoorW.PrintMore Go.Proofs.YtkkolioolgpljaaGreatDoorW.Zs
attribute [local go_sem] max2_int min2_int max_two min_two max_three min_three max_four min_four   -- for this text's walks alone
set_option linter.unusedVariables false
set_option linter.unusedSimpArgs false

/-! ### impl_all__impl_isHost_1: function 30 at a function value -/
def impl_all__impl_isHost_1.l0 : Nat → ByteArray → Int → Option (Bool)
 | 0, _, _ => none
 | k + 1, x0, x5 => if x5 < (x0.size : Int) then (if 0 ≤ x5 then ((impl_isHost_1.f (bt x0 x5)).bind fun t386 => (if t386 = true then (impl_all__impl_isHost_1.l0 k x0 (wrap64 (x5 + 1))) else (some false))) else (none)) else (some true)
def impl_all__impl_isHost_1.f (k : Nat) (a0 : ByteArray) : Option (Bool) := impl_all__impl_isHost_1.l0 k a0 0
theorem impl_all__impl_isHost_1.mono_l : ∀ k, (∀ y0 y1, LeO (impl_all__impl_isHost_1.l0 k y0 y1) (impl_all__impl_isHost_1.l0 (k + 1) y0 y1))
 | 0 => fun _ _ r h => by simp [impl_all__impl_isHost_1.l0] at h
 | k + 1 => by
  have ih0 := impl_all__impl_isHost_1.mono_l k
  ·intro y0 y1; unfold impl_all__impl_isHost_1.l0
   repeat' first | (with_reducible first | exact ih0 _ _ | exact LeO.refl _ | exact LeO.none _ | refine LeO.ite ?_ ?_ | refine LeO.bind ?_ (fun _ => ?_)) | exact ih0 _ _ | exact LeO.none _ | refine LeO.ite ?_ ?_ | refine LeO.bind ?_ (fun _ => ?_)
theorem impl_all__impl_isHost_1.mono : ∀ a0 k, LeO (impl_all__impl_isHost_1.f k a0) (impl_all__impl_isHost_1.f (k + 1) a0) := by
 intro a0 k; have ih0 := impl_all__impl_isHost_1.mono_l k; unfold impl_all__impl_isHost_1.f
 repeat' first | (with_reducible first | exact ih0 _ _ | exact LeO.refl _ | exact LeO.none _ | refine LeO.ite ?_ ?_ | refine LeO.bind ?_ (fun _ => ?_)) | exact ih0 _ _ | exact LeO.none _ | refine LeO.ite ?_ ?_ | refine LeO.bind ?_ (fun _ => ?_)
set_option maxHeartbeats 8000000 in
set_option maxRecDepth 100000 in
theorem impl_all__impl_isHost_1.calls (k : Nat) (a0 : ByteArray) (r : Bool) (w : World) (h : impl_all__impl_isHost_1.f k a0 = some r) :
  Calls Tryz.prog 30 #[.string a0, .func (.func 81) #[] #[]] w fun e w' => e = .returned (.bool r) ∧ Drawn0 w w' := by
 have H : (impl_all__impl_isHost_1.l0 k a0 0) = some r := h; clear h; have H' := Aside0.mk H; clear H; go_enter Tryz.func30, Tryz.ntmps30
 go_wp2
 go_loopg [5] k (fun kq v5 w' => ∃ (x5_1 : Int), v5 = .int .i64 x5_1 ∧ Aside0 (impl_all__impl_isHost_1.l0 kq a0 x5_1 = some r) ∧ Aside0 (kq ≤ k) ∧ Drawn0 w w')
 case atStart => exact ⟨(0), z5, H', ⟨Nat.le_refl _⟩, z13⟩
 case round =>
  clear H'; obtain ⟨x5_1, rfl, HA, HK1, ⟨m1, rfl⟩⟩ := hrel
  cases gk with
  | zero => exact absurd HA.out (by simp [impl_all__impl_isHost_1.l0])
  | succ k1 =>
   have H := HA.out; clear HA; simp only [impl_all__impl_isHost_1.l0] at H
   by_cases c2 : x5_1 < (a0.size : Int)
   ·rw [if_pos c2] at H; have c2b0 : decide (x5_1 < (a0.size : Int)) = true := decide_eq_true c2; clear c2
    by_cases c3 : 0 ≤ x5_1
    ·rw [if_pos c3] at H; have c3b0 : decide (0 ≤ x5_1) = true := decide_eq_true c3; clear c3; replace H := Option.bind_eq_some_iff.mp H; obtain ⟨t386, A50, H⟩ := H; (try dsimp only at H); have A5 := Aside0.mk A50; clear A50; have HC6 := Aside0.mk H; clear H; have p4 : 0 ≤ (x5_1 : Int) := of_decide_eq_true z3; have q4 : x5_1 < (a0.size : Int) := of_decide_eq_true z3; have hx4 := bt_at a0 x5_1; replace p4 := eq_true p4; replace q4 := eq_true q4; go_upto_if 17 with (first | (go_at_call 81; (with_reducible refine (impl_isHost_1.calls (bt a0 x5_1) t386 _ A5.out).mono ?_); rintro e w' ⟨rfl, ⟨nd, rfl⟩⟩))
     have H := HC6.out; clear HC6
     by_cases c7 : t386 = true
     ·subst c7; rw [if_pos rfl] at H; have H' := Aside0.mk H; clear H; go_wp2
      go_roundg k1
      (case measure => have := HK1.out; omega); case rel => exact ⟨(wrap64 (x5_1 + 1)), z5, H', ⟨z79⟩, z13⟩
     ·replace c7 := Bool.eq_false_iff.mpr c7; subst c7; rw [if_neg Bool.false_ne_true] at H; obtain rfl := Option.some.inj H; go_wp2
      go_ret; exact ⟨z5, z13⟩
    ·rw [if_neg c3] at H; exact absurd H (by simp)
   ·rw [if_neg c2] at H; have c2b0 : decide (x5_1 < (a0.size : Int)) = false := decide_eq_false c2; clear c2; obtain rfl := Option.some.inj H; go_wp2
    go_ret; exact ⟨z5, z13⟩

/-! ### impl_isHost: function 54 -/
def impl_isHost.j0 : Nat → ByteArray → Bool → Option (Bool)
 | 0, _, _ => none
 | k + 1, x0, x11 => if x11 = true then (some false) else ((strings_Split.f x0 (⟨#[46]⟩ : ByteArray)).bind fun t389 => ((slices_Contains_string_string.f k t389 (⟨#[]⟩ : ByteArray)).bind fun t392 => (some (!t392))))
def impl_isHost.f (k : Nat) (a0 : ByteArray) : Option (Bool) := (impl_within.f (a0.size : Int) 1 60).bind fun t387 => (if t387 = true then ((impl_all__impl_isHost_1.f k a0).bind fun t388 => (impl_isHost.j0 k a0 (!t388))) else (impl_isHost.j0 k a0 true))
theorem impl_isHost.mono_l : ∀ k, (∀ y0 y1, LeO (impl_isHost.j0 k y0 y1) (impl_isHost.j0 (k + 1) y0 y1))
 | 0 => fun _ _ r h => by simp [impl_isHost.j0] at h
 | k + 1 => by
  have ih0 := impl_isHost.mono_l k
  ·intro y0 y1; unfold impl_isHost.j0
   repeat' first | (with_reducible first | exact ih0 _ _ | exact impl_all__impl_isHost_1.mono _ _ | exact slices_Contains_string_string.mono _ _ _ | exact LeO.refl _ | exact LeO.none _ | refine LeO.ite ?_ ?_ | refine LeO.bind ?_ (fun _ => ?_)) | exact ih0 _ _ | exact impl_all__impl_isHost_1.mono _ _ | exact slices_Contains_string_string.mono _ _ _ | exact LeO.none _ | refine LeO.ite ?_ ?_ | refine LeO.bind ?_ (fun _ => ?_)
theorem impl_isHost.mono : ∀ a0 k, LeO (impl_isHost.f k a0) (impl_isHost.f (k + 1) a0) := by
 intro a0 k; have ih0 := impl_isHost.mono_l k; unfold impl_isHost.f
 repeat' first | (with_reducible first | exact ih0 _ _ | exact impl_all__impl_isHost_1.mono _ _ | exact slices_Contains_string_string.mono _ _ _ | exact LeO.refl _ | exact LeO.none _ | refine LeO.ite ?_ ?_ | refine LeO.bind ?_ (fun _ => ?_)) | exact ih0 _ _ | exact impl_all__impl_isHost_1.mono _ _ | exact slices_Contains_string_string.mono _ _ _ | exact LeO.none _ | refine LeO.ite ?_ ?_ | refine LeO.bind ?_ (fun _ => ?_)
set_option maxHeartbeats 8000000 in
set_option maxRecDepth 100000 in
theorem impl_isHost.calls (k : Nat) (a0 : ByteArray) (r : Bool) (w : World) (hG : Gl w) (h : impl_isHost.f k a0 = some r) :
  Calls Tryz.prog 54 #[.string a0] w fun e w' => e = .returned (.bool r) ∧ Below w.heap.size w w' := by
 have HG := Aside0.mk hG; clear hG; have HB := Aside0.mk (Below.refl w.heap.size w); have H : ((impl_within.f (a0.size : Int) 1 60).bind fun t387 => (if t387 = true then ((impl_all__impl_isHost_1.f k a0).bind fun t388 => (impl_isHost.j0 k a0 (!t388))) else (impl_isHost.j0 k a0 true))) = some r := h; clear h; have HC2 := Aside0.mk H; clear H; go_enter Tryz.func54, Tryz.ntmps54
 go_upto_region 1 with (fail)
 go_cut [11] (fun v11 wc => ∃ (kq : Nat) (x11_1 : Bool), v11 = .bool x11_1 ∧ Aside0 (impl_isHost.j0 kq a0 x11_1 = some r) ∧ Aside0 (kq ≤ k) ∧ Aside0 (Below w.heap.size w wc))
 case first =>
  have H := HC2.out; clear HC2; replace H := Option.bind_eq_some_iff.mp H; obtain ⟨t387, A30, H⟩ := H; (try dsimp only at H); have A3 := Aside0.mk A30; clear A30
  by_cases c4 : t387 = true
  ·subst c4; rw [if_pos rfl] at H; replace H := Option.bind_eq_some_iff.mp H; obtain ⟨t388, A50, H⟩ := H; (try dsimp only at H); have A5 := Aside0.mk A50; clear A50; have H' := Aside0.mk H; clear H; go_wp2_with (first | ((with_reducible refine gate_callee (f := 55) rfl ?_); refine goesR_ 5 Tryz.func55 #[.int .i64 (a0.size : Int), .int .i64 1, .int .i64 60] (impl_within.calls (a0.size : Int) 1 60 true _ A3.out) ?_; rintro w' ⟨nd, rfl⟩) | (go_at_call 30; (with_reducible refine (impl_all__impl_isHost_1.calls k a0 t388 _ A5.out).mono ?_); rintro e w' ⟨rfl, ⟨nd, rfl⟩⟩))
   go_meet
   case rel => exact ⟨_, (!t388), z5, H', ⟨z35⟩, ⟨z0⟩⟩
  ·replace c4 := Bool.eq_false_iff.mpr c4; subst c4; rw [if_neg Bool.false_ne_true] at H; have H' := Aside0.mk H; clear H; go_wp2_with (first | ((with_reducible refine gate_callee (f := 55) rfl ?_); refine goesR_ 5 Tryz.func55 #[.int .i64 (a0.size : Int), .int .i64 1, .int .i64 60] (impl_within.calls (a0.size : Int) 1 60 false _ A3.out) ?_; rintro w' ⟨nd, rfl⟩))
   go_meet
   case rel => exact ⟨_, (true), z5, H', ⟨z35⟩, ⟨z0⟩⟩
 case rest =>
  clear HC2; (try clear p2); (try clear c4); (try clear c5); obtain ⟨kq, x11_1, rfl, HA, HJ1, HB⟩ := hcut
  cases kq with
  | zero => exact absurd HA.out (by simp [impl_isHost.j0])
  | succ kj1 =>
   have H := HA.out; clear HA; simp only [impl_isHost.j0] at H
   by_cases c6 : x11_1 = true
   ·subst c6; rw [if_pos rfl] at H; obtain rfl := Option.some.inj H; go_wp2
    go_ret; exact ⟨z2, z0⟩
   ·replace c6 := Bool.eq_false_iff.mpr c6; subst c6; rw [if_neg Bool.false_ne_true] at H; replace H := Option.bind_eq_some_iff.mp H; obtain ⟨t389, A70, H⟩ := H; (try dsimp only at H); have A7 := Aside0.mk A70; clear A70; replace H := Option.bind_eq_some_iff.mp H; obtain ⟨t392, A80, H⟩ := H; (try dsimp only at H); have A8 := Aside0.mk A80; clear A80; obtain rfl := Option.some.inj H; go_wp2_with (first | ((with_reducible refine gate_callee (f := 27) rfl ?_); refine goesQ_ 13 Tryz.func27 #[.string a0, .string (⟨#[46]⟩ : ByteArray)] ?_; (with_reducible refine (strings_Split.calls a0 (⟨#[46]⟩ : ByteArray) t389 _ ?side1 A7.out).mono ?_); (case side1 => exact Gl.below HG.out z0); rintro e w9 ⟨v390, rfl, ho0, hb⟩; refine ⟨_, rfl, ?_⟩; have HO391 := Aside0.mk (Kd.R_lower ho0 (below_size z0)); replace HB := Aside0.mk (below_step z0 hb); (try clear hb); (try clear ho0); obtain ⟨Ao10, co10, eo10⟩ := Kd.R_slice HO391.out; subst eo10) | ((with_reducible refine gate_callee (f := 84) rfl ?_); refine goesQ_ 14 Tryz.func84 #[.slice Ao10 t389.length co10, .string (⟨#[]⟩ : ByteArray)] ?_; (with_reducible refine (slices_Contains_string_string.calls kj1 _ _ t389 (⟨#[]⟩ : ByteArray) t392 _ ?side1 ?side2 A8.out).mono ?_); (case side1 => repeat (first | exact (Kd.R_reads' HO391.out).2.2 | (with_reducible refine Kd.C_alloc ?_ _) | (with_reducible refine Kd.C_drewN ?_ _) | (with_reducible refine Kd.C_drew ?_))); (case side2 => exact (Kd.R_reads' HO391.out).2.1); rintro e w' ⟨rfl, ⟨nd, rfl⟩⟩; refine ⟨_, rfl, ?_⟩))
    go_ret; exact ⟨z2, z0⟩

end Go.Proofs.YtkkolioolgpljaaGreatDoor.GFnUrls
