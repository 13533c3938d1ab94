-- Laid by gen.py of this session (over the kit's printing program): what the law FnUrls reaches, as Lean functions, and that Go comes to just that.
import Derived.Test.YtkkolioolgpljaaGreatDoorGFnUrlsx0
import Derived.Test.YtkkolioolgpljaaGreatDoorGFnUrlsx15
import Derived.Test.YtkkolioolgpljaaGreatDoorGFnUrlsx16
import Derived.Test.YtkkolioolgpljaaGreatDoorZFnUrls
namespace Go.Proofs.YtkkolioolgpljaaGreatDoor.GFnUrls
open Go.RowKit Go.Proofs.YtkkolioolgpljaaGreatDoorW.PrintWords Go.Proofs.YtkkolioolgpljaaGreatDoorW.PrintLast Go.Proofs.YtkkolioolgpljaaGreatDoorW.PrintMore Go.Proofs.YtkkolioolgpljaaGreatDoorW.Zs
attribute [local go_sem] max2_int min2_int max_two min_two max_three min_three max_four min_four   -- for this text's walks alone
set_option linter.unusedVariables false
set_option linter.unusedSimpArgs false

/-! ### impl_all__impl_isVisible: function 30 at a function value -/
def impl_all__impl_isVisible.l0 : Nat → ByteArray → Int → Option (Bool)
 | 0, _, _ => none
 | k + 1, x0, x5 => if x5 < (x0.size : Int) then (if 0 ≤ x5 then ((impl_isVisible.f (bt x0 x5)).bind fun t357 => (if t357 = true then (impl_all__impl_isVisible.l0 k x0 (wrap64 (x5 + 1))) else (some false))) else (none)) else (some true)
def impl_all__impl_isVisible.f (k : Nat) (a0 : ByteArray) : Option (Bool) := impl_all__impl_isVisible.l0 k a0 0
theorem impl_all__impl_isVisible.mono_l : ∀ k, (∀ y0 y1, LeO (impl_all__impl_isVisible.l0 k y0 y1) (impl_all__impl_isVisible.l0 (k + 1) y0 y1))
 | 0 => fun _ _ r h => by simp [impl_all__impl_isVisible.l0] at h
 | k + 1 => by
  have ih0 := impl_all__impl_isVisible.mono_l k
  ·intro y0 y1; unfold impl_all__impl_isVisible.l0
   repeat' first | (with_reducible first | exact ih0 _ _ | exact LeO.refl _ | exact LeO.none _ | refine LeO.ite ?_ ?_ | refine LeO.bind ?_ (fun _ => ?_)) | exact ih0 _ _ | exact LeO.none _ | refine LeO.ite ?_ ?_ | refine LeO.bind ?_ (fun _ => ?_)
theorem impl_all__impl_isVisible.mono : ∀ a0 k, LeO (impl_all__impl_isVisible.f k a0) (impl_all__impl_isVisible.f (k + 1) a0) := by
 intro a0 k; have ih0 := impl_all__impl_isVisible.mono_l k; unfold impl_all__impl_isVisible.f
 repeat' first | (with_reducible first | exact ih0 _ _ | exact LeO.refl _ | exact LeO.none _ | refine LeO.ite ?_ ?_ | refine LeO.bind ?_ (fun _ => ?_)) | exact ih0 _ _ | exact LeO.none _ | refine LeO.ite ?_ ?_ | refine LeO.bind ?_ (fun _ => ?_)
set_option maxHeartbeats 8000000 in
set_option maxRecDepth 100000 in
theorem impl_all__impl_isVisible.calls (k : Nat) (a0 : ByteArray) (r : Bool) (w : World) (h : impl_all__impl_isVisible.f k a0 = some r) :
  Calls Tryz.prog 30 #[.string a0, .func (.func 31) #[] #[]] w fun e w' => e = .returned (.bool r) ∧ Drawn0 w w' := by
 have H : (impl_all__impl_isVisible.l0 k a0 0) = some r := h; clear h; have H' := Aside0.mk H; clear H; go_enter Tryz.func30, Tryz.ntmps30
 go_wp2
 go_loopg [5] k (fun kq v5 w' => ∃ (x5_1 : Int), v5 = .int .i64 x5_1 ∧ Aside0 (impl_all__impl_isVisible.l0 kq a0 x5_1 = some r) ∧ Aside0 (kq ≤ k) ∧ Drawn0 w w')
 case atStart => exact ⟨(0), z5, H', ⟨Nat.le_refl _⟩, z13⟩
 case round =>
  clear H'; obtain ⟨x5_1, rfl, HA, HK1, ⟨m1, rfl⟩⟩ := hrel
  cases gk with
  | zero => exact absurd HA.out (by simp [impl_all__impl_isVisible.l0])
  | succ k1 =>
   have H := HA.out; clear HA; simp only [impl_all__impl_isVisible.l0] at H
   by_cases c2 : x5_1 < (a0.size : Int)
   ·rw [if_pos c2] at H; have c2b0 : decide (x5_1 < (a0.size : Int)) = true := decide_eq_true c2; clear c2
    by_cases c3 : 0 ≤ x5_1
    ·rw [if_pos c3] at H; have c3b0 : decide (0 ≤ x5_1) = true := decide_eq_true c3; clear c3; replace H := Option.bind_eq_some_iff.mp H; obtain ⟨t357, A50, H⟩ := H; (try dsimp only at H); have A5 := Aside0.mk A50; clear A50; have HC6 := Aside0.mk H; clear H; have p4 : 0 ≤ (x5_1 : Int) := of_decide_eq_true z3; have q4 : x5_1 < (a0.size : Int) := of_decide_eq_true z3; have hx4 := bt_at a0 x5_1; replace p4 := eq_true p4; replace q4 := eq_true q4; go_upto_if 17 with (first | (go_at_call 31; (with_reducible refine (impl_isVisible.calls (bt a0 x5_1) t357 _ A5.out).mono ?_); rintro e w' ⟨rfl, ⟨nd, rfl⟩⟩))
     have H := HC6.out; clear HC6
     by_cases c7 : t357 = true
     ·subst c7; rw [if_pos rfl] at H; have H' := Aside0.mk H; clear H; go_wp2
      go_roundg k1
      (case measure => have := HK1.out; omega); case rel => exact ⟨(wrap64 (x5_1 + 1)), z5, H', ⟨z79⟩, z13⟩
     ·replace c7 := Bool.eq_false_iff.mpr c7; subst c7; rw [if_neg Bool.false_ne_true] at H; obtain rfl := Option.some.inj H; go_wp2
      go_ret; exact ⟨z5, z13⟩
    ·rw [if_neg c3] at H; exact absurd H (by simp)
   ·rw [if_neg c2] at H; have c2b0 : decide (x5_1 < (a0.size : Int)) = false := decide_eq_false c2; clear c2; obtain rfl := Option.some.inj H; go_wp2
    go_ret; exact ⟨z5, z13⟩

theorem impl_CleanPath_ownB (A : Option Addr) (n c : Nat) : (Value.slice A n c).ownBlock = A.map Addr.block := by cases A <;> rfl
/-! ### impl_CleanPath: function 38 -/
mutual
def impl_CleanPath.j0 : Nat → ByteArray → Bool → Option (ByteArray)
 | 0, _, _ => none
 | k + 1, x0, x24 => if x24 = true then (some (⟨#[]⟩ : ByteArray)) else ((impl_unescaped.f k x0).bind fun t361 => (if 1 ≤ (t361.size : Int) then ((strings_Split.f (t361.extract 1 t361.size) (⟨#[47]⟩ : ByteArray)).bind fun t362 => (impl_CleanPath.l0 k ([] : List ByteArray) t362 t362 (t362.length : Int) 0)) else (none)))
def impl_CleanPath.l0 : Nat → List ByteArray → List ByteArray → List ByteArray → Int → Int → Option (ByteArray)
 | 0, _, _, _, _, _ => none
 | k + 1, x3, x4, x29, x30, x31 => if x31 < x30 then (if 0 ≤ x31 then (if x31 < (x29.length : Int) then (if (rdOf ByteArray.empty x29 x31).toList = ([46] : List UInt8) then (impl_CleanPath.l0 k x3 x4 x29 x30 (wrap64 (x31 + 1))) else (if (rdOf ByteArray.empty x29 x31).toList = ([46, 46] : List UInt8) then (if 0 ≤ (mx 0 (wrap64 ((x3.length : Int) - 1))) then (if (mx 0 (wrap64 ((x3.length : Int) - 1))) ≤ (x3.length : Int) then (impl_CleanPath.l0 k (x3.take ((mx 0 (wrap64 ((x3.length : Int) - 1))) : Int).toNat) x4 x29 x30 (wrap64 (x31 + 1))) else (none)) else (none)) else (if x3.length < 8796093022208 then (impl_CleanPath.l0 k (x3 ++ [rdOf ByteArray.empty x29 x31]) x4 x29 x30 (wrap64 (x31 + 1))) else (none)))) else (none)) else (none)) else (if 0 ≤ (wrap64 ((x4.length : Int) - 1)) then (if (wrap64 ((x4.length : Int) - 1)) < (x4.length : Int) then (if (rdOf ByteArray.empty x4 (wrap64 ((x4.length : Int) - 1))).toList = ([46] : List UInt8) then (if x3.length < 8796093022208 then ((strings_Join.f (x3 ++ [(⟨#[]⟩ : ByteArray)]) (⟨#[47]⟩ : ByteArray)).bind fun t369 => (if 1 + t369.size ≤ 9223372036854775807 then (some ((⟨#[47]⟩ : ByteArray) ++ t369)) else (none))) else (none)) else (if (rdOf ByteArray.empty x4 (wrap64 ((x4.length : Int) - 1))).toList = ([46, 46] : List UInt8) then (if x3.length < 8796093022208 then ((strings_Join.f (x3 ++ [(⟨#[]⟩ : ByteArray)]) (⟨#[47]⟩ : ByteArray)).bind fun t373 => (if 1 + t373.size ≤ 9223372036854775807 then (some ((⟨#[47]⟩ : ByteArray) ++ t373)) else (none))) else (none)) else ((strings_Join.f x3 (⟨#[47]⟩ : ByteArray)).bind fun t374 => (if 1 + t374.size ≤ 9223372036854775807 then (some ((⟨#[47]⟩ : ByteArray) ++ t374)) else (none))))) else (none)) else (none))
end
def impl_CleanPath.f (k : Nat) (a0 : ByteArray) : Option (ByteArray) := (strings_HasPrefix.f a0 (⟨#[47]⟩ : ByteArray)).bind fun t358 => (if t358 = true then (if (a0.size : Int) > 200 then (impl_CleanPath.j0 k a0 true) else ((impl_all__impl_isVisible.f k a0).bind fun t359 => (if t359 = true then ((strings_ContainsAny.f a0 (⟨#[35, 63]⟩ : ByteArray)).bind fun t360 => (impl_CleanPath.j0 k a0 t360)) else (impl_CleanPath.j0 k a0 true)))) else (impl_CleanPath.j0 k a0 true))
theorem impl_CleanPath.mono_l : ∀ k, (∀ y0 y1, LeO (impl_CleanPath.j0 k y0 y1) (impl_CleanPath.j0 (k + 1) y0 y1)) ∧ (∀ y0 y1 y2 y3 y4, LeO (impl_CleanPath.l0 k y0 y1 y2 y3 y4) (impl_CleanPath.l0 (k + 1) y0 y1 y2 y3 y4))
 | 0 => ⟨fun _ _ r h => by simp [impl_CleanPath.j0] at h, fun _ _ _ _ _ r h => by simp [impl_CleanPath.l0] at h⟩
 | k + 1 => by
  obtain ⟨ih0, ih1⟩ := impl_CleanPath.mono_l k; refine ⟨?_, ?_⟩
  ·intro y0 y1; unfold impl_CleanPath.j0
   repeat' first | (with_reducible first | exact ih0 _ _ | exact ih1 _ _ _ _ _ | exact impl_all__impl_isVisible.mono _ _ | exact impl_unescaped.mono _ _ | exact LeO.refl _ | exact LeO.none _ | refine LeO.ite ?_ ?_ | refine LeO.bind ?_ (fun _ => ?_)) | exact ih0 _ _ | exact ih1 _ _ _ _ _ | exact impl_all__impl_isVisible.mono _ _ | exact impl_unescaped.mono _ _ | exact LeO.none _ | refine LeO.ite ?_ ?_ | refine LeO.bind ?_ (fun _ => ?_)
  ·intro y0 y1 y2 y3 y4; unfold impl_CleanPath.l0
   repeat' first | (with_reducible first | exact ih0 _ _ | exact ih1 _ _ _ _ _ | exact impl_all__impl_isVisible.mono _ _ | exact impl_unescaped.mono _ _ | exact LeO.refl _ | exact LeO.none _ | refine LeO.ite ?_ ?_ | refine LeO.bind ?_ (fun _ => ?_)) | exact ih0 _ _ | exact ih1 _ _ _ _ _ | exact impl_all__impl_isVisible.mono _ _ | exact impl_unescaped.mono _ _ | exact LeO.none _ | refine LeO.ite ?_ ?_ | refine LeO.bind ?_ (fun _ => ?_)
theorem impl_CleanPath.mono : ∀ a0 k, LeO (impl_CleanPath.f k a0) (impl_CleanPath.f (k + 1) a0) := by
 intro a0 k; obtain ⟨ih0, ih1⟩ := impl_CleanPath.mono_l k; unfold impl_CleanPath.f
 repeat' first | (with_reducible first | exact ih0 _ _ | exact ih1 _ _ _ _ _ | exact impl_all__impl_isVisible.mono _ _ | exact impl_unescaped.mono _ _ | exact LeO.refl _ | exact LeO.none _ | refine LeO.ite ?_ ?_ | refine LeO.bind ?_ (fun _ => ?_)) | exact ih0 _ _ | exact ih1 _ _ _ _ _ | exact impl_all__impl_isVisible.mono _ _ | exact impl_unescaped.mono _ _ | exact LeO.none _ | refine LeO.ite ?_ ?_ | refine LeO.bind ?_ (fun _ => ?_)
set_option maxHeartbeats 8000000 in
set_option maxRecDepth 100000 in
theorem impl_CleanPath.calls (k : Nat) (a0 : ByteArray) (r : ByteArray) (w : World) (hG : Gl w) (h : impl_CleanPath.f k a0 = some r) :
  Calls Tryz.prog 38 #[.string a0] w fun e w' => e = .returned (.string r) ∧ Below w.heap.size w w' := by
 have HG := Aside0.mk hG; clear hG; have HB := Aside0.mk (Below.refl w.heap.size w); have H : ((strings_HasPrefix.f a0 (⟨#[47]⟩ : ByteArray)).bind fun t358 => (if t358 = true then (if (a0.size : Int) > 200 then (impl_CleanPath.j0 k a0 true) else ((impl_all__impl_isVisible.f k a0).bind fun t359 => (if t359 = true then ((strings_ContainsAny.f a0 (⟨#[35, 63]⟩ : ByteArray)).bind fun t360 => (impl_CleanPath.j0 k a0 t360)) else (impl_CleanPath.j0 k a0 true)))) else (impl_CleanPath.j0 k a0 true))) = some r := h; clear h; have HC2 := Aside0.mk H; clear H; go_enter Tryz.func38, Tryz.ntmps38
 go_upto_region 1 with (fail)
 go_cut [24] (fun v24 wc => ∃ (kq : Nat) (x24_1 : Bool), v24 = .bool x24_1 ∧ Aside0 (impl_CleanPath.j0 kq a0 x24_1 = some r) ∧ Aside0 (kq ≤ k) ∧ Aside0 (Below w.heap.size w wc))
 case first =>
  have H := HC2.out; clear HC2; replace H := Option.bind_eq_some_iff.mp H; obtain ⟨t358, A30, H⟩ := H; (try dsimp only at H); have A3 := Aside0.mk A30; clear A30
  by_cases c4 : t358 = true
  ·subst c4; rw [if_pos rfl] at H
   by_cases c5 : (a0.size : Int) > 200
   ·rw [if_pos c5] at H; have c5b0 : decide (200 < (a0.size : Int)) = true := decide_eq_true c5; have c5b1 : decide (200 < a0.size) = true := decide_eq_true (by omega); clear c5; (first | rw [c5b0] | (simp only [i64_w, i32_w]; rw [c5b0]) | skip); have H' := Aside0.mk H; clear H; go_wp2_with (first | ((with_reducible refine gate_callee (f := 71) rfl ?_); refine goesR_ 9 Tryz.func71 #[.string a0, .string (⟨#[47]⟩ : ByteArray)] (strings_HasPrefix.calls a0 (⟨#[47]⟩ : ByteArray) true _ A3.out) ?_; rintro w' ⟨nd, rfl⟩))
    go_meet
    case rel => exact ⟨_, (true), z5, H', ⟨z35⟩, ⟨z0⟩⟩
   ·rw [if_neg c5] at H; have c5b0 : decide (200 < (a0.size : Int)) = false := decide_eq_false c5; have c5b1 : decide (200 < a0.size) = false := decide_eq_false (by omega); clear c5; (first | rw [c5b0] | (simp only [i64_w, i32_w]; rw [c5b0]) | skip); replace H := Option.bind_eq_some_iff.mp H; obtain ⟨t359, A60, H⟩ := H; (try dsimp only at H); have A6 := Aside0.mk A60; clear A60
    by_cases c7 : t359 = true
    ·subst c7; rw [if_pos rfl] at H; replace H := Option.bind_eq_some_iff.mp H; obtain ⟨t360, A80, H⟩ := H; (try dsimp only at H); have A8 := Aside0.mk A80; clear A80; have H' := Aside0.mk H; clear H; go_wp2_with (first | ((with_reducible refine gate_callee (f := 71) rfl ?_); refine goesR_ 9 Tryz.func71 #[.string a0, .string (⟨#[47]⟩ : ByteArray)] (strings_HasPrefix.calls a0 (⟨#[47]⟩ : ByteArray) true _ A3.out) ?_; rintro w' ⟨nd, rfl⟩) | (go_at_call 30; (with_reducible refine (impl_all__impl_isVisible.calls k a0 true _ A6.out).mono ?_); rintro e w' ⟨rfl, ⟨nd, rfl⟩⟩) | (go_at_call 72; (with_reducible refine (strings_ContainsAny.calls a0 (⟨#[35, 63]⟩ : ByteArray) t360 _ A8.out).mono ?_); rintro e w9 ⟨rfl, hb⟩; have n0_ := Aside0.mk (below_step z0 hb); clear HB; have HB := n0_; clear n0_; (try clear hb); (try clear hb2); (try clear hk); (try clear hi)))
     go_meet
     case rel => exact ⟨_, (t360), z5, H', ⟨z35⟩, ⟨z0⟩⟩
    ·replace c7 := Bool.eq_false_iff.mpr c7; subst c7; rw [if_neg Bool.false_ne_true] at H; have H' := Aside0.mk H; clear H; go_wp2_with (first | ((with_reducible refine gate_callee (f := 71) rfl ?_); refine goesR_ 9 Tryz.func71 #[.string a0, .string (⟨#[47]⟩ : ByteArray)] (strings_HasPrefix.calls a0 (⟨#[47]⟩ : ByteArray) true _ A3.out) ?_; rintro w' ⟨nd, rfl⟩) | (go_at_call 30; (with_reducible refine (impl_all__impl_isVisible.calls k a0 false _ A6.out).mono ?_); rintro e w' ⟨rfl, ⟨nd, rfl⟩⟩))
     go_meet
     case rel => exact ⟨_, (true), z5, H', ⟨z35⟩, ⟨z0⟩⟩
  ·replace c4 := Bool.eq_false_iff.mpr c4; subst c4; rw [if_neg Bool.false_ne_true] at H; have H' := Aside0.mk H; clear H; go_wp2_with (first | ((with_reducible refine gate_callee (f := 71) rfl ?_); refine goesR_ 9 Tryz.func71 #[.string a0, .string (⟨#[47]⟩ : ByteArray)] (strings_HasPrefix.calls a0 (⟨#[47]⟩ : ByteArray) false _ A3.out) ?_; rintro w' ⟨nd, rfl⟩))
   go_meet
   case rel => exact ⟨_, (true), z5, H', ⟨z35⟩, ⟨z0⟩⟩
 case rest =>
  clear HC2; (try clear p2); (try clear c3); (try clear c4); (try clear c5); (try clear c5b0); (try clear c5b1); (try clear c7); obtain ⟨kq, x24_1, rfl, HA, HJ1, HB⟩ := hcut
  cases kq with
  | zero => exact absurd HA.out (by simp [impl_CleanPath.j0])
  | succ kj1 =>
   have H := HA.out; clear HA; simp only [impl_CleanPath.j0] at H
   by_cases c10 : x24_1 = true
   ·subst c10; rw [if_pos rfl] at H; obtain rfl := Option.some.inj H; go_wp2
    go_ret; exact ⟨z2, z0⟩
   ·replace c10 := Bool.eq_false_iff.mpr c10; subst c10; rw [if_neg Bool.false_ne_true] at H; replace H := Option.bind_eq_some_iff.mp H; obtain ⟨t361, A110, H⟩ := H; (try dsimp only at H); have A11 := Aside0.mk A110; clear A110
    by_cases c12 : 1 ≤ (t361.size : Int)
    ·rw [if_pos c12] at H; have c12b0 := eq_true c12; have c12b1 : decide (1 ≤ (t361.size : Int)) = true := decide_eq_true c12; clear c12; replace H := Option.bind_eq_some_iff.mp H; obtain ⟨t362, A130, H⟩ := H; (try dsimp only at H); have A13 := Aside0.mk A130; clear A130; have H' := Aside0.mk H; clear H; go_wp2_with (first | ((with_reducible refine gate_callee (f := 73) rfl ?_); refine goesR_ 26 Tryz.func73 #[.string a0] (impl_unescaped.calls kj1 a0 t361 _ A11.out) ?_; rintro w14 hb; replace HB := Aside0.mk (below_step z0 hb); (try clear hb)) | ((with_reducible refine gate_callee (f := 27) rfl ?_); refine goesQ_ 28 Tryz.func27 #[.string (t361.extract 1 t361.size), .string (⟨#[47]⟩ : ByteArray)] ?_; (with_reducible refine (strings_Split.calls (t361.extract 1 t361.size) (⟨#[47]⟩ : ByteArray) t362 _ ?side1 A13.out).mono ?_); (case side1 => exact Gl.below HG.out z0); rintro e w15 ⟨v363, rfl, ho0, hb⟩; refine ⟨_, rfl, ?_⟩; have HO364 := Aside0.mk (Kd.R_lower ho0 (below_size z0)); replace HB := Aside0.mk (below_step z0 hb); (try clear hb); (try clear ho0); obtain ⟨Ao16, co16, eo16⟩ := Kd.R_slice HO364.out; subst eo16))
     go_loopg [3, 31] kj1 (fun kq v3 v31 w' => ∃ (x3_2 : List ByteArray) (x31_2 : Int), v31 = .int .i64 x31_2 ∧ Aside0 (impl_CleanPath.l0 kq x3_2 t362 t362 (t362.length : Int) x31_2 = some r) ∧ Aside0 (kq ≤ kj1) ∧ Aside0 (Kd.R Kd.string 9 w' w.heap.size (fun k_ => some k_ ≠ ((.slice Ao16 t362.length co16) : Value).ownBlock ∧ some k_ ≠ ((.slice Ao16 t362.length co16) : Value).ownBlock) v3 x3_2) ∧ Aside0 (Kd.R Kd.string 9 w' w.heap.size (fun k_ => some k_ ≠ (v3 : Value).ownBlock) (.slice Ao16 t362.length co16) t362) ∧ Aside0 (Kd.R Kd.string 9 w' w.heap.size (fun k_ => some k_ ≠ (v3 : Value).ownBlock) (.slice Ao16 t362.length co16) t362) ∧ Aside0 (Below w.heap.size w w'))
     case atStart => exact ⟨(([] : List ByteArray)), (0), z5, H', ⟨Nat.le_refl _⟩, ⟨z50⟩, ⟨z96⟩, ⟨z96⟩, ⟨z0⟩⟩
     case round =>
      clear H'; (try clear c1); (try clear c2); (try clear p2); (try clear c3); (try clear c4); (try clear c5); (try clear c5b0); (try clear c5b1); (try clear c7); (try clear c10); (try clear c12); (try clear c12b0); (try clear c12b1); (try clear p2); obtain ⟨x3_2, x31_2, rfl, HA, HK2, HO_3, HO_4, HO_29, HB⟩ := hrel
      cases gk with
      | zero => exact absurd HA.out (by simp [impl_CleanPath.l0])
      | succ k2 =>
       have H := HA.out; clear HA; simp only [impl_CleanPath.l0] at H
       by_cases c17 : x31_2 < (t362.length : Int)
       ·rw [if_pos c17] at H; have c17b0 : decide (x31_2 < (t362.length : Int)) = true := decide_eq_true c17; clear c17
        by_cases c18 : 0 ≤ x31_2
        ·rw [if_pos c18] at H; have c18b0 : decide (0 ≤ x31_2) = true := decide_eq_true c18; clear c18
         by_cases c19 : x31_2 < (t362.length : Int)
         ·rw [if_pos c19] at H; have c19b0 : decide (x31_2 < (t362.length : Int)) = true := decide_eq_true c19; clear c19
          by_cases c20 : (rdOf ByteArray.empty t362 x31_2).toList = ([46] : List UInt8)
          ·rw [if_pos c20] at H; have c20b0 : ((rdOf ByteArray.empty t362 x31_2).toList == ([46] : List UInt8)) = true := beq_iff_eq.mpr c20; have c20b1 : ((rdOf ByteArray.empty t362 x31_2).toList != ([46] : List UInt8)) = false := bne_eq_false_iff_eq.mpr c20; clear c20; have H' := Aside0.mk H; clear H; have p375 : 0 ≤ (x31_2 : Int) := of_decide_eq_true z3; have q375 : x31_2 < (t362.length : Int) := of_decide_eq_true z3; obtain ⟨ad375, e375, hx375_0⟩ := Kd.at_string (Kd.R_reads' HO_29.out).2.2 x31_2 p375 q375; cases e375; replace p375 := eq_true p375; replace q375 := eq_true q375; go_wp2
           go_roundg k2
           (case measure => have := HJ1.out; have := HK2.out; omega); case rel => exact ⟨(x3_2), (wrap64 (x31_2 + 1)), z5, H', ⟨z83⟩, ⟨by (with_reducible repeat (first | apply Kd.R_alloc | apply Kd.R_drewN | apply Kd.R_drew)); first | exact HO_3.out | exact Kd.R_mono HO_3.out (fun _ hk_ => z80)⟩, ⟨z104⟩, ⟨z103⟩, ⟨z0⟩⟩
          ·rw [if_neg c20] at H; have c20b0 : ((rdOf ByteArray.empty t362 x31_2).toList == ([46] : List UInt8)) = false := beq_eq_false_iff_ne.mpr c20; have c20b1 : ((rdOf ByteArray.empty t362 x31_2).toList != ([46] : List UInt8)) = true := bne_iff_ne.mpr c20
           by_cases c21 : (rdOf ByteArray.empty t362 x31_2).toList = ([46, 46] : List UInt8)
           ·rw [if_pos c21] at H; have c21b0 : ((rdOf ByteArray.empty t362 x31_2).toList == ([46, 46] : List UInt8)) = true := beq_iff_eq.mpr c21; have c21b1 : ((rdOf ByteArray.empty t362 x31_2).toList != ([46, 46] : List UInt8)) = false := bne_eq_false_iff_eq.mpr c21; clear c21; obtain ⟨ji22, hji22⟩ : ∃ j_ : Int, (mx 0 (wrap64 ((x3_2.length : Int) - 1))) = j_ := ⟨_, rfl⟩; replace H : (if 0 ≤ (ji22) then (if (ji22) ≤ (x3_2.length : Int) then (impl_CleanPath.l0 k2 (x3_2.take ((ji22) : Int).toNat) t362 t362 (t362.length : Int) (wrap64 (x31_2 + 1))) else (none)) else (none)) = some r := by first | (rw [hji22] at H; exact H) | (simp only [hji22] at H ⊢; exact H)
            have hji22_ : (if 0 < (wrap64 ((x3_2.length : Int) - 1)) then (wrap64 ((x3_2.length : Int) - 1)) else 0) = ji22 := hji22
            by_cases c23 : 0 ≤ (ji22)
            ·rw [if_pos c23] at H; have c23b0 := eq_true c23; have c23b1 : decide (0 ≤ (ji22)) = true := decide_eq_true c23; clear c23
             by_cases c24 : (ji22) ≤ (x3_2.length : Int)
             ·rw [if_pos c24] at H; have c24b0 := eq_true c24; have c24b1 : decide ((ji22) ≤ (x3_2.length : Int)) = true := decide_eq_true c24; clear c24; obtain ⟨y376, hy376⟩ : ∃ y_ : List ByteArray, y_ = (x3_2.take ((ji22) : Int).toNat) := ⟨_, rfl⟩; replace H : (impl_CleanPath.l0 k2 y376 t362 t362 (t362.length : Int) (wrap64 (x31_2 + 1))) = some r := by first | (rw [hy376]; with_reducible exact H) | (have H2_ := (Option.bind_some _ _).symm.trans H; rw [hy376]; with_reducible exact H2_) | (have H2_ := (Option.bind_some _ _).symm.trans H; with_reducible exact H2_) | with_reducible exact H | (rw [hy376]; exact H) | exact H
              have Ny376 := Aside0.mk hy376; clear hy376; have H' := Aside0.mk H; clear H; have p375 : 0 ≤ (x31_2 : Int) := of_decide_eq_true z3; have q375 : x31_2 < (t362.length : Int) := of_decide_eq_true z3; obtain ⟨ad375, e375, hx375_0⟩ := Kd.at_string (Kd.R_reads' HO_29.out).2.2 x31_2 p375 q375; cases e375; replace p375 := eq_true p375; replace q375 := eq_true q375; obtain ⟨Ao25, co25, eo25⟩ := Kd.R_slice HO_3.out; subst eo25; have q26 : ((ji22) : Int) ≤ ((x3_2.length : Int) : Int) := of_decide_eq_true z3; obtain ⟨i026, hi026, _, hsz26, _⟩ := info_parts info9; have hcut26 := cut_to (P := Tryz.prog) 43 9 .i64 Tryz.underlying43 hi026 Ao25 x3_2.length co25 (ji22) (of_decide_eq_true z3) q26 (Kd.R_reads' HO_3.out).2.1; have hr26 := Kd.R_take (m := ((ji22) : Int).toNat) HO_3.out (by omega); have hy26 : y376.length = ((ji22) : Int).toNat := (by rw [Ny376.out, List.length_take]; omega); rw [← Ny376.out] at hr26; rw [← hy26] at hr26 hcut26; clear hy26 hi026 hsz26 HO_3; have HO378 := Aside0.mk hr26; clear hr26; replace q26 := eq_true q26; go_wp2
              go_roundg k2
              (case measure => have := HJ1.out; have := HK2.out; omega); case rel => exact ⟨(y376), (wrap64 (x31_2 + 1)), z5, H', ⟨z83⟩, ⟨by (with_reducible repeat (first | apply Kd.R_alloc | apply Kd.R_drewN | apply Kd.R_drew)); first | exact HO378.out | exact Kd.R_mono HO378.out (fun _ hk_ => z80)⟩, ⟨z104⟩, ⟨z103⟩, ⟨z0⟩⟩
             ·rw [if_neg c24] at H; exact absurd H (by simp)
            ·rw [if_neg c23] at H; exact absurd H (by simp)
           ·rw [if_neg c21] at H; have c21b0 : ((rdOf ByteArray.empty t362 x31_2).toList == ([46, 46] : List UInt8)) = false := beq_eq_false_iff_ne.mpr c21; have c21b1 : ((rdOf ByteArray.empty t362 x31_2).toList != ([46, 46] : List UInt8)) = true := bne_iff_ne.mpr c21
            by_cases c27 : x3_2.length < 8796093022208
            ·rw [if_pos c27] at H; have LMc27 := Aside0.mk c27; clear c27; obtain ⟨y379, hy379⟩ : ∃ y_ : List ByteArray, y_ = (x3_2 ++ [rdOf ByteArray.empty t362 x31_2]) := ⟨_, rfl⟩; replace H : (impl_CleanPath.l0 k2 y379 t362 t362 (t362.length : Int) (wrap64 (x31_2 + 1))) = some r := by first | (rw [hy379]; with_reducible exact H) | (have H2_ := (Option.bind_some _ _).symm.trans H; rw [hy379]; with_reducible exact H2_) | (have H2_ := (Option.bind_some _ _).symm.trans H; with_reducible exact H2_) | with_reducible exact H | (rw [hy379]; exact H) | exact H
             have Ny379 := Aside0.mk hy379; clear hy379; have H' := Aside0.mk H; clear H; have p375 : 0 ≤ (x31_2 : Int) := of_decide_eq_true z3; have q375 : x31_2 < (t362.length : Int) := of_decide_eq_true z3; obtain ⟨ad375, e375, hx375_0⟩ := Kd.at_string (Kd.R_reads' HO_29.out).2.2 x31_2 p375 q375; cases e375; replace p375 := eq_true p375; replace q375 := eq_true q375; go_wp2_with (first | ((with_reducible refine gate_builtin (b := .append) (xs := #[.tmp 36, .tmp 38]) rfl ?_); (try (refine gate_guard (by rfl) ?_; dsimp only)); at_builtin; refine Kd.R_append Kd.string (w0 := w) w.heap.size rfl (.tmp 36) (.tmp 38) 43 9 (.string ⟨#[]⟩) 16 rfl Tryz.underlying43 info9 rfl (by decide) (by omega) u3 x3_2 (rdOf ByteArray.empty t362 x31_2) [.string (rdOf ByteArray.empty t362 x31_2)] (fun k_ => some k_ ≠ (.slice (some ad375) t362.length co16 : Value).ownBlock ∧ some k_ ≠ (.slice (some ad375) t362.length co16 : Value).ownBlock) (fun _ => False) rfl rfl ?aP (fun _ hk => hk.elim) ?aF ?aO ?aB ?aS ?aL ?_; (case aP => exact rfl); (case aB => exact z0); (case aF => exact (fun k_ hk => ⟨Kd.fresh' (Kd.R_lt z48) k_ hk, Kd.fresh' (Kd.R_lt z58) k_ hk⟩)); (case aO => exact z19); (case aS => exact (below_size z0)); (case aL => have := LMc27.out; omega); intro v380 w28 ho hb hg hat; rw [← Ny379.out] at ho; replace HO_4 := Aside0.mk (Kd.R_after (ok := (fun _ => True)) z54 hg hat); replace HO_29 := Aside0.mk (Kd.R_after (ok := (fun _ => True)) z74 hg hat); replace HB := Aside0.mk (hb); have HO381 := Aside0.mk (ho); clear HO_3; clear ho hb hg hat))
             go_roundg k2
             (case measure => have := HJ1.out; have := HK2.out; omega); case rel => exact ⟨(y379), (wrap64 (x31_2 + 1)), z5, H', ⟨z83⟩, ⟨by (with_reducible repeat (first | apply Kd.R_alloc | apply Kd.R_drewN | apply Kd.R_drew)); first | exact HO381.out | exact Kd.R_mono HO381.out (fun _ hk_ => z80)⟩, ⟨z76⟩, ⟨by (with_reducible repeat (first | apply Kd.R_alloc | apply Kd.R_drewN | apply Kd.R_drew)); exact Kd.R_mono HO_29.out (fun _ hk => hk.2)⟩, ⟨z0⟩⟩
            ·rw [if_neg c27] at H; exact absurd H (by simp)
         ·rw [if_neg c19] at H; exact absurd H (by simp)
        ·rw [if_neg c18] at H; exact absurd H (by simp)
       ·rw [if_neg c17] at H; have c17b0 : decide (x31_2 < (t362.length : Int)) = false := decide_eq_false c17; clear c17; obtain ⟨ji29, hji29⟩ : ∃ j_ : Int, (wrap64 ((t362.length : Int) - 1)) = j_ := ⟨_, rfl⟩; replace H : (if 0 ≤ (ji29) then (if (ji29) < (t362.length : Int) then (if (rdOf ByteArray.empty t362 (ji29)).toList = ([46] : List UInt8) then (if x3_2.length < 8796093022208 then ((strings_Join.f (x3_2 ++ [(⟨#[]⟩ : ByteArray)]) (⟨#[47]⟩ : ByteArray)).bind fun t369 => (if 1 + t369.size ≤ 9223372036854775807 then (some ((⟨#[47]⟩ : ByteArray) ++ t369)) else (none))) else (none)) else (if (rdOf ByteArray.empty t362 (ji29)).toList = ([46, 46] : List UInt8) then (if x3_2.length < 8796093022208 then ((strings_Join.f (x3_2 ++ [(⟨#[]⟩ : ByteArray)]) (⟨#[47]⟩ : ByteArray)).bind fun t373 => (if 1 + t373.size ≤ 9223372036854775807 then (some ((⟨#[47]⟩ : ByteArray) ++ t373)) else (none))) else (none)) else ((strings_Join.f x3_2 (⟨#[47]⟩ : ByteArray)).bind fun t374 => (if 1 + t374.size ≤ 9223372036854775807 then (some ((⟨#[47]⟩ : ByteArray) ++ t374)) else (none))))) else (none)) else (none)) = some r := by first | (rw [hji29] at H; exact H) | (simp only [hji29] at H ⊢; exact H)
        have hji29w : (IntKind.i64.wrap ((t362.length : Int) - 1)) = ji29 := (i64_w _).trans hji29
        by_cases c30 : 0 ≤ (ji29)
        ·rw [if_pos c30] at H; have c30b0 : decide (0 ≤ (ji29)) = true := decide_eq_true c30; clear c30
         by_cases c31 : (ji29) < (t362.length : Int)
         ·rw [if_pos c31] at H; have c31b0 : decide ((ji29) < (t362.length : Int)) = true := decide_eq_true c31; clear c31
          by_cases c32 : (rdOf ByteArray.empty t362 (ji29)).toList = ([46] : List UInt8)
          ·rw [if_pos c32] at H; have c32b0 : ((rdOf ByteArray.empty t362 (ji29)).toList == ([46] : List UInt8)) = true := beq_iff_eq.mpr c32; have c32b1 : ((rdOf ByteArray.empty t362 (ji29)).toList != ([46] : List UInt8)) = false := bne_eq_false_iff_eq.mpr c32; clear c32
           by_cases c33 : x3_2.length < 8796093022208
           ·rw [if_pos c33] at H; have LMc33 := Aside0.mk c33; clear c33; obtain ⟨y366, hy366⟩ : ∃ y_ : List ByteArray, y_ = (x3_2 ++ [(⟨#[]⟩ : ByteArray)]) := ⟨_, rfl⟩; replace H : ((strings_Join.f y366 (⟨#[47]⟩ : ByteArray)).bind fun t369 => (if 1 + t369.size ≤ 9223372036854775807 then (some ((⟨#[47]⟩ : ByteArray) ++ t369)) else (none))) = some r := by first | (rw [hy366]; with_reducible exact H) | (have H2_ := (Option.bind_some _ _).symm.trans H; rw [hy366]; with_reducible exact H2_) | (have H2_ := (Option.bind_some _ _).symm.trans H; with_reducible exact H2_) | with_reducible exact H | (rw [hy366]; exact H) | exact H
            have Ny366 := Aside0.mk hy366; clear hy366; replace H := Option.bind_eq_some_iff.mp H; obtain ⟨t369, A340, H⟩ := H; (try dsimp only at H); have A34 := Aside0.mk A340; clear A340
            by_cases c35 : 1 + t369.size ≤ 9223372036854775807
            ·rw [if_pos c35] at H; have c35b0 := eq_true c35; have c35b1 : decide (1 + t369.size ≤ 9223372036854775807) = true := decide_eq_true c35; (try have c35b2 : (9223372036854775807 < 1 + t369.size) = False := eq_false (Nat.not_lt.2 c35)); obtain rfl := Option.some.inj H; have p365 : 0 ≤ ((ji29) : Int) := of_decide_eq_true z3; have q365 : (ji29) < (t362.length : Int) := of_decide_eq_true z3; obtain ⟨ad365, e365, hx365_0⟩ := Kd.at_string (Kd.R_reads' HO_4.out).2.2 (ji29) p365 q365; cases e365; replace p365 := eq_true p365; replace q365 := eq_true q365; go_wp2_with (first | ((with_reducible refine gate_builtin (b := .append) (xs := #[.tmp 63, .tmp 64]) rfl ?_); (try (refine gate_guard (by rfl) ?_; dsimp only)); at_builtin; refine Kd.R_append Kd.string (w0 := w) w.heap.size rfl (.tmp 63) (.tmp 64) 43 9 (.string ⟨#[]⟩) 16 rfl Tryz.underlying43 info9 rfl (by decide) (by omega) u3 x3_2 (⟨#[]⟩ : ByteArray) [.string (⟨#[]⟩ : ByteArray)] (fun k_ => some k_ ≠ (.slice (some ad365) t362.length co16 : Value).ownBlock ∧ some k_ ≠ (.slice (some ad365) t362.length co16 : Value).ownBlock) (fun _ => False) rfl rfl ?aP (fun _ hk => hk.elim) ?aF ?aO ?aB ?aS ?aL ?_; (case aP => exact rfl); (case aB => exact z0); (case aF => exact (fun k_ hk => ⟨Kd.fresh' (Kd.R_lt z48) k_ hk, Kd.fresh' (Kd.R_lt z58) k_ hk⟩)); (case aO => exact z19); (case aS => exact (below_size z0)); (case aL => have := LMc33.out; omega); intro v367 w36 ho hb hg hat; rw [← Ny366.out] at ho; replace HO_4 := Aside0.mk (Kd.R_after (ok := (fun _ => True)) z54 hg hat); replace HO_29 := Aside0.mk (Kd.R_after (ok := (fun _ => True)) z74 hg hat); replace HB := Aside0.mk (hb); have HO368 := Aside0.mk (ho); clear HO_3; clear ho hb hg hat; obtain ⟨Ao37, co37, eo37⟩ := Kd.R_slice HO368.out; subst eo37) | ((with_reducible refine gate_callee (f := 25) rfl ?_); refine goesQ_ 67 Tryz.func25 #[.slice Ao37 y366.length co37, .string (⟨#[47]⟩ : ByteArray)] ?_; (with_reducible refine (strings_Join.calls _ _ y366 (⟨#[47]⟩ : ByteArray) t369 _ ?side1 ?side2 A34.out).mono ?_); (case side1 => repeat (first | exact (Kd.R_reads' HO368.out).2.2 | (with_reducible refine Kd.C_alloc ?_ _) | (with_reducible refine Kd.C_drewN ?_ _) | (with_reducible refine Kd.C_drew ?_))); (case side2 => exact (Kd.R_reads' HO368.out).2.1); rintro e w38 ⟨rfl, hb⟩; refine ⟨_, rfl, ?_⟩; replace HO_4 := Aside0.mk (Kd.R_below z48 hb); replace HO_29 := Aside0.mk (Kd.R_below z58 hb); replace HO368 := Aside0.mk (Kd.R_below (by (with_reducible repeat (first | apply Kd.R_alloc | apply Kd.R_drewN | apply Kd.R_drew)); exact HO368.out) hb); replace HB := Aside0.mk (below_step z0 hb); (try clear hb)))
             go_ret; exact ⟨z57, z0⟩
            ·rw [if_neg c35] at H; exact absurd H (by simp)
           ·rw [if_neg c33] at H; exact absurd H (by simp)
          ·rw [if_neg c32] at H; have c32b0 : ((rdOf ByteArray.empty t362 (ji29)).toList == ([46] : List UInt8)) = false := beq_eq_false_iff_ne.mpr c32; have c32b1 : ((rdOf ByteArray.empty t362 (ji29)).toList != ([46] : List UInt8)) = true := bne_iff_ne.mpr c32
           by_cases c39 : (rdOf ByteArray.empty t362 (ji29)).toList = ([46, 46] : List UInt8)
           ·rw [if_pos c39] at H; have c39b0 : ((rdOf ByteArray.empty t362 (ji29)).toList == ([46, 46] : List UInt8)) = true := beq_iff_eq.mpr c39; have c39b1 : ((rdOf ByteArray.empty t362 (ji29)).toList != ([46, 46] : List UInt8)) = false := bne_eq_false_iff_eq.mpr c39; clear c39
            by_cases c40 : x3_2.length < 8796093022208
            ·rw [if_pos c40] at H; have LMc40 := Aside0.mk c40; clear c40; obtain ⟨y370, hy370⟩ : ∃ y_ : List ByteArray, y_ = (x3_2 ++ [(⟨#[]⟩ : ByteArray)]) := ⟨_, rfl⟩; replace H : ((strings_Join.f y370 (⟨#[47]⟩ : ByteArray)).bind fun t373 => (if 1 + t373.size ≤ 9223372036854775807 then (some ((⟨#[47]⟩ : ByteArray) ++ t373)) else (none))) = some r := by first | (rw [hy370]; with_reducible exact H) | (have H2_ := (Option.bind_some _ _).symm.trans H; rw [hy370]; with_reducible exact H2_) | (have H2_ := (Option.bind_some _ _).symm.trans H; with_reducible exact H2_) | with_reducible exact H | (rw [hy370]; exact H) | exact H
             have Ny370 := Aside0.mk hy370; clear hy370; replace H := Option.bind_eq_some_iff.mp H; obtain ⟨t373, A410, H⟩ := H; (try dsimp only at H); have A41 := Aside0.mk A410; clear A410
             by_cases c42 : 1 + t373.size ≤ 9223372036854775807
             ·rw [if_pos c42] at H; have c42b0 := eq_true c42; have c42b1 : decide (1 + t373.size ≤ 9223372036854775807) = true := decide_eq_true c42; (try have c42b2 : (9223372036854775807 < 1 + t373.size) = False := eq_false (Nat.not_lt.2 c42)); obtain rfl := Option.some.inj H; have p365 : 0 ≤ ((ji29) : Int) := of_decide_eq_true z3; have q365 : (ji29) < (t362.length : Int) := of_decide_eq_true z3; obtain ⟨ad365, e365, hx365_0⟩ := Kd.at_string (Kd.R_reads' HO_4.out).2.2 (ji29) p365 q365; cases e365; replace p365 := eq_true p365; replace q365 := eq_true q365; go_wp2_with (first | ((with_reducible refine gate_builtin (b := .append) (xs := #[.tmp 63, .tmp 64]) rfl ?_); (try (refine gate_guard (by rfl) ?_; dsimp only)); at_builtin; refine Kd.R_append Kd.string (w0 := w) w.heap.size rfl (.tmp 63) (.tmp 64) 43 9 (.string ⟨#[]⟩) 16 rfl Tryz.underlying43 info9 rfl (by decide) (by omega) u3 x3_2 (⟨#[]⟩ : ByteArray) [.string (⟨#[]⟩ : ByteArray)] (fun k_ => some k_ ≠ (.slice (some ad365) t362.length co16 : Value).ownBlock ∧ some k_ ≠ (.slice (some ad365) t362.length co16 : Value).ownBlock) (fun _ => False) rfl rfl ?aP (fun _ hk => hk.elim) ?aF ?aO ?aB ?aS ?aL ?_; (case aP => exact rfl); (case aB => exact z0); (case aF => exact (fun k_ hk => ⟨Kd.fresh' (Kd.R_lt z48) k_ hk, Kd.fresh' (Kd.R_lt z58) k_ hk⟩)); (case aO => exact z19); (case aS => exact (below_size z0)); (case aL => have := LMc40.out; omega); intro v371 w43 ho hb hg hat; rw [← Ny370.out] at ho; replace HO_4 := Aside0.mk (Kd.R_after (ok := (fun _ => True)) z54 hg hat); replace HO_29 := Aside0.mk (Kd.R_after (ok := (fun _ => True)) z74 hg hat); replace HB := Aside0.mk (hb); have HO372 := Aside0.mk (ho); clear HO_3; clear ho hb hg hat; obtain ⟨Ao44, co44, eo44⟩ := Kd.R_slice HO372.out; subst eo44) | ((with_reducible refine gate_callee (f := 25) rfl ?_); refine goesQ_ 67 Tryz.func25 #[.slice Ao44 y370.length co44, .string (⟨#[47]⟩ : ByteArray)] ?_; (with_reducible refine (strings_Join.calls _ _ y370 (⟨#[47]⟩ : ByteArray) t373 _ ?side1 ?side2 A41.out).mono ?_); (case side1 => repeat (first | exact (Kd.R_reads' HO372.out).2.2 | (with_reducible refine Kd.C_alloc ?_ _) | (with_reducible refine Kd.C_drewN ?_ _) | (with_reducible refine Kd.C_drew ?_))); (case side2 => exact (Kd.R_reads' HO372.out).2.1); rintro e w45 ⟨rfl, hb⟩; refine ⟨_, rfl, ?_⟩; replace HO_4 := Aside0.mk (Kd.R_below z48 hb); replace HO_29 := Aside0.mk (Kd.R_below z58 hb); replace HO372 := Aside0.mk (Kd.R_below (by (with_reducible repeat (first | apply Kd.R_alloc | apply Kd.R_drewN | apply Kd.R_drew)); exact HO372.out) hb); replace HB := Aside0.mk (below_step z0 hb); (try clear hb)))
              go_ret; exact ⟨z57, z0⟩
             ·rw [if_neg c42] at H; exact absurd H (by simp)
            ·rw [if_neg c40] at H; exact absurd H (by simp)
           ·rw [if_neg c39] at H; have c39b0 : ((rdOf ByteArray.empty t362 (ji29)).toList == ([46, 46] : List UInt8)) = false := beq_eq_false_iff_ne.mpr c39; have c39b1 : ((rdOf ByteArray.empty t362 (ji29)).toList != ([46, 46] : List UInt8)) = true := bne_iff_ne.mpr c39; replace H := Option.bind_eq_some_iff.mp H; obtain ⟨t374, A460, H⟩ := H; (try dsimp only at H); have A46 := Aside0.mk A460; clear A460
            by_cases c47 : 1 + t374.size ≤ 9223372036854775807
            ·rw [if_pos c47] at H; have c47b0 := eq_true c47; have c47b1 : decide (1 + t374.size ≤ 9223372036854775807) = true := decide_eq_true c47; (try have c47b2 : (9223372036854775807 < 1 + t374.size) = False := eq_false (Nat.not_lt.2 c47)); obtain rfl := Option.some.inj H; have p365 : 0 ≤ ((ji29) : Int) := of_decide_eq_true z3; have q365 : (ji29) < (t362.length : Int) := of_decide_eq_true z3; obtain ⟨ad365, e365, hx365_0⟩ := Kd.at_string (Kd.R_reads' HO_4.out).2.2 (ji29) p365 q365; cases e365; replace p365 := eq_true p365; replace q365 := eq_true q365; obtain ⟨Ao48, co48, eo48⟩ := Kd.R_slice HO_3.out; subst eo48; go_wp2_with (first | ((with_reducible refine gate_callee (f := 25) rfl ?_); refine goesQ_ 67 Tryz.func25 #[.slice Ao48 x3_2.length co48, .string (⟨#[47]⟩ : ByteArray)] ?_; (with_reducible refine (strings_Join.calls _ _ x3_2 (⟨#[47]⟩ : ByteArray) t374 _ ?side1 ?side2 A46.out).mono ?_); (case side1 => repeat (first | exact (Kd.R_reads' HO_3.out).2.2 | (with_reducible refine Kd.C_alloc ?_ _) | (with_reducible refine Kd.C_drewN ?_ _) | (with_reducible refine Kd.C_drew ?_))); (case side2 => exact (Kd.R_reads' HO_3.out).2.1); rintro e w49 ⟨rfl, hb⟩; refine ⟨_, rfl, ?_⟩; replace HO_3 := Aside0.mk (Kd.R_below z19 hb); replace HO_4 := Aside0.mk (Kd.R_below z48 hb); replace HO_29 := Aside0.mk (Kd.R_below z58 hb); replace HB := Aside0.mk (below_step z0 hb); (try clear hb)))
             go_ret; exact ⟨z57, z0⟩
            ·rw [if_neg c47] at H; exact absurd H (by simp)
         ·rw [if_neg c31] at H; exact absurd H (by simp)
        ·rw [if_neg c30] at H; exact absurd H (by simp)
    ·rw [if_neg c12] at H; exact absurd H (by simp)

/-! ### impl_within: function 55 -/
def impl_within.f (a0 : Int) (a1 : Int) (a2 : Int) : Option (Bool) := if a1 ≤ a0 then (some (decide (a0 ≤ a2))) else (some false)
set_option maxHeartbeats 8000000 in
set_option maxRecDepth 100000 in
theorem impl_within.calls (a0 : Int) (a1 : Int) (a2 : Int) (r : Bool) (w : World) (h : impl_within.f a0 a1 a2 = some r) :
  Calls Tryz.prog 55 #[.int .i64 a0, .int .i64 a1, .int .i64 a2] w fun e w' => e = .returned (.bool r) ∧ Drawn0 w w' := by
 have H : (if a1 ≤ a0 then (some (decide (a0 ≤ a2))) else (some false)) = some r := h; clear h
 by_cases c4 : a1 ≤ a0
 ·rw [if_pos c4] at H; have c4b0 : decide (a1 ≤ a0) = true := decide_eq_true c4; clear c4; obtain rfl := Option.some.inj H; go_enter Tryz.func55, Tryz.ntmps55
  go_wp2
  go_ret; exact ⟨z5, z13⟩
 ·rw [if_neg c4] at H; have c4b0 : decide (a1 ≤ a0) = false := decide_eq_false c4; clear c4; obtain rfl := Option.some.inj H; go_enter Tryz.func55, Tryz.ntmps55
  go_wp2
  go_ret; exact ⟨z5, z13⟩

/-! ### impl_isHost_1: function 81 -/
def impl_isHost_1.f (a0 : Int) : Option (Bool) := (impl_isLower.f a0).bind fun t382 => (if t382 = true then (some true) else ((impl_isDigit.f a0).bind fun t383 => (if t383 = true then (some true) else (if a0 = 45 then (some true) else (some (a0 == 46))))))
set_option maxHeartbeats 8000000 in
set_option maxRecDepth 100000 in
theorem impl_isHost_1.calls (a0 : Int) (r : Bool) (w : World) (h : impl_isHost_1.f a0 = some r) :
  Calls Tryz.prog 81 #[.int .u8 a0] w fun e w' => e = .returned (.bool r) ∧ Drawn0 w w' := by
 have H : ((impl_isLower.f a0).bind fun t382 => (if t382 = true then (some true) else ((impl_isDigit.f a0).bind fun t383 => (if t383 = true then (some true) else (if a0 = 45 then (some true) else (some (a0 == 46))))))) = some r := h; clear h; replace H := Option.bind_eq_some_iff.mp H; obtain ⟨t382, A20, H⟩ := H; (try dsimp only at H); have A2 := Aside0.mk A20; clear A20
 by_cases c3 : t382 = true
 ·subst c3; rw [if_pos rfl] at H; obtain rfl := Option.some.inj H; go_enter Tryz.func81, Tryz.ntmps81
  go_wp2_with (first | ((with_reducible refine gate_callee (f := 82) rfl ?_); refine goesR_ 4 Tryz.func82 #[.int .u8 a0] (impl_isLower.calls a0 true _ A2.out) ?_; rintro w' ⟨nd, rfl⟩))
  go_ret; exact ⟨z5, z13⟩
 ·replace c3 := Bool.eq_false_iff.mpr c3; subst c3; rw [if_neg Bool.false_ne_true] at H; replace H := Option.bind_eq_some_iff.mp H; obtain ⟨t383, A40, H⟩ := H; (try dsimp only at H); have A4 := Aside0.mk A40; clear A40
  by_cases c5 : t383 = true
  ·subst c5; rw [if_pos rfl] at H; obtain rfl := Option.some.inj H; go_enter Tryz.func81, Tryz.ntmps81
   go_wp2_with (first | ((with_reducible refine gate_callee (f := 82) rfl ?_); refine goesR_ 4 Tryz.func82 #[.int .u8 a0] (impl_isLower.calls a0 false _ A2.out) ?_; rintro w' ⟨nd, rfl⟩) | (go_at_call 83; (with_reducible refine (impl_isDigit.calls a0 true _ A4.out).mono ?_); rintro e w' ⟨rfl, ⟨nd, rfl⟩⟩))
   go_ret; exact ⟨z5, z13⟩
  ·replace c5 := Bool.eq_false_iff.mpr c5; subst c5; rw [if_neg Bool.false_ne_true] at H
   by_cases c6 : a0 = 45
   ·rw [if_pos c6] at H; have c6b0 : (a0 == 45) = true := beq_iff_eq.mpr c6; have c6b1 : (a0 != 45) = false := bne_eq_false_iff_eq.mpr c6; clear c6; obtain rfl := Option.some.inj H; go_enter Tryz.func81, Tryz.ntmps81
    go_wp2_with (first | ((with_reducible refine gate_callee (f := 82) rfl ?_); refine goesR_ 4 Tryz.func82 #[.int .u8 a0] (impl_isLower.calls a0 false _ A2.out) ?_; rintro w' ⟨nd, rfl⟩) | (go_at_call 83; (with_reducible refine (impl_isDigit.calls a0 false _ A4.out).mono ?_); rintro e w' ⟨rfl, ⟨nd, rfl⟩⟩))
    go_ret; exact ⟨z5, z13⟩
   ·rw [if_neg c6] at H; have c6b0 : (a0 == 45) = false := beq_eq_false_iff_ne.mpr c6; have c6b1 : (a0 != 45) = true := bne_iff_ne.mpr c6; obtain rfl := Option.some.inj H; go_enter Tryz.func81, Tryz.ntmps81
    go_wp2_with (first | ((with_reducible refine gate_callee (f := 82) rfl ?_); refine goesR_ 4 Tryz.func82 #[.int .u8 a0] (impl_isLower.calls a0 false _ A2.out) ?_; rintro w' ⟨nd, rfl⟩) | (go_at_call 83; (with_reducible refine (impl_isDigit.calls a0 false _ A4.out).mono ?_); rintro e w' ⟨rfl, ⟨nd, rfl⟩⟩))
    go_ret; exact ⟨z5, z13⟩

/-! ### slices_Index_string_string: function 102 -/
def slices_Index_string_string.l0 : Nat → List ByteArray → ByteArray → Int → Int → Option (Int)
 | 0, _, _, _, _ => none
 | k + 1, x0, x1, x7, x8 => if x8 < x7 then (if 0 ≤ x8 then (if x8 < (x0.length : Int) then (if x1.toList = (rdOf ByteArray.empty x0 x8).toList then (some x8) else (slices_Index_string_string.l0 k x0 x1 x7 (wrap64 (x8 + 1)))) else (none)) else (none)) else (some (-1))
def slices_Index_string_string.f (k : Nat) (l0 : List ByteArray) (a1 : ByteArray) : Option (Int) := slices_Index_string_string.l0 k l0 a1 (l0.length : Int) 0
theorem slices_Index_string_string.mono_l : ∀ k, (∀ y0 y1 y2 y3, LeO (slices_Index_string_string.l0 k y0 y1 y2 y3) (slices_Index_string_string.l0 (k + 1) y0 y1 y2 y3))
 | 0 => fun _ _ _ _ r h => by simp [slices_Index_string_string.l0] at h
 | k + 1 => by
  have ih0 := slices_Index_string_string.mono_l k
  ·intro y0 y1 y2 y3; unfold slices_Index_string_string.l0
   repeat' first | (with_reducible first | exact ih0 _ _ _ _ | exact LeO.refl _ | exact LeO.none _ | refine LeO.ite ?_ ?_ | refine LeO.bind ?_ (fun _ => ?_)) | exact ih0 _ _ _ _ | exact LeO.none _ | refine LeO.ite ?_ ?_ | refine LeO.bind ?_ (fun _ => ?_)
theorem slices_Index_string_string.mono : ∀ a0 a1 k, LeO (slices_Index_string_string.f k a0 a1) (slices_Index_string_string.f (k + 1) a0 a1) := by
 intro a0 a1 k; have ih0 := slices_Index_string_string.mono_l k; unfold slices_Index_string_string.f
 repeat' first | (with_reducible first | exact ih0 _ _ _ _ | exact LeO.refl _ | exact LeO.none _ | refine LeO.ite ?_ ?_ | refine LeO.bind ?_ (fun _ => ?_)) | exact ih0 _ _ _ _ | exact LeO.none _ | refine LeO.ite ?_ ?_ | refine LeO.bind ?_ (fun _ => ?_)
set_option maxHeartbeats 8000000 in
set_option maxRecDepth 100000 in
theorem slices_Index_string_string.calls (k : Nat) (A0 : Option Addr) (c0 : Nat) (l0 : List ByteArray) (a1 : ByteArray) (r : Int) (w : World) (hr0 : Kd.C Kd.string w A0 l0.length l0) (hc0 : l0.length ≤ c0) (h : slices_Index_string_string.f k l0 a1 = some r) :
  Calls Tryz.prog 102 #[.slice A0 l0.length c0, .string a1] w fun e w' => e = .returned (.int .i64 r) ∧ Drawn0 w w' := by
 have HR0 := Aside0.mk hr0; have HC0 := Aside0.mk hc0; clear hr0 hc0; have H : (slices_Index_string_string.l0 k l0 a1 (l0.length : Int) 0) = some r := h; clear h; have H' := Aside0.mk H; clear H; go_enter Tryz.func102, Tryz.ntmps102
 go_wp2
 go_loopg [8] k (fun kq v8 w' => ∃ (x8_1 : Int), v8 = .int .i64 x8_1 ∧ Aside0 (slices_Index_string_string.l0 kq l0 a1 (l0.length : Int) x8_1 = some r) ∧ Aside0 (kq ≤ k) ∧ Drawn0 w w')
 case atStart => exact ⟨(0), z5, H', ⟨Nat.le_refl _⟩, z13⟩
 case round =>
  clear H'; (try clear c1); (try clear p2); obtain ⟨x8_1, rfl, HA, HK1, ⟨m1, rfl⟩⟩ := hrel
  cases gk with
  | zero => exact absurd HA.out (by simp [slices_Index_string_string.l0])
  | succ k1 =>
   have H := HA.out; clear HA; simp only [slices_Index_string_string.l0] at H
   by_cases c3 : x8_1 < (l0.length : Int)
   ·rw [if_pos c3] at H; have c3b0 : decide (x8_1 < (l0.length : Int)) = true := decide_eq_true c3; clear c3
    by_cases c4 : 0 ≤ x8_1
    ·rw [if_pos c4] at H; have c4b0 : decide (0 ≤ x8_1) = true := decide_eq_true c4; clear c4
     by_cases c5 : x8_1 < (l0.length : Int)
     ·rw [if_pos c5] at H; have c5b0 : decide (x8_1 < (l0.length : Int)) = true := decide_eq_true c5; clear c5
      by_cases c6 : a1.toList = (rdOf ByteArray.empty l0 x8_1).toList
      ·rw [if_pos c6] at H; have c6b0 : (a1.toList == (rdOf ByteArray.empty l0 x8_1).toList) = true := beq_iff_eq.mpr c6; have c6b1 : (a1.toList != (rdOf ByteArray.empty l0 x8_1).toList) = false := bne_eq_false_iff_eq.mpr c6; clear c6; obtain rfl := Option.some.inj H; have p384 : 0 ≤ (x8_1 : Int) := of_decide_eq_true z3; have q384 : x8_1 < (l0.length : Int) := of_decide_eq_true z3; obtain ⟨ad384, e384, hx384_0⟩ := Kd.at_string HR0.out x8_1 p384 q384; cases e384; replace p384 := eq_true p384; replace q384 := eq_true q384; go_wp2
       go_ret; exact ⟨z5, z13⟩
      ·rw [if_neg c6] at H; have c6b0 : (a1.toList == (rdOf ByteArray.empty l0 x8_1).toList) = false := beq_eq_false_iff_ne.mpr c6; have c6b1 : (a1.toList != (rdOf ByteArray.empty l0 x8_1).toList) = true := bne_iff_ne.mpr c6; have H' := Aside0.mk H; clear H; have p384 : 0 ≤ (x8_1 : Int) := of_decide_eq_true z3; have q384 : x8_1 < (l0.length : Int) := of_decide_eq_true z3; obtain ⟨ad384, e384, hx384_0⟩ := Kd.at_string HR0.out x8_1 p384 q384; cases e384; replace p384 := eq_true p384; replace q384 := eq_true q384; go_wp2
       go_roundg k1
       (case measure => have := HK1.out; omega); case rel => exact ⟨(wrap64 (x8_1 + 1)), z5, H', ⟨z79⟩, z13⟩
     ·rw [if_neg c5] at H; exact absurd H (by simp)
    ·rw [if_neg c4] at H; exact absurd H (by simp)
   ·rw [if_neg c3] at H; have c3b0 : decide (x8_1 < (l0.length : Int)) = false := decide_eq_false c3; clear c3; obtain rfl := Option.some.inj H; go_wp2
    go_ret; exact ⟨z5, z13⟩

/-! ### slices_Contains_string_string: function 84 -/
def slices_Contains_string_string.f (k : Nat) (l0 : List ByteArray) (a1 : ByteArray) : Option (Bool) := (slices_Index_string_string.f k l0 a1).bind fun t385 => (some (decide (t385 ≥ 0)))
theorem slices_Contains_string_string.mono : ∀ a0 a1 k, LeO (slices_Contains_string_string.f k a0 a1) (slices_Contains_string_string.f (k + 1) a0 a1) := by
 intro a0 a1 k; unfold slices_Contains_string_string.f
 repeat' first | (with_reducible first | exact slices_Index_string_string.mono _ _ _ | exact LeO.refl _ | exact LeO.none _ | refine LeO.ite ?_ ?_ | refine LeO.bind ?_ (fun _ => ?_)) | exact slices_Index_string_string.mono _ _ _ | exact LeO.none _ | refine LeO.ite ?_ ?_ | refine LeO.bind ?_ (fun _ => ?_)
set_option maxHeartbeats 8000000 in
set_option maxRecDepth 100000 in
theorem slices_Contains_string_string.calls (k : Nat) (A0 : Option Addr) (c0 : Nat) (l0 : List ByteArray) (a1 : ByteArray) (r : Bool) (w : World) (hr0 : Kd.C Kd.string w A0 l0.length l0) (hc0 : l0.length ≤ c0) (h : slices_Contains_string_string.f k l0 a1 = some r) :
  Calls Tryz.prog 84 #[.slice A0 l0.length c0, .string a1] w fun e w' => e = .returned (.bool r) ∧ Drawn0 w w' := by
 have HR0 := Aside0.mk hr0; have HC0 := Aside0.mk hc0; clear hr0 hc0; have H : ((slices_Index_string_string.f k l0 a1).bind fun t385 => (some (decide (t385 ≥ 0)))) = some r := h; clear h; replace H := Option.bind_eq_some_iff.mp H; obtain ⟨t385, A30, H⟩ := H; (try dsimp only at H); have A3 := Aside0.mk A30; clear A30; obtain rfl := Option.some.inj H; go_enter Tryz.func84, Tryz.ntmps84
 go_wp2_with (first | ((with_reducible refine gate_callee (f := 102) rfl ?_); refine goesQ_ 7 Tryz.func102 #[.slice A0 l0.length c0, .string a1] ?_; (with_reducible refine (slices_Index_string_string.calls k _ _ l0 a1 t385 _ ?side1 ?side2 A3.out).mono ?_); (case side1 => repeat (first | exact HR0.out | (with_reducible refine Kd.C_alloc ?_ _) | (with_reducible refine Kd.C_drewN ?_ _) | (with_reducible refine Kd.C_drew ?_))); (case side2 => exact HC0.out); rintro e w' ⟨rfl, ⟨nd, rfl⟩⟩; refine ⟨_, rfl, ?_⟩))
 go_ret; exact ⟨z5, z13⟩

end Go.Proofs.YtkkolioolgpljaaGreatDoor.GFnUrls
