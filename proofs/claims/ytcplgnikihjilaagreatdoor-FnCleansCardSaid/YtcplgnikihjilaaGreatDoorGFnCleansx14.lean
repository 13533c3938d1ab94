-- Laid by gen.py of this session (over the kit's printing program): what the law FnCleans reaches, as Lean functions, and that Go comes to just that.
import Derived.Test.YtcplgnikihjilaaGreatDoorGFnCleansx0
import Derived.Test.YtcplgnikihjilaaGreatDoorGFnCleansx3
import Derived.Test.YtcplgnikihjilaaGreatDoorGFnCleansx5
import Derived.Test.YtcplgnikihjilaaGreatDoorGFnCleansx8
import Derived.Test.YtcplgnikihjilaaGreatDoorGFnCleansx13
import Derived.Test.YtcplgnikihjilaaGreatDoorZFnCleans
namespace Go.Proofs.YtcplgnikihjilaaGreatDoor.GFnCleans
open Go.RowKit Go.Proofs.YtcplgnikihjilaaGreatDoorW.PrintWords Go.Proofs.YtcplgnikihjilaaGreatDoorW.PrintLast Go.Proofs.YtcplgnikihjilaaGreatDoorW.PrintMore Go.Proofs.YtcplgnikihjilaaGreatDoorW.Zs
attribute [local go_sem] max2_int min2_int max_two min_two max_three min_three max_four min_four   -- for this text's walks alone
set_option linter.unusedVariables false
set_option linter.unusedSimpArgs false

/-! ### laws_FnCleans: function 7 -/
mutual
def laws_FnCleans.j0 : Nat → ByteArray → Bool → Option (Bool)
 | 0, _, _ => none
 | k + 1, x4, x28 => if x28 = true then (some false) else (if x4.size + 1 ≤ 9223372036854775807 then (laws_FnCleans.l0 k (x4 ++ (⟨#[47]⟩ : ByteArray)) 0) else (none))
def laws_FnCleans.l0 : Nat → ByteArray → Int → Option (Bool)
 | 0, _, _ => none
 | k + 1, x5, x6 => if (wrap64 (x6 + 3)) ≤ (x5.size : Int) then (if 0 ≤ x6 then (if x6 ≤ (wrap64 (x6 + 3)) then (if (x5.extract (x6 : Int).toNat ((wrap64 (x6 + 3)) : Int).toNat).toList = ([47, 46, 47] : List UInt8) then (some false) else (if (wrap64 (x6 + 4)) ≤ (x5.size : Int) then (if x6 ≤ (wrap64 (x6 + 4)) then (if (x5.extract (x6 : Int).toNat ((wrap64 (x6 + 4)) : Int).toNat).toList = ([47, 46, 46, 47] : List UInt8) then (some false) else (laws_FnCleans.l0 k x5 (wrap64 (x6 + 1)))) else (none)) else (laws_FnCleans.l0 k x5 (wrap64 (x6 + 1))))) else (none)) else (none)) else ((laws_places.f k).bind fun t346 => (some t346))
end
def laws_FnCleans.f (k : Nat) (l0 : List Int) : Option (Bool) := (spec_DrawCleanPath.f k l0).bind fun t341 => ((impl_CleanPath.f k t341).bind fun t342 => ((spec_CleanPath.f k t341).bind fun t343 => (if t343.toList = ([] : List UInt8) then (if t342.toList = ([] : List UInt8) then ((laws_places.f k).bind fun t344 => (some t344)) else (some false)) else ((laws_within.f (⟨#[47]⟩ : ByteArray) t342).bind fun t345 => (if t345 = true then (laws_FnCleans.j0 k t342 (decide ((t342.size : Int) > (t341.size : Int)))) else (laws_FnCleans.j0 k t342 true))))))
theorem laws_FnCleans.mono_l : ∀ k, (∀ y0 y1, LeO (laws_FnCleans.j0 k y0 y1) (laws_FnCleans.j0 (k + 1) y0 y1)) ∧ (∀ y0 y1, LeO (laws_FnCleans.l0 k y0 y1) (laws_FnCleans.l0 (k + 1) y0 y1))
 | 0 => ⟨fun _ _ r h => by simp [laws_FnCleans.j0] at h, fun _ _ r h => by simp [laws_FnCleans.l0] at h⟩
 | k + 1 => by
  obtain ⟨ih0, ih1⟩ := laws_FnCleans.mono_l k
  refine ⟨?_, ?_⟩
  ·intro y0 y1
   unfold laws_FnCleans.j0
   repeat' first | (with_reducible first | exact ih0 _ _ | exact ih1 _ _ | exact impl_CleanPath.mono _ _ | exact laws_places.mono _ | exact spec_CleanPath.mono _ _ | exact spec_DrawCleanPath.mono _ _ | exact LeO.refl _ | exact LeO.none _ | refine LeO.ite ?_ ?_ | refine LeO.bind ?_ (fun _ => ?_)) | exact ih0 _ _ | exact ih1 _ _ | exact impl_CleanPath.mono _ _ | exact laws_places.mono _ | exact spec_CleanPath.mono _ _ | exact spec_DrawCleanPath.mono _ _ | exact LeO.none _ | refine LeO.ite ?_ ?_ | refine LeO.bind ?_ (fun _ => ?_)
  ·intro y0 y1
   unfold laws_FnCleans.l0
   repeat' first | (with_reducible first | exact ih0 _ _ | exact ih1 _ _ | exact impl_CleanPath.mono _ _ | exact laws_places.mono _ | exact spec_CleanPath.mono _ _ | exact spec_DrawCleanPath.mono _ _ | exact LeO.refl _ | exact LeO.none _ | refine LeO.ite ?_ ?_ | refine LeO.bind ?_ (fun _ => ?_)) | exact ih0 _ _ | exact ih1 _ _ | exact impl_CleanPath.mono _ _ | exact laws_places.mono _ | exact spec_CleanPath.mono _ _ | exact spec_DrawCleanPath.mono _ _ | exact LeO.none _ | refine LeO.ite ?_ ?_ | refine LeO.bind ?_ (fun _ => ?_)
theorem laws_FnCleans.mono : ∀ a0 k, LeO (laws_FnCleans.f k a0) (laws_FnCleans.f (k + 1) a0) := by
 intro a0 k
 obtain ⟨ih0, ih1⟩ := laws_FnCleans.mono_l k
 unfold laws_FnCleans.f
 repeat' first | (with_reducible first | exact ih0 _ _ | exact ih1 _ _ | exact impl_CleanPath.mono _ _ | exact laws_places.mono _ | exact spec_CleanPath.mono _ _ | exact spec_DrawCleanPath.mono _ _ | exact LeO.refl _ | exact LeO.none _ | refine LeO.ite ?_ ?_ | refine LeO.bind ?_ (fun _ => ?_)) | exact ih0 _ _ | exact ih1 _ _ | exact impl_CleanPath.mono _ _ | exact laws_places.mono _ | exact spec_CleanPath.mono _ _ | exact spec_DrawCleanPath.mono _ _ | exact LeO.none _ | refine LeO.ite ?_ ?_ | refine LeO.bind ?_ (fun _ => ?_)
set_option maxHeartbeats 8000000 in
set_option maxRecDepth 100000 in
theorem laws_FnCleans.calls (k : Nat) (A0 : Option Addr) (c0 : Nat) (l0 : List Int) (r : Bool) (w : World) (hG : Gl w) (hr0 : Kd.C (Kd.int .u8) w A0 l0.length l0) (hc0 : l0.length ≤ c0) (h : laws_FnCleans.f k l0 = some r) :
  Calls Tryz.prog 7 #[.slice A0 l0.length c0] w fun e w' => e = .returned (.bool r) ∧ Below w.heap.size w w' := by
 have HG := Aside0.mk hG
 clear hG
 have HR0 := Aside0.mk hr0
 have HC0 := Aside0.mk hc0
 clear hr0 hc0
 have HB := Aside0.mk (Below.refl w.heap.size w)
 have H : ((spec_DrawCleanPath.f k l0).bind fun t341 => ((impl_CleanPath.f k t341).bind fun t342 => ((spec_CleanPath.f k t341).bind fun t343 => (if t343.toList = ([] : List UInt8) then (if t342.toList = ([] : List UInt8) then ((laws_places.f k).bind fun t344 => (some t344)) else (some false)) else ((laws_within.f (⟨#[47]⟩ : ByteArray) t342).bind fun t345 => (if t345 = true then (laws_FnCleans.j0 k t342 (decide ((t342.size : Int) > (t341.size : Int)))) else (laws_FnCleans.j0 k t342 true))))))) = some r := h
 clear h
 replace H := Option.bind_eq_some_iff.mp H
 obtain ⟨t341, A20, H⟩ := H
 try dsimp only at H
 have A2 := Aside0.mk A20
 clear A20
 replace H := Option.bind_eq_some_iff.mp H
 obtain ⟨t342, A30, H⟩ := H
 try dsimp only at H
 have A3 := Aside0.mk A30
 clear A30
 replace H := Option.bind_eq_some_iff.mp H
 obtain ⟨t343, A40, H⟩ := H
 try dsimp only at H
 have A4 := Aside0.mk A40
 clear A40
 by_cases c5 : t343.toList = ([] : List UInt8)
 ·rw [if_pos c5] at H
  have c5b0 : (t343.toList == ([] : List UInt8)) = true := beq_iff_eq.mpr c5
  have c5e : t343.toList.isEmpty = true := by have hz_ := beq_iff_eq.1 c5b0; rw [hz_]; rfl
  (try rw [c5e])
  have c5b1 : (t343.toList != ([] : List UInt8)) = false := bne_eq_false_iff_eq.mpr c5
  clear c5
  by_cases c6 : t342.toList = ([] : List UInt8)
  ·rw [if_pos c6] at H
   have c6b0 : (t342.toList == ([] : List UInt8)) = true := beq_iff_eq.mpr c6
   have c6e : t342.toList.isEmpty = true := by have hz_ := beq_iff_eq.1 c6b0; rw [hz_]; rfl
   (try rw [c6e])
   have c6b1 : (t342.toList != ([] : List UInt8)) = false := bne_eq_false_iff_eq.mpr c6
   clear c6
   replace H := Option.bind_eq_some_iff.mp H
   obtain ⟨t344, A70, H⟩ := H
   try dsimp only at H
   have A7 := Aside0.mk A70
   clear A70
   obtain rfl := Option.some.inj H
   go_enter Tryz.func7, Tryz.ntmps7
   go_wp2_with (first | ((with_reducible refine gate_callee (f := 18) rfl ?_); refine goesQ_ 8 Tryz.func18 #[.slice A0 l0.length c0] ?_; (with_reducible refine (spec_DrawCleanPath.calls k _ _ l0 t341 _ ?side1 ?side2 A2.out).mono ?_); (case side1 => repeat (first | exact HR0.out | (with_reducible refine Kd.C_alloc ?_ _) | (with_reducible refine Kd.C_drewN ?_ _) | (with_reducible refine Kd.C_drew ?_))); (case side2 => exact HC0.out); rintro e w8 ⟨rfl, hb⟩; refine ⟨_, rfl, ?_⟩; replace HB := Aside0.mk (below_step z0 hb); (try clear hb)) | ((with_reducible refine gate_callee (f := 19) rfl ?_); refine goesQ_ 10 Tryz.func19 #[.string t341] ?_; (with_reducible refine (impl_CleanPath.calls k t341 t342 _ ?side1 A3.out).mono ?_); (case side1 => exact Gl.below HG.out z0); rintro e w9 ⟨rfl, hb⟩; refine ⟨_, rfl, ?_⟩; replace HB := Aside0.mk (below_step z0 hb); (try clear hb)) | ((with_reducible refine gate_callee (f := 20) rfl ?_); refine goesQ_ 12 Tryz.func20 #[.string t341] ?_; (with_reducible refine (spec_CleanPath.calls k t341 t343 _ A4.out).mono ?_); rintro e w10 ⟨rfl, hb⟩; refine ⟨_, rfl, ?_⟩; replace HB := Aside0.mk (below_step z0 hb); (try clear hb)) | (go_at_call 21; (with_reducible refine (laws_places.calls k  t344 _ ?side1 A7.out).mono ?_); (case side1 => exact Gl.below HG.out z0); rintro e w11 ⟨rfl, hb⟩; have n0_ := Aside0.mk (below_step z0 hb); clear HB; have HB := n0_; clear n0_; (try clear hb); (try clear hb2); (try clear hk); (try clear hi)))
   go_ret
   exact ⟨z4, z0⟩
  ·rw [if_neg c6] at H
   have c6b0 : (t342.toList == ([] : List UInt8)) = false := beq_eq_false_iff_ne.mpr c6
   have c6e : t342.toList.isEmpty = false := by cases hz_ : t342.toList with | nil => (rw [hz_] at c6b0; exact absurd c6b0 (by decide)) | cons _ _ => rfl
   (try rw [c6e])
   have c6b1 : (t342.toList != ([] : List UInt8)) = true := bne_iff_ne.mpr c6
   obtain rfl := Option.some.inj H
   go_enter Tryz.func7, Tryz.ntmps7
   go_wp2_with (first | ((with_reducible refine gate_callee (f := 18) rfl ?_); refine goesQ_ 8 Tryz.func18 #[.slice A0 l0.length c0] ?_; (with_reducible refine (spec_DrawCleanPath.calls k _ _ l0 t341 _ ?side1 ?side2 A2.out).mono ?_); (case side1 => repeat (first | exact HR0.out | (with_reducible refine Kd.C_alloc ?_ _) | (with_reducible refine Kd.C_drewN ?_ _) | (with_reducible refine Kd.C_drew ?_))); (case side2 => exact HC0.out); rintro e w12 ⟨rfl, hb⟩; refine ⟨_, rfl, ?_⟩; replace HB := Aside0.mk (below_step z0 hb); (try clear hb)) | ((with_reducible refine gate_callee (f := 19) rfl ?_); refine goesQ_ 10 Tryz.func19 #[.string t341] ?_; (with_reducible refine (impl_CleanPath.calls k t341 t342 _ ?side1 A3.out).mono ?_); (case side1 => exact Gl.below HG.out z0); rintro e w13 ⟨rfl, hb⟩; refine ⟨_, rfl, ?_⟩; replace HB := Aside0.mk (below_step z0 hb); (try clear hb)) | ((with_reducible refine gate_callee (f := 20) rfl ?_); refine goesQ_ 12 Tryz.func20 #[.string t341] ?_; (with_reducible refine (spec_CleanPath.calls k t341 t343 _ A4.out).mono ?_); rintro e w14 ⟨rfl, hb⟩; refine ⟨_, rfl, ?_⟩; replace HB := Aside0.mk (below_step z0 hb); (try clear hb)))
   go_ret
   exact ⟨z4, z0⟩
 ·rw [if_neg c5] at H
  have c5b0 : (t343.toList == ([] : List UInt8)) = false := beq_eq_false_iff_ne.mpr c5
  have c5e : t343.toList.isEmpty = false := by cases hz_ : t343.toList with | nil => (rw [hz_] at c5b0; exact absurd c5b0 (by decide)) | cons _ _ => rfl
  (try rw [c5e])
  have c5b1 : (t343.toList != ([] : List UInt8)) = true := bne_iff_ne.mpr c5
  have HC15 := Aside0.mk H
  clear H
  go_enter Tryz.func7, Tryz.ntmps7
  go_upto_region 5 with (first | ((with_reducible refine gate_callee (f := 18) rfl ?_); refine goesQ_ 8 Tryz.func18 #[.slice A0 l0.length c0] ?_; (with_reducible refine (spec_DrawCleanPath.calls k _ _ l0 t341 _ ?side1 ?side2 A2.out).mono ?_); (case side1 => repeat (first | exact HR0.out | (with_reducible refine Kd.C_alloc ?_ _) | (with_reducible refine Kd.C_drewN ?_ _) | (with_reducible refine Kd.C_drew ?_))); (case side2 => exact HC0.out); rintro e w16 ⟨rfl, hb⟩; refine ⟨_, rfl, ?_⟩; replace HB := Aside0.mk (below_step z0 hb); (try clear hb)) | ((with_reducible refine gate_callee (f := 19) rfl ?_); refine goesQ_ 10 Tryz.func19 #[.string t341] ?_; (with_reducible refine (impl_CleanPath.calls k t341 t342 _ ?side1 A3.out).mono ?_); (case side1 => exact Gl.below HG.out z0); rintro e w17 ⟨rfl, hb⟩; refine ⟨_, rfl, ?_⟩; replace HB := Aside0.mk (below_step z0 hb); (try clear hb)) | ((with_reducible refine gate_callee (f := 20) rfl ?_); refine goesQ_ 12 Tryz.func20 #[.string t341] ?_; (with_reducible refine (spec_CleanPath.calls k t341 t343 _ A4.out).mono ?_); rintro e w18 ⟨rfl, hb⟩; refine ⟨_, rfl, ?_⟩; replace HB := Aside0.mk (below_step z0 hb); (try clear hb)))
  (try simp only [Act.put, List.setIfInBounds_toArray, List.set_cons_zero, List.set_cons_succ])
  go_cut [28] (fun v28 wc => ∃ (kq : Nat) (x28_14 : Bool), v28 = .bool x28_14 ∧ Aside0 (laws_FnCleans.j0 kq t342 x28_14 = some r) ∧ Aside0 (kq ≤ k) ∧ Aside0 (Below w.heap.size w wc))
  case first =>
   have H := HC15.out
   clear HC15
   replace H := Option.bind_eq_some_iff.mp H
   obtain ⟨t345, A190, H⟩ := H
   try dsimp only at H
   have A19 := Aside0.mk A190
   clear A190
   by_cases c20 : t345 = true
   ·subst c20
    rw [if_pos rfl] at H
    have H' := Aside0.mk H
    clear H
    go_wp2_with (first | ((with_reducible refine gate_callee (f := 22) rfl ?_); refine goesQ_ 20 Tryz.func22 #[.string (⟨#[47]⟩ : ByteArray), .string t342] ?_; (with_reducible refine (laws_within.calls (⟨#[47]⟩ : ByteArray) t342 true _ A19.out).mono ?_); rintro e w' ⟨rfl, ⟨nd, rfl⟩⟩; refine ⟨_, rfl, ?_⟩))
    go_meet
    case rel => exact ⟨_, (decide ((t342.size : Int) > (t341.size : Int))), z2, H', ⟨z21⟩, ⟨z0⟩⟩
   ·replace c20 := Bool.eq_false_iff.mpr c20
    subst c20
    rw [if_neg Bool.false_ne_true] at H
    have H' := Aside0.mk H
    clear H
    go_wp2_with (first | ((with_reducible refine gate_callee (f := 22) rfl ?_); refine goesQ_ 20 Tryz.func22 #[.string (⟨#[47]⟩ : ByteArray), .string t342] ?_; (with_reducible refine (laws_within.calls (⟨#[47]⟩ : ByteArray) t342 false _ A19.out).mono ?_); rintro e w' ⟨rfl, ⟨nd, rfl⟩⟩; refine ⟨_, rfl, ?_⟩))
    go_meet
    case rel => exact ⟨_, (true), z2, H', ⟨z21⟩, ⟨z0⟩⟩
  case rest =>
   clear HC15
   try clear c1
   try clear c2
   try clear p2
   try clear c5
   try clear c5b0
   try clear c5b1
   try clear c6
   try clear c6b0
   try clear c6b1
   try clear c7
   try clear c18
   try clear c19
   try clear c20
   obtain ⟨kq, x28_14, rfl, HA, HJ14, HB⟩ := hcut
   cases kq with
   | zero => exact absurd HA.out (by simp [laws_FnCleans.j0])
   | succ kj14 =>
    have H := HA.out
    clear HA
    simp only [laws_FnCleans.j0] at H
    by_cases c21 : x28_14 = true
    ·subst c21
     rw [if_pos rfl] at H
     obtain rfl := Option.some.inj H
     go_wp2
     go_ret
     exact ⟨z4, z0⟩
    ·replace c21 := Bool.eq_false_iff.mpr c21
     subst c21
     rw [if_neg Bool.false_ne_true] at H
     by_cases c22 : t342.size + 1 ≤ 9223372036854775807
     ·rw [if_pos c22] at H
      have c22b0 := eq_true c22
      have c22b1 : decide (t342.size + 1 ≤ 9223372036854775807) = true := decide_eq_true c22
      try have c22b2 : (9223372036854775807 < t342.size + 1) = False := eq_false (Nat.not_lt.2 c22)
      have H' := Aside0.mk H
      clear H
      go_wp2
      go_loopg [6] kj14 (fun kq v6 w' => ∃ (x6_2 : Int), v6 = .int .i64 x6_2 ∧ Aside0 (laws_FnCleans.l0 kq (t342 ++ (⟨#[47]⟩ : ByteArray)) x6_2 = some r) ∧ Aside0 (kq ≤ kj14) ∧ Aside0 (Below w.heap.size w w'))
      case atStart => exact ⟨(0), z2, H', ⟨Nat.le_refl _⟩, ⟨z0⟩⟩
      case round =>
       generalize hx7_ : t342 ++ (⟨#[47]⟩ : ByteArray) = x7_ at *
       clear H'
       try clear c1
       try clear c2
       try clear p2
       try clear c5
       try clear c5b0
       try clear c5b1
       try clear c6
       try clear c6b0
       try clear c6b1
       try clear c7
       try clear c18
       try clear c19
       try clear c20
       try clear c21
       try clear c22
       try clear c22b0
       try clear c22b1
       try clear c22b2
       try clear p2
       obtain ⟨x6_2, rfl, HA, HK2, HB⟩ := hrel
       cases gk with
       | zero => exact absurd HA.out (by simp [laws_FnCleans.l0])
       | succ k2 =>
        have H := HA.out
        clear HA
        simp only [laws_FnCleans.l0] at H
        by_cases c23 : (wrap64 (x6_2 + 3)) ≤ (x7_.size : Int)
        ·rw [if_pos c23] at H
         have c23b0 : decide ((wrap64 (x6_2 + 3)) ≤ (x7_.size : Int)) = true := decide_eq_true c23
         clear c23
         by_cases c24 : 0 ≤ x6_2
         ·rw [if_pos c24] at H
          have c24b0 := eq_true c24
          have c24b1 : decide (0 ≤ x6_2) = true := decide_eq_true c24
          clear c24
          by_cases c25 : x6_2 ≤ (wrap64 (x6_2 + 3))
          ·rw [if_pos c25] at H
           have c25b0 := eq_true c25
           have c25b1 : decide (x6_2 ≤ (wrap64 (x6_2 + 3))) = true := decide_eq_true c25
           have c26b0 := eq_true (of_decide_eq_true z1 : (wrap64 (x6_2 + 3)) ≤ (x7_.size : Int))
           by_cases c27 : (x7_.extract (x6_2 : Int).toNat ((wrap64 (x6_2 + 3)) : Int).toNat).toList = ([47, 46, 47] : List UInt8)
           ·rw [if_pos c27] at H
            have c27b0 : ((x7_.extract (x6_2 : Int).toNat ((wrap64 (x6_2 + 3)) : Int).toNat).toList == ([47, 46, 47] : List UInt8)) = true := beq_iff_eq.mpr c27
            have c27b1 : ((x7_.extract (x6_2 : Int).toNat ((wrap64 (x6_2 + 3)) : Int).toNat).toList != ([47, 46, 47] : List UInt8)) = false := bne_eq_false_iff_eq.mpr c27
            clear c27
            obtain rfl := Option.some.inj H
            go_wp2
            go_ret
            exact ⟨z4, z0⟩
           ·rw [if_neg c27] at H
            have c27b0 : ((x7_.extract (x6_2 : Int).toNat ((wrap64 (x6_2 + 3)) : Int).toNat).toList == ([47, 46, 47] : List UInt8)) = false := beq_eq_false_iff_ne.mpr c27
            have c27b1 : ((x7_.extract (x6_2 : Int).toNat ((wrap64 (x6_2 + 3)) : Int).toNat).toList != ([47, 46, 47] : List UInt8)) = true := bne_iff_ne.mpr c27
            by_cases c28 : (wrap64 (x6_2 + 4)) ≤ (x7_.size : Int)
            ·rw [if_pos c28] at H
             have c28b0 : decide ((wrap64 (x6_2 + 4)) ≤ (x7_.size : Int)) = true := decide_eq_true c28
             clear c28
             have c29b0 := eq_true (of_decide_eq_true z1 : 0 ≤ x6_2)
             by_cases c30 : x6_2 ≤ (wrap64 (x6_2 + 4))
             ·rw [if_pos c30] at H
              have c30b0 := eq_true c30
              have c30b1 : decide (x6_2 ≤ (wrap64 (x6_2 + 4))) = true := decide_eq_true c30
              have c31b0 := eq_true (of_decide_eq_true z1 : (wrap64 (x6_2 + 4)) ≤ (x7_.size : Int))
              by_cases c32 : (x7_.extract (x6_2 : Int).toNat ((wrap64 (x6_2 + 4)) : Int).toNat).toList = ([47, 46, 46, 47] : List UInt8)
              ·rw [if_pos c32] at H
               have c32b0 : ((x7_.extract (x6_2 : Int).toNat ((wrap64 (x6_2 + 4)) : Int).toNat).toList == ([47, 46, 46, 47] : List UInt8)) = true := beq_iff_eq.mpr c32
               have c32b1 : ((x7_.extract (x6_2 : Int).toNat ((wrap64 (x6_2 + 4)) : Int).toNat).toList != ([47, 46, 46, 47] : List UInt8)) = false := bne_eq_false_iff_eq.mpr c32
               clear c32
               obtain rfl := Option.some.inj H
               go_wp2
               go_ret
               exact ⟨z4, z0⟩
              ·rw [if_neg c32] at H
               have c32b0 : ((x7_.extract (x6_2 : Int).toNat ((wrap64 (x6_2 + 4)) : Int).toNat).toList == ([47, 46, 46, 47] : List UInt8)) = false := beq_eq_false_iff_ne.mpr c32
               have c32b1 : ((x7_.extract (x6_2 : Int).toNat ((wrap64 (x6_2 + 4)) : Int).toNat).toList != ([47, 46, 46, 47] : List UInt8)) = true := bne_iff_ne.mpr c32
               have H' := Aside0.mk H
               clear H
               go_wp2
               go_roundg k2
               case measure => have := HJ14.out; have := HK2.out; omega
               case rel => exact ⟨(wrap64 (x6_2 + 1)), z2, H', ⟨by have := HJ14.out; have := HK2.out; omega⟩, ⟨z0⟩⟩
             ·rw [if_neg c30] at H
              exact absurd H (by simp)
            ·rw [if_neg c28] at H
             have c28b0 : decide ((wrap64 (x6_2 + 4)) ≤ (x7_.size : Int)) = false := decide_eq_false c28
             clear c28
             have H' := Aside0.mk H
             clear H
             go_wp2
             go_roundg k2
             case measure => have := HJ14.out; have := HK2.out; omega
             case rel => exact ⟨(wrap64 (x6_2 + 1)), z2, H', ⟨by have := HJ14.out; have := HK2.out; omega⟩, ⟨z0⟩⟩
          ·rw [if_neg c25] at H
           exact absurd H (by simp)
         ·rw [if_neg c24] at H
          exact absurd H (by simp)
        ·rw [if_neg c23] at H
         have c23b0 : decide ((wrap64 (x6_2 + 3)) ≤ (x7_.size : Int)) = false := decide_eq_false c23
         clear c23
         replace H := Option.bind_eq_some_iff.mp H
         obtain ⟨t346, A330, H⟩ := H
         try dsimp only at H
         have A33 := Aside0.mk A330
         clear A330
         obtain rfl := Option.some.inj H
         go_wp2_with (first | ((with_reducible refine gate_callee (f := 21) rfl ?_); refine goesQ_ 59 Tryz.func21 #[] ?_; (with_reducible refine (laws_places.calls k2  t346 _ ?side1 A33.out).mono ?_); (case side1 => exact Gl.below HG.out z0); rintro e w34 ⟨rfl, hb⟩; refine ⟨_, rfl, ?_⟩; replace HB := Aside0.mk (below_step z0 hb); (try clear hb)))
         go_ret
         exact ⟨z4, z0⟩
     ·rw [if_neg c22] at H
      exact absurd H (by simp)

/-- THE ONE PURE STATEMENT of laws_FnCleans. -/
def laws_FnCleans.Pure : Prop := ∀ (l0 : List Int), (l0.length ≤ 9223372036854775807 ∧ ∀ x ∈ l0, (Lit.int .u8 x).wf = true) → ∃ k, laws_FnCleans.f k l0 = some true
theorem laws_FnCleans.walk (P : laws_FnCleans.Pure) (A0 : Option Addr) (c0 : Nat) (l0 : List Int) (w : World) (hG : Gl w) (hr0 : Kd.C (Kd.int .u8) w A0 l0.length l0) (hc0 : l0.length ≤ c0) (ok_0 : l0.length ≤ 9223372036854775807 ∧ ∀ x ∈ l0, (Lit.int .u8 x).wf = true) :
  Calls Tryz.prog 7 #[.slice A0 l0.length c0] w fun e w' => e = .returned (.bool true) ∧ Below w.heap.size w w' := by
 obtain ⟨k, h⟩ := P l0 ok_0
 refine (laws_FnCleans.calls k A0 c0 l0 true w hG hr0 hc0 h).mono ?_
 rintro e w' ⟨rfl, hd⟩
 exact ⟨rfl, hd⟩

end Go.Proofs.YtcplgnikihjilaaGreatDoor.GFnCleans
