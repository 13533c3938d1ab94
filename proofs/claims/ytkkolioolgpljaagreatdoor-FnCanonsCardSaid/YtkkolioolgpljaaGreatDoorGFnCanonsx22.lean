-- Laid by gen.py of this session (over the kit's printing program): what the law FnCanons reaches, as Lean functions, and that Go comes to just that.
import Derived.Test.YtkkolioolgpljaaGreatDoorGFnCanonsx0
import Derived.Test.YtkkolioolgpljaaGreatDoorGFnCanonsx1
import Derived.Test.YtkkolioolgpljaaGreatDoorGFnCanonsx10
import Derived.Test.YtkkolioolgpljaaGreatDoorGFnCanonsx11
import Derived.Test.YtkkolioolgpljaaGreatDoorGFnCanonsx13
import Derived.Test.YtkkolioolgpljaaGreatDoorGFnCanonsx14
import Derived.Test.YtkkolioolgpljaaGreatDoorGFnCanonsx21
import Derived.Test.YtkkolioolgpljaaGreatDoorZFnCanons
namespace Go.Proofs.YtkkolioolgpljaaGreatDoor.GFnCanons
open Go.RowKit Go.Proofs.YtkkolioolgpljaaGreatDoorW.PrintWords Go.Proofs.YtkkolioolgpljaaGreatDoorW.PrintLast Go.Proofs.YtkkolioolgpljaaGreatDoorW.PrintMore Go.Proofs.YtkkolioolgpljaaGreatDoorW.Zs
attribute [local go_sem] max2_int min2_int max_two min_two max_three min_three max_four min_four   -- for this text's walks alone
set_option linter.unusedVariables false
set_option linter.unusedSimpArgs false

attribute [local go_sem high] eqA24
/-! ### laws_within: function 15 -/
def laws_within.f (a0 : ByteArray) (a1 : ByteArray) : Option (Bool) := if (a0.size : Int) ≤ (a1.size : Int) then (if 0 ≤ (a0.size : Int) then (some ((a1.extract 0 ((a0.size : Int) : Int).toNat).toList == a0.toList)) else (none)) else (some false)
set_option maxHeartbeats 8000000 in
set_option maxRecDepth 100000 in
theorem laws_within.calls (a0 : ByteArray) (a1 : ByteArray) (r : Bool) (w : World) (h : laws_within.f a0 a1 = some r) :
  Calls Tryz.prog 15 #[.string a0, .string a1] w fun e w' => e = .returned (.bool r) ∧ Drawn0 w w' := by
 have H : (if (a0.size : Int) ≤ (a1.size : Int) then (if 0 ≤ (a0.size : Int) then (some ((a1.extract 0 ((a0.size : Int) : Int).toNat).toList == a0.toList)) else (none)) else (some false)) = some r := h
 clear h
 by_cases c3 : (a0.size : Int) ≤ (a1.size : Int)
 ·rw [if_pos c3] at H
  have c3b0 : decide ((a0.size : Int) ≤ (a1.size : Int)) = true := decide_eq_true c3
  have c3b1 : decide (a0.size ≤ a1.size) = true := decide_eq_true (Int.ofNat_le.mp c3)
  clear c3
  by_cases c4 : 0 ≤ (a0.size : Int)
  ·rw [if_pos c4] at H
   have c4b0 := eq_true c4
   have c4b1 : decide (0 ≤ (a0.size : Int)) = true := decide_eq_true c4
   clear c4
   have c5b0 := eq_true (of_decide_eq_true z3 : (a0.size : Int) ≤ (a1.size : Int))
   obtain rfl := Option.some.inj H
   go_enter Tryz.func15, Tryz.ntmps15
   go_wp2
   go_ret
   exact ⟨z5, z10⟩
  ·rw [if_neg c4] at H
   exact absurd H (by simp)
 ·rw [if_neg c3] at H
  have c3b0 : decide ((a0.size : Int) ≤ (a1.size : Int)) = false := decide_eq_false c3
  have c3b1 : decide (a0.size ≤ a1.size) = false := decide_eq_false (fun h => c3 (Int.ofNat_le.mpr h))
  clear c3
  obtain rfl := Option.some.inj H
  go_enter Tryz.func15, Tryz.ntmps15
  go_wp2
  go_ret
  exact ⟨z5, z10⟩

/-! ### laws_FnCanons: function 4 -/
def laws_FnCanons.f (k : Nat) (l0 : List Int) : Option (Bool) := (spec_DrawCanon.f k l0).bind fun t451 => ((impl_Canon.f k t451).bind fun bt452 => ((spec_Canon.f k t451).bind fun bt454 => (if (bt452.2 != bt454.2) = true then (some false) else (if bt452.2 = true then ((impl_Canon.f k bt452.1).bind fun bt457 => ((impl_ReadUrl.f k t451).bind fun bt459 => ((impl_ReadUrl.f k bt452.1).bind fun bt466 => (if bt457.2 = true then (if bt457.1.toList = bt452.1.toList then (if (bt459.1.toList == bt466.1.toList && (bt459.2.1 == bt466.2.1 && (bt459.2.2.1.toList == bt466.2.2.1.toList && (bt459.2.2.2.1.toList == bt466.2.2.2.1.toList && (bt459.2.2.2.2.1 == bt466.2.2.2.2.1))))) = true then ((laws_within.f (⟨#[104, 116, 116, 112, 58, 47, 47]⟩ : ByteArray) bt452.1).bind fun t473 => (if t473 = true then ((laws_places.f k).bind fun t474 => (some t474)) else (some false))) else (some false)) else (some false)) else (some false))))) else (if bt452.1.toList = ([] : List UInt8) then ((laws_places.f k).bind fun t456 => (some t456)) else (some false))))))
theorem laws_FnCanons.mono : ∀ a0 k, LeO (laws_FnCanons.f k a0) (laws_FnCanons.f (k + 1) a0) := by
 intro a0 k
 unfold laws_FnCanons.f
 repeat' first | (with_reducible first | exact impl_Canon.mono _ _ | exact impl_ReadUrl.mono _ _ | exact laws_places.mono _ | exact spec_Canon.mono _ _ | exact spec_DrawCanon.mono _ _ | exact LeO.refl _ | exact LeO.none _ | refine LeO.ite ?_ ?_ | refine LeO.bind ?_ (fun _ => ?_)) | exact impl_Canon.mono _ _ | exact impl_ReadUrl.mono _ _ | exact laws_places.mono _ | exact spec_Canon.mono _ _ | exact spec_DrawCanon.mono _ _ | exact LeO.none _ | refine LeO.ite ?_ ?_ | refine LeO.bind ?_ (fun _ => ?_)
set_option maxHeartbeats 8000000 in
set_option maxRecDepth 100000 in
theorem laws_FnCanons.calls (k : Nat) (A0 : Option Addr) (c0 : Nat) (l0 : List Int) (r : Bool) (w : World) (hG : Gl w) (hr0 : Kd.C (Kd.int .u8) w A0 l0.length l0) (hc0 : l0.length ≤ c0) (h : laws_FnCanons.f k l0 = some r) :
  Calls Tryz.prog 4 #[.slice A0 l0.length c0] w fun e w' => e = .returned (.bool r) ∧ Below w.heap.size w w' := by
 have hu24 := Tryz.underlying24
 have HG := Aside0.mk hG
 clear hG
 have HR0 := Aside0.mk hr0
 have HC0 := Aside0.mk hc0
 clear hr0 hc0
 have HB := Aside0.mk (Below.refl w.heap.size w)
 have H : ((spec_DrawCanon.f k l0).bind fun t451 => ((impl_Canon.f k t451).bind fun bt452 => ((spec_Canon.f k t451).bind fun bt454 => (if (bt452.2 != bt454.2) = true then (some false) else (if bt452.2 = true then ((impl_Canon.f k bt452.1).bind fun bt457 => ((impl_ReadUrl.f k t451).bind fun bt459 => ((impl_ReadUrl.f k bt452.1).bind fun bt466 => (if bt457.2 = true then (if bt457.1.toList = bt452.1.toList then (if (bt459.1.toList == bt466.1.toList && (bt459.2.1 == bt466.2.1 && (bt459.2.2.1.toList == bt466.2.2.1.toList && (bt459.2.2.2.1.toList == bt466.2.2.2.1.toList && (bt459.2.2.2.2.1 == bt466.2.2.2.2.1))))) = true then ((laws_within.f (⟨#[104, 116, 116, 112, 58, 47, 47]⟩ : ByteArray) bt452.1).bind fun t473 => (if t473 = true then ((laws_places.f k).bind fun t474 => (some t474)) else (some false))) else (some false)) else (some false)) else (some false))))) else (if bt452.1.toList = ([] : List UInt8) then ((laws_places.f k).bind fun t456 => (some t456)) else (some false))))))) = some r := h
 clear h
 replace H := Option.bind_eq_some_iff.mp H
 obtain ⟨t451, A20, H⟩ := H
 try dsimp only at H
 have A2 := Aside0.mk A20
 clear A20
 replace H := Option.bind_eq_some_iff.mp H
 obtain ⟨⟨t452, t453⟩, A30, H⟩ := H
 try dsimp only at H
 have A3 := Aside0.mk A30
 clear A30
 replace H := Option.bind_eq_some_iff.mp H
 obtain ⟨⟨t454, t455⟩, A40, H⟩ := H
 try dsimp only at H
 have A4 := Aside0.mk A40
 clear A40
 by_cases c5 : (t453 != t455) = true
 ·rw [if_pos c5] at H
  have c5b0 : (t453 != t455) = true := c5
  (try (have c5b1 : decide (t453 = t455) = false := by simpa using c5))
  (try (have c5b2 : (t453 == t455) = false := by simpa using c5))
  (try (have c5b3 : ¬ (t453 = t455) := by simpa using c5))
  clear c5
  obtain rfl := Option.some.inj H
  go_enter Tryz.func4, Tryz.ntmps4
  go_wp2_with (first | ((with_reducible refine gate_callee (f := 12) rfl ?_); refine goesQ_ 15 Tryz.func12 #[.slice A0 l0.length c0] ?_; (with_reducible refine (spec_DrawCanon.calls k _ _ l0 t451 _ ?side1 ?side2 A2.out).mono ?_); (case side1 => repeat (first | exact HR0.out | (with_reducible refine Kd.C_alloc ?_ _) | (with_reducible refine Kd.C_drewN ?_ _) | (with_reducible refine Kd.C_drew ?_))); (case side2 => exact HC0.out); rintro e w6 ⟨rfl, hb⟩; refine ⟨_, rfl, ?_⟩; replace HB := Aside0.mk (below_step z0 hb); (try clear hb)) | ((with_reducible refine gate_callee (f := 13) rfl ?_); refine goesQ_ 18 Tryz.func13 #[.string t451] ?_; (with_reducible refine (impl_Canon.calls k t451 t452 t453 _ ?side1 A3.out).mono ?_); (case side1 => exact Gl.below HG.out z0); rintro e w7 ⟨rfl, hb⟩; refine ⟨_, rfl, ?_⟩; replace HB := Aside0.mk (below_step z0 hb); (try clear hb)) | ((with_reducible refine gate_callee (f := 14) rfl ?_); refine goesQ_ 23 Tryz.func14 #[.string t451] ?_; (with_reducible refine (spec_Canon.calls k t451 t454 t455 _ A4.out).mono ?_); rintro e w8 ⟨rfl, hb⟩; refine ⟨_, rfl, ?_⟩; replace HB := Aside0.mk (below_step z0 hb); (try clear hb)))
  go_ret
  exact ⟨z4, z0⟩
 ·rw [if_neg c5] at H
  have c5b0 : (t453 != t455) = false := by simpa using c5
  (try (have c5b1 : decide (t453 = t455) = true := by simpa using c5))
  (try (have c5b2 : (t453 == t455) = true := by simpa using c5))
  clear c5
  by_cases c9 : t453 = true
  ·subst c9
   rw [if_pos rfl] at H
   replace H := Option.bind_eq_some_iff.mp H
   obtain ⟨⟨t457, t458⟩, A100, H⟩ := H
   try dsimp only at H
   have A10 := Aside0.mk A100
   clear A100
   replace H := Option.bind_eq_some_iff.mp H
   obtain ⟨⟨t459, t460, t461, t462, t463, t464⟩, A110, H⟩ := H
   try dsimp only at H
   have A11 := Aside0.mk A110
   clear A110
   replace H := Option.bind_eq_some_iff.mp H
   obtain ⟨⟨t466, t467, t468, t469, t470, t471⟩, A120, H⟩ := H
   try dsimp only at H
   have A12 := Aside0.mk A120
   clear A120
   by_cases c13 : t458 = true
   ·subst c13
    rw [if_pos rfl] at H
    by_cases c14 : t457.toList = t452.toList
    ·rw [if_pos c14] at H
     have c14b0 : (t457.toList == t452.toList) = true := beq_iff_eq.mpr c14
     have c14b1 : (t457.toList != t452.toList) = false := bne_eq_false_iff_eq.mpr c14
     clear c14
     by_cases c15 : (t459.toList == t466.toList && (t460 == t467 && (t461.toList == t468.toList && (t462.toList == t469.toList && (t463 == t470))))) = true
     ·rw [if_pos c15] at H
      have c15b0 : (t459.toList == t466.toList && (t460 == t467 && (t461.toList == t468.toList && (t462.toList == t469.toList && (t463 == t470))))) = true := c15
      (try (have c15b1 : decide (t459.toList = t466.toList && (t460 == t467 && (t461.toList == t468.toList && (t462.toList == t469.toList && (t463 == t470))))) = true := by simpa using c15))
      (try (have c15b2 : (t459.toList == t466.toList && (t460 == t467 && (t461.toList == t468.toList && (t462.toList == t469.toList && (t463 == t470))))) = true := by simpa using c15))
      clear c15
      replace H := Option.bind_eq_some_iff.mp H
      obtain ⟨t473, A160, H⟩ := H
      try dsimp only at H
      have A16 := Aside0.mk A160
      clear A160
      by_cases c17 : t473 = true
      ·subst c17
       rw [if_pos rfl] at H
       replace H := Option.bind_eq_some_iff.mp H
       obtain ⟨t474, A180, H⟩ := H
       try dsimp only at H
       have A18 := Aside0.mk A180
       clear A180
       obtain rfl := Option.some.inj H
       go_enter Tryz.func4, Tryz.ntmps4
       go_wp2_with (first | ((with_reducible refine gate_callee (f := 12) rfl ?_); refine goesQ_ 15 Tryz.func12 #[.slice A0 l0.length c0] ?_; (with_reducible refine (spec_DrawCanon.calls k _ _ l0 t451 _ ?side1 ?side2 A2.out).mono ?_); (case side1 => repeat (first | exact HR0.out | (with_reducible refine Kd.C_alloc ?_ _) | (with_reducible refine Kd.C_drewN ?_ _) | (with_reducible refine Kd.C_drew ?_))); (case side2 => exact HC0.out); rintro e w19 ⟨rfl, hb⟩; refine ⟨_, rfl, ?_⟩; replace HB := Aside0.mk (below_step z0 hb); (try clear hb)) | ((with_reducible refine gate_callee (f := 13) rfl ?_); refine goesQ_ 18 Tryz.func13 #[.string t451] ?_; (with_reducible refine (impl_Canon.calls k t451 t452 true _ ?side1 A3.out).mono ?_); (case side1 => exact Gl.below HG.out z0); rintro e w20 ⟨rfl, hb⟩; refine ⟨_, rfl, ?_⟩; replace HB := Aside0.mk (below_step z0 hb); (try clear hb)) | ((with_reducible refine gate_callee (f := 14) rfl ?_); refine goesQ_ 23 Tryz.func14 #[.string t451] ?_; (with_reducible refine (spec_Canon.calls k t451 t454 t455 _ A4.out).mono ?_); rintro e w21 ⟨rfl, hb⟩; refine ⟨_, rfl, ?_⟩; replace HB := Aside0.mk (below_step z0 hb); (try clear hb)) | ((with_reducible refine gate_callee (f := 13) rfl ?_); refine goesQ_ 38 Tryz.func13 #[.string t452] ?_; (with_reducible refine (impl_Canon.calls k t452 t457 true _ ?side1 A10.out).mono ?_); (case side1 => exact Gl.below HG.out z0); rintro e w22 ⟨rfl, hb⟩; refine ⟨_, rfl, ?_⟩; replace HB := Aside0.mk (below_step z0 hb); (try clear hb)) | ((with_reducible refine gate_callee (f := 10) rfl ?_); refine goesQ_ 43 Tryz.func10 #[.string t451] ?_; (with_reducible refine (impl_ReadUrl.calls k t451 t459 t460 t461 t462 t463 t464 _ ?side1 A11.out).mono ?_); (case side1 => exact Gl.below HG.out z0); rintro e w23 ⟨rfl, hb⟩; refine ⟨_, rfl, ?_⟩; replace HB := Aside0.mk (below_step z0 hb); (try clear hb)) | ((with_reducible refine gate_dst (N := 10) rfl ?_); refine boxP_ (N := 10) (cs := #[.string (⟨#[]⟩ : ByteArray), .int .i64 0, .string (⟨#[]⟩ : ByteArray), .string (⟨#[]⟩ : ByteArray), .bool false]) (t := 24) ?_; intro gb465 hg w24 hbox hb; have BK465 := Aside0.mk (hbox); have GE465 := geb_ (w := w) hg z0; replace HB := Aside0.mk (below_step z0 hb); clear hb hbox hg; obtain ⟨hcz25_0, hcz25_1, hcz25_2, hcz25_3, hcz25_4, hfz25_0, hfz25_1, hfz25_2, hfz25_3, hfz25_4⟩ := cells5_ BK465.out) | ((with_reducible refine gate_callee (f := 10) rfl ?_); refine goesQ_ 48 Tryz.func10 #[.string t452] ?_; (with_reducible refine (impl_ReadUrl.calls k t452 t466 t467 t468 t469 t470 t471 _ ?side1 A12.out).mono ?_); (case side1 => exact Gl.below HG.out z14); rintro e w26 ⟨rfl, hb⟩; refine ⟨_, rfl, ?_⟩; replace BK465 := Aside0.mk (blk_below (g := gb465) (o := .cells #[.string t459, .int .i64 t460, .string t461, .string t462, .bool t463] 24 (0, 0)) z7 hb); replace HB := Aside0.mk (below_step z14 hb); (try clear hb)) | ((with_reducible refine gate_dst (N := 12) rfl ?_); refine boxP_ (N := 12) (cs := #[.string (⟨#[]⟩ : ByteArray), .int .i64 0, .string (⟨#[]⟩ : ByteArray), .string (⟨#[]⟩ : ByteArray), .bool false]) (t := 24) ?_; intro gb472 hg w27 hbox hb; have BK472 := Aside0.mk (hbox); have GE472 := geb_ (w := w) hg z14; replace HB := Aside0.mk (below_step z14 hb); have NB465_472 := Aside0.mk ((by rw [hg]; exact Nat.ne_of_lt (blk_lt (g := gb465) (o := .cells #[.string t459, .int .i64 t460, .string t461, .string t462, .bool t463] 24 (0, 0)) z24) : gb465 ≠ gb472)); have NB472_465 := Aside0.mk ((by rw [hg]; exact Nat.ne_of_gt (blk_lt (g := gb465) (o := .cells #[.string t459, .int .i64 t460, .string t461, .string t462, .bool t463] 24 (0, 0)) z24) : gb472 ≠ gb465)); replace BK465 := Aside0.mk (blk_below (g := gb465) (o := .cells #[.string t459, .int .i64 t460, .string t461, .string t462, .bool t463] 24 (0, 0)) z24 hb); clear hb hbox hg; have hnb28 := NB472_465.out; have hnc28 := NB465_472.out; obtain ⟨hcz29_0, hcz29_1, hcz29_2, hcz29_3, hcz29_4, hfz29_0, hfz29_1, hfz29_2, hfz29_3, hfz29_4⟩ := cells5_ BK472.out; obtain ⟨hcz30_0, hcz30_1, hcz30_2, hcz30_3, hcz30_4, hfz30_0, hfz30_1, hfz30_2, hfz30_3, hfz30_4⟩ := cells5_ BK465.out) | (go_at_call 15; (with_reducible refine (laws_within.calls (⟨#[104, 116, 116, 112, 58, 47, 47]⟩ : ByteArray) t452 true _ A16.out).mono ?_); rintro e w' ⟨rfl, ⟨nd, rfl⟩⟩) | (go_at_call 9; (with_reducible refine (laws_places.calls k  t474 _ ?side1 A18.out).mono ?_); (case side1 => exact Gl.below HG.out z34); rintro e w31 ⟨rfl, hb⟩; have n0_ := Aside0.mk (blk_below (g := gb465) (o := .cells #[.string t459, .int .i64 t460, .string t461, .string t462, .bool t463] 24 (0, 0)) (by (with_reducible repeat (first | refine blk_drewN ?_ _ | refine blk_drew ?_ | refine blk_alloc ?_ _)); refine blk_far ?_ NB465_472.out _; (with_reducible repeat (first | refine blk_drewN ?_ _ | refine blk_drew ?_ | refine blk_alloc ?_ _)); refine blk_far ?_ NB465_472.out _; (with_reducible repeat (first | refine blk_drewN ?_ _ | refine blk_drew ?_ | refine blk_alloc ?_ _)); refine blk_far ?_ NB465_472.out _; (with_reducible repeat (first | refine blk_drewN ?_ _ | refine blk_drew ?_ | refine blk_alloc ?_ _)); refine blk_far ?_ NB465_472.out _; (with_reducible repeat (first | refine blk_drewN ?_ _ | refine blk_drew ?_ | refine blk_alloc ?_ _)); refine blk_far ?_ NB465_472.out _; (with_reducible repeat (first | refine blk_drewN ?_ _ | refine blk_drew ?_ | refine blk_alloc ?_ _)); exact BK465.out) hb); have n1_ := Aside0.mk (blk_below (g := gb472) (o := .cells #[.string t466, .int .i64 t467, .string t468, .string t469, .bool t470] 24 (0, 0)) (by (with_reducible repeat (first | refine blk_drewN ?_ _ | refine blk_drew ?_ | refine blk_alloc ?_ _)); refine blk_put (cs := #[.string t466, .int .i64 t467, .string t468, .string t469, .bool false]) ?_ 4 _ rfl; (with_reducible repeat (first | refine blk_drewN ?_ _ | refine blk_drew ?_ | refine blk_alloc ?_ _)); refine blk_put (cs := #[.string t466, .int .i64 t467, .string t468, .string (⟨#[]⟩ : ByteArray), .bool false]) ?_ 3 _ rfl; (with_reducible repeat (first | refine blk_drewN ?_ _ | refine blk_drew ?_ | refine blk_alloc ?_ _)); refine blk_put (cs := #[.string t466, .int .i64 t467, .string (⟨#[]⟩ : ByteArray), .string (⟨#[]⟩ : ByteArray), .bool false]) ?_ 2 _ rfl; (with_reducible repeat (first | refine blk_drewN ?_ _ | refine blk_drew ?_ | refine blk_alloc ?_ _)); refine blk_put (cs := #[.string t466, .int .i64 0, .string (⟨#[]⟩ : ByteArray), .string (⟨#[]⟩ : ByteArray), .bool false]) ?_ 1 _ rfl; (with_reducible repeat (first | refine blk_drewN ?_ _ | refine blk_drew ?_ | refine blk_alloc ?_ _)); refine blk_put (cs := #[.string (⟨#[]⟩ : ByteArray), .int .i64 0, .string (⟨#[]⟩ : ByteArray), .string (⟨#[]⟩ : ByteArray), .bool false]) ?_ 0 _ rfl; (with_reducible repeat (first | refine blk_drewN ?_ _ | refine blk_drew ?_ | refine blk_alloc ?_ _)); exact BK472.out) hb); have n2_ := Aside0.mk (below_step z34 hb); clear BK465; clear BK472; clear HB; have BK465 := n0_; have BK472 := n1_; have HB := n2_; clear n0_ n1_ n2_; (try clear hb); (try clear hb2); (try clear hk); (try clear hi)))
       go_ret
       exact ⟨z4, z34⟩
      ·replace c17 := Bool.eq_false_iff.mpr c17
       subst c17
       rw [if_neg Bool.false_ne_true] at H
       obtain rfl := Option.some.inj H
       go_enter Tryz.func4, Tryz.ntmps4
       go_wp2_with (first | ((with_reducible refine gate_callee (f := 12) rfl ?_); refine goesQ_ 15 Tryz.func12 #[.slice A0 l0.length c0] ?_; (with_reducible refine (spec_DrawCanon.calls k _ _ l0 t451 _ ?side1 ?side2 A2.out).mono ?_); (case side1 => repeat (first | exact HR0.out | (with_reducible refine Kd.C_alloc ?_ _) | (with_reducible refine Kd.C_drewN ?_ _) | (with_reducible refine Kd.C_drew ?_))); (case side2 => exact HC0.out); rintro e w32 ⟨rfl, hb⟩; refine ⟨_, rfl, ?_⟩; replace HB := Aside0.mk (below_step z0 hb); (try clear hb)) | ((with_reducible refine gate_callee (f := 13) rfl ?_); refine goesQ_ 18 Tryz.func13 #[.string t451] ?_; (with_reducible refine (impl_Canon.calls k t451 t452 true _ ?side1 A3.out).mono ?_); (case side1 => exact Gl.below HG.out z0); rintro e w33 ⟨rfl, hb⟩; refine ⟨_, rfl, ?_⟩; replace HB := Aside0.mk (below_step z0 hb); (try clear hb)) | ((with_reducible refine gate_callee (f := 14) rfl ?_); refine goesQ_ 23 Tryz.func14 #[.string t451] ?_; (with_reducible refine (spec_Canon.calls k t451 t454 t455 _ A4.out).mono ?_); rintro e w34 ⟨rfl, hb⟩; refine ⟨_, rfl, ?_⟩; replace HB := Aside0.mk (below_step z0 hb); (try clear hb)) | ((with_reducible refine gate_callee (f := 13) rfl ?_); refine goesQ_ 38 Tryz.func13 #[.string t452] ?_; (with_reducible refine (impl_Canon.calls k t452 t457 true _ ?side1 A10.out).mono ?_); (case side1 => exact Gl.below HG.out z0); rintro e w35 ⟨rfl, hb⟩; refine ⟨_, rfl, ?_⟩; replace HB := Aside0.mk (below_step z0 hb); (try clear hb)) | ((with_reducible refine gate_callee (f := 10) rfl ?_); refine goesQ_ 43 Tryz.func10 #[.string t451] ?_; (with_reducible refine (impl_ReadUrl.calls k t451 t459 t460 t461 t462 t463 t464 _ ?side1 A11.out).mono ?_); (case side1 => exact Gl.below HG.out z0); rintro e w36 ⟨rfl, hb⟩; refine ⟨_, rfl, ?_⟩; replace HB := Aside0.mk (below_step z0 hb); (try clear hb)) | ((with_reducible refine gate_dst (N := 10) rfl ?_); refine boxP_ (N := 10) (cs := #[.string (⟨#[]⟩ : ByteArray), .int .i64 0, .string (⟨#[]⟩ : ByteArray), .string (⟨#[]⟩ : ByteArray), .bool false]) (t := 24) ?_; intro gb465 hg w37 hbox hb; have BK465 := Aside0.mk (hbox); have GE465 := geb_ (w := w) hg z0; replace HB := Aside0.mk (below_step z0 hb); clear hb hbox hg; obtain ⟨hcz38_0, hcz38_1, hcz38_2, hcz38_3, hcz38_4, hfz38_0, hfz38_1, hfz38_2, hfz38_3, hfz38_4⟩ := cells5_ BK465.out) | ((with_reducible refine gate_callee (f := 10) rfl ?_); refine goesQ_ 48 Tryz.func10 #[.string t452] ?_; (with_reducible refine (impl_ReadUrl.calls k t452 t466 t467 t468 t469 t470 t471 _ ?side1 A12.out).mono ?_); (case side1 => exact Gl.below HG.out z14); rintro e w39 ⟨rfl, hb⟩; refine ⟨_, rfl, ?_⟩; replace BK465 := Aside0.mk (blk_below (g := gb465) (o := .cells #[.string t459, .int .i64 t460, .string t461, .string t462, .bool t463] 24 (0, 0)) z7 hb); replace HB := Aside0.mk (below_step z14 hb); (try clear hb)) | ((with_reducible refine gate_dst (N := 12) rfl ?_); refine boxP_ (N := 12) (cs := #[.string (⟨#[]⟩ : ByteArray), .int .i64 0, .string (⟨#[]⟩ : ByteArray), .string (⟨#[]⟩ : ByteArray), .bool false]) (t := 24) ?_; intro gb472 hg w40 hbox hb; have BK472 := Aside0.mk (hbox); have GE472 := geb_ (w := w) hg z14; replace HB := Aside0.mk (below_step z14 hb); have NB465_472 := Aside0.mk ((by rw [hg]; exact Nat.ne_of_lt (blk_lt (g := gb465) (o := .cells #[.string t459, .int .i64 t460, .string t461, .string t462, .bool t463] 24 (0, 0)) z24) : gb465 ≠ gb472)); have NB472_465 := Aside0.mk ((by rw [hg]; exact Nat.ne_of_gt (blk_lt (g := gb465) (o := .cells #[.string t459, .int .i64 t460, .string t461, .string t462, .bool t463] 24 (0, 0)) z24) : gb472 ≠ gb465)); replace BK465 := Aside0.mk (blk_below (g := gb465) (o := .cells #[.string t459, .int .i64 t460, .string t461, .string t462, .bool t463] 24 (0, 0)) z24 hb); clear hb hbox hg; have hnb41 := NB472_465.out; have hnc41 := NB465_472.out; obtain ⟨hcz42_0, hcz42_1, hcz42_2, hcz42_3, hcz42_4, hfz42_0, hfz42_1, hfz42_2, hfz42_3, hfz42_4⟩ := cells5_ BK472.out; obtain ⟨hcz43_0, hcz43_1, hcz43_2, hcz43_3, hcz43_4, hfz43_0, hfz43_1, hfz43_2, hfz43_3, hfz43_4⟩ := cells5_ BK465.out) | (go_at_call 15; (with_reducible refine (laws_within.calls (⟨#[104, 116, 116, 112, 58, 47, 47]⟩ : ByteArray) t452 false _ A16.out).mono ?_); rintro e w' ⟨rfl, ⟨nd, rfl⟩⟩))
       go_ret
       exact ⟨z4, z34⟩
     ·rw [if_neg c15] at H
      have c15b0 : (t459.toList == t466.toList && (t460 == t467 && (t461.toList == t468.toList && (t462.toList == t469.toList && (t463 == t470))))) = false := by simpa using c15
      (try (have c15b1 : decide (t459.toList = t466.toList && (t460 == t467 && (t461.toList == t468.toList && (t462.toList == t469.toList && (t463 == t470))))) = false := by simpa using c15))
      (try (have c15b2 : (t459.toList == t466.toList && (t460 == t467 && (t461.toList == t468.toList && (t462.toList == t469.toList && (t463 == t470))))) = false := by simpa using c15))
      (try (have c15b3 : ¬ (t459.toList = t466.toList && (t460 == t467 && (t461.toList == t468.toList && (t462.toList == t469.toList && (t463 == t470))))) := by simpa using c15))
      clear c15
      obtain rfl := Option.some.inj H
      go_enter Tryz.func4, Tryz.ntmps4
      go_wp2_with (first | ((with_reducible refine gate_callee (f := 12) rfl ?_); refine goesQ_ 15 Tryz.func12 #[.slice A0 l0.length c0] ?_; (with_reducible refine (spec_DrawCanon.calls k _ _ l0 t451 _ ?side1 ?side2 A2.out).mono ?_); (case side1 => repeat (first | exact HR0.out | (with_reducible refine Kd.C_alloc ?_ _) | (with_reducible refine Kd.C_drewN ?_ _) | (with_reducible refine Kd.C_drew ?_))); (case side2 => exact HC0.out); rintro e w44 ⟨rfl, hb⟩; refine ⟨_, rfl, ?_⟩; replace HB := Aside0.mk (below_step z0 hb); (try clear hb)) | ((with_reducible refine gate_callee (f := 13) rfl ?_); refine goesQ_ 18 Tryz.func13 #[.string t451] ?_; (with_reducible refine (impl_Canon.calls k t451 t452 true _ ?side1 A3.out).mono ?_); (case side1 => exact Gl.below HG.out z0); rintro e w45 ⟨rfl, hb⟩; refine ⟨_, rfl, ?_⟩; replace HB := Aside0.mk (below_step z0 hb); (try clear hb)) | ((with_reducible refine gate_callee (f := 14) rfl ?_); refine goesQ_ 23 Tryz.func14 #[.string t451] ?_; (with_reducible refine (spec_Canon.calls k t451 t454 t455 _ A4.out).mono ?_); rintro e w46 ⟨rfl, hb⟩; refine ⟨_, rfl, ?_⟩; replace HB := Aside0.mk (below_step z0 hb); (try clear hb)) | ((with_reducible refine gate_callee (f := 13) rfl ?_); refine goesQ_ 38 Tryz.func13 #[.string t452] ?_; (with_reducible refine (impl_Canon.calls k t452 t457 true _ ?side1 A10.out).mono ?_); (case side1 => exact Gl.below HG.out z0); rintro e w47 ⟨rfl, hb⟩; refine ⟨_, rfl, ?_⟩; replace HB := Aside0.mk (below_step z0 hb); (try clear hb)) | ((with_reducible refine gate_callee (f := 10) rfl ?_); refine goesQ_ 43 Tryz.func10 #[.string t451] ?_; (with_reducible refine (impl_ReadUrl.calls k t451 t459 t460 t461 t462 t463 t464 _ ?side1 A11.out).mono ?_); (case side1 => exact Gl.below HG.out z0); rintro e w48 ⟨rfl, hb⟩; refine ⟨_, rfl, ?_⟩; replace HB := Aside0.mk (below_step z0 hb); (try clear hb)) | ((with_reducible refine gate_dst (N := 10) rfl ?_); refine boxP_ (N := 10) (cs := #[.string (⟨#[]⟩ : ByteArray), .int .i64 0, .string (⟨#[]⟩ : ByteArray), .string (⟨#[]⟩ : ByteArray), .bool false]) (t := 24) ?_; intro gb465 hg w49 hbox hb; have BK465 := Aside0.mk (hbox); have GE465 := geb_ (w := w) hg z0; replace HB := Aside0.mk (below_step z0 hb); clear hb hbox hg; obtain ⟨hcz50_0, hcz50_1, hcz50_2, hcz50_3, hcz50_4, hfz50_0, hfz50_1, hfz50_2, hfz50_3, hfz50_4⟩ := cells5_ BK465.out) | ((with_reducible refine gate_callee (f := 10) rfl ?_); refine goesQ_ 48 Tryz.func10 #[.string t452] ?_; (with_reducible refine (impl_ReadUrl.calls k t452 t466 t467 t468 t469 t470 t471 _ ?side1 A12.out).mono ?_); (case side1 => exact Gl.below HG.out z14); rintro e w51 ⟨rfl, hb⟩; refine ⟨_, rfl, ?_⟩; replace BK465 := Aside0.mk (blk_below (g := gb465) (o := .cells #[.string t459, .int .i64 t460, .string t461, .string t462, .bool t463] 24 (0, 0)) z7 hb); replace HB := Aside0.mk (below_step z14 hb); (try clear hb)) | ((with_reducible refine gate_dst (N := 12) rfl ?_); refine boxP_ (N := 12) (cs := #[.string (⟨#[]⟩ : ByteArray), .int .i64 0, .string (⟨#[]⟩ : ByteArray), .string (⟨#[]⟩ : ByteArray), .bool false]) (t := 24) ?_; intro gb472 hg w52 hbox hb; have BK472 := Aside0.mk (hbox); have GE472 := geb_ (w := w) hg z14; replace HB := Aside0.mk (below_step z14 hb); have NB465_472 := Aside0.mk ((by rw [hg]; exact Nat.ne_of_lt (blk_lt (g := gb465) (o := .cells #[.string t459, .int .i64 t460, .string t461, .string t462, .bool t463] 24 (0, 0)) z24) : gb465 ≠ gb472)); have NB472_465 := Aside0.mk ((by rw [hg]; exact Nat.ne_of_gt (blk_lt (g := gb465) (o := .cells #[.string t459, .int .i64 t460, .string t461, .string t462, .bool t463] 24 (0, 0)) z24) : gb472 ≠ gb465)); replace BK465 := Aside0.mk (blk_below (g := gb465) (o := .cells #[.string t459, .int .i64 t460, .string t461, .string t462, .bool t463] 24 (0, 0)) z24 hb); clear hb hbox hg; have hnb53 := NB472_465.out; have hnc53 := NB465_472.out; obtain ⟨hcz54_0, hcz54_1, hcz54_2, hcz54_3, hcz54_4, hfz54_0, hfz54_1, hfz54_2, hfz54_3, hfz54_4⟩ := cells5_ BK472.out; obtain ⟨hcz55_0, hcz55_1, hcz55_2, hcz55_3, hcz55_4, hfz55_0, hfz55_1, hfz55_2, hfz55_3, hfz55_4⟩ := cells5_ BK465.out))
      go_ret
      exact ⟨z4, z34⟩
    ·rw [if_neg c14] at H
     have c14b0 : (t457.toList == t452.toList) = false := beq_eq_false_iff_ne.mpr c14
     have c14b1 : (t457.toList != t452.toList) = true := bne_iff_ne.mpr c14
     obtain rfl := Option.some.inj H
     go_enter Tryz.func4, Tryz.ntmps4
     go_wp2_with (first | ((with_reducible refine gate_callee (f := 12) rfl ?_); refine goesQ_ 15 Tryz.func12 #[.slice A0 l0.length c0] ?_; (with_reducible refine (spec_DrawCanon.calls k _ _ l0 t451 _ ?side1 ?side2 A2.out).mono ?_); (case side1 => repeat (first | exact HR0.out | (with_reducible refine Kd.C_alloc ?_ _) | (with_reducible refine Kd.C_drewN ?_ _) | (with_reducible refine Kd.C_drew ?_))); (case side2 => exact HC0.out); rintro e w56 ⟨rfl, hb⟩; refine ⟨_, rfl, ?_⟩; replace HB := Aside0.mk (below_step z0 hb); (try clear hb)) | ((with_reducible refine gate_callee (f := 13) rfl ?_); refine goesQ_ 18 Tryz.func13 #[.string t451] ?_; (with_reducible refine (impl_Canon.calls k t451 t452 true _ ?side1 A3.out).mono ?_); (case side1 => exact Gl.below HG.out z0); rintro e w57 ⟨rfl, hb⟩; refine ⟨_, rfl, ?_⟩; replace HB := Aside0.mk (below_step z0 hb); (try clear hb)) | ((with_reducible refine gate_callee (f := 14) rfl ?_); refine goesQ_ 23 Tryz.func14 #[.string t451] ?_; (with_reducible refine (spec_Canon.calls k t451 t454 t455 _ A4.out).mono ?_); rintro e w58 ⟨rfl, hb⟩; refine ⟨_, rfl, ?_⟩; replace HB := Aside0.mk (below_step z0 hb); (try clear hb)) | ((with_reducible refine gate_callee (f := 13) rfl ?_); refine goesQ_ 38 Tryz.func13 #[.string t452] ?_; (with_reducible refine (impl_Canon.calls k t452 t457 true _ ?side1 A10.out).mono ?_); (case side1 => exact Gl.below HG.out z0); rintro e w59 ⟨rfl, hb⟩; refine ⟨_, rfl, ?_⟩; replace HB := Aside0.mk (below_step z0 hb); (try clear hb)) | ((with_reducible refine gate_callee (f := 10) rfl ?_); refine goesQ_ 43 Tryz.func10 #[.string t451] ?_; (with_reducible refine (impl_ReadUrl.calls k t451 t459 t460 t461 t462 t463 t464 _ ?side1 A11.out).mono ?_); (case side1 => exact Gl.below HG.out z0); rintro e w60 ⟨rfl, hb⟩; refine ⟨_, rfl, ?_⟩; replace HB := Aside0.mk (below_step z0 hb); (try clear hb)) | ((with_reducible refine gate_dst (N := 10) rfl ?_); refine boxP_ (N := 10) (cs := #[.string (⟨#[]⟩ : ByteArray), .int .i64 0, .string (⟨#[]⟩ : ByteArray), .string (⟨#[]⟩ : ByteArray), .bool false]) (t := 24) ?_; intro gb465 hg w61 hbox hb; have BK465 := Aside0.mk (hbox); have GE465 := geb_ (w := w) hg z0; replace HB := Aside0.mk (below_step z0 hb); clear hb hbox hg; obtain ⟨hcz62_0, hcz62_1, hcz62_2, hcz62_3, hcz62_4, hfz62_0, hfz62_1, hfz62_2, hfz62_3, hfz62_4⟩ := cells5_ BK465.out) | ((with_reducible refine gate_callee (f := 10) rfl ?_); refine goesQ_ 48 Tryz.func10 #[.string t452] ?_; (with_reducible refine (impl_ReadUrl.calls k t452 t466 t467 t468 t469 t470 t471 _ ?side1 A12.out).mono ?_); (case side1 => exact Gl.below HG.out z14); rintro e w63 ⟨rfl, hb⟩; refine ⟨_, rfl, ?_⟩; replace BK465 := Aside0.mk (blk_below (g := gb465) (o := .cells #[.string t459, .int .i64 t460, .string t461, .string t462, .bool t463] 24 (0, 0)) z7 hb); replace HB := Aside0.mk (below_step z14 hb); (try clear hb)) | ((with_reducible refine gate_dst (N := 12) rfl ?_); refine boxP_ (N := 12) (cs := #[.string (⟨#[]⟩ : ByteArray), .int .i64 0, .string (⟨#[]⟩ : ByteArray), .string (⟨#[]⟩ : ByteArray), .bool false]) (t := 24) ?_; intro gb472 hg w64 hbox hb; have BK472 := Aside0.mk (hbox); have GE472 := geb_ (w := w) hg z14; replace HB := Aside0.mk (below_step z14 hb); have NB465_472 := Aside0.mk ((by rw [hg]; exact Nat.ne_of_lt (blk_lt (g := gb465) (o := .cells #[.string t459, .int .i64 t460, .string t461, .string t462, .bool t463] 24 (0, 0)) z24) : gb465 ≠ gb472)); have NB472_465 := Aside0.mk ((by rw [hg]; exact Nat.ne_of_gt (blk_lt (g := gb465) (o := .cells #[.string t459, .int .i64 t460, .string t461, .string t462, .bool t463] 24 (0, 0)) z24) : gb472 ≠ gb465)); replace BK465 := Aside0.mk (blk_below (g := gb465) (o := .cells #[.string t459, .int .i64 t460, .string t461, .string t462, .bool t463] 24 (0, 0)) z24 hb); clear hb hbox hg; have hnb65 := NB472_465.out; have hnc65 := NB465_472.out; obtain ⟨hcz66_0, hcz66_1, hcz66_2, hcz66_3, hcz66_4, hfz66_0, hfz66_1, hfz66_2, hfz66_3, hfz66_4⟩ := cells5_ BK472.out))
     go_ret
     exact ⟨z4, z34⟩
   ·replace c13 := Bool.eq_false_iff.mpr c13
    subst c13
    rw [if_neg Bool.false_ne_true] at H
    obtain rfl := Option.some.inj H
    go_enter Tryz.func4, Tryz.ntmps4
    go_wp2_with (first | ((with_reducible refine gate_callee (f := 12) rfl ?_); refine goesQ_ 15 Tryz.func12 #[.slice A0 l0.length c0] ?_; (with_reducible refine (spec_DrawCanon.calls k _ _ l0 t451 _ ?side1 ?side2 A2.out).mono ?_); (case side1 => repeat (first | exact HR0.out | (with_reducible refine Kd.C_alloc ?_ _) | (with_reducible refine Kd.C_drewN ?_ _) | (with_reducible refine Kd.C_drew ?_))); (case side2 => exact HC0.out); rintro e w67 ⟨rfl, hb⟩; refine ⟨_, rfl, ?_⟩; replace HB := Aside0.mk (below_step z0 hb); (try clear hb)) | ((with_reducible refine gate_callee (f := 13) rfl ?_); refine goesQ_ 18 Tryz.func13 #[.string t451] ?_; (with_reducible refine (impl_Canon.calls k t451 t452 true _ ?side1 A3.out).mono ?_); (case side1 => exact Gl.below HG.out z0); rintro e w68 ⟨rfl, hb⟩; refine ⟨_, rfl, ?_⟩; replace HB := Aside0.mk (below_step z0 hb); (try clear hb)) | ((with_reducible refine gate_callee (f := 14) rfl ?_); refine goesQ_ 23 Tryz.func14 #[.string t451] ?_; (with_reducible refine (spec_Canon.calls k t451 t454 t455 _ A4.out).mono ?_); rintro e w69 ⟨rfl, hb⟩; refine ⟨_, rfl, ?_⟩; replace HB := Aside0.mk (below_step z0 hb); (try clear hb)) | ((with_reducible refine gate_callee (f := 13) rfl ?_); refine goesQ_ 38 Tryz.func13 #[.string t452] ?_; (with_reducible refine (impl_Canon.calls k t452 t457 false _ ?side1 A10.out).mono ?_); (case side1 => exact Gl.below HG.out z0); rintro e w70 ⟨rfl, hb⟩; refine ⟨_, rfl, ?_⟩; replace HB := Aside0.mk (below_step z0 hb); (try clear hb)) | ((with_reducible refine gate_callee (f := 10) rfl ?_); refine goesQ_ 43 Tryz.func10 #[.string t451] ?_; (with_reducible refine (impl_ReadUrl.calls k t451 t459 t460 t461 t462 t463 t464 _ ?side1 A11.out).mono ?_); (case side1 => exact Gl.below HG.out z0); rintro e w71 ⟨rfl, hb⟩; refine ⟨_, rfl, ?_⟩; replace HB := Aside0.mk (below_step z0 hb); (try clear hb)) | ((with_reducible refine gate_dst (N := 10) rfl ?_); refine boxP_ (N := 10) (cs := #[.string (⟨#[]⟩ : ByteArray), .int .i64 0, .string (⟨#[]⟩ : ByteArray), .string (⟨#[]⟩ : ByteArray), .bool false]) (t := 24) ?_; intro gb465 hg w72 hbox hb; have BK465 := Aside0.mk (hbox); have GE465 := geb_ (w := w) hg z0; replace HB := Aside0.mk (below_step z0 hb); clear hb hbox hg; obtain ⟨hcz73_0, hcz73_1, hcz73_2, hcz73_3, hcz73_4, hfz73_0, hfz73_1, hfz73_2, hfz73_3, hfz73_4⟩ := cells5_ BK465.out) | ((with_reducible refine gate_callee (f := 10) rfl ?_); refine goesQ_ 48 Tryz.func10 #[.string t452] ?_; (with_reducible refine (impl_ReadUrl.calls k t452 t466 t467 t468 t469 t470 t471 _ ?side1 A12.out).mono ?_); (case side1 => exact Gl.below HG.out z14); rintro e w74 ⟨rfl, hb⟩; refine ⟨_, rfl, ?_⟩; replace BK465 := Aside0.mk (blk_below (g := gb465) (o := .cells #[.string t459, .int .i64 t460, .string t461, .string t462, .bool t463] 24 (0, 0)) z7 hb); replace HB := Aside0.mk (below_step z14 hb); (try clear hb)) | ((with_reducible refine gate_dst (N := 12) rfl ?_); refine boxP_ (N := 12) (cs := #[.string (⟨#[]⟩ : ByteArray), .int .i64 0, .string (⟨#[]⟩ : ByteArray), .string (⟨#[]⟩ : ByteArray), .bool false]) (t := 24) ?_; intro gb472 hg w75 hbox hb; have BK472 := Aside0.mk (hbox); have GE472 := geb_ (w := w) hg z14; replace HB := Aside0.mk (below_step z14 hb); have NB465_472 := Aside0.mk ((by rw [hg]; exact Nat.ne_of_lt (blk_lt (g := gb465) (o := .cells #[.string t459, .int .i64 t460, .string t461, .string t462, .bool t463] 24 (0, 0)) z24) : gb465 ≠ gb472)); have NB472_465 := Aside0.mk ((by rw [hg]; exact Nat.ne_of_gt (blk_lt (g := gb465) (o := .cells #[.string t459, .int .i64 t460, .string t461, .string t462, .bool t463] 24 (0, 0)) z24) : gb472 ≠ gb465)); replace BK465 := Aside0.mk (blk_below (g := gb465) (o := .cells #[.string t459, .int .i64 t460, .string t461, .string t462, .bool t463] 24 (0, 0)) z24 hb); clear hb hbox hg; have hnb76 := NB472_465.out; have hnc76 := NB465_472.out; obtain ⟨hcz77_0, hcz77_1, hcz77_2, hcz77_3, hcz77_4, hfz77_0, hfz77_1, hfz77_2, hfz77_3, hfz77_4⟩ := cells5_ BK472.out))
    go_ret
    exact ⟨z4, z34⟩
  ·replace c9 := Bool.eq_false_iff.mpr c9
   subst c9
   rw [if_neg Bool.false_ne_true] at H
   by_cases c78 : t452.toList = ([] : List UInt8)
   ·rw [if_pos c78] at H
    have c78b0 : (t452.toList == ([] : List UInt8)) = true := beq_iff_eq.mpr c78
    have c78e : t452.toList.isEmpty = true := by have hz_ := beq_iff_eq.1 c78b0; rw [hz_]; rfl
    (try rw [c78e])
    have c78b1 : (t452.toList != ([] : List UInt8)) = false := bne_eq_false_iff_eq.mpr c78
    clear c78
    replace H := Option.bind_eq_some_iff.mp H
    obtain ⟨t456, A790, H⟩ := H
    try dsimp only at H
    have A79 := Aside0.mk A790
    clear A790
    obtain rfl := Option.some.inj H
    go_enter Tryz.func4, Tryz.ntmps4
    go_wp2_with (first | ((with_reducible refine gate_callee (f := 12) rfl ?_); refine goesQ_ 15 Tryz.func12 #[.slice A0 l0.length c0] ?_; (with_reducible refine (spec_DrawCanon.calls k _ _ l0 t451 _ ?side1 ?side2 A2.out).mono ?_); (case side1 => repeat (first | exact HR0.out | (with_reducible refine Kd.C_alloc ?_ _) | (with_reducible refine Kd.C_drewN ?_ _) | (with_reducible refine Kd.C_drew ?_))); (case side2 => exact HC0.out); rintro e w80 ⟨rfl, hb⟩; refine ⟨_, rfl, ?_⟩; replace HB := Aside0.mk (below_step z0 hb); (try clear hb)) | ((with_reducible refine gate_callee (f := 13) rfl ?_); refine goesQ_ 18 Tryz.func13 #[.string t451] ?_; (with_reducible refine (impl_Canon.calls k t451 t452 false _ ?side1 A3.out).mono ?_); (case side1 => exact Gl.below HG.out z0); rintro e w81 ⟨rfl, hb⟩; refine ⟨_, rfl, ?_⟩; replace HB := Aside0.mk (below_step z0 hb); (try clear hb)) | ((with_reducible refine gate_callee (f := 14) rfl ?_); refine goesQ_ 23 Tryz.func14 #[.string t451] ?_; (with_reducible refine (spec_Canon.calls k t451 t454 t455 _ A4.out).mono ?_); rintro e w82 ⟨rfl, hb⟩; refine ⟨_, rfl, ?_⟩; replace HB := Aside0.mk (below_step z0 hb); (try clear hb)) | (go_at_call 9; (with_reducible refine (laws_places.calls k  t456 _ ?side1 A79.out).mono ?_); (case side1 => exact Gl.below HG.out z0); rintro e w83 ⟨rfl, hb⟩; have n0_ := Aside0.mk (below_step z0 hb); clear HB; have HB := n0_; clear n0_; (try clear hb); (try clear hb2); (try clear hk); (try clear hi)))
    go_ret
    exact ⟨z4, z0⟩
   ·rw [if_neg c78] at H
    have c78b0 : (t452.toList == ([] : List UInt8)) = false := beq_eq_false_iff_ne.mpr c78
    have c78e : t452.toList.isEmpty = false := by cases hz_ : t452.toList with | nil => (rw [hz_] at c78b0; exact absurd c78b0 (by decide)) | cons _ _ => rfl
    (try rw [c78e])
    have c78b1 : (t452.toList != ([] : List UInt8)) = true := bne_iff_ne.mpr c78
    obtain rfl := Option.some.inj H
    go_enter Tryz.func4, Tryz.ntmps4
    go_wp2_with (first | ((with_reducible refine gate_callee (f := 12) rfl ?_); refine goesQ_ 15 Tryz.func12 #[.slice A0 l0.length c0] ?_; (with_reducible refine (spec_DrawCanon.calls k _ _ l0 t451 _ ?side1 ?side2 A2.out).mono ?_); (case side1 => repeat (first | exact HR0.out | (with_reducible refine Kd.C_alloc ?_ _) | (with_reducible refine Kd.C_drewN ?_ _) | (with_reducible refine Kd.C_drew ?_))); (case side2 => exact HC0.out); rintro e w84 ⟨rfl, hb⟩; refine ⟨_, rfl, ?_⟩; replace HB := Aside0.mk (below_step z0 hb); (try clear hb)) | ((with_reducible refine gate_callee (f := 13) rfl ?_); refine goesQ_ 18 Tryz.func13 #[.string t451] ?_; (with_reducible refine (impl_Canon.calls k t451 t452 false _ ?side1 A3.out).mono ?_); (case side1 => exact Gl.below HG.out z0); rintro e w85 ⟨rfl, hb⟩; refine ⟨_, rfl, ?_⟩; replace HB := Aside0.mk (below_step z0 hb); (try clear hb)) | ((with_reducible refine gate_callee (f := 14) rfl ?_); refine goesQ_ 23 Tryz.func14 #[.string t451] ?_; (with_reducible refine (spec_Canon.calls k t451 t454 t455 _ A4.out).mono ?_); rintro e w86 ⟨rfl, hb⟩; refine ⟨_, rfl, ?_⟩; replace HB := Aside0.mk (below_step z0 hb); (try clear hb)))
    go_ret
    exact ⟨z4, z0⟩

/-- THE ONE PURE STATEMENT of laws_FnCanons. -/
def laws_FnCanons.Pure : Prop := ∀ (l0 : List Int), (l0.length ≤ 9223372036854775807 ∧ ∀ x ∈ l0, (Lit.int .u8 x).wf = true) → ∃ k, laws_FnCanons.f k l0 = some true
theorem laws_FnCanons.walk (P : laws_FnCanons.Pure) (A0 : Option Addr) (c0 : Nat) (l0 : List Int) (w : World) (hG : Gl w) (hr0 : Kd.C (Kd.int .u8) w A0 l0.length l0) (hc0 : l0.length ≤ c0) (ok_0 : l0.length ≤ 9223372036854775807 ∧ ∀ x ∈ l0, (Lit.int .u8 x).wf = true) :
  Calls Tryz.prog 4 #[.slice A0 l0.length c0] w fun e w' => e = .returned (.bool true) ∧ Below w.heap.size w w' := by
 obtain ⟨k, h⟩ := P l0 ok_0
 refine (laws_FnCanons.calls k A0 c0 l0 true w hG hr0 hc0 h).mono ?_
 rintro e w' ⟨rfl, hd⟩
 exact ⟨rfl, hd⟩

end Go.Proofs.YtkkolioolgpljaaGreatDoor.GFnCanons
