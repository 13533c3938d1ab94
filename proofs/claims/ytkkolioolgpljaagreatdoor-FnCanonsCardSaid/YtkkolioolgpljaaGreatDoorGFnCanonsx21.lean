-- Laid by gen.py of this session (over the kit's printing program): what the law FnCanons reaches, as Lean functions, and that Go comes to just that.
import Derived.Test.YtkkolioolgpljaaGreatDoorGFnCanonsx0
import Derived.Test.YtkkolioolgpljaaGreatDoorGFnCanonsx15
import Derived.Test.YtkkolioolgpljaaGreatDoorGFnCanonsx17
import Derived.Test.YtkkolioolgpljaaGreatDoorGFnCanonsx18
import Derived.Test.YtkkolioolgpljaaGreatDoorGFnCanonsx19
import Derived.Test.YtkkolioolgpljaaGreatDoorGFnCanonsx20
import Derived.Test.YtkkolioolgpljaaGreatDoorZFnCanons
namespace Go.Proofs.YtkkolioolgpljaaGreatDoor.GFnCanons
open Go.RowKit Go.Proofs.YtkkolioolgpljaaGreatDoorW.PrintWords Go.Proofs.YtkkolioolgpljaaGreatDoorW.PrintLast Go.Proofs.YtkkolioolgpljaaGreatDoorW.PrintMore Go.Proofs.YtkkolioolgpljaaGreatDoorW.Zs
attribute [local go_sem] max2_int min2_int max_two min_two max_three min_three max_four min_four   -- for this text's walks alone
set_option linter.unusedVariables false
set_option linter.unusedSimpArgs false

/-! ### spec_ReadUrl: function 40 -/
mutual
def spec_ReadUrl.j0 : Nat → ByteArray → Bool → Option (ByteArray × Int × ByteArray × ByteArray × Bool × Bool)
 | 0, _, _ => none
 | k + 1, x0, x35 => if x35 = true then (some ((⟨#[]⟩ : ByteArray), 0, (⟨#[]⟩ : ByteArray), (⟨#[]⟩ : ByteArray), false, false)) else (if 7 ≤ (x0.size : Int) then ((spec_l6upto.f k (x0.extract 7 x0.size) 63).bind fun t430 => ((spec_l6upto.f k t430 47).bind fun t431 => ((spec_l6upto.f k t431 58).bind fun t432 => ((spec_Fold.f t432).bind fun t433 => (if (t432.size : Int) < (t431.size : Int) then (if 0 ≤ (wrap64 ((t432.size : Int) + 1)) then (if (wrap64 ((t432.size : Int) + 1)) ≤ (t431.size : Int) then ((spec_ReadDec.f k (t431.extract ((wrap64 ((t432.size : Int) + 1)) : Int).toNat t431.size)).bind fun bt435 => (if bt435.2 = true then (spec_ReadUrl.j1 k (x0.extract 7 x0.size) t430 t431 t433 bt435.1 (⟨#[47]⟩ : ByteArray) (⟨#[]⟩ : ByteArray) false) else (some ((⟨#[]⟩ : ByteArray), 0, (⟨#[]⟩ : ByteArray), (⟨#[]⟩ : ByteArray), false, false)))) else (none)) else (none)) else (spec_ReadUrl.j1 k (x0.extract 7 x0.size) t430 t431 t433 80 (⟨#[47]⟩ : ByteArray) (⟨#[]⟩ : ByteArray) false)))))) else (none))
def spec_ReadUrl.j1 : Nat → ByteArray → ByteArray → ByteArray → ByteArray → Int → ByteArray → ByteArray → Bool → Option (ByteArray × Int × ByteArray × ByteArray × Bool × Bool)
 | 0, _, _, _, _, _, _, _, _ => none
 | k + 1, x4, x5, x6, x435000, x435001, x435002, x435003, x435004 => if (x6.size : Int) < (x5.size : Int) then (if 0 ≤ (x6.size : Int) then (if (x6.size : Int) ≤ (x5.size : Int) then ((spec_CleanPath.f k (x5.extract ((x6.size : Int) : Int).toNat x5.size)).bind fun t437 => (spec_ReadUrl.j2 k x4 x5 x435000 x435001 t437 x435003 x435004)) else (none)) else (none)) else (spec_ReadUrl.j2 k x4 x5 x435000 x435001 x435002 x435003 x435004)
def spec_ReadUrl.j2 : Nat → ByteArray → ByteArray → ByteArray → Int → ByteArray → ByteArray → Bool → Option (ByteArray × Int × ByteArray × ByteArray × Bool × Bool)
 | 0, _, _, _, _, _, _, _ => none
 | k + 1, x4, x5, x435000, x435001, x435002, x435003, x435004 => if (x5.size : Int) < (x4.size : Int) then (if 0 ≤ (wrap64 ((x5.size : Int) + 1)) then (if (wrap64 ((x5.size : Int) + 1)) ≤ (x4.size : Int) then ((spec_UrlOk.f k x435000 x435001 x435002 (x4.extract ((wrap64 ((x5.size : Int) + 1)) : Int).toNat x4.size) true).bind fun t438 => (if t438 = true then (some (x435000, x435001, x435002, x4.extract ((wrap64 ((x5.size : Int) + 1)) : Int).toNat x4.size, true, true)) else (some ((⟨#[]⟩ : ByteArray), 0, (⟨#[]⟩ : ByteArray), (⟨#[]⟩ : ByteArray), false, false)))) else (none)) else (none)) else ((spec_UrlOk.f k x435000 x435001 x435002 x435003 x435004).bind fun t439 => (if t439 = true then (some (x435000, x435001, x435002, x435003, x435004, true)) else (some ((⟨#[]⟩ : ByteArray), 0, (⟨#[]⟩ : ByteArray), (⟨#[]⟩ : ByteArray), false, false))))
end
def spec_ReadUrl.f (k : Nat) (a0 : ByteArray) : Option (ByteArray × Int × ByteArray × ByteArray × Bool × Bool) := if (a0.size : Int) > 200 then (spec_ReadUrl.j0 k a0 true) else (if (a0.size : Int) < 8 then (spec_ReadUrl.j0 k a0 true) else ((spec_l6visible.f k a0).bind fun t427 => (if t427 = true then ((spec_l6upto.f k a0 35).bind fun t428 => (if t428.toList = a0.toList then (if 0 ≤ 7 then (if 7 ≤ (a0.size : Int) then ((spec_Fold.f (a0.extract 0 7)).bind fun t429 => (spec_ReadUrl.j0 k a0 (t429.toList != ([104, 116, 116, 112, 58, 47, 47] : List UInt8)))) else (none)) else (none)) else (spec_ReadUrl.j0 k a0 true))) else (spec_ReadUrl.j0 k a0 true))))
theorem spec_ReadUrl.mono_l : ∀ k, (∀ y0 y1, LeO (spec_ReadUrl.j0 k y0 y1) (spec_ReadUrl.j0 (k + 1) y0 y1)) ∧ (∀ y0 y1 y2 y3 y4 y5 y6 y7, LeO (spec_ReadUrl.j1 k y0 y1 y2 y3 y4 y5 y6 y7) (spec_ReadUrl.j1 (k + 1) y0 y1 y2 y3 y4 y5 y6 y7)) ∧ (∀ y0 y1 y2 y3 y4 y5 y6, LeO (spec_ReadUrl.j2 k y0 y1 y2 y3 y4 y5 y6) (spec_ReadUrl.j2 (k + 1) y0 y1 y2 y3 y4 y5 y6))
 | 0 => ⟨fun _ _ r h => by simp [spec_ReadUrl.j0] at h, fun _ _ _ _ _ _ _ _ r h => by simp [spec_ReadUrl.j1] at h, fun _ _ _ _ _ _ _ r h => by simp [spec_ReadUrl.j2] at h⟩
 | k + 1 => by
  obtain ⟨ih0, ih1, ih2⟩ := spec_ReadUrl.mono_l k
  refine ⟨?_, ?_, ?_⟩
  ·intro y0 y1
   unfold spec_ReadUrl.j0
   repeat' first | (with_reducible first | exact ih0 _ _ | exact ih1 _ _ _ _ _ _ _ _ | exact ih2 _ _ _ _ _ _ _ | exact spec_CleanPath.mono _ _ | exact spec_ReadDec.mono _ _ | exact spec_UrlOk.mono _ _ _ _ _ _ | exact spec_l6upto.mono _ _ _ | exact spec_l6visible.mono _ _ | exact LeO.refl _ | exact LeO.none _ | refine LeO.ite ?_ ?_ | refine LeO.bind ?_ (fun _ => ?_)) | exact ih0 _ _ | exact ih1 _ _ _ _ _ _ _ _ | exact ih2 _ _ _ _ _ _ _ | exact spec_CleanPath.mono _ _ | exact spec_ReadDec.mono _ _ | exact spec_UrlOk.mono _ _ _ _ _ _ | exact spec_l6upto.mono _ _ _ | exact spec_l6visible.mono _ _ | exact LeO.none _ | refine LeO.ite ?_ ?_ | refine LeO.bind ?_ (fun _ => ?_)
  ·intro y0 y1 y2 y3 y4 y5 y6 y7
   unfold spec_ReadUrl.j1
   repeat' first | (with_reducible first | exact ih0 _ _ | exact ih1 _ _ _ _ _ _ _ _ | exact ih2 _ _ _ _ _ _ _ | exact spec_CleanPath.mono _ _ | exact spec_ReadDec.mono _ _ | exact spec_UrlOk.mono _ _ _ _ _ _ | exact spec_l6upto.mono _ _ _ | exact spec_l6visible.mono _ _ | exact LeO.refl _ | exact LeO.none _ | refine LeO.ite ?_ ?_ | refine LeO.bind ?_ (fun _ => ?_)) | exact ih0 _ _ | exact ih1 _ _ _ _ _ _ _ _ | exact ih2 _ _ _ _ _ _ _ | exact spec_CleanPath.mono _ _ | exact spec_ReadDec.mono _ _ | exact spec_UrlOk.mono _ _ _ _ _ _ | exact spec_l6upto.mono _ _ _ | exact spec_l6visible.mono _ _ | exact LeO.none _ | refine LeO.ite ?_ ?_ | refine LeO.bind ?_ (fun _ => ?_)
  ·intro y0 y1 y2 y3 y4 y5 y6
   unfold spec_ReadUrl.j2
   repeat' first | (with_reducible first | exact ih0 _ _ | exact ih1 _ _ _ _ _ _ _ _ | exact ih2 _ _ _ _ _ _ _ | exact spec_CleanPath.mono _ _ | exact spec_ReadDec.mono _ _ | exact spec_UrlOk.mono _ _ _ _ _ _ | exact spec_l6upto.mono _ _ _ | exact spec_l6visible.mono _ _ | exact LeO.refl _ | exact LeO.none _ | refine LeO.ite ?_ ?_ | refine LeO.bind ?_ (fun _ => ?_)) | exact ih0 _ _ | exact ih1 _ _ _ _ _ _ _ _ | exact ih2 _ _ _ _ _ _ _ | exact spec_CleanPath.mono _ _ | exact spec_ReadDec.mono _ _ | exact spec_UrlOk.mono _ _ _ _ _ _ | exact spec_l6upto.mono _ _ _ | exact spec_l6visible.mono _ _ | exact LeO.none _ | refine LeO.ite ?_ ?_ | refine LeO.bind ?_ (fun _ => ?_)
theorem spec_ReadUrl.mono : ∀ a0 k, LeO (spec_ReadUrl.f k a0) (spec_ReadUrl.f (k + 1) a0) := by
 intro a0 k
 obtain ⟨ih0, ih1, ih2⟩ := spec_ReadUrl.mono_l k
 unfold spec_ReadUrl.f
 repeat' first | (with_reducible first | exact ih0 _ _ | exact ih1 _ _ _ _ _ _ _ _ | exact ih2 _ _ _ _ _ _ _ | exact spec_CleanPath.mono _ _ | exact spec_ReadDec.mono _ _ | exact spec_UrlOk.mono _ _ _ _ _ _ | exact spec_l6upto.mono _ _ _ | exact spec_l6visible.mono _ _ | exact LeO.refl _ | exact LeO.none _ | refine LeO.ite ?_ ?_ | refine LeO.bind ?_ (fun _ => ?_)) | exact ih0 _ _ | exact ih1 _ _ _ _ _ _ _ _ | exact ih2 _ _ _ _ _ _ _ | exact spec_CleanPath.mono _ _ | exact spec_ReadDec.mono _ _ | exact spec_UrlOk.mono _ _ _ _ _ _ | exact spec_l6upto.mono _ _ _ | exact spec_l6visible.mono _ _ | exact LeO.none _ | refine LeO.ite ?_ ?_ | refine LeO.bind ?_ (fun _ => ?_)
set_option maxHeartbeats 8000000 in
set_option maxRecDepth 100000 in
theorem spec_ReadUrl.calls (k : Nat) (a0 : ByteArray) (r1 : ByteArray) (r2 : Int) (r3 : ByteArray) (r4 : ByteArray) (r5 : Bool) (r6 : Bool) (w : World) (h : spec_ReadUrl.f k a0 = some (r1, r2, r3, r4, r5, r6)) :
  Calls Tryz.prog 40 #[.string a0] w fun e w' => e = .returned (.tuple #[.agg #[.string r1, .int .i64 r2, .string r3, .string r4, .bool r5], .bool r6]) ∧ Below w.heap.size w w' := by
 have hu24 := Tryz.underlying24
 have HB := Aside0.mk (Below.refl w.heap.size w)
 have H : (if (a0.size : Int) > 200 then (spec_ReadUrl.j0 k a0 true) else (if (a0.size : Int) < 8 then (spec_ReadUrl.j0 k a0 true) else ((spec_l6visible.f k a0).bind fun t427 => (if t427 = true then ((spec_l6upto.f k a0 35).bind fun t428 => (if t428.toList = a0.toList then (if 0 ≤ 7 then (if 7 ≤ (a0.size : Int) then ((spec_Fold.f (a0.extract 0 7)).bind fun t429 => (spec_ReadUrl.j0 k a0 (t429.toList != ([104, 116, 116, 112, 58, 47, 47] : List UInt8)))) else (none)) else (none)) else (spec_ReadUrl.j0 k a0 true))) else (spec_ReadUrl.j0 k a0 true))))) = some (r1, r2, r3, r4, r5, r6) := h
 clear h
 have HC2 := Aside0.mk H
 clear H
 go_enter Tryz.func40, Tryz.ntmps40
 go_upto_region 1 with (first | ((with_reducible refine gate_dst (N := 2) rfl ?_); (try (refine gate_guard (by rfl) ?_; dsimp only)); refine boxP_ (N := 2) (cs := #[.string (⟨#[]⟩ : ByteArray), .int .i64 0, .string (⟨#[]⟩ : ByteArray), .string (⟨#[]⟩ : ByteArray), .bool false]) (t := 24) ?_; intro gb426 hg w3 hbox hb; have BK426 := Aside0.mk (hbox); have GE426 := geb_ (w := w) hg z0; replace HB := Aside0.mk (below_step z0 hb); clear hb hbox hg))
 (try simp only [Act.put, List.setIfInBounds_toArray, List.set_cons_zero, List.set_cons_succ])
 go_cut [35] (fun v35 wc => ∃ (kq : Nat) (x35_1 : Bool), v35 = .bool x35_1 ∧ Aside0 (spec_ReadUrl.j0 kq a0 x35_1 = some (r1, r2, r3, r4, r5, r6)) ∧ Aside0 (kq ≤ k) ∧ Aside0 (wc.heap[gb426]? = some (.cells #[.string (⟨#[]⟩ : ByteArray), .int .i64 0, .string (⟨#[]⟩ : ByteArray), .string (⟨#[]⟩ : ByteArray), .bool false] 24 (0, 0))) ∧ Aside0 (Below w.heap.size w wc))
 case first =>
  have H := HC2.out
  clear HC2
  by_cases c4 : (a0.size : Int) > 200
  ·rw [if_pos c4] at H
   have c4b0 : decide (200 < (a0.size : Int)) = true := decide_eq_true c4
   have c4b1 : decide (200 < a0.size) = true := decide_eq_true (by omega)
   clear c4
   (first | rw [c4b0] | (simp only [i64_w, i32_w]; rw [c4b0]) | skip)
   have H' := Aside0.mk H
   clear H
   go_wp2
   go_meet
   case rel => exact ⟨_, (true), z5, H', ⟨z31⟩, ⟨z23⟩, ⟨z22⟩⟩
  ·rw [if_neg c4] at H
   have c4b0 : decide (200 < (a0.size : Int)) = false := decide_eq_false c4
   have c4b1 : decide (200 < a0.size) = false := decide_eq_false (by omega)
   clear c4
   (first | rw [c4b0] | (simp only [i64_w, i32_w]; rw [c4b0]) | skip)
   by_cases c5 : (a0.size : Int) < 8
   ·rw [if_pos c5] at H
    have c5b0 : decide ((a0.size : Int) < 8) = true := decide_eq_true c5
    have c5b1 : decide (a0.size < 8) = true := decide_eq_true (by omega)
    clear c5
    have H' := Aside0.mk H
    clear H
    go_wp2
    go_meet
    case rel => exact ⟨_, (true), z5, H', ⟨z31⟩, ⟨z23⟩, ⟨z22⟩⟩
   ·rw [if_neg c5] at H
    have c5b0 : decide ((a0.size : Int) < 8) = false := decide_eq_false c5
    have c5b1 : decide (a0.size < 8) = false := decide_eq_false (by omega)
    clear c5
    replace H := Option.bind_eq_some_iff.mp H
    obtain ⟨t427, A60, H⟩ := H
    try dsimp only at H
    have A6 := Aside0.mk A60
    clear A60
    by_cases c7 : t427 = true
    ·subst c7
     rw [if_pos rfl] at H
     replace H := Option.bind_eq_some_iff.mp H
     obtain ⟨t428, A80, H⟩ := H
     try dsimp only at H
     have A8 := Aside0.mk A80
     clear A80
     by_cases c9 : t428.toList = a0.toList
     ·rw [if_pos c9] at H
      have c9b0 : (t428.toList == a0.toList) = true := beq_iff_eq.mpr c9
      have c9b1 : (t428.toList != a0.toList) = false := bne_eq_false_iff_eq.mpr c9
      clear c9
      by_cases c10 : 0 ≤ 7
      ·rw [if_pos c10] at H
       have c10b0 := eq_true c10
       have c10b1 : decide (0 ≤ 7) = true := decide_eq_true c10
       clear c10
       by_cases c11 : 7 ≤ (a0.size : Int)
       ·rw [if_pos c11] at H
        have c11b0 := eq_true c11
        have c11b1 : decide (7 ≤ (a0.size : Int)) = true := decide_eq_true c11
        clear c11
        replace H := Option.bind_eq_some_iff.mp H
        obtain ⟨t429, A120, H⟩ := H
        try dsimp only at H
        have A12 := Aside0.mk A120
        clear A120
        have H' := Aside0.mk H
        clear H
        go_wp2_with (first | (go_at_call 20; (with_reducible refine (spec_l6visible.calls k a0 true _ A6.out).mono ?_); rintro e w' ⟨rfl, ⟨nd, rfl⟩⟩) | (go_at_call 21; (with_reducible refine (spec_l6upto.calls k a0 35 t428 _ A8.out).mono ?_); rintro e w' ⟨rfl, ⟨nd, rfl⟩⟩) | (go_at_call 74; (with_reducible refine (spec_Fold.calls (a0.extract 0 7) t429 _ A12.out).mono ?_); rintro e w13 ⟨rfl, hb⟩; have n0_ := Aside0.mk (blk_below (g := gb426) (o := .cells #[.string (⟨#[]⟩ : ByteArray), .int .i64 0, .string (⟨#[]⟩ : ByteArray), .string (⟨#[]⟩ : ByteArray), .bool false] 24 (0, 0)) z23 hb); have n1_ := Aside0.mk (below_step z22 hb); clear BK426; clear HB; have BK426 := n0_; have HB := n1_; clear n0_ n1_; (try clear hb); (try clear hb2); (try clear hk); (try clear hi)))
        go_meet
        case rel => exact ⟨_, ((t429.toList != ([104, 116, 116, 112, 58, 47, 47] : List UInt8))), z5, H', ⟨z31⟩, ⟨z23⟩, ⟨z22⟩⟩
       ·rw [if_neg c11] at H
        exact absurd H (by simp)
      ·rw [if_neg c10] at H
       exact absurd H (by simp)
     ·rw [if_neg c9] at H
      have c9b0 : (t428.toList == a0.toList) = false := beq_eq_false_iff_ne.mpr c9
      have c9b1 : (t428.toList != a0.toList) = true := bne_iff_ne.mpr c9
      have H' := Aside0.mk H
      clear H
      go_wp2_with (first | (go_at_call 20; (with_reducible refine (spec_l6visible.calls k a0 true _ A6.out).mono ?_); rintro e w' ⟨rfl, ⟨nd, rfl⟩⟩) | (go_at_call 21; (with_reducible refine (spec_l6upto.calls k a0 35 t428 _ A8.out).mono ?_); rintro e w' ⟨rfl, ⟨nd, rfl⟩⟩))
      go_meet
      case rel => exact ⟨_, (true), z5, H', ⟨z31⟩, ⟨z23⟩, ⟨z22⟩⟩
    ·replace c7 := Bool.eq_false_iff.mpr c7
     subst c7
     rw [if_neg Bool.false_ne_true] at H
     have H' := Aside0.mk H
     clear H
     go_wp2_with (first | (go_at_call 20; (with_reducible refine (spec_l6visible.calls k a0 false _ A6.out).mono ?_); rintro e w' ⟨rfl, ⟨nd, rfl⟩⟩))
     go_meet
     case rel => exact ⟨_, (true), z5, H', ⟨z31⟩, ⟨z23⟩, ⟨z22⟩⟩
 case rest =>
  clear HC2
  try clear c1
  try clear p2
  try clear c4
  try clear c4b0
  try clear c4b1
  try clear c5
  try clear c5b0
  try clear c5b1
  try clear c7
  try clear c9
  try clear c9b0
  try clear c9b1
  try clear c10
  try clear c10b0
  try clear c10b1
  try clear c11
  try clear c11b0
  try clear c11b1
  obtain ⟨kq, x35_1, rfl, HA, HJ1, BK426, HB⟩ := hcut
  cases kq with
  | zero => exact absurd HA.out (by simp [spec_ReadUrl.j0])
  | succ kj1 =>
   have H := HA.out
   clear HA
   simp only [spec_ReadUrl.j0] at H
   by_cases c14 : x35_1 = true
   ·subst c14
    rw [if_pos rfl] at H
    simp only [Option.some.injEq, Prod.mk.injEq] at H
    obtain ⟨rfl, rfl, rfl, rfl, rfl, rfl⟩ := H
    have hcz15_0 : wc.cell? ⟨gb426, 0, none⟩ = some (.string (⟨#[]⟩ : ByteArray)) := (blk_cell BK426.out 0).trans rfl
    have hcz15_1 : wc.cell? ⟨gb426, 1, none⟩ = some (.int .i64 0) := (blk_cell BK426.out 1).trans rfl
    have hcz15_2 : wc.cell? ⟨gb426, 2, none⟩ = some (.string (⟨#[]⟩ : ByteArray)) := (blk_cell BK426.out 2).trans rfl
    have hcz15_3 : wc.cell? ⟨gb426, 3, none⟩ = some (.string (⟨#[]⟩ : ByteArray)) := (blk_cell BK426.out 3).trans rfl
    have hcz15_4 : wc.cell? ⟨gb426, 4, none⟩ = some (.bool false) := (blk_cell BK426.out 4).trans rfl
    have hfz15_0 := blk_frozen BK426.out 0
    have hfz15_1 := blk_frozen BK426.out 1
    have hfz15_2 := blk_frozen BK426.out 2
    have hfz15_3 := blk_frozen BK426.out 3
    have hfz15_4 := blk_frozen BK426.out 4
    go_wp2
    refine bodyPost_ret (results_ct rfl _ _ gb426 24 #[.string (⟨#[]⟩ : ByteArray), .int .i64 0, .string (⟨#[]⟩ : ByteArray), .string (⟨#[]⟩ : ByteArray), .bool false] (0, 0) _ rfl z28 Tryz.underlying24 rfl (by kernel_rfl)) rfl ?_
    exact ⟨z4, z22⟩
   ·replace c14 := Bool.eq_false_iff.mpr c14
    subst c14
    rw [if_neg Bool.false_ne_true] at H
    by_cases c16 : 7 ≤ (a0.size : Int)
    ·rw [if_pos c16] at H
     have c16b0 := eq_true c16
     have c16b1 : decide (7 ≤ (a0.size : Int)) = true := decide_eq_true c16
     clear c16
     replace H := Option.bind_eq_some_iff.mp H
     obtain ⟨t430, A170, H⟩ := H
     try dsimp only at H
     have A17 := Aside0.mk A170
     clear A170
     replace H := Option.bind_eq_some_iff.mp H
     obtain ⟨t431, A180, H⟩ := H
     try dsimp only at H
     have A18 := Aside0.mk A180
     clear A180
     replace H := Option.bind_eq_some_iff.mp H
     obtain ⟨t432, A190, H⟩ := H
     try dsimp only at H
     have A19 := Aside0.mk A190
     clear A190
     replace H := Option.bind_eq_some_iff.mp H
     obtain ⟨t433, A200, H⟩ := H
     try dsimp only at H
     have A20 := Aside0.mk A200
     clear A200
     have HC21 := Aside0.mk H
     clear H
     go_upto_if 52 with (first | ((with_reducible refine gate_callee (f := 21) rfl ?_); refine goesQ_ 40 Tryz.func21 #[.string (a0.extract 7 a0.size), .int .u8 63] ?_; (with_reducible refine (spec_l6upto.calls kj1 (a0.extract 7 a0.size) 63 t430 _ A17.out).mono ?_); rintro e w' ⟨rfl, ⟨nd, rfl⟩⟩; refine ⟨_, rfl, ?_⟩; (try (rw [drewN_self wc]; generalize hq_ : World.drewN wc _ = wc; have n0_ : Aside0 (wc.heap[gb426]? = some (.cells #[.string (⟨#[]⟩ : ByteArray), .int .i64 0, .string (⟨#[]⟩ : ByteArray), .string (⟨#[]⟩ : ByteArray), .bool false] 24 (0, 0))) := ⟨by rw [← hq_]; exact z23⟩; have n1_ : Aside0 (Below w.heap.size w wc) := ⟨by rw [← hq_]; exact z22⟩; clear BK426 HB hq_; have BK426 := n0_; have HB := n1_; clear n0_ n1_))) | ((with_reducible refine gate_callee (f := 21) rfl ?_); refine goesQ_ 42 Tryz.func21 #[.string t430, .int .u8 47] ?_; (with_reducible refine (spec_l6upto.calls kj1 t430 47 t431 _ A18.out).mono ?_); rintro e w' ⟨rfl, ⟨nd, rfl⟩⟩; refine ⟨_, rfl, ?_⟩; (try (rw [drewN_self wc]; generalize hq_ : World.drewN wc _ = wc; have n0_ : Aside0 (wc.heap[gb426]? = some (.cells #[.string (⟨#[]⟩ : ByteArray), .int .i64 0, .string (⟨#[]⟩ : ByteArray), .string (⟨#[]⟩ : ByteArray), .bool false] 24 (0, 0))) := ⟨by rw [← hq_]; exact z23⟩; have n1_ : Aside0 (Below w.heap.size w wc) := ⟨by rw [← hq_]; exact z22⟩; clear BK426 HB hq_; have BK426 := n0_; have HB := n1_; clear n0_ n1_))) | ((with_reducible refine gate_callee (f := 21) rfl ?_); refine goesQ_ 44 Tryz.func21 #[.string t431, .int .u8 58] ?_; (with_reducible refine (spec_l6upto.calls kj1 t431 58 t432 _ A19.out).mono ?_); rintro e w' ⟨rfl, ⟨nd, rfl⟩⟩; refine ⟨_, rfl, ?_⟩; (try (rw [drewN_self wc]; generalize hq_ : World.drewN wc _ = wc; have n0_ : Aside0 (wc.heap[gb426]? = some (.cells #[.string (⟨#[]⟩ : ByteArray), .int .i64 0, .string (⟨#[]⟩ : ByteArray), .string (⟨#[]⟩ : ByteArray), .bool false] 24 (0, 0))) := ⟨by rw [← hq_]; exact z23⟩; have n1_ : Aside0 (Below w.heap.size w wc) := ⟨by rw [← hq_]; exact z22⟩; clear BK426 HB hq_; have BK426 := n0_; have HB := n1_; clear n0_ n1_))) | ((with_reducible refine gate_callee (f := 74) rfl ?_); refine goesQ_ 46 Tryz.func74 #[.string t432] ?_; (with_reducible refine (spec_Fold.calls t432 t433 _ A20.out).mono ?_); rintro e w22 ⟨rfl, hb⟩; refine ⟨_, rfl, ?_⟩; replace BK426 := Aside0.mk (blk_below (g := gb426) (o := .cells #[.string (⟨#[]⟩ : ByteArray), .int .i64 0, .string (⟨#[]⟩ : ByteArray), .string (⟨#[]⟩ : ByteArray), .bool false] 24 (0, 0)) z23 hb); replace HB := Aside0.mk (below_step z22 hb); (try clear hb)) | ((with_reducible refine gate_dst (N := 8) rfl ?_); (try (refine gate_guard (by rfl) ?_; dsimp only)); refine boxP_ (N := 8) (cs := #[.string (⟨#[]⟩ : ByteArray), .int .i64 0, .string (⟨#[]⟩ : ByteArray), .string (⟨#[]⟩ : ByteArray), .bool false]) (t := 24) ?_; intro gb434 hg w23 hbox hb; have BK434 := Aside0.mk (hbox); have GE434 := geb_ (w := w) hg z22; replace HB := Aside0.mk (below_step z22 hb); have NB426_434 := Aside0.mk ((by rw [hg]; exact Nat.ne_of_lt (blk_lt (g := gb426) (o := .cells #[.string (⟨#[]⟩ : ByteArray), .int .i64 0, .string (⟨#[]⟩ : ByteArray), .string (⟨#[]⟩ : ByteArray), .bool false] 24 (0, 0)) z23) : gb426 ≠ gb434)); have NB434_426 := Aside0.mk ((by rw [hg]; exact Nat.ne_of_gt (blk_lt (g := gb426) (o := .cells #[.string (⟨#[]⟩ : ByteArray), .int .i64 0, .string (⟨#[]⟩ : ByteArray), .string (⟨#[]⟩ : ByteArray), .bool false] 24 (0, 0)) z23) : gb434 ≠ gb426)); replace BK426 := Aside0.mk (blk_below (g := gb426) (o := .cells #[.string (⟨#[]⟩ : ByteArray), .int .i64 0, .string (⟨#[]⟩ : ByteArray), .string (⟨#[]⟩ : ByteArray), .bool false] 24 (0, 0)) z23 hb); clear hb hbox hg; have hnb24 := NB434_426.out; have hnc24 := NB426_434.out; obtain ⟨hcz25_0, hcz25_1, hcz25_2, hcz25_3, hcz25_4, hfz25_0, hfz25_1, hfz25_2, hfz25_3, hfz25_4⟩ := cells5_ BK434.out))
     (try simp only [Act.put, List.setIfInBounds_toArray, List.set_cons_zero, List.set_cons_succ])
     go_cut [] (fun wc => ∃ (kq : Nat) (x427000_20 : ByteArray) (x427001_20 : Int) (x427002_20 : ByteArray) (x427003_20 : ByteArray) (x427004_20 : Bool) (x435001_20 : Int), Aside0 (spec_ReadUrl.j1 kq (a0.extract 7 a0.size) t430 t431 t433 x435001_20 (⟨#[47]⟩ : ByteArray) (⟨#[]⟩ : ByteArray) false = some (r1, r2, r3, r4, r5, r6)) ∧ Aside0 (kq ≤ kj1) ∧ Aside0 (wc.heap[gb426]? = some (.cells #[.string x427000_20, .int .i64 x427001_20, .string x427002_20, .string x427003_20, .bool x427004_20] 24 (0, 0))) ∧ Aside0 (wc.heap[gb434]? = some (.cells #[.string t433, .int .i64 x435001_20, .string (⟨#[47]⟩ : ByteArray), .string (⟨#[]⟩ : ByteArray), .bool false] 24 (0, 0))) ∧ Aside0 (Below w.heap.size w wc))
     case first =>
      have H := HC21.out
      clear HC21
      by_cases c26 : (t432.size : Int) < (t431.size : Int)
      ·rw [if_pos c26] at H
       have c26b0 : decide ((t432.size : Int) < (t431.size : Int)) = true := decide_eq_true c26
       have c26b1 : decide (t432.size < t431.size) = true := decide_eq_true (Int.ofNat_lt.mp c26)
       have c26b2_ : (t432.size < t431.size) = True := eq_true (of_decide_eq_true c26b1)
       clear c26
       (first | rw [c26b0] | (simp only [i64_w, i32_w]; rw [c26b0]) | rw [c26b1] | skip)
       obtain ⟨ji27, hji27⟩ : ∃ j_ : Int, (wrap64 ((t432.size : Int) + 1)) = j_ := ⟨_, rfl⟩
       replace H : (if 0 ≤ (ji27) then (if (ji27) ≤ (t431.size : Int) then ((spec_ReadDec.f kj1 (t431.extract ((ji27) : Int).toNat t431.size)).bind fun bt435 => (if bt435.2 = true then (spec_ReadUrl.j1 kj1 (a0.extract 7 a0.size) t430 t431 t433 bt435.1 (⟨#[47]⟩ : ByteArray) (⟨#[]⟩ : ByteArray) false) else (some ((⟨#[]⟩ : ByteArray), 0, (⟨#[]⟩ : ByteArray), (⟨#[]⟩ : ByteArray), false, false)))) else (none)) else (none)) = some (r1, r2, r3, r4, r5, r6) := by first | (rw [hji27] at H; exact H) | (simp only [hji27] at H ⊢; exact H)
       have hji27w : (IntKind.i64.wrap ((t432.size : Int) + 1)) = ji27 := (i64_w _).trans hji27
       by_cases c28 : 0 ≤ (ji27)
       ·rw [if_pos c28] at H
        have c28b0 := eq_true c28
        have c28b1 : decide (0 ≤ (ji27)) = true := decide_eq_true c28
        clear c28
        by_cases c29 : (ji27) ≤ (t431.size : Int)
        ·rw [if_pos c29] at H
         have c29b0 := eq_true c29
         have c29b1 : decide ((ji27) ≤ (t431.size : Int)) = true := decide_eq_true c29
         clear c29
         replace H := Option.bind_eq_some_iff.mp H
         obtain ⟨⟨t435, t436⟩, A300, H⟩ := H
         try dsimp only at H
         have A30 := Aside0.mk A300
         clear A300
         by_cases c31 : t436 = true
         ·subst c31
          rw [if_pos rfl] at H
          have H' := Aside0.mk H
          clear H
          go_wp2_with (first | ((with_reducible refine gate_callee (f := 75) rfl ?_); refine goesL_ (some 59) rfl rfl Tryz.func75 (by kernel_rfl) rfl #[.string (t431.extract ((ji27) : Int).toNat t431.size)] rfl z93 ?_; (with_reducible refine (spec_ReadDec.calls kj1 (t431.extract ((ji27) : Int).toNat t431.size) t435 true _ A30.out).mono ?_); rintro e w32 ⟨rfl, hb⟩; refine ⟨_, rfl, ?_⟩; replace BK426 := Aside0.mk (blk_below (g := gb426) (o := .cells #[.string (⟨#[]⟩ : ByteArray), .int .i64 0, .string (⟨#[]⟩ : ByteArray), .string (⟨#[]⟩ : ByteArray), .bool false] 24 (0, 0)) z26 hb); replace BK434 := Aside0.mk (blk_below (g := gb434) (o := .cells #[.string t433, .int .i64 80, .string (⟨#[47]⟩ : ByteArray), .string (⟨#[]⟩ : ByteArray), .bool false] 24 (0, 0)) z17 hb); replace HB := Aside0.mk (below_step z15 hb); (try clear hb); have hnb33 := NB434_426.out; have hnc33 := NB426_434.out; obtain ⟨hcz34_0, hcz34_1, hcz34_2, hcz34_3, hcz34_4, hfz34_0, hfz34_1, hfz34_2, hfz34_3, hfz34_4⟩ := cells5_ BK434.out))
          go_meet
          case rel => exact ⟨_, ((⟨#[]⟩ : ByteArray)), (0), ((⟨#[]⟩ : ByteArray)), ((⟨#[]⟩ : ByteArray)), (false), (t435), H', ⟨z100⟩, ⟨z72⟩, ⟨by (with_reducible repeat (first | refine blk_drewN ?_ _ | refine blk_drew ?_ | refine blk_alloc ?_ _)); refine blk_put (cs := #[.string t433, .int .i64 80, .string (⟨#[47]⟩ : ByteArray), .string (⟨#[]⟩ : ByteArray), .bool false]) ?_ 1 _ rfl; (with_reducible repeat (first | refine blk_drewN ?_ _ | refine blk_drew ?_ | refine blk_alloc ?_ _)); exact BK434.out⟩, ⟨z15⟩⟩
         ·replace c31 := Bool.eq_false_iff.mpr c31
          subst c31
          rw [if_neg Bool.false_ne_true] at H
          simp only [Option.some.injEq, Prod.mk.injEq] at H
          obtain ⟨rfl, rfl, rfl, rfl, rfl, rfl⟩ := H
          go_wp2_with (first | ((with_reducible refine gate_callee (f := 75) rfl ?_); refine goesL_ (some 59) rfl rfl Tryz.func75 (by kernel_rfl) rfl #[.string (t431.extract ((ji27) : Int).toNat t431.size)] rfl z93 ?_; (with_reducible refine (spec_ReadDec.calls kj1 (t431.extract ((ji27) : Int).toNat t431.size) t435 false _ A30.out).mono ?_); rintro e w35 ⟨rfl, hb⟩; refine ⟨_, rfl, ?_⟩; replace BK426 := Aside0.mk (blk_below (g := gb426) (o := .cells #[.string (⟨#[]⟩ : ByteArray), .int .i64 0, .string (⟨#[]⟩ : ByteArray), .string (⟨#[]⟩ : ByteArray), .bool false] 24 (0, 0)) z26 hb); replace BK434 := Aside0.mk (blk_below (g := gb434) (o := .cells #[.string t433, .int .i64 80, .string (⟨#[47]⟩ : ByteArray), .string (⟨#[]⟩ : ByteArray), .bool false] 24 (0, 0)) z17 hb); replace HB := Aside0.mk (below_step z15 hb); (try clear hb); have hnb36 := NB426_434.out; have hnc36 := NB434_426.out; obtain ⟨hcz37_0, hcz37_1, hcz37_2, hcz37_3, hcz37_4, hfz37_0, hfz37_1, hfz37_2, hfz37_3, hfz37_4⟩ := cells5_ BK426.out))
          refine bodyPost_ret (results_ct rfl _ _ gb426 24 #[.string (⟨#[]⟩ : ByteArray), .int .i64 0, .string (⟨#[]⟩ : ByteArray), .string (⟨#[]⟩ : ByteArray), .bool false] (0, 0) _ rfl z28 Tryz.underlying24 rfl (by kernel_rfl)) rfl ?_
          exact ⟨by first | rfl | (simp [errW_none, errW_some] <;> rfl) | (simp only [← hji27]; first | rfl | (simp [errW_none, errW_some] <;> rfl)) | (simp [*, errW_none, errW_some] <;> rfl), z15⟩
        ·rw [if_neg c29] at H
         exact absurd H (by simp)
       ·rw [if_neg c28] at H
        exact absurd H (by simp)
      ·rw [if_neg c26] at H
       have c26b0 : decide ((t432.size : Int) < (t431.size : Int)) = false := decide_eq_false c26
       have c26b1 : decide (t432.size < t431.size) = false := decide_eq_false (fun h => c26 (Int.ofNat_lt.mpr h))
       have c26b2_ : (t432.size < t431.size) = False := eq_false (of_decide_eq_false c26b1)
       clear c26
       (first | rw [c26b0] | (simp only [i64_w, i32_w]; rw [c26b0]) | rw [c26b1] | skip)
       have H' := Aside0.mk H
       clear H
       go_wp2
       go_meet
       case rel => exact ⟨_, ((⟨#[]⟩ : ByteArray)), (0), ((⟨#[]⟩ : ByteArray)), ((⟨#[]⟩ : ByteArray)), (false), (80), H', ⟨z100⟩, ⟨z26⟩, ⟨z17⟩, ⟨z15⟩⟩
     case rest =>
      generalize hx7_ : a0.extract 7 a0.size = x7_ at *
      clear HC21
      try clear c1
      try clear c2
      try clear p2
      try clear c3
      try clear c4
      try clear c4b0
      try clear c4b1
      try clear c5
      try clear c5b0
      try clear c5b1
      try clear p6
      try clear c7
      try clear c9
      try clear c9b0
      try clear c9b1
      try clear c10
      try clear c10b0
      try clear c10b1
      try clear c11
      try clear c11b0
      try clear c11b1
      try clear c14
      try clear c16
      try clear c16b0
      try clear c16b1
      try clear c21
      try clear c24
      try clear c26
      try clear c26b0
      try clear c26b1
      try clear c28
      try clear c28b0
      try clear c28b1
      try clear c29
      try clear c29b0
      try clear c29b1
      try clear c31
      try clear c33
      try clear c36
      try clear hcz15_0
      try clear hcz15_1
      try clear hcz15_2
      try clear hcz15_3
      try clear hcz15_4
      try clear hcz25_0
      try clear hcz25_1
      try clear hcz25_2
      try clear hcz25_3
      try clear hcz25_4
      try clear hcz34_0
      try clear hcz34_1
      try clear hcz34_2
      try clear hcz34_3
      try clear hcz34_4
      try clear hcz37_0
      try clear hcz37_1
      try clear hcz37_2
      try clear hcz37_3
      try clear hcz37_4
      try clear hfz15_0
      try clear hfz15_1
      try clear hfz15_2
      try clear hfz15_3
      try clear hfz15_4
      try clear hfz25_0
      try clear hfz25_1
      try clear hfz25_2
      try clear hfz25_3
      try clear hfz25_4
      try clear hfz34_0
      try clear hfz34_1
      try clear hfz34_2
      try clear hfz34_3
      try clear hfz34_4
      try clear hfz37_0
      try clear hfz37_1
      try clear hfz37_2
      try clear hfz37_3
      try clear hfz37_4
      try clear p2
      obtain ⟨kq, x427000_20, x427001_20, x427002_20, x427003_20, x427004_20, x435001_20, HA, HJ20, BK426, BK434, HB⟩ := hcut
      cases kq with
      | zero => exact absurd HA.out (by simp [spec_ReadUrl.j1])
      | succ kj20 =>
       have H := HA.out
       clear HA
       simp only [spec_ReadUrl.j1] at H
       have HC38 := Aside0.mk H
       clear H
       go_upto_if 71 with (fail)
       go_cut [] (fun wc => ∃ (kq : Nat) (x435002_37 : ByteArray), Aside0 (spec_ReadUrl.j2 kq x7_ t430 t433 x435001_20 x435002_37 (⟨#[]⟩ : ByteArray) false = some (r1, r2, r3, r4, r5, r6)) ∧ Aside0 (kq ≤ kj20) ∧ Aside0 (wc.heap[gb426]? = some (.cells #[.string x427000_20, .int .i64 x427001_20, .string x427002_20, .string x427003_20, .bool x427004_20] 24 (0, 0))) ∧ Aside0 (wc.heap[gb434]? = some (.cells #[.string t433, .int .i64 x435001_20, .string x435002_37, .string (⟨#[]⟩ : ByteArray), .bool false] 24 (0, 0))) ∧ Aside0 (Below w.heap.size w wc))
       case first =>
        have H := HC38.out
        clear HC38
        by_cases c39 : (t431.size : Int) < (t430.size : Int)
        ·rw [if_pos c39] at H
         have c39b0 : decide ((t431.size : Int) < (t430.size : Int)) = true := decide_eq_true c39
         have c39b1 : decide (t431.size < t430.size) = true := decide_eq_true (Int.ofNat_lt.mp c39)
         have c39b2_ : (t431.size < t430.size) = True := eq_true (of_decide_eq_true c39b1)
         clear c39
         (first | rw [c39b0] | (simp only [i64_w, i32_w]; rw [c39b0]) | rw [c39b1] | skip)
         by_cases c40 : 0 ≤ (t431.size : Int)
         ·rw [if_pos c40] at H
          have c40b0 := eq_true c40
          have c40b1 : decide (0 ≤ (t431.size : Int)) = true := decide_eq_true c40
          clear c40
          by_cases c41 : (t431.size : Int) ≤ (t430.size : Int)
          ·rw [if_pos c41] at H
           have c41b0 := eq_true c41
           have c41b1 : decide ((t431.size : Int) ≤ (t430.size : Int)) = true := decide_eq_true c41
           clear c41
           replace H := Option.bind_eq_some_iff.mp H
           obtain ⟨t437, A420, H⟩ := H
           try dsimp only at H
           have A42 := Aside0.mk A420
           clear A420
           have H' := Aside0.mk H
           clear H
           go_wp2_with (first | ((with_reducible refine gate_callee (f := 19) rfl ?_); refine goesQ_ 76 Tryz.func19 #[.string (t430.extract ((t431.size : Int) : Int).toNat t430.size)] ?_; (with_reducible refine (spec_CleanPath.calls kj20 (t430.extract ((t431.size : Int) : Int).toNat t430.size) t437 _ A42.out).mono ?_); rintro e w43 ⟨rfl, hb⟩; refine ⟨_, rfl, ?_⟩; replace BK426 := Aside0.mk (blk_below (g := gb426) (o := .cells #[.string x427000_20, .int .i64 x427001_20, .string x427002_20, .string x427003_20, .bool x427004_20] 24 (0, 0)) z23 hb); replace BK434 := Aside0.mk (blk_below (g := gb434) (o := .cells #[.string t433, .int .i64 x435001_20, .string (⟨#[47]⟩ : ByteArray), .string (⟨#[]⟩ : ByteArray), .bool false] 24 (0, 0)) z59 hb); replace HB := Aside0.mk (below_step z15 hb); (try clear hb); have hnb44 := NB434_426.out; have hnc44 := NB426_434.out; obtain ⟨hcz45_0, hcz45_1, hcz45_2, hcz45_3, hcz45_4, hfz45_0, hfz45_1, hfz45_2, hfz45_3, hfz45_4⟩ := cells5_ BK434.out))
           go_meet
           case rel => exact ⟨_, (t437), H', ⟨z81⟩, ⟨z72⟩, ⟨by (with_reducible repeat (first | refine blk_drewN ?_ _ | refine blk_drew ?_ | refine blk_alloc ?_ _)); refine blk_put (cs := #[.string t433, .int .i64 x435001_20, .string (⟨#[47]⟩ : ByteArray), .string (⟨#[]⟩ : ByteArray), .bool false]) ?_ 2 _ rfl; (with_reducible repeat (first | refine blk_drewN ?_ _ | refine blk_drew ?_ | refine blk_alloc ?_ _)); exact BK434.out⟩, ⟨z15⟩⟩
          ·rw [if_neg c41] at H
           exact absurd H (by simp)
         ·rw [if_neg c40] at H
          exact absurd H (by simp)
        ·rw [if_neg c39] at H
         have c39b0 : decide ((t431.size : Int) < (t430.size : Int)) = false := decide_eq_false c39
         have c39b1 : decide (t431.size < t430.size) = false := decide_eq_false (fun h => c39 (Int.ofNat_lt.mpr h))
         have c39b2_ : (t431.size < t430.size) = False := eq_false (of_decide_eq_false c39b1)
         clear c39
         (first | rw [c39b0] | (simp only [i64_w, i32_w]; rw [c39b0]) | rw [c39b1] | skip)
         have H' := Aside0.mk H
         clear H
         go_wp2
         go_meet
         case rel => exact ⟨_, ((⟨#[47]⟩ : ByteArray)), H', ⟨z81⟩, ⟨z23⟩, ⟨z59⟩, ⟨z15⟩⟩
       case rest =>
        clear HC38
        try clear c1
        try clear c2
        try clear p2
        try clear c3
        try clear c4
        try clear c4b0
        try clear c4b1
        try clear c5
        try clear c5b0
        try clear c5b1
        try clear p6
        try clear c7
        try clear c9
        try clear c9b0
        try clear c9b1
        try clear c10
        try clear c10b0
        try clear c10b1
        try clear c11
        try clear c11b0
        try clear c11b1
        try clear c14
        try clear c16
        try clear c16b0
        try clear c16b1
        try clear c19
        try clear c21
        try clear c24
        try clear c26
        try clear c26b0
        try clear c26b1
        try clear c28
        try clear c28b0
        try clear c28b1
        try clear c29
        try clear c29b0
        try clear c29b1
        try clear c31
        try clear c33
        try clear c36
        try clear c39
        try clear c39b0
        try clear c39b1
        try clear c40
        try clear c40b0
        try clear c40b1
        try clear c41
        try clear c41b0
        try clear c41b1
        try clear c44
        try clear hcz15_0
        try clear hcz15_1
        try clear hcz15_2
        try clear hcz15_3
        try clear hcz15_4
        try clear hcz25_0
        try clear hcz25_1
        try clear hcz25_2
        try clear hcz25_3
        try clear hcz25_4
        try clear hcz34_0
        try clear hcz34_1
        try clear hcz34_2
        try clear hcz34_3
        try clear hcz34_4
        try clear hcz37_0
        try clear hcz37_1
        try clear hcz37_2
        try clear hcz37_3
        try clear hcz37_4
        try clear hcz45_0
        try clear hcz45_1
        try clear hcz45_2
        try clear hcz45_3
        try clear hcz45_4
        try clear hfz15_0
        try clear hfz15_1
        try clear hfz15_2
        try clear hfz15_3
        try clear hfz15_4
        try clear hfz25_0
        try clear hfz25_1
        try clear hfz25_2
        try clear hfz25_3
        try clear hfz25_4
        try clear hfz34_0
        try clear hfz34_1
        try clear hfz34_2
        try clear hfz34_3
        try clear hfz34_4
        try clear hfz37_0
        try clear hfz37_1
        try clear hfz37_2
        try clear hfz37_3
        try clear hfz37_4
        try clear hfz45_0
        try clear hfz45_1
        try clear hfz45_2
        try clear hfz45_3
        try clear hfz45_4
        try clear p2
        try clear p6
        obtain ⟨kq, x435002_37, HA, HJ37, BK426, BK434, HB⟩ := hcut
        cases kq with
        | zero => exact absurd HA.out (by simp [spec_ReadUrl.j2])
        | succ kj37 =>
         have H := HA.out
         clear HA
         simp only [spec_ReadUrl.j2] at H
         by_cases c46 : (t430.size : Int) < (x7_.size : Int)
         ·rw [if_pos c46] at H
          have c46b0 : decide ((t430.size : Int) < (x7_.size : Int)) = true := decide_eq_true c46
          have c46b1 : decide (t430.size < x7_.size) = true := decide_eq_true (Int.ofNat_lt.mp c46)
          have c46b2_ : (t430.size < x7_.size) = True := eq_true (of_decide_eq_true c46b1)
          clear c46
          obtain ⟨ji47, hji47⟩ : ∃ j_ : Int, (wrap64 ((t430.size : Int) + 1)) = j_ := ⟨_, rfl⟩
          replace H : (if 0 ≤ (ji47) then (if (ji47) ≤ (x7_.size : Int) then ((spec_UrlOk.f kj37 t433 x435001_20 x435002_37 (x7_.extract ((ji47) : Int).toNat x7_.size) true).bind fun t438 => (if t438 = true then (some (t433, x435001_20, x435002_37, x7_.extract ((ji47) : Int).toNat x7_.size, true, true)) else (some ((⟨#[]⟩ : ByteArray), 0, (⟨#[]⟩ : ByteArray), (⟨#[]⟩ : ByteArray), false, false)))) else (none)) else (none)) = some (r1, r2, r3, r4, r5, r6) := by first | (rw [hji47] at H; exact H) | (simp only [hji47] at H ⊢; exact H)
          have hji47w : (IntKind.i64.wrap ((t430.size : Int) + 1)) = ji47 := (i64_w _).trans hji47
          by_cases c48 : 0 ≤ (ji47)
          ·rw [if_pos c48] at H
           have c48b0 := eq_true c48
           have c48b1 : decide (0 ≤ (ji47)) = true := decide_eq_true c48
           clear c48
           by_cases c49 : (ji47) ≤ (x7_.size : Int)
           ·rw [if_pos c49] at H
            have c49b0 := eq_true c49
            have c49b1 : decide ((ji47) ≤ (x7_.size : Int)) = true := decide_eq_true c49
            clear c49
            replace H := Option.bind_eq_some_iff.mp H
            obtain ⟨t438, A500, H⟩ := H
            try dsimp only at H
            have A50 := Aside0.mk A500
            clear A500
            by_cases c51 : t438 = true
            ·subst c51
             rw [if_pos rfl] at H
             simp only [Option.some.injEq, Prod.mk.injEq] at H
             obtain ⟨rfl, rfl, rfl, rfl, rfl, rfl⟩ := H
             have hnb52 := NB434_426.out
             have hnc52 := NB426_434.out
             have hcz53_0 : wc.cell? ⟨gb434, 0, none⟩ = some (.string t433) := (blk_cell BK434.out 0).trans rfl
             have hcz53_1 : wc.cell? ⟨gb434, 1, none⟩ = some (.int .i64 x435001_20) := (blk_cell BK434.out 1).trans rfl
             have hcz53_2 : wc.cell? ⟨gb434, 2, none⟩ = some (.string x435002_37) := (blk_cell BK434.out 2).trans rfl
             have hcz53_3 : wc.cell? ⟨gb434, 3, none⟩ = some (.string (⟨#[]⟩ : ByteArray)) := (blk_cell BK434.out 3).trans rfl
             have hcz53_4 : wc.cell? ⟨gb434, 4, none⟩ = some (.bool false) := (blk_cell BK434.out 4).trans rfl
             have hfz53_0 := blk_frozen BK434.out 0
             have hfz53_1 := blk_frozen BK434.out 1
             have hfz53_2 := blk_frozen BK434.out 2
             have hfz53_3 := blk_frozen BK434.out 3
             have hfz53_4 := blk_frozen BK434.out 4
             go_wp2_with (first | ((with_reducible refine gate_callee (f := 6) rfl ?_); refine goesL_ (some 91) rfl rfl Tryz.func6 (by kernel_rfl) rfl #[.agg #[.string t433, .int .i64 x435001_20, .string x435002_37, .string (x7_.extract ((ji47) : Int).toNat x7_.size), .bool true]] rfl z91 ?_; (with_reducible refine (spec_UrlOk.calls kj37 t433 x435001_20 x435002_37 (x7_.extract ((ji47) : Int).toNat x7_.size) true true _ A50.out).mono ?_); rintro e w54 ⟨rfl, hb⟩; refine ⟨_, rfl, ?_⟩; replace BK426 := Aside0.mk (blk_below (g := gb426) (o := .cells #[.string x427000_20, .int .i64 x427001_20, .string x427002_20, .string x427003_20, .bool x427004_20] 24 (0, 0)) z58 hb); replace BK434 := Aside0.mk (blk_below (g := gb434) (o := .cells #[.string t433, .int .i64 x435001_20, .string x435002_37, .string (x7_.extract ((ji47) : Int).toNat x7_.size), .bool true] 24 (0, 0)) z45 hb); replace HB := Aside0.mk (below_step z15 hb); (try clear hb); obtain ⟨hcz55_0, hcz55_1, hcz55_2, hcz55_3, hcz55_4, hfz55_0, hfz55_1, hfz55_2, hfz55_3, hfz55_4⟩ := cells5_ BK434.out; obtain ⟨hcz56_0, hcz56_1, hcz56_2, hcz56_3, hcz56_4, hfz56_0, hfz56_1, hfz56_2, hfz56_3, hfz56_4⟩ := cells5_ BK426.out))
             refine bodyPost_ret (results_ct rfl _ _ gb426 24 #[.string t433, .int .i64 x435001_20, .string x435002_37, .string (x7_.extract ((ji47) : Int).toNat x7_.size), .bool true] (0, 0) _ rfl (by (with_reducible repeat (first | refine blk_drewN ?_ _ | refine blk_drew ?_ | refine blk_alloc ?_ _)); refine blk_put (cs := #[.string t433, .int .i64 x435001_20, .string x435002_37, .string (x7_.extract ((ji47) : Int).toNat x7_.size), .bool x427004_20]) ?_ 4 _ rfl; (with_reducible repeat (first | refine blk_drewN ?_ _ | refine blk_drew ?_ | refine blk_alloc ?_ _)); refine blk_put (cs := #[.string t433, .int .i64 x435001_20, .string x435002_37, .string x427003_20, .bool x427004_20]) ?_ 3 _ rfl; (with_reducible repeat (first | refine blk_drewN ?_ _ | refine blk_drew ?_ | refine blk_alloc ?_ _)); refine blk_put (cs := #[.string t433, .int .i64 x435001_20, .string x427002_20, .string x427003_20, .bool x427004_20]) ?_ 2 _ rfl; (with_reducible repeat (first | refine blk_drewN ?_ _ | refine blk_drew ?_ | refine blk_alloc ?_ _)); refine blk_put (cs := #[.string t433, .int .i64 x427001_20, .string x427002_20, .string x427003_20, .bool x427004_20]) ?_ 1 _ rfl; (with_reducible repeat (first | refine blk_drewN ?_ _ | refine blk_drew ?_ | refine blk_alloc ?_ _)); refine blk_put (cs := #[.string x427000_20, .int .i64 x427001_20, .string x427002_20, .string x427003_20, .bool x427004_20]) ?_ 0 _ rfl; (with_reducible repeat (first | refine blk_drewN ?_ _ | refine blk_drew ?_ | refine blk_alloc ?_ _)); exact BK426.out) Tryz.underlying24 rfl (by kernel_rfl)) rfl ?_
             exact ⟨z90, z15⟩
            ·replace c51 := Bool.eq_false_iff.mpr c51
             subst c51
             rw [if_neg Bool.false_ne_true] at H
             simp only [Option.some.injEq, Prod.mk.injEq] at H
             obtain ⟨rfl, rfl, rfl, rfl, rfl, rfl⟩ := H
             have hnb57 := NB434_426.out
             have hnc57 := NB426_434.out
             have hcz58_0 : wc.cell? ⟨gb434, 0, none⟩ = some (.string t433) := (blk_cell BK434.out 0).trans rfl
             have hcz58_1 : wc.cell? ⟨gb434, 1, none⟩ = some (.int .i64 x435001_20) := (blk_cell BK434.out 1).trans rfl
             have hcz58_2 : wc.cell? ⟨gb434, 2, none⟩ = some (.string x435002_37) := (blk_cell BK434.out 2).trans rfl
             have hcz58_3 : wc.cell? ⟨gb434, 3, none⟩ = some (.string (⟨#[]⟩ : ByteArray)) := (blk_cell BK434.out 3).trans rfl
             have hcz58_4 : wc.cell? ⟨gb434, 4, none⟩ = some (.bool false) := (blk_cell BK434.out 4).trans rfl
             have hfz58_0 := blk_frozen BK434.out 0
             have hfz58_1 := blk_frozen BK434.out 1
             have hfz58_2 := blk_frozen BK434.out 2
             have hfz58_3 := blk_frozen BK434.out 3
             have hfz58_4 := blk_frozen BK434.out 4
             go_wp2_with (first | ((with_reducible refine gate_callee (f := 6) rfl ?_); refine goesL_ (some 91) rfl rfl Tryz.func6 (by kernel_rfl) rfl #[.agg #[.string t433, .int .i64 x435001_20, .string x435002_37, .string (x7_.extract ((ji47) : Int).toNat x7_.size), .bool true]] rfl z91 ?_; (with_reducible refine (spec_UrlOk.calls kj37 t433 x435001_20 x435002_37 (x7_.extract ((ji47) : Int).toNat x7_.size) true false _ A50.out).mono ?_); rintro e w59 ⟨rfl, hb⟩; refine ⟨_, rfl, ?_⟩; replace BK426 := Aside0.mk (blk_below (g := gb426) (o := .cells #[.string x427000_20, .int .i64 x427001_20, .string x427002_20, .string x427003_20, .bool x427004_20] 24 (0, 0)) z58 hb); replace BK434 := Aside0.mk (blk_below (g := gb434) (o := .cells #[.string t433, .int .i64 x435001_20, .string x435002_37, .string (x7_.extract ((ji47) : Int).toNat x7_.size), .bool true] 24 (0, 0)) z45 hb); replace HB := Aside0.mk (below_step z15 hb); (try clear hb); obtain ⟨hcz60_0, hcz60_1, hcz60_2, hcz60_3, hcz60_4, hfz60_0, hfz60_1, hfz60_2, hfz60_3, hfz60_4⟩ := cells5_ BK426.out))
             refine bodyPost_ret (results_ct rfl _ _ gb426 24 #[.string (⟨#[]⟩ : ByteArray), .int .i64 0, .string (⟨#[]⟩ : ByteArray), .string (⟨#[]⟩ : ByteArray), .bool false] (0, 0) _ rfl z30 Tryz.underlying24 rfl (by kernel_rfl)) rfl ?_
             exact ⟨z90, z15⟩
           ·rw [if_neg c49] at H
            exact absurd H (by simp)
          ·rw [if_neg c48] at H
           exact absurd H (by simp)
         ·rw [if_neg c46] at H
          have c46b0 : decide ((t430.size : Int) < (x7_.size : Int)) = false := decide_eq_false c46
          have c46b1 : decide (t430.size < x7_.size) = false := decide_eq_false (fun h => c46 (Int.ofNat_lt.mpr h))
          have c46b2_ : (t430.size < x7_.size) = False := eq_false (of_decide_eq_false c46b1)
          clear c46
          replace H := Option.bind_eq_some_iff.mp H
          obtain ⟨t439, A610, H⟩ := H
          try dsimp only at H
          have A61 := Aside0.mk A610
          clear A610
          by_cases c62 : t439 = true
          ·subst c62
           rw [if_pos rfl] at H
           simp only [Option.some.injEq, Prod.mk.injEq] at H
           obtain ⟨rfl, rfl, rfl, rfl, rfl, rfl⟩ := H
           have hnb63 := NB434_426.out
           have hnc63 := NB426_434.out
           have hcz64_0 : wc.cell? ⟨gb434, 0, none⟩ = some (.string t433) := (blk_cell BK434.out 0).trans rfl
           have hcz64_1 : wc.cell? ⟨gb434, 1, none⟩ = some (.int .i64 x435001_20) := (blk_cell BK434.out 1).trans rfl
           have hcz64_2 : wc.cell? ⟨gb434, 2, none⟩ = some (.string x435002_37) := (blk_cell BK434.out 2).trans rfl
           have hcz64_3 : wc.cell? ⟨gb434, 3, none⟩ = some (.string (⟨#[]⟩ : ByteArray)) := (blk_cell BK434.out 3).trans rfl
           have hcz64_4 : wc.cell? ⟨gb434, 4, none⟩ = some (.bool false) := (blk_cell BK434.out 4).trans rfl
           have hfz64_0 := blk_frozen BK434.out 0
           have hfz64_1 := blk_frozen BK434.out 1
           have hfz64_2 := blk_frozen BK434.out 2
           have hfz64_3 := blk_frozen BK434.out 3
           have hfz64_4 := blk_frozen BK434.out 4
           go_wp2_with (first | ((with_reducible refine gate_callee (f := 6) rfl ?_); refine goesQ_ 91 Tryz.func6 #[.agg #[.string t433, .int .i64 x435001_20, .string x435002_37, .string (⟨#[]⟩ : ByteArray), .bool false]] ?_; (with_reducible refine (spec_UrlOk.calls kj37 t433 x435001_20 x435002_37 (⟨#[]⟩ : ByteArray) false true _ A61.out).mono ?_); rintro e w65 ⟨rfl, hb⟩; refine ⟨_, rfl, ?_⟩; replace BK426 := Aside0.mk (blk_below (g := gb426) (o := .cells #[.string x427000_20, .int .i64 x427001_20, .string x427002_20, .string x427003_20, .bool x427004_20] 24 (0, 0)) z23 hb); replace BK434 := Aside0.mk (blk_below (g := gb434) (o := .cells #[.string t433, .int .i64 x435001_20, .string x435002_37, .string (⟨#[]⟩ : ByteArray), .bool false] 24 (0, 0)) z59 hb); replace HB := Aside0.mk (below_step z15 hb); (try clear hb); obtain ⟨hcz66_0, hcz66_1, hcz66_2, hcz66_3, hcz66_4, hfz66_0, hfz66_1, hfz66_2, hfz66_3, hfz66_4⟩ := cells5_ BK434.out; obtain ⟨hcz67_0, hcz67_1, hcz67_2, hcz67_3, hcz67_4, hfz67_0, hfz67_1, hfz67_2, hfz67_3, hfz67_4⟩ := cells5_ BK426.out))
           refine bodyPost_ret (results_ct rfl _ _ gb426 24 #[.string t433, .int .i64 x435001_20, .string x435002_37, .string (⟨#[]⟩ : ByteArray), .bool false] (0, 0) _ rfl (by (with_reducible repeat (first | refine blk_drewN ?_ _ | refine blk_drew ?_ | refine blk_alloc ?_ _)); refine blk_put (cs := #[.string t433, .int .i64 x435001_20, .string x435002_37, .string (⟨#[]⟩ : ByteArray), .bool x427004_20]) ?_ 4 _ rfl; (with_reducible repeat (first | refine blk_drewN ?_ _ | refine blk_drew ?_ | refine blk_alloc ?_ _)); refine blk_put (cs := #[.string t433, .int .i64 x435001_20, .string x435002_37, .string x427003_20, .bool x427004_20]) ?_ 3 _ rfl; (with_reducible repeat (first | refine blk_drewN ?_ _ | refine blk_drew ?_ | refine blk_alloc ?_ _)); refine blk_put (cs := #[.string t433, .int .i64 x435001_20, .string x427002_20, .string x427003_20, .bool x427004_20]) ?_ 2 _ rfl; (with_reducible repeat (first | refine blk_drewN ?_ _ | refine blk_drew ?_ | refine blk_alloc ?_ _)); refine blk_put (cs := #[.string t433, .int .i64 x427001_20, .string x427002_20, .string x427003_20, .bool x427004_20]) ?_ 1 _ rfl; (with_reducible repeat (first | refine blk_drewN ?_ _ | refine blk_drew ?_ | refine blk_alloc ?_ _)); refine blk_put (cs := #[.string x427000_20, .int .i64 x427001_20, .string x427002_20, .string x427003_20, .bool x427004_20]) ?_ 0 _ rfl; (with_reducible repeat (first | refine blk_drewN ?_ _ | refine blk_drew ?_ | refine blk_alloc ?_ _)); exact BK426.out) Tryz.underlying24 rfl (by kernel_rfl)) rfl ?_
           exact ⟨z4, z15⟩
          ·replace c62 := Bool.eq_false_iff.mpr c62
           subst c62
           rw [if_neg Bool.false_ne_true] at H
           simp only [Option.some.injEq, Prod.mk.injEq] at H
           obtain ⟨rfl, rfl, rfl, rfl, rfl, rfl⟩ := H
           have hnb68 := NB434_426.out
           have hnc68 := NB426_434.out
           have hcz69_0 : wc.cell? ⟨gb434, 0, none⟩ = some (.string t433) := (blk_cell BK434.out 0).trans rfl
           have hcz69_1 : wc.cell? ⟨gb434, 1, none⟩ = some (.int .i64 x435001_20) := (blk_cell BK434.out 1).trans rfl
           have hcz69_2 : wc.cell? ⟨gb434, 2, none⟩ = some (.string x435002_37) := (blk_cell BK434.out 2).trans rfl
           have hcz69_3 : wc.cell? ⟨gb434, 3, none⟩ = some (.string (⟨#[]⟩ : ByteArray)) := (blk_cell BK434.out 3).trans rfl
           have hcz69_4 : wc.cell? ⟨gb434, 4, none⟩ = some (.bool false) := (blk_cell BK434.out 4).trans rfl
           have hfz69_0 := blk_frozen BK434.out 0
           have hfz69_1 := blk_frozen BK434.out 1
           have hfz69_2 := blk_frozen BK434.out 2
           have hfz69_3 := blk_frozen BK434.out 3
           have hfz69_4 := blk_frozen BK434.out 4
           go_wp2_with (first | ((with_reducible refine gate_callee (f := 6) rfl ?_); refine goesQ_ 91 Tryz.func6 #[.agg #[.string t433, .int .i64 x435001_20, .string x435002_37, .string (⟨#[]⟩ : ByteArray), .bool false]] ?_; (with_reducible refine (spec_UrlOk.calls kj37 t433 x435001_20 x435002_37 (⟨#[]⟩ : ByteArray) false false _ A61.out).mono ?_); rintro e w70 ⟨rfl, hb⟩; refine ⟨_, rfl, ?_⟩; replace BK426 := Aside0.mk (blk_below (g := gb426) (o := .cells #[.string x427000_20, .int .i64 x427001_20, .string x427002_20, .string x427003_20, .bool x427004_20] 24 (0, 0)) z23 hb); replace BK434 := Aside0.mk (blk_below (g := gb434) (o := .cells #[.string t433, .int .i64 x435001_20, .string x435002_37, .string (⟨#[]⟩ : ByteArray), .bool false] 24 (0, 0)) z59 hb); replace HB := Aside0.mk (below_step z15 hb); (try clear hb); obtain ⟨hcz71_0, hcz71_1, hcz71_2, hcz71_3, hcz71_4, hfz71_0, hfz71_1, hfz71_2, hfz71_3, hfz71_4⟩ := cells5_ BK426.out))
           refine bodyPost_ret (results_ct rfl _ _ gb426 24 #[.string (⟨#[]⟩ : ByteArray), .int .i64 0, .string (⟨#[]⟩ : ByteArray), .string (⟨#[]⟩ : ByteArray), .bool false] (0, 0) _ rfl z30 Tryz.underlying24 rfl (by kernel_rfl)) rfl ?_
           exact ⟨z4, z15⟩
    ·rw [if_neg c16] at H
     exact absurd H (by simp)

/-! ### spec_UrlText: function 41 -/
def spec_UrlText.f (k : Nat) (a0_0 : ByteArray) (a0_1 : Int) (a0_2 : ByteArray) (a0_3 : ByteArray) (a0_4 : Bool) : Option (ByteArray) := (spec_UrlOk.f k a0_0 a0_1 a0_2 a0_3 a0_4).bind fun t441 => (if t441 = true then ((spec_l7text.f k a0_0 a0_1 a0_2 a0_3 a0_4).bind fun t442 => (some t442)) else (some (⟨#[]⟩ : ByteArray)))
theorem spec_UrlText.mono : ∀ a0 a1 a2 a3 a4 k, LeO (spec_UrlText.f k a0 a1 a2 a3 a4) (spec_UrlText.f (k + 1) a0 a1 a2 a3 a4) := by
 intro a0 a1 a2 a3 a4 k
 unfold spec_UrlText.f
 repeat' first | (with_reducible first | exact spec_UrlOk.mono _ _ _ _ _ _ | exact spec_l7text.mono _ _ _ _ _ _ | exact LeO.refl _ | exact LeO.none _ | refine LeO.ite ?_ ?_ | refine LeO.bind ?_ (fun _ => ?_)) | exact spec_UrlOk.mono _ _ _ _ _ _ | exact spec_l7text.mono _ _ _ _ _ _ | exact LeO.none _ | refine LeO.ite ?_ ?_ | refine LeO.bind ?_ (fun _ => ?_)
set_option maxHeartbeats 8000000 in
set_option maxRecDepth 100000 in
theorem spec_UrlText.calls (k : Nat) (a0_0 : ByteArray) (a0_1 : Int) (a0_2 : ByteArray) (a0_3 : ByteArray) (a0_4 : Bool) (r : ByteArray) (w : World) (h : spec_UrlText.f k a0_0 a0_1 a0_2 a0_3 a0_4 = some r) :
  Calls Tryz.prog 41 #[.agg #[.string a0_0, .int .i64 a0_1, .string a0_2, .string a0_3, .bool a0_4]] w fun e w' => e = .returned (.string r) ∧ Below w.heap.size w w' := by
 have hu24 := Tryz.underlying24
 have HB := Aside0.mk (Below.refl w.heap.size w)
 have H : ((spec_UrlOk.f k a0_0 a0_1 a0_2 a0_3 a0_4).bind fun t441 => (if t441 = true then ((spec_l7text.f k a0_0 a0_1 a0_2 a0_3 a0_4).bind fun t442 => (some t442)) else (some (⟨#[]⟩ : ByteArray)))) = some r := h
 clear h
 replace H := Option.bind_eq_some_iff.mp H
 obtain ⟨t441, A20, H⟩ := H
 try dsimp only at H
 have A2 := Aside0.mk A20
 clear A20
 by_cases c3 : t441 = true
 ·subst c3
  rw [if_pos rfl] at H
  replace H := Option.bind_eq_some_iff.mp H
  obtain ⟨t442, A40, H⟩ := H
  try dsimp only at H
  have A4 := Aside0.mk A40
  clear A40
  obtain rfl := Option.some.inj H
  go_enter Tryz.func41, Tryz.ntmps41
  go_wp2_with (first | ((with_reducible refine gate_dst (N := 1) rfl ?_); refine boxP_ (N := 1) (cs := #[.string a0_0, .int .i64 a0_1, .string a0_2, .string a0_3, .bool a0_4]) (t := 24) ?_; intro gb440 hg w5 hbox hb; have BK440 := Aside0.mk (hbox); have GE440 := geb_ (w := w) hg z0; replace HB := Aside0.mk (below_step z0 hb); clear hb hbox hg; obtain ⟨hcz6_0, hcz6_1, hcz6_2, hcz6_3, hcz6_4, hfz6_0, hfz6_1, hfz6_2, hfz6_3, hfz6_4⟩ := cells5_ BK440.out) | ((with_reducible refine gate_callee (f := 6) rfl ?_); refine goesQ_ 4 Tryz.func6 #[.agg #[.string a0_0, .int .i64 a0_1, .string a0_2, .string a0_3, .bool a0_4]] ?_; (with_reducible refine (spec_UrlOk.calls k a0_0 a0_1 a0_2 a0_3 a0_4 true _ A2.out).mono ?_); rintro e w7 ⟨rfl, hb⟩; refine ⟨_, rfl, ?_⟩; replace BK440 := Aside0.mk (blk_below (g := gb440) (o := .cells #[.string a0_0, .int .i64 a0_1, .string a0_2, .string a0_3, .bool a0_4] 24 (0, 0)) z75 hb); replace HB := Aside0.mk (below_step z44 hb); (try clear hb); obtain ⟨hcz8_0, hcz8_1, hcz8_2, hcz8_3, hcz8_4, hfz8_0, hfz8_1, hfz8_2, hfz8_3, hfz8_4⟩ := cells5_ BK440.out) | ((with_reducible refine gate_callee (f := 22) rfl ?_); refine goesQ_ 7 Tryz.func22 #[.agg #[.string a0_0, .int .i64 a0_1, .string a0_2, .string a0_3, .bool a0_4]] ?_; (with_reducible refine (spec_l7text.calls k a0_0 a0_1 a0_2 a0_3 a0_4 t442 _ A4.out).mono ?_); rintro e w9 ⟨rfl, hb⟩; refine ⟨_, rfl, ?_⟩; replace BK440 := Aside0.mk (blk_below (g := gb440) (o := .cells #[.string a0_0, .int .i64 a0_1, .string a0_2, .string a0_3, .bool a0_4] 24 (0, 0)) z75 hb); replace HB := Aside0.mk (below_step z44 hb); (try clear hb)))
  go_ret
  exact ⟨z4, z44⟩
 ·replace c3 := Bool.eq_false_iff.mpr c3
  subst c3
  rw [if_neg Bool.false_ne_true] at H
  obtain rfl := Option.some.inj H
  go_enter Tryz.func41, Tryz.ntmps41
  go_wp2_with (first | ((with_reducible refine gate_dst (N := 1) rfl ?_); refine boxP_ (N := 1) (cs := #[.string a0_0, .int .i64 a0_1, .string a0_2, .string a0_3, .bool a0_4]) (t := 24) ?_; intro gb440 hg w10 hbox hb; have BK440 := Aside0.mk (hbox); have GE440 := geb_ (w := w) hg z0; replace HB := Aside0.mk (below_step z0 hb); clear hb hbox hg; obtain ⟨hcz11_0, hcz11_1, hcz11_2, hcz11_3, hcz11_4, hfz11_0, hfz11_1, hfz11_2, hfz11_3, hfz11_4⟩ := cells5_ BK440.out) | ((with_reducible refine gate_callee (f := 6) rfl ?_); refine goesQ_ 4 Tryz.func6 #[.agg #[.string a0_0, .int .i64 a0_1, .string a0_2, .string a0_3, .bool a0_4]] ?_; (with_reducible refine (spec_UrlOk.calls k a0_0 a0_1 a0_2 a0_3 a0_4 false _ A2.out).mono ?_); rintro e w12 ⟨rfl, hb⟩; refine ⟨_, rfl, ?_⟩; replace BK440 := Aside0.mk (blk_below (g := gb440) (o := .cells #[.string a0_0, .int .i64 a0_1, .string a0_2, .string a0_3, .bool a0_4] 24 (0, 0)) z75 hb); replace HB := Aside0.mk (below_step z44 hb); (try clear hb)))
  go_ret
  exact ⟨z4, z44⟩

/-! ### spec_Canon: function 14 -/
def spec_Canon.f (k : Nat) (a0 : ByteArray) : Option (ByteArray × Bool) := (spec_ReadUrl.f k a0).bind fun bt443 => (if bt443.2.2.2.2.2 = true then ((spec_UrlText.f k bt443.1 bt443.2.1 bt443.2.2.1 bt443.2.2.2.1 bt443.2.2.2.2.1).bind fun t450 => (some (t450, true))) else (some ((⟨#[]⟩ : ByteArray), false)))
theorem spec_Canon.mono : ∀ a0 k, LeO (spec_Canon.f k a0) (spec_Canon.f (k + 1) a0) := by
 intro a0 k
 unfold spec_Canon.f
 repeat' first | (with_reducible first | exact spec_ReadUrl.mono _ _ | exact spec_UrlText.mono _ _ _ _ _ _ | exact LeO.refl _ | exact LeO.none _ | refine LeO.ite ?_ ?_ | refine LeO.bind ?_ (fun _ => ?_)) | exact spec_ReadUrl.mono _ _ | exact spec_UrlText.mono _ _ _ _ _ _ | exact LeO.none _ | refine LeO.ite ?_ ?_ | refine LeO.bind ?_ (fun _ => ?_)
set_option maxHeartbeats 8000000 in
set_option maxRecDepth 100000 in
theorem spec_Canon.calls (k : Nat) (a0 : ByteArray) (r1 : ByteArray) (r2 : Bool) (w : World) (h : spec_Canon.f k a0 = some (r1, r2)) :
  Calls Tryz.prog 14 #[.string a0] w fun e w' => e = .returned (.tuple #[.string r1, .bool r2]) ∧ Below w.heap.size w w' := by
 have hu24 := Tryz.underlying24
 have HB := Aside0.mk (Below.refl w.heap.size w)
 have H : ((spec_ReadUrl.f k a0).bind fun bt443 => (if bt443.2.2.2.2.2 = true then ((spec_UrlText.f k bt443.1 bt443.2.1 bt443.2.2.1 bt443.2.2.2.1 bt443.2.2.2.2.1).bind fun t450 => (some (t450, true))) else (some ((⟨#[]⟩ : ByteArray), false)))) = some (r1, r2) := h
 clear h
 replace H := Option.bind_eq_some_iff.mp H
 obtain ⟨⟨t443, t444, t445, t446, t447, t448⟩, A20, H⟩ := H
 try dsimp only at H
 have A2 := Aside0.mk A20
 clear A20
 by_cases c3 : t448 = true
 ·subst c3
  rw [if_pos rfl] at H
  replace H := Option.bind_eq_some_iff.mp H
  obtain ⟨t450, A40, H⟩ := H
  try dsimp only at H
  have A4 := Aside0.mk A40
  clear A40
  simp only [Option.some.injEq, Prod.mk.injEq] at H
  obtain ⟨rfl, rfl⟩ := H
  go_enter Tryz.func14, Tryz.ntmps14
  go_wp2_with (first | ((with_reducible refine gate_callee (f := 40) rfl ?_); refine goesQ_ 8 Tryz.func40 #[.string a0] ?_; (with_reducible refine (spec_ReadUrl.calls k a0 t443 t444 t445 t446 t447 true _ A2.out).mono ?_); rintro e w5 ⟨rfl, hb⟩; refine ⟨_, rfl, ?_⟩; replace HB := Aside0.mk (below_step z0 hb); (try clear hb)) | ((with_reducible refine gate_dst (N := 4) rfl ?_); refine boxP_ (N := 4) (cs := #[.string (⟨#[]⟩ : ByteArray), .int .i64 0, .string (⟨#[]⟩ : ByteArray), .string (⟨#[]⟩ : ByteArray), .bool false]) (t := 24) ?_; intro gb449 hg w6 hbox hb; have BK449 := Aside0.mk (hbox); have GE449 := geb_ (w := w) hg z0; replace HB := Aside0.mk (below_step z0 hb); clear hb hbox hg; obtain ⟨hcz7_0, hcz7_1, hcz7_2, hcz7_3, hcz7_4, hfz7_0, hfz7_1, hfz7_2, hfz7_3, hfz7_4⟩ := cells5_ BK449.out) | ((with_reducible refine gate_callee (f := 41) rfl ?_); refine goesQ_ 14 Tryz.func41 #[.agg #[.string t443, .int .i64 t444, .string t445, .string t446, .bool t447]] ?_; (with_reducible refine (spec_UrlText.calls k t443 t444 t445 t446 t447 t450 _ A4.out).mono ?_); rintro e w8 ⟨rfl, hb⟩; refine ⟨_, rfl, ?_⟩; replace BK449 := Aside0.mk (blk_below (g := gb449) (o := .cells #[.string t443, .int .i64 t444, .string t445, .string t446, .bool t447] 24 (0, 0)) (by (with_reducible repeat (first | refine blk_drewN ?_ _ | refine blk_drew ?_ | refine blk_alloc ?_ _)); refine blk_put (cs := #[.string t443, .int .i64 t444, .string t445, .string t446, .bool false]) ?_ 4 _ rfl; (with_reducible repeat (first | refine blk_drewN ?_ _ | refine blk_drew ?_ | refine blk_alloc ?_ _)); refine blk_put (cs := #[.string t443, .int .i64 t444, .string t445, .string (⟨#[]⟩ : ByteArray), .bool false]) ?_ 3 _ rfl; (with_reducible repeat (first | refine blk_drewN ?_ _ | refine blk_drew ?_ | refine blk_alloc ?_ _)); refine blk_put (cs := #[.string t443, .int .i64 t444, .string (⟨#[]⟩ : ByteArray), .string (⟨#[]⟩ : ByteArray), .bool false]) ?_ 2 _ rfl; (with_reducible repeat (first | refine blk_drewN ?_ _ | refine blk_drew ?_ | refine blk_alloc ?_ _)); refine blk_put (cs := #[.string t443, .int .i64 0, .string (⟨#[]⟩ : ByteArray), .string (⟨#[]⟩ : ByteArray), .bool false]) ?_ 1 _ rfl; (with_reducible repeat (first | refine blk_drewN ?_ _ | refine blk_drew ?_ | refine blk_alloc ?_ _)); refine blk_put (cs := #[.string (⟨#[]⟩ : ByteArray), .int .i64 0, .string (⟨#[]⟩ : ByteArray), .string (⟨#[]⟩ : ByteArray), .bool false]) ?_ 0 _ rfl; (with_reducible repeat (first | refine blk_drewN ?_ _ | refine blk_drew ?_ | refine blk_alloc ?_ _)); exact BK449.out) hb); replace HB := Aside0.mk (below_step z62 hb); (try clear hb)))
  go_ret2
  exact ⟨z4, z62⟩
 ·replace c3 := Bool.eq_false_iff.mpr c3
  subst c3
  rw [if_neg Bool.false_ne_true] at H
  simp only [Option.some.injEq, Prod.mk.injEq] at H
  obtain ⟨rfl, rfl⟩ := H
  go_enter Tryz.func14, Tryz.ntmps14
  go_wp2_with (first | ((with_reducible refine gate_callee (f := 40) rfl ?_); refine goesQ_ 8 Tryz.func40 #[.string a0] ?_; (with_reducible refine (spec_ReadUrl.calls k a0 t443 t444 t445 t446 t447 false _ A2.out).mono ?_); rintro e w9 ⟨rfl, hb⟩; refine ⟨_, rfl, ?_⟩; replace HB := Aside0.mk (below_step z0 hb); (try clear hb)) | ((with_reducible refine gate_dst (N := 4) rfl ?_); refine boxP_ (N := 4) (cs := #[.string (⟨#[]⟩ : ByteArray), .int .i64 0, .string (⟨#[]⟩ : ByteArray), .string (⟨#[]⟩ : ByteArray), .bool false]) (t := 24) ?_; intro gb449 hg w10 hbox hb; have BK449 := Aside0.mk (hbox); have GE449 := geb_ (w := w) hg z0; replace HB := Aside0.mk (below_step z0 hb); clear hb hbox hg; obtain ⟨hcz11_0, hcz11_1, hcz11_2, hcz11_3, hcz11_4, hfz11_0, hfz11_1, hfz11_2, hfz11_3, hfz11_4⟩ := cells5_ BK449.out))
  go_ret2
  exact ⟨z4, z62⟩

end Go.Proofs.YtkkolioolgpljaaGreatDoor.GFnCanons
