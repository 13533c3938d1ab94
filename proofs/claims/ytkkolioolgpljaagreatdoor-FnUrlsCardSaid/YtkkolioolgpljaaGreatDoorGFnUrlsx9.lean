-- Laid by gen.py of this session (over the kit's printing program): what the law FnUrls reaches, as Lean functions, and that Go comes to just that.
import Derived.Test.YtkkolioolgpljaaGreatDoorGFnUrlsx0
import Derived.Test.YtkkolioolgpljaaGreatDoorGFnUrlsx2
import Derived.Test.YtkkolioolgpljaaGreatDoorGFnUrlsx3
import Derived.Test.YtkkolioolgpljaaGreatDoorZFnUrls
namespace Go.Proofs.YtkkolioolgpljaaGreatDoor.GFnUrls
open Go.RowKit Go.Proofs.YtkkolioolgpljaaGreatDoorW.PrintWords Go.Proofs.YtkkolioolgpljaaGreatDoorW.PrintLast Go.Proofs.YtkkolioolgpljaaGreatDoorW.PrintMore Go.Proofs.YtkkolioolgpljaaGreatDoorW.Zs
attribute [local go_sem] max2_int min2_int max_two min_two max_three min_three max_four min_four   -- for this text's walks alone
set_option linter.unusedVariables false
set_option linter.unusedSimpArgs false

/-! ### spec_Fold: function 74 -/
theorem spec_Fold_low (x : Int) : spec_l1lower.f x = some (lowI x) := by unfold spec_l1lower.f lowI; split <;> (try split) <;> rfl
def spec_Fold.f (a0 : ByteArray) : Option (ByteArray) := if a0.size ≤ 1099511627776 then some (strOfNums ((bytesOf a0).map lowI)) else none
set_option maxHeartbeats 8000000 in
set_option maxRecDepth 100000 in
theorem spec_Fold.calls (a0 : ByteArray) (r : ByteArray) (w : World) (h : spec_Fold.f a0 = some r) :
  Calls Tryz.prog 74 #[.string a0] w fun e w' => e = .returned (.string r) ∧ Below w.heap.size w w' := by
 have hu22 := Tryz.underlying22; unfold spec_Fold.f at h
 by_cases hlim : a0.size ≤ 1099511627776
 ·rw [if_pos hlim] at h; obtain rfl := Option.some.inj h; clear h; have HL := Aside0.mk hlim; clear hlim; have kb := fun W => print_bytes (P := Tryz.prog) 9 22 5 Tryz.underlying9 Tryz.underlying22 Tryz.underlying5 a0 W; go_enter Tryz.func74, Tryz.ntmps74
  go_wp2
  go_loopg [4] (a0.size + 1) (fun kq v4 w' => ∃ (x4 : Int), v4 = .int .i64 x4 ∧ Aside0 (∃ j : Nat, x4 = (j : Int) ∧ j ≤ a0.size ∧ kq + j = a0.size + 1 ∧ BRow w' w.heap.size (lowTo a0 j)) ∧ Aside0 (w.heap.size < w'.heap.size ∧ Below w.heap.size w w'))
  case atStart =>
   exact ⟨0, rfl, ⟨0, rfl, by omega, by omega, by rw [lowTo_zero]; exact BRow.new _ _ _⟩, ⟨by rw [Lib.bytesWorld_size]; omega, bytes_below (Below.refl _ _) (Nat.le_refl _) _ _⟩⟩
  case round =>
   obtain ⟨x4, rfl, HJ, HB⟩ := hrel; obtain ⟨j, hxj, hjl, hkj, hbr⟩ := HJ.out; clear HJ; have HX := Aside0.mk hxj; have HJL := Aside0.mk hjl; have HK := Aside0.mk hkj; have HR := Aside0.mk hbr; clear hxj hjl hkj hbr
   cases gk with
   | zero => have := HK.out; have := HJL.out; omega
   | succ k1 =>
   by_cases hlt : j < a0.size
   ·have c1 : decide (x4 < (a0.size : Int)) = true := decide_eq_true (by have := HX.out; omega); have p9 : 0 ≤ (x4 : Int) := by have := HX.out; omega
    have q9 : x4 < (a0.size : Int) := of_decide_eq_true c1; have HLT := Aside0.mk hlt; have hx0 := HR.out.cell x4.toNat z97; have hfz := HR.out.frozen x4.toNat z97; have hbj : (lowTo a0 j).getD x4.toNat 0 = (bytesOf a0).getD j 0 := by rw [HX.out, Int.toNat_natCast]; exact lowTo_get _ _ hlt
    have hset := lowTo_set a0 j hlt; rw [hbj] at hx0; generalize (bytesOf a0).getD j 0 = b at hx0 hset; have HS := Aside0.mk hset; clear hlt hset hbj; replace p9 := eq_true p9; replace q9 := eq_true q9; go_wp2_with fail
    refine (spec_l1lower.calls b (lowI b) _ (spec_Fold_low b)).mono ?_; rintro e w2 ⟨rfl, ⟨nd, rfl⟩⟩; go_wp2
    go_roundg k1
    case measure => omega
    case rel =>
     have hx := HX.out; have hk := HK.out; have hlt := HLT.out; have hl := HL.out; have hxn : x4.toNat = j := by omega
     refine ⟨_, rfl, ⟨j + 1, by rw [hx]; unfold wrap64; omega, by omega, by omega, ?_⟩, ⟨?_, ?_⟩⟩
     ·rw [← HS.out, hxn]; exact HR.out.set j _
     ·have := HB.out.1; simpa using this
     ·exact (HB.out.2.trans (pw_below_drewN (Below.refl _ _) nd)).setCell (Nat.le_refl _) _
   ·have c1 : decide (x4 < (a0.size : Int)) = false := decide_eq_false (by have := HX.out; omega); have hj2 : j = a0.size := by have := HJL.out; omega
    have hst := HR.out.string (P := Tryz.prog) (c := grownCap w a0.size 0 5) (src := 22) (dst := 9) Tryz.underlying22 Tryz.underlying5 Tryz.underlying9 (lowTo_length a0 j HJL.out); rw [hj2, lowTo_all] at hst; go_wp2_with fail
    go_ret; exact ⟨rfl, HB.out.2⟩
 ·rw [if_neg hlim] at h; cases h


/-! ### spec_ReadDec: function 75 -/
mutual
def spec_ReadDec.j0 : Nat → ByteArray → Bool → Option (Int × Bool)
 | 0, _, _ => none
 | k + 1, x0, x13 => if x13 = true then (some (0, false)) else (spec_ReadDec.l0 k x0 0 0)
def spec_ReadDec.l0 : Nat → ByteArray → Int → Int → Option (Int × Bool)
 | 0, _, _, _ => none
 | k + 1, x0, x4, x5 => if x5 < (x0.size : Int) then (if 0 ≤ x5 then ((spec_l1digit.f (bt x0 x5)).bind fun t182 => (if t182 = true then (spec_ReadDec.l0 k x0 (wrap64 ((wrap64 (x4 * 10)) + (((bt x0 x5) - 48) % 256))) (wrap64 (x5 + 1))) else (some (0, false)))) else (none)) else ((spec_DecText.f k x4).bind fun t183 => (if t183.toList = x0.toList then (some (x4, true)) else (some (0, false))))
end
def spec_ReadDec.f (k : Nat) (a0 : ByteArray) : Option (Int × Bool) := if (a0.size : Int) = 0 then (spec_ReadDec.j0 k a0 true) else (spec_ReadDec.j0 k a0 (decide ((a0.size : Int) > 15)))
theorem spec_ReadDec.mono_l : ∀ k, (∀ y0 y1, LeO (spec_ReadDec.j0 k y0 y1) (spec_ReadDec.j0 (k + 1) y0 y1)) ∧ (∀ y0 y1 y2, LeO (spec_ReadDec.l0 k y0 y1 y2) (spec_ReadDec.l0 (k + 1) y0 y1 y2))
 | 0 => ⟨fun _ _ r h => by simp [spec_ReadDec.j0] at h, fun _ _ _ r h => by simp [spec_ReadDec.l0] at h⟩
 | k + 1 => by
  obtain ⟨ih0, ih1⟩ := spec_ReadDec.mono_l k; refine ⟨?_, ?_⟩
  ·intro y0 y1; unfold spec_ReadDec.j0
   repeat' first | (with_reducible first | exact ih0 _ _ | exact ih1 _ _ _ | exact spec_DecText.mono _ _ | exact LeO.refl _ | exact LeO.none _ | refine LeO.ite ?_ ?_ | refine LeO.bind ?_ (fun _ => ?_)) | exact ih0 _ _ | exact ih1 _ _ _ | exact spec_DecText.mono _ _ | exact LeO.none _ | refine LeO.ite ?_ ?_ | refine LeO.bind ?_ (fun _ => ?_)
  ·intro y0 y1 y2; unfold spec_ReadDec.l0
   repeat' first | (with_reducible first | exact ih0 _ _ | exact ih1 _ _ _ | exact spec_DecText.mono _ _ | exact LeO.refl _ | exact LeO.none _ | refine LeO.ite ?_ ?_ | refine LeO.bind ?_ (fun _ => ?_)) | exact ih0 _ _ | exact ih1 _ _ _ | exact spec_DecText.mono _ _ | exact LeO.none _ | refine LeO.ite ?_ ?_ | refine LeO.bind ?_ (fun _ => ?_)
theorem spec_ReadDec.mono : ∀ a0 k, LeO (spec_ReadDec.f k a0) (spec_ReadDec.f (k + 1) a0) := by
 intro a0 k; obtain ⟨ih0, ih1⟩ := spec_ReadDec.mono_l k; unfold spec_ReadDec.f
 repeat' first | (with_reducible first | exact ih0 _ _ | exact ih1 _ _ _ | exact spec_DecText.mono _ _ | exact LeO.refl _ | exact LeO.none _ | refine LeO.ite ?_ ?_ | refine LeO.bind ?_ (fun _ => ?_)) | exact ih0 _ _ | exact ih1 _ _ _ | exact spec_DecText.mono _ _ | exact LeO.none _ | refine LeO.ite ?_ ?_ | refine LeO.bind ?_ (fun _ => ?_)
set_option maxHeartbeats 8000000 in
set_option maxRecDepth 100000 in
theorem spec_ReadDec.calls (k : Nat) (a0 : ByteArray) (r1 : Int) (r2 : Bool) (w : World) (h : spec_ReadDec.f k a0 = some (r1, r2)) :
  Calls Tryz.prog 75 #[.string a0] w fun e w' => e = .returned (.tuple #[.int .i64 r1, .bool r2]) ∧ Below w.heap.size w w' := by
 have HB := Aside0.mk (Below.refl w.heap.size w); have H : (if (a0.size : Int) = 0 then (spec_ReadDec.j0 k a0 true) else (spec_ReadDec.j0 k a0 (decide ((a0.size : Int) > 15)))) = some (r1, r2) := h; clear h; have HC2 := Aside0.mk H; clear H; go_enter Tryz.func75, Tryz.ntmps75
 go_upto_region 1 with (fail)
 go_cut [13] (fun v13 wc => ∃ (kq : Nat) (x13_1 : Bool), v13 = .bool x13_1 ∧ Aside0 (spec_ReadDec.j0 kq a0 x13_1 = some (r1, r2)) ∧ Aside0 (kq ≤ k) ∧ Aside0 (Below w.heap.size w wc))
 case first =>
  have H := HC2.out; clear HC2
  by_cases c3 : (a0.size : Int) = 0
  ·rw [if_pos c3] at H; have c3b0 : ((a0.size : Int) == 0) = true := beq_iff_eq.mpr c3; have c3b1 : ((a0.size : Int) != 0) = false := bne_eq_false_iff_eq.mpr c3; clear c3; (first | rw [c3b0] | (simp only [i64_w, i32_w]; rw [c3b0]) | skip); have H' := Aside0.mk H; clear H; go_wp2
   go_meet
   case rel => exact ⟨_, (true), z5, H', ⟨z35⟩, ⟨z0⟩⟩
  ·rw [if_neg c3] at H; have c3b0 : ((a0.size : Int) == 0) = false := beq_eq_false_iff_ne.mpr c3; have c3b1 : ((a0.size : Int) != 0) = true := bne_iff_ne.mpr c3; (first | rw [c3b0] | (simp only [i64_w, i32_w]; rw [c3b0]) | skip); have H' := Aside0.mk H; clear H; go_wp2
   go_meet
   case rel => exact ⟨_, (decide ((a0.size : Int) > 15)), z5, H', ⟨z35⟩, ⟨z0⟩⟩
 case rest =>
  clear HC2; (try clear p2); (try clear c3); (try clear c3b0); (try clear c3b1); obtain ⟨kq, x13_1, rfl, HA, HJ1, HB⟩ := hcut
  cases kq with
  | zero => exact absurd HA.out (by simp [spec_ReadDec.j0])
  | succ kj1 =>
   have H := HA.out; clear HA; simp only [spec_ReadDec.j0] at H
   by_cases c4 : x13_1 = true
   ·subst c4; rw [if_pos rfl] at H; simp only [Option.some.injEq, Prod.mk.injEq] at H; obtain ⟨rfl, rfl⟩ := H; go_wp2
    go_ret2
    exact ⟨z2, z0⟩
   ·replace c4 := Bool.eq_false_iff.mpr c4; subst c4; rw [if_neg Bool.false_ne_true] at H; have H' := Aside0.mk H; clear H; go_wp2
    go_loopg [4, 5] kj1 (fun kq v4 v5 w' => ∃ (x4_2 : Int) (x5_2 : Int), v4 = .int .i64 x4_2 ∧ v5 = .int .i64 x5_2 ∧ Aside0 (spec_ReadDec.l0 kq a0 x4_2 x5_2 = some (r1, r2)) ∧ Aside0 (kq ≤ kj1) ∧ Aside0 (Below w.heap.size w w'))
    case atStart => exact ⟨(0), (0), z5, z5, H', ⟨Nat.le_refl _⟩, ⟨z0⟩⟩
    case round =>
     clear H'; (try clear p2); (try clear c3); (try clear c3b0); (try clear c3b1); (try clear c4); (try clear p2); obtain ⟨x4_2, x5_2, rfl, rfl, HA, HK2, HB⟩ := hrel
     cases gk with
     | zero => exact absurd HA.out (by simp [spec_ReadDec.l0])
     | succ k2 =>
      have H := HA.out; clear HA; simp only [spec_ReadDec.l0] at H
      by_cases c5 : x5_2 < (a0.size : Int)
      ·rw [if_pos c5] at H; have c5b0 : decide (x5_2 < (a0.size : Int)) = true := decide_eq_true c5; clear c5
       by_cases c6 : 0 ≤ x5_2
       ·rw [if_pos c6] at H; have c6b0 : decide (0 ≤ x5_2) = true := decide_eq_true c6; clear c6; replace H := Option.bind_eq_some_iff.mp H; obtain ⟨t182, A80, H⟩ := H; (try dsimp only at H); have A8 := Aside0.mk A80; clear A80; have HC9 := Aside0.mk H; clear H; have p7 : 0 ≤ (x5_2 : Int) := of_decide_eq_true z3; have q7 : x5_2 < (a0.size : Int) := of_decide_eq_true z3; have hx7 := bt_at a0 x5_2; replace p7 := eq_true p7; replace q7 := eq_true q7; go_upto_if 24 with (first | ((with_reducible refine gate_callee (f := 50) rfl ?_); refine goesR_ 23 Tryz.func50 #[.int .u8 (bt a0 x5_2)] (spec_l1digit.calls (bt a0 x5_2) t182 _ A8.out) ?_; rintro w' ⟨nd, rfl⟩))
        (try (rw [drewN_self wr]; generalize hq_ : World.drewN wr _ = wr; have n0_ : Aside0 (Below w.heap.size w wr) := ⟨by rw [← hq_]; exact z0⟩; clear HB hq_; have HB := n0_; clear n0_)); have H := HC9.out; clear HC9
        by_cases c10 : t182 = true
        ·subst c10; rw [if_pos rfl] at H; have H' := Aside0.mk H; clear H; have p11 : 0 ≤ (x5_2 : Int) := of_decide_eq_true z3; have q11 : x5_2 < (a0.size : Int) := of_decide_eq_true z3; have hx11 := bt_at a0 x5_2; replace p11 := eq_true p11; replace q11 := eq_true q11; go_wp2
         go_roundg k2
         (case measure => have := HJ1.out; have := HK2.out; omega); case rel => exact ⟨(wrap64 ((wrap64 (x4_2 * 10)) + (((bt a0 x5_2) - 48) % 256))), (wrap64 (x5_2 + 1)), z5, z5, H', ⟨z83⟩, ⟨z0⟩⟩
        ·replace c10 := Bool.eq_false_iff.mpr c10; subst c10; rw [if_neg Bool.false_ne_true] at H; simp only [Option.some.injEq, Prod.mk.injEq] at H; obtain ⟨rfl, rfl⟩ := H; go_wp2
         go_ret2
         exact ⟨z2, z0⟩
       ·rw [if_neg c6] at H; exact absurd H (by simp)
      ·rw [if_neg c5] at H; have c5b0 : decide (x5_2 < (a0.size : Int)) = false := decide_eq_false c5; clear c5; replace H := Option.bind_eq_some_iff.mp H; obtain ⟨t183, A120, H⟩ := H; (try dsimp only at H); have A12 := Aside0.mk A120; clear A120; have HC13 := Aside0.mk H; clear H; go_upto_if 36 with (first | ((with_reducible refine gate_callee (f := 80) rfl ?_); refine goesR_ 34 Tryz.func80 #[.int .i64 x4_2] (spec_DecText.calls k2 x4_2 t183 _ A12.out) ?_; rintro w14 hb; replace HB := Aside0.mk (below_step z0 hb); (try clear hb)))
       have H := HC13.out; clear HC13
       by_cases c15 : t183.toList = a0.toList
       ·rw [if_pos c15] at H; have c15b0 : (t183.toList == a0.toList) = true := beq_iff_eq.mpr c15; have c15b1 : (t183.toList != a0.toList) = false := bne_eq_false_iff_eq.mpr c15; clear c15; (first | rw [c15b0] | (simp only [i64_w, i32_w]; rw [c15b0]) | skip); simp only [Option.some.injEq, Prod.mk.injEq] at H; obtain ⟨rfl, rfl⟩ := H; go_wp2
        go_ret2
        exact ⟨z2, z0⟩
       ·rw [if_neg c15] at H; have c15b0 : (t183.toList == a0.toList) = false := beq_eq_false_iff_ne.mpr c15; have c15b1 : (t183.toList != a0.toList) = true := bne_iff_ne.mpr c15; (first | rw [c15b0] | (simp only [i64_w, i32_w]; rw [c15b0]) | skip); simp only [Option.some.injEq, Prod.mk.injEq] at H; obtain ⟨rfl, rfl⟩ := H; go_wp2
        go_ret2
        exact ⟨z2, z0⟩

end Go.Proofs.YtkkolioolgpljaaGreatDoor.GFnUrls
