-- Laid by gen.py of this session (over the kit's printing program): what the law FnFieldLines reaches, as Lean functions, and that Go comes to just that.
import Derived.Test.YtkkolioolgpljaaGFnFieldLinesx0
import Derived.Test.YtkkolioolgpljaaGFnFieldLinesx4
import Derived.Test.YtkkolioolgpljaaGFnFieldLinesx6
import Derived.Test.YtkkolioolgpljaaZFnFieldLines
namespace Go.Proofs.Ytkkolioolgpljaa.GFnFieldLines
open Go.RowKit Go.Proofs.YtkkolioolgpljaaW.PrintWords Go.Proofs.YtkkolioolgpljaaW.PrintLast Go.Proofs.YtkkolioolgpljaaW.PrintMore Go.Proofs.YtkkolioolgpljaaW.Zs
attribute [local go_sem] max2_int min2_int max_two min_two max_three min_three max_four min_four   -- for this text's walks alone
set_option linter.unusedVariables false
set_option linter.unusedSimpArgs false

/-! ### impl_Fold: function 48 -/
theorem impl_Fold_up (x : Int) : impl_isUpper.f x = some (decide (65 ≤ x ∧ x ≤ 90)) := by unfold impl_isUpper.f; split <;> simp <;> omega
def impl_Fold.f (a0 : ByteArray) : Option (ByteArray) := if a0.size ≤ 1099511627776 then some (strOfNums ((bytesOf a0).map lowI)) else none
set_option maxHeartbeats 8000000 in
set_option maxRecDepth 100000 in
theorem impl_Fold.calls (a0 : ByteArray) (r : ByteArray) (w : World) (h : impl_Fold.f a0 = some r) :
  Calls Try.prog 48 #[.string a0] w fun e w' => e = .returned (.string r) ∧ Below w.heap.size w w' := by
 have hu22 := Try.underlying22; unfold impl_Fold.f at h
 by_cases hlim : a0.size ≤ 1099511627776
 ·rw [if_pos hlim] at h; obtain rfl := Option.some.inj h; clear h; have HL := Aside0.mk hlim; clear hlim; have kb := fun W => print_bytes (P := Try.prog) 9 22 5 Try.underlying9 Try.underlying22 Try.underlying5 a0 W; go_enter Try.func48, Try.ntmps48
  go_wp2
  go_loopg [10] (a0.size + 1) (fun kq v4 w' => ∃ (x4 : Int), v4 = .int .i64 x4 ∧ Aside0 (∃ j : Nat, x4 = (j : Int) ∧ j ≤ a0.size ∧ kq + j = a0.size + 1 ∧ BRow w' w.heap.size (lowTo a0 j)) ∧ Aside0 (w.heap.size < w'.heap.size ∧ Below w.heap.size w w'))
  case atStart =>
   exact ⟨0, rfl, ⟨0, rfl, by omega, by omega, by rw [lowTo_zero]; exact BRow.new _ _ _⟩, ⟨by rw [Lib.bytesWorld_size]; omega, bytes_below (Below.refl _ _) (Nat.le_refl _) _ _⟩⟩
  case round =>
   obtain ⟨x4, rfl, HJ, HB⟩ := hrel; obtain ⟨j, hxj, hjl, hkj, hbr⟩ := HJ.out; clear HJ; have HX := Aside0.mk hxj; have HJL := Aside0.mk hjl; have HK := Aside0.mk hkj; have HR := Aside0.mk hbr; clear hxj hjl hkj hbr
   cases gk with
   | zero => have := HK.out; have := HJL.out; omega
   | succ k1 =>
   by_cases hlt : j < a0.size
   ·have c1 : decide (x4 < (a0.size : Int)) = true := decide_eq_true (by have := HX.out; omega); have p9 : 0 ≤ (x4 : Int) := by have := HX.out; omega
    have q9 : x4 < (a0.size : Int) := of_decide_eq_true c1; have HLT := Aside0.mk hlt; have hx0 := HR.out.cell x4.toNat (by rw [lowTo_length _ _ HJL.out]; have := HX.out; omega); have hfz := HR.out.frozen x4.toNat (by rw [lowTo_length _ _ HJL.out]; have := HX.out; omega); have hbj : (lowTo a0 j).getD x4.toNat 0 = (bytesOf a0).getD j 0 := by rw [HX.out, Int.toNat_natCast]; exact lowTo_get _ _ hlt
    have hset := lowTo_set a0 j hlt
    have hsame : (lowTo a0 j).set j ((bytesOf a0).getD j 0) = lowTo a0 j := by
     rw [← lowTo_get _ _ hlt, List.getD_eq_getElem?_getD, List.getElem?_eq_getElem (by rw [lowTo_length _ _ (by omega)]; exact hlt)]; exact List.set_getElem_self _
    rw [hbj] at hx0; generalize (bytesOf a0).getD j 0 = b at hx0 hset hsame; have HS := Aside0.mk hset; have HE := Aside0.mk hsame; clear hlt hset hbj hsame; replace p9 := eq_true p9; replace q9 := eq_true q9; go_wp2_with fail
    refine (impl_isUpper.calls b (decide (65 ≤ b ∧ b ≤ 90)) _ (impl_Fold_up b)).mono ?_; rintro e w2 ⟨rfl, ⟨nd, rfl⟩⟩
    by_cases hup : 65 ≤ b ∧ b ≤ 90
    ·have c2 : decide (65 ≤ b ∧ b ≤ 90) = true := decide_eq_true hup; have HU := Aside0.mk hup; rw [c2]; clear hup; go_wp2
     go_roundg k1
     case measure => omega
     case rel =>
      have hx := HX.out; have hk := HK.out; have hlt := HLT.out; have hl := HL.out; have hu := HU.out; have hxn : x4.toNat = j := by omega
      have hlow : lowI b = (b + 32) % 256 := by unfold lowI; rw [if_pos (by omega), if_pos (by omega)]
      refine ⟨_, rfl, ⟨j + 1, by rw [hx]; unfold wrap64; omega, by omega, by omega, ?_⟩, ⟨?_, ?_⟩⟩
      ·rw [← HS.out, hxn, hlow]; exact HR.out.set j _
      ·have := HB.out.1; simpa using this
      ·exact (HB.out.2.trans (pw_below_drewN (Below.refl _ _) nd)).setCell (Nat.le_refl _) _
    ·have c2 : decide (65 ≤ b ∧ b ≤ 90) = false := decide_eq_false hup; have HU := Aside0.mk hup; rw [c2]; clear hup; go_wp2
     go_roundg k1
     case measure => omega
     case rel =>
      have hx := HX.out; have hk := HK.out; have hlt := HLT.out; have hl := HL.out; have hu := HU.out; have hlow : lowI b = b := by unfold lowI; split <;> (try split) <;> omega
      refine ⟨_, rfl, ⟨j + 1, by rw [hx]; unfold wrap64; omega, by omega, by omega, ?_⟩, ⟨?_, ?_⟩⟩
      ·rw [← HS.out, hlow, HE.out]; exact HR.out
      ·have := HB.out.1; simpa using this
      ·exact HB.out.2.trans (pw_below_drewN (Below.refl _ _) nd)
   ·have c1 : decide (x4 < (a0.size : Int)) = false := decide_eq_false (by have := HX.out; omega); have hj2 : j = a0.size := by have := HJL.out; omega
    have hst := HR.out.string (P := Try.prog) (c := grownCap w a0.size 0 5) (src := 22) (dst := 9) Try.underlying22 Try.underlying5 Try.underlying9 (lowTo_length a0 j HJL.out); rw [hj2, lowTo_all] at hst; go_wp2_with fail
    go_ret; exact ⟨rfl, HB.out.2⟩
 ·rw [if_neg hlim] at h; cases h


/-! ### impl_SameFold: function 35 -/
def impl_SameFold.f (a0 : ByteArray) (a1 : ByteArray) : Option (Bool) := (impl_Fold.f a0).bind fun t241 => ((impl_Fold.f a1).bind fun t242 => (some (t241.toList == t242.toList)))
set_option maxHeartbeats 8000000 in
set_option maxRecDepth 100000 in
theorem impl_SameFold.calls (a0 : ByteArray) (a1 : ByteArray) (r : Bool) (w : World) (h : impl_SameFold.f a0 a1 = some r) :
  Calls Try.prog 35 #[.string a0, .string a1] w fun e w' => e = .returned (.bool r) ∧ Below w.heap.size w w' := by
 have HB := Aside0.mk (Below.refl w.heap.size w); have H : ((impl_Fold.f a0).bind fun t241 => ((impl_Fold.f a1).bind fun t242 => (some (t241.toList == t242.toList)))) = some r := h; clear h; replace H := Option.bind_eq_some_iff.mp H; obtain ⟨t241, A30, H⟩ := H; (try dsimp only at H); have A3 := Aside0.mk A30; clear A30; replace H := Option.bind_eq_some_iff.mp H; obtain ⟨t242, A40, H⟩ := H; (try dsimp only at H); have A4 := Aside0.mk A40; clear A40; obtain rfl := Option.some.inj H; go_enter Try.func35, Try.ntmps35
 go_wp2_with (first | ((with_reducible refine gate_callee (f := 48) rfl ?_); refine goesQ_ 6 Try.func48 #[.string a0] ?_; (with_reducible refine (impl_Fold.calls a0 t241 _ A3.out).mono ?_); rintro e w5 ⟨rfl, hb⟩; refine ⟨_, rfl, ?_⟩; replace HB := Aside0.mk (below_step zz0 hb); (try clear hb)) | ((with_reducible refine gate_callee (f := 48) rfl ?_); refine goesQ_ 8 Try.func48 #[.string a1] ?_; (with_reducible refine (impl_Fold.calls a1 t242 _ A4.out).mono ?_); rintro e w6 ⟨rfl, hb⟩; refine ⟨_, rfl, ?_⟩; replace HB := Aside0.mk (below_step zz0 hb); (try clear hb)))
 go_ret; exact ⟨zz2, zz0⟩

/-! ### impl_Values: function 13 -/
def impl_Values.l0 : Nat → ByteArray → List ByteArray → List (S24) → Int → Int → Option (List ByteArray)
 | 0, _, _, _, _, _ => none
 | k + 1, x1, x5, x11, x12, x13 => if x13 < x12 then (if 0 ≤ x13 then (if x13 < (x11.length : Int) then ((impl_SameFold.f ((rd_T24 x11 x13).f0) x1).bind fun t246 => (if t246 = true then (if x5.length < 8796093022208 then (impl_Values.l0 k x1 (x5 ++ [(rd_T24 x11 x13).f1]) x11 x12 (wrap64 (x13 + 1))) else (none)) else (impl_Values.l0 k x1 x5 x11 x12 (wrap64 (x13 + 1))))) else (none)) else (none)) else (some x5)
def impl_Values.f (k : Nat) (l0 : List (S24)) (a1 : ByteArray) : Option (List ByteArray) := (impl_FieldsOk.f k l0).bind fun t243 => (if t243 = true then (impl_Values.l0 k a1 ([] : List ByteArray) l0 (l0.length : Int) 0) else (some ([] : List ByteArray)))
theorem impl_Values.mono_l : ∀ k, (∀ y0 y1 y2 y3 y4, LeO (impl_Values.l0 k y0 y1 y2 y3 y4) (impl_Values.l0 (k + 1) y0 y1 y2 y3 y4))
 | 0 => fun _ _ _ _ _ r h => by simp [impl_Values.l0] at h
 | k + 1 => by
  have ih0 := impl_Values.mono_l k
  ·intro y0 y1 y2 y3 y4; unfold impl_Values.l0
   repeat' first | (with_reducible first | exact ih0 _ _ _ _ _ | exact impl_FieldsOk.mono _ _ | exact LeO.refl _ | exact LeO.none _ | refine LeO.ite ?_ ?_ | refine LeO.bind ?_ (fun _ => ?_)) | exact ih0 _ _ _ _ _ | exact impl_FieldsOk.mono _ _ | exact LeO.none _ | refine LeO.ite ?_ ?_ | refine LeO.bind ?_ (fun _ => ?_)
theorem impl_Values.mono : ∀ a0 a1 k, LeO (impl_Values.f k a0 a1) (impl_Values.f (k + 1) a0 a1) := by
 intro a0 a1 k; have ih0 := impl_Values.mono_l k; unfold impl_Values.f
 repeat' first | (with_reducible first | exact ih0 _ _ _ _ _ | exact impl_FieldsOk.mono _ _ | exact LeO.refl _ | exact LeO.none _ | refine LeO.ite ?_ ?_ | refine LeO.bind ?_ (fun _ => ?_)) | exact ih0 _ _ _ _ _ | exact impl_FieldsOk.mono _ _ | exact LeO.none _ | refine LeO.ite ?_ ?_ | refine LeO.bind ?_ (fun _ => ?_)
set_option maxHeartbeats 8000000 in
set_option maxRecDepth 100000 in
theorem impl_Values.calls (k : Nat) (A0 : Option Addr) (c0 : Nat) (l0 : List (S24)) (a1 : ByteArray) (r : List ByteArray) (w : World) (hr0 : Kd.C k24 w A0 l0.length l0) (hc0 : l0.length ≤ c0) (h : impl_Values.f k l0 a1 = some r) :
  Calls Try.prog 13 #[.slice A0 l0.length c0, .string a1] w fun e w' => ∃ v0_ : Value, e = .returned (v0_) ∧ Kd.R Kd.string 9 w' w.heap.size (fun _ => True) v0_ r ∧ Below w.heap.size w w' := by
 have hu24 := Try.underlying24; have HR0 := Aside0.mk hr0; have HC0 := Aside0.mk hc0; clear hr0 hc0; have HB := Aside0.mk (Below.refl w.heap.size w); have H : ((impl_FieldsOk.f k l0).bind fun t243 => (if t243 = true then (impl_Values.l0 k a1 ([] : List ByteArray) l0 (l0.length : Int) 0) else (some ([] : List ByteArray)))) = some r := h; clear h; replace H := Option.bind_eq_some_iff.mp H; obtain ⟨t243, A30, H⟩ := H; (try dsimp only at H); have A3 := Aside0.mk A30; clear A30; have HC4 := Aside0.mk H; clear H; go_enter Try.func13, Try.ntmps13
 go_upto_if 10 with (first | ((with_reducible refine gate_callee (f := 19) rfl ?_); refine goesQ_ 9 Try.func19 #[.slice A0 l0.length c0] ?_; (with_reducible refine (impl_FieldsOk.calls k _ _ l0 t243 _ ?side1 ?side2 A3.out).mono ?_); (case side1 => repeat (first | exact HR0.out | (with_reducible refine Kd.C_alloc ?_ _) | (with_reducible refine Kd.C_drewN ?_ _) | (with_reducible refine Kd.C_drew ?_))); (case side2 => exact HC0.out); rintro e w5 ⟨rfl, hb⟩; refine ⟨_, rfl, ?_⟩; replace HB := Aside0.mk (below_step zz0 hb); (try clear hb)))
 have H := HC4.out; clear HC4
 by_cases c6 : t243 = true
 ·subst c6; rw [if_pos rfl] at H; have H' := Aside0.mk H; clear H; go_wp2
  go_loopg [5, 13] k (fun kq v5 v13 w' => ∃ (x5_1 : List ByteArray) (x13_1 : Int), v13 = .int .i64 x13_1 ∧ Aside0 (impl_Values.l0 kq a1 x5_1 l0 (l0.length : Int) x13_1 = some r) ∧ Aside0 (kq ≤ k) ∧ Aside0 (Kd.R Kd.string 9 w' w.heap.size (fun _ => True) v5 x5_1) ∧ Aside0 (Below w.heap.size w w'))
  case atStart => exact ⟨(([] : List ByteArray)), (0), zz4, H', ⟨Nat.le_refl _⟩, ⟨zz29⟩, ⟨zz0⟩⟩
  case round =>
   clear H'; (try clear c1); (try clear p2); (try clear c6); obtain ⟨x5_1, x13_1, rfl, HA, HK1, HO_5, HB⟩ := hrel
   cases gk with
   | zero => exact absurd HA.out (by simp [impl_Values.l0])
   | succ k1 =>
    have H := HA.out; clear HA; simp only [impl_Values.l0] at H
    by_cases c7 : x13_1 < (l0.length : Int)
    ·rw [if_pos c7] at H; have c7b0 : decide (x13_1 < (l0.length : Int)) = true := decide_eq_true c7; clear c7; (first | rw [c7b0] | (simp only [i64_w, i32_w]; rw [c7b0]) | skip)
     by_cases c8 : 0 ≤ x13_1
     ·rw [if_pos c8] at H; have c8b0 : decide (0 ≤ x13_1) = true := decide_eq_true c8; clear c8
      by_cases c9 : x13_1 < (l0.length : Int)
      ·rw [if_pos c9] at H; have c9b0 : decide (x13_1 < (l0.length : Int)) = true := decide_eq_true c9; clear c9; replace H := Option.bind_eq_some_iff.mp H; obtain ⟨t246, A100, H⟩ := H; (try dsimp only at H); have A10 := Aside0.mk A100; clear A100; have HC11 := Aside0.mk H; clear H; have p244 : 0 ≤ (x13_1 : Int) := of_decide_eq_true zz7; have q244 : x13_1 < (l0.length : Int) := of_decide_eq_true zz7; obtain ⟨ad244, e244, W244⟩ := at_T24 HR0.out x13_1 p244 q244; cases e244; obtain ⟨hx244_0, hx244_1⟩ := El24.up HB.out W244; replace p244 := eq_true p244; replace q244 := eq_true q244; go_upto_if 20 with (first | ((with_reducible refine gate_dst (N := 7) rfl ?_); refine boxP_ (N := 7) (cs := #[.string (⟨#[]⟩ : ByteArray), .string (⟨#[]⟩ : ByteArray)]) (t := 24) ?_; intro gb245 hg w12 hbox hb; replace HO_5 := Aside0.mk (Kd.R_below zz34 hb); have BK245 := Aside0.mk (hbox); have GE245 := geb_ (w := w) hg zz0; replace HB := Aside0.mk (below_step zz0 hb); clear hb hbox hg; obtain ⟨_, _, _, _⟩ := cells2_ BK245.out) | ((with_reducible refine gate_callee (f := 35) rfl ?_); refine goesQ_ 20 Try.func35 #[.string ((rd_T24 l0 x13_1).f0), .string a1] ?_; (with_reducible refine (impl_SameFold.calls ((rd_T24 l0 x13_1).f0) a1 t246 _ A10.out).mono ?_); rintro e w14 ⟨rfl, hb⟩; refine ⟨_, rfl, ?_⟩; replace HO_5 := Aside0.mk (Kd.R_below (by (with_reducible repeat (first | apply Kd.R_alloc | apply Kd.R_drewN | apply Kd.R_drew)); exact (Kd.R_mono (Kd.R_far (p := ⟨gb245, 1, none⟩) (Kd.R_far (p := ⟨gb245, 0, none⟩) (Kd.R_types HO_5.out BK245.out (by decide)) (fun _ hk => hk.2) (.string ((rd_T24 l0 x13_1).f0))) (fun _ hk => hk.2) (.string ((rd_T24 l0 x13_1).f1))) (fun _ h_ => h_.1))) hb); replace BK245 := Aside0.mk (blk_below (g := gb245) (o := .cells #[.string ((rd_T24 l0 x13_1).f0), .string ((rd_T24 l0 x13_1).f1)] 24 (0, 0)) (by (with_reducible repeat (first | refine blk_drewN ?_ _ | refine blk_drew ?_ | refine blk_alloc ?_ _)); refine blk_put (cs := #[.string ((rd_T24 l0 x13_1).f0), .string (⟨#[]⟩ : ByteArray)]) ?_ 1 _ rfl; (with_reducible repeat (first | refine blk_drewN ?_ _ | refine blk_drew ?_ | refine blk_alloc ?_ _)); refine blk_put (cs := #[.string (⟨#[]⟩ : ByteArray), .string (⟨#[]⟩ : ByteArray)]) ?_ 0 _ rfl; (with_reducible repeat (first | refine blk_drewN ?_ _ | refine blk_drew ?_ | refine blk_alloc ?_ _)); exact BK245.out) hb); replace HB := Aside0.mk (below_step zz18 hb); (try clear hb); (try clear hk)))
       have H := HC11.out; clear HC11
       by_cases c15 : t246 = true
       ·subst c15; rw [if_pos rfl] at H
        by_cases c16 : x5_1.length < 8796093022208
        ·rw [if_pos c16] at H; have LMc16 := Aside0.mk c16; clear c16; obtain ⟨y247, hy247⟩ : ∃ y_ : List ByteArray, y_ = (x5_1 ++ [(rd_T24 l0 x13_1).f1]) := ⟨_, rfl⟩; replace H : (impl_Values.l0 k1 a1 y247 l0 (l0.length : Int) (wrap64 (x13_1 + 1))) = some r := by first | (rw [hy247]; with_reducible exact H) | (have H2_ := (Option.bind_some _ _).symm.trans H; rw [hy247]; with_reducible exact H2_) | (have H2_ := (Option.bind_some _ _).symm.trans H; with_reducible exact H2_) | with_reducible exact H | (rw [hy247]; exact H) | exact H
         have Ny247 := Aside0.mk hy247; clear hy247; have H' := Aside0.mk H; clear H; obtain ⟨_, _, _, _⟩ := cells2_ BK245.out; go_wp2_with (first | ((with_reducible refine gate_builtin (b := .append) (xs := #[.tmp 21, .tmp 24]) rfl ?_); at_builtin; refine Kd.R_append Kd.string (w0 := w) w.heap.size rfl (.tmp 21) (.tmp 24) 36 9 (.string ⟨#[]⟩) 16 rfl Try.underlying36 info9 rfl (by decide) (by omega) u5 x5_1 ((rd_T24 l0 x13_1).f1) [.string ((rd_T24 l0 x13_1).f1)] (fun _ => True) (fun _ => False) rfl rfl ?aP (fun _ hk => hk.elim) ?aF ?aO ?aB ?aS ?aL ?_; (case aP => exact rfl); (case aB => exact zz18); (case aF => exact (fun _ _ => trivial)); (case aO => exact zz34); (case aS => exact (below_size zz18)); (case aL => have := LMc16.out; omega); intro v248 w18 ho hb hg hat; rw [← Ny247.out] at ho; replace BK245 := Aside0.mk (blk_grown (g := gb245) (o := .cells #[.string ((rd_T24 l0 x13_1).f0), .string ((rd_T24 l0 x13_1).f1)] 24 (0, 0)) (by (with_reducible repeat (first | refine blk_drewN ?_ _ | refine blk_drew ?_ | refine blk_alloc ?_ _)); exact BK245.out) hg (Kd.R_ne HO_5.out BK245.out (by decide))); replace HB := Aside0.mk (hb); have HO249 := Aside0.mk (ho); clear HO_5; clear ho hb hg hat))
         go_roundg k1
         (case measure => have := HK1.out; omega); case rel => exact ⟨(y247), (wrap64 (x13_1 + 1)), zz4, H', ⟨zz37⟩, ⟨by (with_reducible repeat (first | apply Kd.R_alloc | apply Kd.R_drewN | apply Kd.R_drew)); exact HO249.out⟩, ⟨zz18⟩⟩
        ·rw [if_neg c16] at H; exact absurd H (by simp)
       ·replace c15 := Bool.eq_false_iff.mpr c15; subst c15; rw [if_neg Bool.false_ne_true] at H; have H' := Aside0.mk H; clear H; go_wp2
        go_roundg k1
        (case measure => have := HK1.out; omega); case rel => exact ⟨(x5_1), (wrap64 (x13_1 + 1)), zz4, H', ⟨zz37⟩, ⟨zz34⟩, ⟨zz18⟩⟩
      ·rw [if_neg c9] at H; exact absurd H (by simp)
     ·rw [if_neg c8] at H; exact absurd H (by simp)
    ·rw [if_neg c7] at H; have c7b0 : decide (x13_1 < (l0.length : Int)) = false := decide_eq_false c7; clear c7; (first | rw [c7b0] | (simp only [i64_w, i32_w]; rw [c7b0]) | skip); obtain rfl := Option.some.inj H; go_wp2
     go_ret; exact ⟨_, zz2, zz34, zz0⟩
 ·replace c6 := Bool.eq_false_iff.mpr c6; subst c6; rw [if_neg Bool.false_ne_true] at H; obtain rfl := Option.some.inj H; go_wp2
  go_ret; exact ⟨_, zz2, zz29, zz0⟩

/-! ### impl_Get: function 14 -/
def impl_Get.f (k : Nat) (l0 : List (S24)) (a1 : ByteArray) : Option (ByteArray × Bool) := (impl_Values.f k l0 a1).bind fun t250 => (if (t250.length : Int) = 0 then (some ((⟨#[]⟩ : ByteArray), false)) else (if 0 < (t250.length : Int) then (some (rdOf ByteArray.empty t250 0, true)) else (none)))
theorem impl_Get.mono : ∀ a0 a1 k, LeO (impl_Get.f k a0 a1) (impl_Get.f (k + 1) a0 a1) := by
 intro a0 a1 k; unfold impl_Get.f
 repeat' first | (with_reducible first | exact impl_Values.mono _ _ _ | exact LeO.refl _ | exact LeO.none _ | refine LeO.ite ?_ ?_ | refine LeO.bind ?_ (fun _ => ?_)) | exact impl_Values.mono _ _ _ | exact LeO.none _ | refine LeO.ite ?_ ?_ | refine LeO.bind ?_ (fun _ => ?_)
set_option maxHeartbeats 8000000 in
set_option maxRecDepth 100000 in
theorem impl_Get.calls (k : Nat) (A0 : Option Addr) (c0 : Nat) (l0 : List (S24)) (a1 : ByteArray) (r1 : ByteArray) (r2 : Bool) (w : World) (hr0 : Kd.C k24 w A0 l0.length l0) (hc0 : l0.length ≤ c0) (h : impl_Get.f k l0 a1 = some (r1, r2)) :
  Calls Try.prog 14 #[.slice A0 l0.length c0, .string a1] w fun e w' => e = .returned (.tuple #[.string r1, .bool r2]) ∧ Below w.heap.size w w' := by
 have HR0 := Aside0.mk hr0; have HC0 := Aside0.mk hc0; clear hr0 hc0; have HB := Aside0.mk (Below.refl w.heap.size w); have H : ((impl_Values.f k l0 a1).bind fun t250 => (if (t250.length : Int) = 0 then (some ((⟨#[]⟩ : ByteArray), false)) else (if 0 < (t250.length : Int) then (some (rdOf ByteArray.empty t250 0, true)) else (none)))) = some (r1, r2) := h; clear h; replace H := Option.bind_eq_some_iff.mp H; obtain ⟨t250, A30, H⟩ := H; (try dsimp only at H); have A3 := Aside0.mk A30; clear A30; have HC4 := Aside0.mk H; clear H; go_enter Try.func14, Try.ntmps14
 go_upto_if 12 with (first | ((with_reducible refine gate_callee (f := 13) rfl ?_); refine goesQ_ 9 Try.func13 #[.slice A0 l0.length c0, .string a1] ?_; (with_reducible refine (impl_Values.calls k _ _ l0 a1 t250 _ ?side1 ?side2 A3.out).mono ?_); (case side1 => repeat (first | exact HR0.out | (with_reducible refine Kd.C_alloc ?_ _) | (with_reducible refine Kd.C_drewN ?_ _) | (with_reducible refine Kd.C_drew ?_))); (case side2 => exact HC0.out); rintro e w5 ⟨v251, rfl, ho0, hb⟩; refine ⟨_, rfl, ?_⟩; have HO252 := Aside0.mk (Kd.R_lower ho0 (below_size zz0)); replace HB := Aside0.mk (below_step zz0 hb); (try clear hb); (try clear ho0); obtain ⟨Ao6, co6, eo6⟩ := Kd.R_slice HO252.out; subst eo6))
 have H := HC4.out; clear HC4
 by_cases c7 : (t250.length : Int) = 0
 ·rw [if_pos c7] at H; have c7b0 : ((t250.length : Int) == 0) = true := beq_iff_eq.mpr c7; have c7b1 : ((t250.length : Int) != 0) = false := bne_eq_false_iff_eq.mpr c7; clear c7; (first | rw [c7b0] | (simp only [i64_w, i32_w]; rw [c7b0]) | skip); simp only [Option.some.injEq, Prod.mk.injEq] at H; obtain ⟨rfl, rfl⟩ := H; go_wp2
  go_ret2
  exact ⟨zz2, zz0⟩
 ·rw [if_neg c7] at H; have c7b0 : ((t250.length : Int) == 0) = false := beq_eq_false_iff_ne.mpr c7; have c7b1 : ((t250.length : Int) != 0) = true := bne_iff_ne.mpr c7; have c7b2 : ¬ (t250 = []) := fun h_ => c7 (by rw [h_]; rfl); (first | rw [c7b0] | (simp only [i64_w, i32_w]; rw [c7b0]) | skip)
  by_cases c8 : 0 < (t250.length : Int)
  ·rw [if_pos c8] at H; have c8b0 : decide (0 < (t250.length : Int)) = true := decide_eq_true c8; have c8b1 : decide (0 < t250.length) = true := decide_eq_true (by omega); clear c8; simp only [Option.some.injEq, Prod.mk.injEq] at H; obtain ⟨rfl, rfl⟩ := H; have p253 : 0 ≤ (0 : Int) := (by omega); have q253 : 0 < (t250.length : Int) := of_decide_eq_true zz7; obtain ⟨ad253, e253, hx253_0⟩ := Kd.at_string (Kd.R_reads' HO252.out).2.2 0 p253 q253; cases e253; have qi253 : (0 < t250.length) = True := eq_true (by omega); (try rw [show ((0 : Int)).toNat = 0 from rfl] at hx253_0); (try rw [Addr.add_zero'] at hx253_0); replace p253 := eq_true p253; replace q253 := eq_true q253; go_wp2
   go_ret2
   exact ⟨zz2, zz0⟩
  ·rw [if_neg c8] at H; exact absurd H (by simp)

/-! ### impl_Elements: function 62 -/
def impl_Elements.add (k : Nat) (xs : List ByteArray) (x : ByteArray) : Option (List ByteArray) := (impl_Trim.f k x).bind fun t => (if t.toList = ([] : List UInt8) then some xs else if xs.length < 8796093022208 then some (xs ++ [t]) else none)
def impl_Elements.l0 : Nat → ByteArray → List ByteArray → Int → Bool → Int → Option (List ByteArray)
 | 0, _, _, _, _, _ => none
 | k + 1, s, out, fr, q, i => if i < (s.size : Int) then (if 0 ≤ i then (if bt s i = 34 then impl_Elements.l0 k s out fr (!q) (wrap64 (i + 1)) else (if q = true then (if bt s i = 92 then impl_Elements.l0 k s out fr true (wrap64 (wrap64 (i + 1) + 1)) else impl_Elements.l0 k s out fr true (wrap64 (i + 1))) else (if bt s i = 44 then (if 0 ≤ fr then (if fr ≤ i then (impl_Elements.add k out (s.extract fr.toNat i.toNat)).bind fun o => impl_Elements.l0 k s o (wrap64 (i + 1)) false (wrap64 (i + 1)) else none) else none) else impl_Elements.l0 k s out fr false (wrap64 (i + 1))))) else none) else (if 0 ≤ fr then (if fr ≤ (s.size : Int) then impl_Elements.add k out (s.extract fr.toNat s.size) else none) else none)
def impl_Elements.f (k : Nat) (a0 : ByteArray) : Option (List ByteArray) := if (a0.size : Int) > 4000 then some [] else impl_Elements.l0 k a0 [] 0 false 0
theorem impl_Elements.mono_a : ∀ xs x k, LeO (impl_Elements.add k xs x) (impl_Elements.add (k + 1) xs x) := by
 intro xs x k; unfold impl_Elements.add
 repeat' first | (with_reducible first | exact impl_Trim.mono _ _ | exact LeO.refl _ | refine LeO.ite ?_ ?_ | refine LeO.bind ?_ (fun _ => ?_))
theorem impl_Elements.mono_l : ∀ k, (∀ s out fr q i, LeO (impl_Elements.l0 k s out fr q i) (impl_Elements.l0 (k + 1) s out fr q i))
 | 0 => fun _ _ _ _ _ r h => by simp [impl_Elements.l0] at h
 | k + 1 => by
  have ih0 := impl_Elements.mono_l k; intro s out fr q i; unfold impl_Elements.l0
  repeat' first | (with_reducible first | exact ih0 _ _ _ _ _ | exact impl_Elements.mono_a _ _ _ | exact LeO.refl _ | exact LeO.none _ | refine LeO.ite ?_ ?_ | refine LeO.bind ?_ (fun _ => ?_))
theorem impl_Elements.mono : ∀ a0 k, LeO (impl_Elements.f k a0) (impl_Elements.f (k + 1) a0) := by
 intro a0 k; have ih0 := impl_Elements.mono_l k; unfold impl_Elements.f
 repeat' first | (with_reducible first | exact ih0 _ _ _ _ _ | exact LeO.refl _ | refine LeO.ite ?_ ?_)
set_option maxHeartbeats 8000000 in
set_option maxRecDepth 100000 in
theorem impl_Elements.add_calls (k : Nat) (x : ByteArray) (g : Nat) (v : Value) (xs r : List ByteArray) (w0 w : World) (hg : w.heap[g]? = some (.cells #[v] 36 (0, 0))) (hR : Kd.R Kd.string 9 w w0.heap.size (fun j => j ≠ g) v xs) (HB0 : Below w0.heap.size w0 w) (hgb : w0.heap.size ≤ g) (h : impl_Elements.add k xs x = some r) :
  Calls Try.prog 71 #[.string x, .pointer (some ⟨g, 0, none⟩)] w fun e w' => e = .returned (.tuple #[]) ∧ ∃ v', w'.heap[g]? = some (.cells #[v'] 36 (0, 0)) ∧ Kd.R Kd.string 9 w' w0.heap.size (fun j => j ≠ g) v' r ∧ Below w0.heap.size w0 w' := by
 unfold impl_Elements.add at h; obtain ⟨t, hT, h⟩ := Option.bind_eq_some_iff.mp h; (try dsimp only at h); have A1 := Aside0.mk hT; clear hT; have BK := Aside0.mk hg; have HR := Aside0.mk hR; have HB := Aside0.mk HB0; have GE := Aside0.mk hgb; have hcz : w.cell? ⟨g, 0, none⟩ = some v := (blk_cell BK.out 0).trans rfl; have hfz := blk_frozen BK.out 0; clear hg hR HB0 hgb
 by_cases c2 : t.toList = ([] : List UInt8)
 ·rw [if_pos c2] at h; obtain rfl := Option.some.inj h; have c2b0 : (t.toList == ([] : List UInt8)) = true := beq_iff_eq.mpr c2; have c2b1 : (t.toList != ([] : List UInt8)) = false := bne_eq_false_iff_eq.mpr c2; have c2e : t.toList.isEmpty = true := by rw [c2]; rfl
  clear c2; go_enter Try.func71, Try.ntmps71
  go_wp2_with (go_at_call 28; (with_reducible refine (impl_Trim.calls k x t _ A1.out).mono ?_); rintro e w' ⟨rfl, ⟨nd, rfl⟩⟩)
  go_end0
  exact ⟨rfl, v, BK.out, Kd.R_drewN HR.out _, pw_below_drewN HB.out _⟩
 ·rw [if_neg c2] at h
  by_cases c3 : xs.length < 8796093022208
  ·rw [if_pos c3] at h; obtain rfl := Option.some.inj h; have c2b0 : (t.toList == ([] : List UInt8)) = false := beq_eq_false_iff_ne.mpr c2; have c2b1 : (t.toList != ([] : List UInt8)) = true := bne_iff_ne.mpr c2; have c2e : t.toList.isEmpty = false := by cases hz_ : t.toList with | nil => exact absurd hz_ c2 | cons _ _ => rfl
   have LM := Aside0.mk c3; clear c2 c3; go_enter Try.func71, Try.ntmps71
   go_wp2_with (first
    | (go_at_call 28; (with_reducible refine (impl_Trim.calls k x t _ A1.out).mono ?_); rintro e w' ⟨rfl, ⟨nd, rfl⟩⟩)
    | ((with_reducible refine gate_builtin (b := .append) (xs := #[.tmp 7, .tmp 9]) rfl ?_); at_builtin; refine Kd.R_append Kd.string (w0 := w0) w0.heap.size rfl (.tmp 7) (.tmp 9) 36 9 (.string ⟨#[]⟩) 16 rfl Try.underlying36 (by kernel_rfl) rfl (by decide) (by omega) v xs t [.string t] (fun j => j ≠ g) (fun _ => False) rfl rfl ?aP (fun _ hk => hk.elim) ?aF ?aO ?aB ?aS ?aL ?_; (case aP => exact rfl); (case aB => exact (by repeat (first | exact HB.out | apply below_alloc | apply pw_below_drewN | apply below_drew1))); (case aF => exact (fun j hj => Nat.ne_of_gt (Nat.lt_of_lt_of_le (blk_lt BK.out) hj))); (case aO => exact (by (with_reducible repeat (first | apply Kd.R_alloc | apply Kd.R_drewN | apply Kd.R_drew)); exact HR.out)); (case aS => exact (below_size (by repeat (first | exact HB.out | apply below_alloc | apply pw_below_drewN | apply below_drew1)))); (case aL => have := LM.out; omega); intro v1 w1 ho hb hg hat; obtain ⟨Ao, co, eo⟩ := Kd.R_slice ho; subst eo; have BK1 := Aside0.mk (blk_grown (g := g) (o := .cells #[v] 36 (0, 0)) (by (with_reducible repeat (first | refine blk_drewN ?_ _ | refine blk_drew ?_ | refine blk_alloc ?_ _)); exact BK.out) hg (fun e => HR.out.1 g e.symm rfl)); have HO1 := Aside0.mk ho; have HB1 := Aside0.mk hb; clear ho hb hg hat; have hcz1 : w1.cell? ⟨g, 0, none⟩ = some v := (blk_cell BK1.out 0).trans rfl; have hfz1 := blk_frozen BK1.out 0))
   go_end0
   exact ⟨rfl, _, blk_put (cs := #[v]) BK1.out 0 _ rfl, (by have h5 := Kd.R_far (p := ⟨g, 0, none⟩) HO1.out (fun _ hk => hk) (Value.slice Ao (xs.length + 1) co); rw [List.length_append, List.length_singleton] at h5; exact h5), below_set HB1.out GE.out⟩
  ·rw [if_neg c3] at h; cases h
set_option maxHeartbeats 8000000 in
set_option maxRecDepth 100000 in
theorem impl_Elements.calls (k : Nat) (a0 : ByteArray) (r : List ByteArray) (w : World) (h : impl_Elements.f k a0 = some r) :
  Calls Try.prog 62 #[.string a0] w fun e w' => ∃ v0_ : Value, e = .returned (v0_) ∧ Kd.R Kd.string 9 w' w.heap.size (fun _ => True) v0_ r ∧ Below w.heap.size w w' := by
 unfold impl_Elements.f at h
 by_cases c1 : (a0.size : Int) > 4000
 ·rw [if_pos c1] at h; obtain rfl := Option.some.inj h; have c1b0 : decide (4000 < (a0.size : Int)) = true := decide_eq_true c1; have c1b1 : decide (4000 < a0.size) = true := decide_eq_true (by omega); clear c1 h; go_enter Try.func62, Try.ntmps62
  go_wp2
  go_ret; exact ⟨_, rfl, Kd.R_nil _ _ _ _ _, Below.refl _ _⟩
 ·rw [if_neg c1] at h; have c1b0 : decide (4000 < (a0.size : Int)) = false := decide_eq_false c1; have c1b1 : decide (4000 < a0.size) = false := decide_eq_false (by omega); have H' := Aside0.mk h; clear c1 h; go_enter Try.func62, Try.ntmps62
  go_wp2_with (first | ((with_reducible refine gate_dst (N := 3) rfl ?_); refine boxP_ (N := 3) (cs := #[.slice none 0 0]) (t := 36) ?_; intro g hg w1 hbox hb; have HB0 := Aside0.mk (below_step (Below.refl w.heap.size w) hb); have BK0 := Aside0.mk hbox; have GE := Aside0.mk (show w.heap.size ≤ g by rw [hg]; exact Nat.le_refl _); clear hb hbox hg))
  go_loopg [5, 6, 7] k (fun kq v5 v6 v7 w' => ∃ (fr i : Int) (q : Bool) (out : List ByteArray) (v : Value), v5 = .int .i64 fr ∧ v6 = .bool q ∧ v7 = .int .i64 i ∧ Aside0 (impl_Elements.l0 kq a0 out fr q i = some r) ∧ Aside0 (w'.heap[g]? = some (.cells #[v] 36 (0, 0))) ∧ Aside0 (Kd.R Kd.string 9 w' w.heap.size (fun j => j ≠ g) v out) ∧ Aside0 (Below w.heap.size w w'))
  case atStart => exact ⟨0, 0, false, [], .slice none 0 0, rfl, rfl, rfl, H', BK0, ⟨Kd.R_nil _ _ _ _ _⟩, HB0⟩
  case round =>
   clear H' BK0 HB0; obtain ⟨fr, i, q, out, v, rfl, rfl, rfl, HA, BK1, HR, HB1⟩ := hrel
   cases gk with
   | zero => exact absurd HA.out (by simp [impl_Elements.l0])
   | succ k1 =>
    have H := HA.out; clear HA; simp only [impl_Elements.l0] at H; have hcz : wr.cell? ⟨g, 0, none⟩ = some v := (blk_cell BK1.out 0).trans rfl; have hfz := blk_frozen BK1.out 0
    by_cases c3 : i < (a0.size : Int)
    ·rw [if_pos c3] at H; have c3b0 : decide (i < (a0.size : Int)) = true := decide_eq_true c3
     by_cases c4 : 0 ≤ i
     ·rw [if_pos c4] at H; have c4b0 : decide (0 ≤ i) = true := decide_eq_true c4; have p4 := eq_true c4; have q4 := eq_true c3; have q5 : (i ≤ (a0.size : Int)) = True := eq_true (Int.le_of_lt c3); have hx4 := bt_at a0 i; clear c3 c4
      by_cases c5 : bt a0 i = 34
      ·rw [if_pos c5] at H; have c5b0 : (bt a0 i == 34) = true := beq_iff_eq.mpr c5; have H' := Aside0.mk H; clear H c5; go_wp2
       go_roundg k1
       (case measure => omega); case rel => exact ⟨fr, wrap64 (i + 1), !q, out, v, rfl, zz4, zz4, H', ⟨zz36⟩, ⟨zz38⟩, ⟨zz40⟩⟩
      ·rw [if_neg c5] at H; have c5b0 : (bt a0 i == 34) = false := beq_eq_false_iff_ne.mpr c5; clear c5
       cases q with
       | true =>
        rw [if_pos rfl] at H
        by_cases c6 : bt a0 i = 92
        ·rw [if_pos c6] at H; have c6b0 : (bt a0 i == 92) = true := beq_iff_eq.mpr c6; have H' := Aside0.mk H; clear H c6; go_wp2
         go_roundg k1
         (case measure => omega); case rel => exact ⟨fr, wrap64 (wrap64 (i + 1) + 1), true, out, v, rfl, zz4, zz4, H', ⟨zz36⟩, ⟨zz38⟩, ⟨zz40⟩⟩
        ·rw [if_neg c6] at H; have c6b0 : (bt a0 i == 92) = false := beq_eq_false_iff_ne.mpr c6; have H' := Aside0.mk H; clear H c6; go_wp2
         go_roundg k1
         case measure => omega
         case rel => exact ⟨fr, wrap64 (i + 1), true, out, v, rfl, zz4, zz4, H', ⟨zz36⟩, ⟨zz38⟩, ⟨zz40⟩⟩
       | false =>
        rw [if_neg Bool.false_ne_true] at H
        by_cases c7 : bt a0 i = 44
        ·rw [if_pos c7] at H; have c7b0 : (bt a0 i == 44) = true := beq_iff_eq.mpr c7; clear c7
         by_cases c8 : 0 ≤ fr
         ·rw [if_pos c8] at H
          by_cases c9 : fr ≤ i
          ·rw [if_pos c9] at H; obtain ⟨o, hadd, H⟩ := Option.bind_eq_some_iff.mp H; (try dsimp only at H); have HADD := Aside0.mk hadd; have H' := Aside0.mk H; have p8 := eq_true c8; have p9 := eq_true c9; clear H hadd c8 c9; go_wp2_with (first | (go_at_call 71; (with_reducible refine (impl_Elements.add_calls k1 (a0.extract fr.toNat i.toNat) g v out o w _ ?s1 ?s2 ?s3 GE.out HADD.out).mono ?_); (case s1 => (with_reducible repeat (first | refine blk_drewN ?_ _ | refine blk_drew ?_)); exact BK1.out); (case s2 => (with_reducible repeat (first | apply Kd.R_drewN | apply Kd.R_drew)); exact HR.out); (case s3 => repeat (first | exact HB1.out | apply pw_below_drewN | apply below_drew1)); rintro e w2 ⟨rfl, v2, hg2, hR2, hB2⟩; obtain ⟨Ao, co, eo⟩ := Kd.R_slice hR2; subst eo; have BK2 := Aside0.mk hg2; have HR2 := Aside0.mk hR2; have HB2 := Aside0.mk hB2; clear hg2 hR2 hB2; have hcz2 : w2.cell? ⟨g, 0, none⟩ = some (.slice Ao o.length co) := (blk_cell BK2.out 0).trans rfl; have hfz2 := blk_frozen BK2.out 0))
           go_roundg k1
           (case measure => omega); case rel => exact ⟨wrap64 (i + 1), wrap64 (i + 1), false, o, .slice Ao o.length co, zz4, zz4, zz4, H', ⟨by (with_reducible repeat (first | refine blk_drewN ?_ _ | refine blk_drew ?_)); exact BK2.out⟩, ⟨by (with_reducible repeat (first | apply Kd.R_drewN | apply Kd.R_drew)); exact HR2.out⟩, ⟨by repeat (first | exact HB2.out | apply pw_below_drewN | apply below_drew1)⟩⟩
          ·rw [if_neg c9] at H; cases H
         ·rw [if_neg c8] at H; cases H
        ·rw [if_neg c7] at H; have c7b0 : (bt a0 i == 44) = false := beq_eq_false_iff_ne.mpr c7; have H' := Aside0.mk H; clear H c7; go_wp2
         go_roundg k1
         (case measure => omega); case rel => exact ⟨fr, wrap64 (i + 1), false, out, v, rfl, zz4, zz4, H', ⟨zz36⟩, ⟨zz38⟩, ⟨zz40⟩⟩
     ·rw [if_neg c4] at H; cases H
    ·rw [if_neg c3] at H; have c3b0 : decide (i < (a0.size : Int)) = false := decide_eq_false c3; clear c3
     by_cases c8 : 0 ≤ fr
     ·rw [if_pos c8] at H
      by_cases c9 : fr ≤ (a0.size : Int)
      ·rw [if_pos c9] at H; have HADD := Aside0.mk H; have p8 := eq_true c8; have p9 := eq_true c9; clear H c8 c9; go_wp2_with (first | (go_at_call 71; (with_reducible refine (impl_Elements.add_calls k1 (a0.extract fr.toNat a0.size) g v out r w _ ?s1 ?s2 ?s3 GE.out HADD.out).mono ?_); (case s1 => (with_reducible repeat (first | refine blk_drewN ?_ _ | refine blk_drew ?_)); exact BK1.out); (case s2 => (with_reducible repeat (first | apply Kd.R_drewN | apply Kd.R_drew)); exact HR.out); (case s3 => repeat (first | exact HB1.out | apply pw_below_drewN | apply below_drew1)); rintro e w2 ⟨rfl, v2, hg2, hR2, hB2⟩; obtain ⟨Ao, co, eo⟩ := Kd.R_slice hR2; subst eo; have BK2 := Aside0.mk hg2; have HR2 := Aside0.mk hR2; have HB2 := Aside0.mk hB2; clear hg2 hR2 hB2; have hcz2 : w2.cell? ⟨g, 0, none⟩ = some (.slice Ao r.length co) := (blk_cell BK2.out 0).trans rfl; have hfz2 := blk_frozen BK2.out 0))
       go_ret; exact ⟨_, rfl, by (with_reducible repeat (first | apply Kd.R_drewN | apply Kd.R_drew)); exact Kd.R_mono HR2.out (fun _ _ => trivial), by repeat (first | exact HB2.out | apply pw_below_drewN | apply below_drew1)⟩
      ·rw [if_neg c9] at H; cases H
     ·rw [if_neg c8] at H; cases H


/-! ### strings_Join: function 72 -/
def strings_Join.f (l0 : List ByteArray) (a1 : ByteArray) : Option (ByteArray) := if l0.length ≤ 1099511627776 ∧ (Lib.join (l0.map (·.data.toList)) a1.data.toList).length ≤ 1099511627776 then some ⟨(Lib.join (l0.map (·.data.toList)) a1.data.toList).toArray⟩ else none
theorem strings_Join.calls (A0 : Option Addr) (c0 : Nat) (l0 : List ByteArray) (a1 : ByteArray) (r : ByteArray) (w : World) (hr0 : Kd.C Kd.string w A0 l0.length l0) (hc0 : l0.length ≤ c0) (h : strings_Join.f l0 a1 = some r) :
  Calls Try.prog 72 #[.slice A0 l0.length c0, .string a1] w fun e w' => e = .returned (.string r) ∧ Below w.heap.size w w' := by
 unfold strings_Join.f at h
 by_cases hs : l0.length ≤ 1099511627776 ∧ (Lib.join (l0.map (·.data.toList)) a1.data.toList).length ≤ 1099511627776
 ·rw [if_pos hs] at h; obtain rfl := Option.some.inj h
  rcases Nat.eq_zero_or_pos l0.length with h0 | h0
  ·obtain rfl := List.eq_nil_of_length_eq_zero h0; exact (Try.strings_Join_none A0 c0 a1 w).mono fun e w' ⟨he, hw⟩ => ⟨he, hw ▸ Below.refl _ _⟩
  ·obtain ⟨ad, rfl, hcell⟩ := Kd.at_string hr0 0 (by omega) (by omega); have hsp := World.cell?_spot hcell; have hlt := World.block_lt_of_cell? w _ hcell; obtain ⟨bk, o, sp⟩ := ad; obtain rfl : sp = none := by simpa [Addr.add] using hsp
   refine Try.strings_Join bk o c0 l0 a1 w (fun j x hj => ?_) (by simpa [Addr.add] using hlt) (by omega) hc0 (by omega); have hjl : j < l0.length := (List.getElem?_eq_some_iff.1 hj).1; obtain ⟨ad, had, hc⟩ := Kd.at_string hr0 (j : Int) (by omega) (by omega); obtain rfl := Option.some.inj had
   rcases Nat.eq_zero_or_pos j with rfl | hj0
   ·simpa [Addr.add, rdOf, List.getD_eq_getElem?_getD, hj] using hc
   ·have hne : j ≠ 0 := by omega
    simpa [Addr.add, rdOf, List.getD_eq_getElem?_getD, hj, hne] using hc
 ·rw [if_neg hs] at h; cases h


/-! ### impl_Joined: function 63 -/
def impl_Joined.f (k : Nat) (l0 : List (S24)) (a1 : ByteArray) : Option (ByteArray) := (impl_Values.f k l0 a1).bind fun t254 => ((strings_Join.f t254 (⟨#[44, 32]⟩ : ByteArray)).bind fun t257 => (some t257))
theorem impl_Joined.mono : ∀ a0 a1 k, LeO (impl_Joined.f k a0 a1) (impl_Joined.f (k + 1) a0 a1) := by
 intro a0 a1 k; unfold impl_Joined.f
 repeat' first | (with_reducible first | exact impl_Values.mono _ _ _ | exact LeO.refl _ | exact LeO.none _ | refine LeO.ite ?_ ?_ | refine LeO.bind ?_ (fun _ => ?_)) | exact impl_Values.mono _ _ _ | exact LeO.none _ | refine LeO.ite ?_ ?_ | refine LeO.bind ?_ (fun _ => ?_)
set_option maxHeartbeats 8000000 in
set_option maxRecDepth 100000 in
theorem impl_Joined.calls (k : Nat) (A0 : Option Addr) (c0 : Nat) (l0 : List (S24)) (a1 : ByteArray) (r : ByteArray) (w : World) (hr0 : Kd.C k24 w A0 l0.length l0) (hc0 : l0.length ≤ c0) (h : impl_Joined.f k l0 a1 = some r) :
  Calls Try.prog 63 #[.slice A0 l0.length c0, .string a1] w fun e w' => e = .returned (.string r) ∧ Below w.heap.size w w' := by
 have HR0 := Aside0.mk hr0; have HC0 := Aside0.mk hc0; clear hr0 hc0; have HB := Aside0.mk (Below.refl w.heap.size w); have H : ((impl_Values.f k l0 a1).bind fun t254 => ((strings_Join.f t254 (⟨#[44, 32]⟩ : ByteArray)).bind fun t257 => (some t257))) = some r := h; clear h; replace H := Option.bind_eq_some_iff.mp H; obtain ⟨t254, A30, H⟩ := H; (try dsimp only at H); have A3 := Aside0.mk A30; clear A30; replace H := Option.bind_eq_some_iff.mp H; obtain ⟨t257, A40, H⟩ := H; (try dsimp only at H); have A4 := Aside0.mk A40; clear A40; obtain rfl := Option.some.inj H; go_enter Try.func63, Try.ntmps63
 go_wp2_with (first | ((with_reducible refine gate_callee (f := 13) rfl ?_); refine goesQ_ 7 Try.func13 #[.slice A0 l0.length c0, .string a1] ?_; (with_reducible refine (impl_Values.calls k _ _ l0 a1 t254 _ ?side1 ?side2 A3.out).mono ?_); (case side1 => repeat (first | exact HR0.out | (with_reducible refine Kd.C_alloc ?_ _) | (with_reducible refine Kd.C_drewN ?_ _) | (with_reducible refine Kd.C_drew ?_))); (case side2 => exact HC0.out); rintro e w5 ⟨v255, rfl, ho0, hb⟩; refine ⟨_, rfl, ?_⟩; have HO256 := Aside0.mk (Kd.R_lower ho0 (below_size zz0)); replace HB := Aside0.mk (below_step zz0 hb); (try clear hb); (try clear ho0); obtain ⟨Ao6, co6, eo6⟩ := Kd.R_slice HO256.out; subst eo6) | ((with_reducible refine gate_callee (f := 72) rfl ?_); refine goesQ_ 8 Try.func72 #[.slice Ao6 t254.length co6, .string (⟨#[44, 32]⟩ : ByteArray)] ?_; (with_reducible refine (strings_Join.calls _ _ t254 (⟨#[44, 32]⟩ : ByteArray) t257 _ ?side1 ?side2 A4.out).mono ?_); (case side1 => repeat (first | exact (Kd.R_reads' HO256.out).2.2 | (with_reducible refine Kd.C_alloc ?_ _) | (with_reducible refine Kd.C_drewN ?_ _) | (with_reducible refine Kd.C_drew ?_))); (case side2 => exact (Kd.R_reads' HO256.out).2.1); rintro e w7 ⟨rfl, hb⟩; refine ⟨_, rfl, ?_⟩; replace HO256 := Aside0.mk (Kd.R_below (by (with_reducible repeat (first | apply Kd.R_alloc | apply Kd.R_drewN | apply Kd.R_drew)); exact HO256.out) hb); replace HB := Aside0.mk (below_step zz0 hb); (try clear hb)))
 go_ret; exact ⟨zz2, zz0⟩

/-! ### impl_Words: function 47 -/
def impl_Words.f (k : Nat) (l0 : List (S24)) (a1 : ByteArray) : Option (List ByteArray) := (impl_Joined.f k l0 a1).bind fun t258 => ((impl_Elements.f k t258).bind fun t259 => (some t259))
theorem impl_Words.mono : ∀ a0 a1 k, LeO (impl_Words.f k a0 a1) (impl_Words.f (k + 1) a0 a1) := by
 intro a0 a1 k; unfold impl_Words.f
 repeat' first | (with_reducible first | exact impl_Elements.mono _ _ | exact impl_Joined.mono _ _ _ | exact LeO.refl _ | exact LeO.none _ | refine LeO.ite ?_ ?_ | refine LeO.bind ?_ (fun _ => ?_)) | exact impl_Elements.mono _ _ | exact impl_Joined.mono _ _ _ | exact LeO.none _ | refine LeO.ite ?_ ?_ | refine LeO.bind ?_ (fun _ => ?_)
set_option maxHeartbeats 8000000 in
set_option maxRecDepth 100000 in
theorem impl_Words.calls (k : Nat) (A0 : Option Addr) (c0 : Nat) (l0 : List (S24)) (a1 : ByteArray) (r : List ByteArray) (w : World) (hr0 : Kd.C k24 w A0 l0.length l0) (hc0 : l0.length ≤ c0) (h : impl_Words.f k l0 a1 = some r) :
  Calls Try.prog 47 #[.slice A0 l0.length c0, .string a1] w fun e w' => ∃ v0_ : Value, e = .returned (v0_) ∧ Kd.R Kd.string 9 w' w.heap.size (fun _ => True) v0_ r ∧ Below w.heap.size w w' := by
 have HR0 := Aside0.mk hr0; have HC0 := Aside0.mk hc0; clear hr0 hc0; have HB := Aside0.mk (Below.refl w.heap.size w); have H : ((impl_Joined.f k l0 a1).bind fun t258 => ((impl_Elements.f k t258).bind fun t259 => (some t259))) = some r := h; clear h; replace H := Option.bind_eq_some_iff.mp H; obtain ⟨t258, A30, H⟩ := H; (try dsimp only at H); have A3 := Aside0.mk A30; clear A30; replace H := Option.bind_eq_some_iff.mp H; obtain ⟨t259, A40, H⟩ := H; (try dsimp only at H); have A4 := Aside0.mk A40; clear A40; obtain rfl := Option.some.inj H; go_enter Try.func47, Try.ntmps47
 go_wp2_with (first | ((with_reducible refine gate_callee (f := 63) rfl ?_); refine goesQ_ 7 Try.func63 #[.slice A0 l0.length c0, .string a1] ?_; (with_reducible refine (impl_Joined.calls k _ _ l0 a1 t258 _ ?side1 ?side2 A3.out).mono ?_); (case side1 => repeat (first | exact HR0.out | (with_reducible refine Kd.C_alloc ?_ _) | (with_reducible refine Kd.C_drewN ?_ _) | (with_reducible refine Kd.C_drew ?_))); (case side2 => exact HC0.out); rintro e w5 ⟨rfl, hb⟩; refine ⟨_, rfl, ?_⟩; replace HB := Aside0.mk (below_step zz0 hb); (try clear hb)) | ((with_reducible refine gate_callee (f := 62) rfl ?_); refine goesQ_ 8 Try.func62 #[.string t258] ?_; (with_reducible refine (impl_Elements.calls k t258 t259 _ A4.out).mono ?_); rintro e w6 ⟨v260, rfl, ho0, hb⟩; refine ⟨_, rfl, ?_⟩; have HO261 := Aside0.mk (Kd.R_lower ho0 (below_size zz0)); replace HB := Aside0.mk (below_step zz0 hb); (try clear hb); (try clear ho0)))
 go_ret; exact ⟨_, zz2, by (with_reducible repeat (first | apply Kd.R_alloc | apply Kd.R_drewN | apply Kd.R_drew)); exact HO261.out, zz0⟩

/-! ### slices_Sort_string_string: function 49 -/
def slices_Sort_string_string.srt (l : List ByteArray) : List ByteArray := ((l.map (·.data.toList)).mergeSort fun x y => decide (x ≤ y)).map fun b => ⟨b.toArray⟩
def slices_Sort_string_string.f (l0 : List ByteArray) : Option (List ByteArray) := if l0.length < 4611686018427387904 then some (slices_Sort_string_string.srt l0) else none
theorem sc_world {w : World} {e g cap m nd : Nat} {cur : Array Value} {ys : List (List UInt8)} {os : Array Obj} {base : Nat} {W : World} (hh : w.heap[g]? = some (.cells cur e (0, 0))) (hc : cur.size = cap) (hd : ys.length ≤ cap) (hm : m ≤ ys.length) (hl : cap ≤ maxLen) (hb : base ≤ g)
  (hW : W = Go.Sort.grow (Go.Sort.putRow Go.Proofs.encStr (Go.Sort.ahead w nd) g 0 ys.toArray) os) :
  W.ownsRow base e 1 (.slice (some ⟨g, 0, none⟩) m cap) m ((ys.take m).map Go.Proofs.encStr) ∧ w.heap.size ≤ W.heap.size ∧ (∀ k, k < w.heap.size → k ≠ g → W.heap[k]? = w.heap[k]?) ∧ W.os = w.os ∧ W.tape = w.tape ∧ W.output = w.output := by
 have hlt : g < w.heap.size := by
  rcases Nat.lt_or_ge g w.heap.size with h' | h'
  ·exact h'
  ·simp [Array.getElem?_eq_none h'] at hh
 have hg' : W.heap[g]? = some (.cells (Go.Sort.putCells Go.Proofs.encStr 0 ys.toArray cur) e (0, 0)) := by
  subst hW; rw [Go.Sort.heap_grow_old _ _ (by simpa [Go.Sort.ahead] using hlt)]
  simp [Go.Sort.putRow, Go.Sort.mapBlock, Go.Sort.ahead, Array.getElem?_modify, hh, Go.Sort.onCells]
 refine ⟨⟨by simp; omega, .inr ⟨g, cap, _, rfl, hb, hg', by omega, hl, by simp [Go.Sort.putCells, hc], ?_⟩⟩, ?_, ?_, ?_, ?_, ?_⟩
 ·rw [Nat.mul_one]
  apply List.ext_getElem?
  intro i; rw [List.getElem?_take, List.getElem?_map, List.getElem?_take]
  by_cases hi : i < m
  ·rw [if_pos hi, if_pos hi, Array.getElem?_toList]; have h1 : i < cur.size := by omega
   have h2 : i < ys.length := by omega
   simp [Go.Sort.putCells, Array.getElem?_mapIdx, Array.getElem?_eq_getElem h1, h2, List.getElem?_eq_getElem h2]
  ·rw [if_neg hi, if_neg hi]; rfl
 ·subst hW; simp [Go.Sort.ahead]
 ·intro k hk hne; subst hW; have hne' : ¬ g = k := fun h => hne h.symm; rw [Go.Sort.heap_grow_old _ _ (by simpa [Go.Sort.ahead] using hk)]
  simp [Go.Sort.putRow, Go.Sort.mapBlock, Go.Sort.ahead, Array.getElem?_modify, hne']
 ·subst hW; rfl
 ·subst hW; rfl
 ·subst hW; rfl
theorem sc_holds {w : World} {base : Nat} {P0_ : Nat → Prop} {g cap : Nat} {l0 : List ByteArray} (ho0 : Kd.R Kd.string 9 w base P0_ (.slice (some ⟨g, 0, none⟩) l0.length cap) l0) : Go.Sort.Holds Go.Proofs.encStr w g 0 (l0.map (·.data.toList)).toArray := by
 intro j hj; have hj' : j < l0.length := by simpa using hj
 obtain ⟨h1, h2⟩ := Kd.R_cell ByteArray.empty ho0 (j : Int) (by omega) (by omega); rw [Nat.zero_add]; refine ⟨?_, by simpa using h2⟩; rw [Int.toNat_natCast] at h1; rw [h1]
 simp [rdOf, hj', List.getElem?_eq_getElem hj']
theorem slices_Sort_string_string.calls (P0_ : Nat → Prop) (u9000_ : Value) (l0 : List ByteArray) (r : List ByteArray) (w0 w : World) (hB : Below w0.heap.size w0 w) (ho0 : Kd.R Kd.string 9 w w0.heap.size P0_ u9000_ l0) (h : slices_Sort_string_string.f l0 = some r) :
  Calls Try.prog 49 #[u9000_] w fun e w' => e = .returned (.tuple #[]) ∧ Kd.R Kd.string 9 w' w0.heap.size (fun k_ => (P0_ k_ ∨ w.heap.size ≤ k_)) u9000_ r ∧ Below w0.heap.size w0 w' ∧ Kept w w' (fun k_ => P0_ k_) := by
 unfold slices_Sort_string_string.f at h
 by_cases hl : l0.length < 4611686018427387904
 ·rw [if_pos hl] at h; obtain rfl := Option.some.inj h; have hown := Kd.own_of_R ho0
  rcases hown.2 with ⟨hv, hn⟩ | ⟨g, cap, cur, hv, hg, hh, hnc, hcm, hcs, htk⟩
  ·subst hv; obtain rfl := List.length_eq_zero_iff.mp hn; refine (Try.slices_Sort_string_none none 0 w).mono ?_; rintro e w' ⟨he, rfl⟩; refine ⟨he, ?_, hB, Kept.refl _ _⟩; rw [show slices_Sort_string_string.srt [] = [] from by simp [slices_Sort_string_string.srt]]; exact Kd.R_nil _ _ _ _ _
  ·subst hv
   have hlt : g < w.heap.size := by
    rcases Nat.lt_or_ge g w.heap.size with h' | h'
    ·exact h'
    ·simp [Array.getElem?_eq_none h'] at hh
   have hc := Try.slices_Sort_string g 0 cap (l0.map (·.data.toList)) w (sc_holds ho0) hlt (by simpa using hl); rw [List.length_map] at hc; refine hc.mono ?_; rintro e w' ⟨he, nd, os, hw⟩; obtain ⟨o1, o2, o3, o4, o5, o6⟩ := sc_world (base := w0.heap.size) (m := l0.length) hh (hcs.trans (Nat.mul_one _)) (by simpa using hnc) (by simp) hcm hg hw; refine ⟨he, Kd.R_of_own ?_ (fun k hk => .inl (ho0.1 k hk)), ⟨o4.trans hB.os, o5.trans hB.tape, o6.trans hB.output, Nat.le_trans hB.size o2, fun k hk => (o3 k (Nat.lt_of_lt_of_le hk hB.size) (by omega)).trans (hB.block k hk)⟩, ⟨o2, fun i hi hn => o3 i hi (fun he => hn (he ▸ ho0.1 g rfl))⟩⟩; have e1 : (slices_Sort_string_string.srt l0).length = l0.length := by simp [slices_Sort_string_string.srt]
   rw [e1]; rw [List.take_of_length_le (by simp)] at o1; have e2 : encs Value.string (slices_Sort_string_string.srt l0) = ((l0.map (·.data.toList)).mergeSort fun x y => decide (x ≤ y)).map Go.Proofs.encStr := by simp [encs, slices_Sort_string_string.srt, Function.comp_def]
   rw [e2]; exact o1
 ·rw [if_neg hl] at h; cases h


/-! ### slices_Compact_string_string: function 50 -/
def slices_Compact_string_string.cpt (l : List ByteArray) : List ByteArray := (Go.Lib.compact (l.map (·.data.toList))).map fun b => ⟨b.toArray⟩
def slices_Compact_string_string.f (l0 : List ByteArray) : Option (List ByteArray) := if l0.length < 4611686018427387904 then some (slices_Compact_string_string.cpt l0) else none
theorem sc_compact_le {α : Type} [DecidableEq α] [Inhabited α] (zs : List α) : (Go.Lib.compact zs).length ≤ zs.length := by
 unfold Go.Lib.compact Go.Lib.compactUpTo; rw [List.length_map]; exact Nat.le_trans (List.length_filter_le _ _) (by simp)
theorem slices_Compact_string_string.calls (P0_ : Nat → Prop) (u9000_ : Value) (l0 : List ByteArray) (r : List ByteArray) (w0 w : World) (hB : Below w0.heap.size w0 w) (ho0 : Kd.R Kd.string 9 w w0.heap.size P0_ u9000_ l0) (h : slices_Compact_string_string.f l0 = some r) :
  Calls Try.prog 50 #[u9000_] w fun e w' => ∃ v0_ : Value, e = .returned (v0_) ∧ Kd.R Kd.string 9 w' w0.heap.size (fun k_ => (P0_ k_ ∨ w.heap.size ≤ k_)) v0_ r ∧ Below w0.heap.size w0 w' ∧ Kept w w' (fun k_ => P0_ k_) := by
 unfold slices_Compact_string_string.f at h
 by_cases hl : l0.length < 4611686018427387904
 ·rw [if_pos hl] at h; obtain rfl := Option.some.inj h; have hown := Kd.own_of_R ho0
  rcases hown.2 with ⟨hv, hn⟩ | ⟨g, cap, cur, hv, hg, hh, hnc, hcm, hcs, htk⟩
  ·subst hv; obtain rfl := List.length_eq_zero_iff.mp hn; refine (Try.slices_Compact_string_empty none 0 w).mono ?_; rintro e w' ⟨he, rfl⟩; refine ⟨_, he, ?_, hB, Kept.refl _ _⟩; rw [show slices_Compact_string_string.cpt [] = [] from by simp [slices_Compact_string_string.cpt, Go.Lib.compact, Go.Lib.compactUpTo]]; exact Kd.R_nil _ _ _ _ _
  ·subst hv
   have hlt : g < w.heap.size := by
    rcases Nat.lt_or_ge g w.heap.size with h' | h'
    ·exact h'
    ·simp [Array.getElem?_eq_none h'] at hh
   have hle := sc_compact_le (l0.map (·.data.toList)); rw [List.length_map] at hle; have hc := Try.slices_Compact_string g 0 cap (l0.map (·.data.toList)) w (sc_holds ho0) (by rw [List.length_map]; omega) (by simpa using hnc); rw [List.length_map] at hc; refine hc.mono ?_; rintro e w' ⟨he, nd, hw⟩; obtain ⟨o1, o2, o3, o4, o5, o6⟩ := sc_world (base := w0.heap.size) (os := #[]) (m := (Go.Lib.compact (l0.map (·.data.toList))).length) hh (hcs.trans (Nat.mul_one _)) (by simp; omega) (by simp) hcm hg (hw.trans (Go.Sort.grow_empty _).symm); refine ⟨_, he, Kd.R_of_own ?_ (fun k hk => .inl (ho0.1 k hk)), ⟨o4.trans hB.os, o5.trans hB.tape, o6.trans hB.output, Nat.le_trans hB.size o2, fun k hk => (o3 k (Nat.lt_of_lt_of_le hk hB.size) (by omega)).trans (hB.block k hk)⟩, ⟨o2, fun i hi hn => o3 i hi (fun he => hn (he ▸ ho0.1 g rfl))⟩⟩; have e1 : (slices_Compact_string_string.cpt l0).length = (Go.Lib.compact (l0.map (·.data.toList))).length := by simp [slices_Compact_string_string.cpt]
   rw [e1]; rw [List.take_left' rfl] at o1; have e2 : encs Value.string (slices_Compact_string_string.cpt l0) = (Go.Lib.compact (l0.map (·.data.toList))).map Go.Proofs.encStr := by simp [encs, slices_Compact_string_string.cpt, Function.comp_def]
   rw [e2]; exact o1
 ·rw [if_neg hl] at h; cases h


end Go.Proofs.Ytkkolioolgpljaa.GFnFieldLines
