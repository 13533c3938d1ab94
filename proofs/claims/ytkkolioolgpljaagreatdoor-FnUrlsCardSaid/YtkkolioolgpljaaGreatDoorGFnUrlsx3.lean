-- Laid by gen.py of this session (over the kit's printing program): what the law FnUrls reaches, as Lean functions, and that Go comes to just that.
import Derived.Test.YtkkolioolgpljaaGreatDoorGFnUrlsx0
import Derived.Test.YtkkolioolgpljaaGreatDoorZFnUrls
namespace Go.Proofs.YtkkolioolgpljaaGreatDoor.GFnUrls
open Go.RowKit Go.Proofs.YtkkolioolgpljaaGreatDoorW.PrintWords Go.Proofs.YtkkolioolgpljaaGreatDoorW.PrintLast Go.Proofs.YtkkolioolgpljaaGreatDoorW.PrintMore Go.Proofs.YtkkolioolgpljaaGreatDoorW.Zs
attribute [local go_sem] max2_int min2_int max_two min_two max_three min_three max_four min_four   -- for this text's walks alone
set_option linter.unusedVariables false
set_option linter.unusedSimpArgs false

/-! ### spec_l7split: function 49 -/
def spec_l7split.l0 : Nat → ByteArray → Int → List ByteArray → Int → Int → Option (List ByteArray)
 | 0, _, _, _, _, _ => none
 | k + 1, x0, x1, x5, x6, x7 => if x7 ≤ (x0.size : Int) then (if x7 = (x0.size : Int) then (if 0 ≤ x6 then (if x6 ≤ x7 then (if x5.length < 8796093022208 then (spec_l7split.l0 k x0 x1 (x5 ++ [x0.extract (x6 : Int).toNat (x7 : Int).toNat]) (wrap64 (x7 + 1)) (wrap64 (x7 + 1))) else (none)) else (none)) else (none)) else (if 0 ≤ x7 then (if x7 < (x0.size : Int) then (if (bt x0 x7) = x1 then (if 0 ≤ x6 then (if x6 ≤ x7 then (if x5.length < 8796093022208 then (spec_l7split.l0 k x0 x1 (x5 ++ [x0.extract (x6 : Int).toNat (x7 : Int).toNat]) (wrap64 (x7 + 1)) (wrap64 (x7 + 1))) else (none)) else (none)) else (none)) else (spec_l7split.l0 k x0 x1 x5 x6 (wrap64 (x7 + 1)))) else (none)) else (none))) else (some x5)
def spec_l7split.f (k : Nat) (a0 : ByteArray) (a1 : Int) : Option (List ByteArray) := spec_l7split.l0 k a0 a1 ([] : List ByteArray) 0 0
theorem spec_l7split.mono_l : ∀ k, (∀ y0 y1 y2 y3 y4, LeO (spec_l7split.l0 k y0 y1 y2 y3 y4) (spec_l7split.l0 (k + 1) y0 y1 y2 y3 y4))
 | 0 => fun _ _ _ _ _ r h => by simp [spec_l7split.l0] at h
 | k + 1 => by
  have ih0 := spec_l7split.mono_l k
  ·intro y0 y1 y2 y3 y4; unfold spec_l7split.l0
   repeat' first | (with_reducible first | exact ih0 _ _ _ _ _ | exact LeO.refl _ | exact LeO.none _ | refine LeO.ite ?_ ?_ | refine LeO.bind ?_ (fun _ => ?_)) | exact ih0 _ _ _ _ _ | exact LeO.none _ | refine LeO.ite ?_ ?_ | refine LeO.bind ?_ (fun _ => ?_)
theorem spec_l7split.mono : ∀ a0 a1 k, LeO (spec_l7split.f k a0 a1) (spec_l7split.f (k + 1) a0 a1) := by
 intro a0 a1 k; have ih0 := spec_l7split.mono_l k; unfold spec_l7split.f
 repeat' first | (with_reducible first | exact ih0 _ _ _ _ _ | exact LeO.refl _ | exact LeO.none _ | refine LeO.ite ?_ ?_ | refine LeO.bind ?_ (fun _ => ?_)) | exact ih0 _ _ _ _ _ | exact LeO.none _ | refine LeO.ite ?_ ?_ | refine LeO.bind ?_ (fun _ => ?_)
set_option maxHeartbeats 8000000 in
set_option maxRecDepth 100000 in
theorem spec_l7split.calls (k : Nat) (a0 : ByteArray) (a1 : Int) (r : List ByteArray) (w : World) (h : spec_l7split.f k a0 a1 = some r) :
  Calls Tryz.prog 49 #[.string a0, .int .u8 a1] w fun e w' => ∃ v0_ : Value, e = .returned (v0_) ∧ Kd.R Kd.string 9 w' w.heap.size (fun _ => True) v0_ r ∧ Below w.heap.size w w' := by
 have HB := Aside0.mk (Below.refl w.heap.size w); have H : (spec_l7split.l0 k a0 a1 ([] : List ByteArray) 0 0) = some r := h; clear h; have H' := Aside0.mk H; clear H; go_enter Tryz.func49, Tryz.ntmps49
 go_wp2
 go_loopg [5, 6, 7] k (fun kq v5 v6 v7 w' => ∃ (x5_1 : List ByteArray) (x6_1 : Int) (x7_1 : Int), v6 = .int .i64 x6_1 ∧ v7 = .int .i64 x7_1 ∧ Aside0 (spec_l7split.l0 kq a0 a1 x5_1 x6_1 x7_1 = some r) ∧ Aside0 (kq ≤ k) ∧ Aside0 (Kd.R Kd.string 9 w' w.heap.size (fun _ => True) v5 x5_1) ∧ Aside0 (Below w.heap.size w w'))
 case atStart => exact ⟨(([] : List ByteArray)), (0), (0), z5, z5, H', ⟨Nat.le_refl _⟩, ⟨z50⟩, ⟨z0⟩⟩
 case round =>
  clear H'; (try clear p2); obtain ⟨x5_1, x6_1, x7_1, rfl, rfl, HA, HK1, HO_5, HB⟩ := hrel
  cases gk with
  | zero => exact absurd HA.out (by simp [spec_l7split.l0])
  | succ k1 =>
   have H := HA.out; clear HA; simp only [spec_l7split.l0] at H
   by_cases c3 : x7_1 ≤ (a0.size : Int)
   ·rw [if_pos c3] at H; have c3b0 : decide (x7_1 ≤ (a0.size : Int)) = true := decide_eq_true c3; clear c3
    by_cases c4 : x7_1 = (a0.size : Int)
    ·rw [if_pos c4] at H; have c4b0 : (x7_1 == (a0.size : Int)) = true := beq_iff_eq.mpr c4; have c4b1 : (x7_1 != (a0.size : Int)) = false := bne_eq_false_iff_eq.mpr c4; clear c4
     by_cases c5 : 0 ≤ x6_1
     ·rw [if_pos c5] at H; have c5b0 := eq_true c5; have c5b1 : decide (0 ≤ x6_1) = true := decide_eq_true c5; clear c5
      by_cases c6 : x6_1 ≤ x7_1
      ·rw [if_pos c6] at H; have c6b0 := eq_true c6; have c6b1 : decide (x6_1 ≤ x7_1) = true := decide_eq_true c6; clear c6; have c7b0 := eq_true (of_decide_eq_true z3 : x7_1 ≤ (a0.size : Int))
       by_cases c8 : x5_1.length < 8796093022208
       ·rw [if_pos c8] at H; have LMc8 := Aside0.mk c8; clear c8; obtain ⟨y114, hy114⟩ : ∃ y_ : List ByteArray, y_ = (x5_1 ++ [a0.extract (x6_1 : Int).toNat (x7_1 : Int).toNat]) := ⟨_, rfl⟩; replace H : (spec_l7split.l0 k1 a0 a1 y114 (wrap64 (x7_1 + 1)) (wrap64 (x7_1 + 1))) = some r := by first | (rw [hy114]; with_reducible exact H) | (have H2_ := (Option.bind_some _ _).symm.trans H; rw [hy114]; with_reducible exact H2_) | (have H2_ := (Option.bind_some _ _).symm.trans H; with_reducible exact H2_) | with_reducible exact H | (rw [hy114]; exact H) | exact H
        have Ny114 := Aside0.mk hy114; clear hy114; have H' := Aside0.mk H; clear H; go_wp2_with (first | ((with_reducible refine gate_builtin (b := .append) (xs := #[.tmp 25, .tmp 30]) rfl ?_); at_builtin; refine Kd.R_append Kd.string (w0 := w) w.heap.size rfl (.tmp 25) (.tmp 30) 43 9 (.string ⟨#[]⟩) 16 rfl Tryz.underlying43 info9 rfl (by decide) (by omega) u5 x5_1 (a0.extract (x6_1 : Int).toNat (x7_1 : Int).toNat) [.string (a0.extract (x6_1 : Int).toNat (x7_1 : Int).toNat)] (fun _ => True) (fun _ => False) rfl rfl ?aP (fun _ hk => hk.elim) ?aF ?aO ?aB ?aS ?aL ?_; (case aP => exact rfl); (case aB => exact z0); (case aF => exact (fun _ _ => trivial)); (case aO => exact z59); (case aS => exact (below_size z0)); (case aL => have := LMc8.out; omega); intro v115 w9 ho hb hg hat; rw [← Ny114.out] at ho; replace HB := Aside0.mk (hb); have HO116 := Aside0.mk (ho); clear HO_5; clear ho hb hg hat))
        go_roundg k1
        (case measure => have := HK1.out; omega); case rel => exact ⟨(y114), (wrap64 (x7_1 + 1)), (wrap64 (x7_1 + 1)), z5, z5, H', ⟨z79⟩, ⟨by (with_reducible repeat (first | apply Kd.R_alloc | apply Kd.R_drewN | apply Kd.R_drew)); exact HO116.out⟩, ⟨z0⟩⟩
       ·rw [if_neg c8] at H; exact absurd H (by simp)
      ·rw [if_neg c6] at H; exact absurd H (by simp)
     ·rw [if_neg c5] at H; exact absurd H (by simp)
    ·rw [if_neg c4] at H; have c4b0 : (x7_1 == (a0.size : Int)) = false := beq_eq_false_iff_ne.mpr c4; have c4b1 : (x7_1 != (a0.size : Int)) = true := bne_iff_ne.mpr c4
     by_cases c10 : 0 ≤ x7_1
     ·rw [if_pos c10] at H; have c10b0 : decide (0 ≤ x7_1) = true := decide_eq_true c10; clear c10
      by_cases c11 : x7_1 < (a0.size : Int)
      ·rw [if_pos c11] at H; have c11b0 : decide (x7_1 < (a0.size : Int)) = true := decide_eq_true c11; clear c11
       by_cases c13 : (bt a0 x7_1) = a1
       ·rw [if_pos c13] at H; have c13b0 : ((bt a0 x7_1) == a1) = true := beq_iff_eq.mpr c13; have c13b1 : ((bt a0 x7_1) != a1) = false := bne_eq_false_iff_eq.mpr c13; clear c13
        by_cases c14 : 0 ≤ x6_1
        ·rw [if_pos c14] at H; have c14b0 := eq_true c14; have c14b1 : decide (0 ≤ x6_1) = true := decide_eq_true c14; clear c14
         by_cases c15 : x6_1 ≤ x7_1
         ·rw [if_pos c15] at H; have c15b0 := eq_true c15; have c15b1 : decide (x6_1 ≤ x7_1) = true := decide_eq_true c15; clear c15; have c16b0 := eq_true (of_decide_eq_true z3 : x7_1 ≤ (a0.size : Int))
          by_cases c17 : x5_1.length < 8796093022208
          ·rw [if_pos c17] at H; have LMc17 := Aside0.mk c17; clear c17; obtain ⟨y117, hy117⟩ : ∃ y_ : List ByteArray, y_ = (x5_1 ++ [a0.extract (x6_1 : Int).toNat (x7_1 : Int).toNat]) := ⟨_, rfl⟩; replace H : (spec_l7split.l0 k1 a0 a1 y117 (wrap64 (x7_1 + 1)) (wrap64 (x7_1 + 1))) = some r := by first | (rw [hy117]; with_reducible exact H) | (have H2_ := (Option.bind_some _ _).symm.trans H; rw [hy117]; with_reducible exact H2_) | (have H2_ := (Option.bind_some _ _).symm.trans H; with_reducible exact H2_) | with_reducible exact H | (rw [hy117]; exact H) | exact H
           have Ny117 := Aside0.mk hy117; clear hy117; have H' := Aside0.mk H; clear H; have p12 : 0 ≤ (x7_1 : Int) := of_decide_eq_true z3; have q12 : x7_1 < (a0.size : Int) := of_decide_eq_true z3; have hx12 := bt_at a0 x7_1; replace p12 := eq_true p12; replace q12 := eq_true q12; go_wp2_with (first | ((with_reducible refine gate_builtin (b := .append) (xs := #[.tmp 25, .tmp 30]) rfl ?_); at_builtin; refine Kd.R_append Kd.string (w0 := w) w.heap.size rfl (.tmp 25) (.tmp 30) 43 9 (.string ⟨#[]⟩) 16 rfl Tryz.underlying43 info9 rfl (by decide) (by omega) u5 x5_1 (a0.extract (x6_1 : Int).toNat (x7_1 : Int).toNat) [.string (a0.extract (x6_1 : Int).toNat (x7_1 : Int).toNat)] (fun _ => True) (fun _ => False) rfl rfl ?aP (fun _ hk => hk.elim) ?aF ?aO ?aB ?aS ?aL ?_; (case aP => exact rfl); (case aB => exact z0); (case aF => exact (fun _ _ => trivial)); (case aO => exact z59); (case aS => exact (below_size z0)); (case aL => have := LMc17.out; omega); intro v118 w18 ho hb hg hat; rw [← Ny117.out] at ho; replace HB := Aside0.mk (hb); have HO119 := Aside0.mk (ho); clear HO_5; clear ho hb hg hat))
           go_roundg k1
           (case measure => have := HK1.out; omega); case rel => exact ⟨(y117), (wrap64 (x7_1 + 1)), (wrap64 (x7_1 + 1)), z5, z5, H', ⟨z79⟩, ⟨by (with_reducible repeat (first | apply Kd.R_alloc | apply Kd.R_drewN | apply Kd.R_drew)); exact HO119.out⟩, ⟨z0⟩⟩
          ·rw [if_neg c17] at H; exact absurd H (by simp)
         ·rw [if_neg c15] at H; exact absurd H (by simp)
        ·rw [if_neg c14] at H; exact absurd H (by simp)
       ·rw [if_neg c13] at H; have c13b0 : ((bt a0 x7_1) == a1) = false := beq_eq_false_iff_ne.mpr c13; have c13b1 : ((bt a0 x7_1) != a1) = true := bne_iff_ne.mpr c13; have H' := Aside0.mk H; clear H; have p12 : 0 ≤ (x7_1 : Int) := of_decide_eq_true z3; have q12 : x7_1 < (a0.size : Int) := of_decide_eq_true z3; have hx12 := bt_at a0 x7_1; replace p12 := eq_true p12; replace q12 := eq_true q12; go_wp2
        go_roundg k1
        (case measure => have := HK1.out; omega); case rel => exact ⟨(x5_1), (x6_1), (wrap64 (x7_1 + 1)), z5, z5, H', ⟨z79⟩, ⟨z59⟩, ⟨z0⟩⟩
      ·rw [if_neg c11] at H; exact absurd H (by simp)
     ·rw [if_neg c10] at H; exact absurd H (by simp)
   ·rw [if_neg c3] at H; have c3b0 : decide (x7_1 ≤ (a0.size : Int)) = false := decide_eq_false c3; clear c3; obtain rfl := Option.some.inj H; go_wp2
    go_ret; exact ⟨_, z2, z59, z0⟩

/-! ### spec_l1digit: function 50 -/
def spec_l1digit.f (a0 : Int) : Option (Bool) := if a0 ≥ 48 then (some (decide (a0 ≤ 57))) else (some false)
set_option maxHeartbeats 8000000 in
set_option maxRecDepth 100000 in
theorem spec_l1digit.calls (a0 : Int) (r : Bool) (w : World) (h : spec_l1digit.f a0 = some r) :
  Calls Tryz.prog 50 #[.int .u8 a0] w fun e w' => e = .returned (.bool r) ∧ Drawn0 w w' := by
 have H : (if a0 ≥ 48 then (some (decide (a0 ≤ 57))) else (some false)) = some r := h; clear h
 by_cases c2 : a0 ≥ 48
 ·rw [if_pos c2] at H; have c2b0 : decide (48 ≤ a0) = true := decide_eq_true c2; clear c2; obtain rfl := Option.some.inj H; go_enter Tryz.func50, Tryz.ntmps50
  go_wp2
  go_ret; exact ⟨z5, z13⟩
 ·rw [if_neg c2] at H; have c2b0 : decide (48 ≤ a0) = false := decide_eq_false c2; clear c2; obtain rfl := Option.some.inj H; go_enter Tryz.func50, Tryz.ntmps50
  go_wp2
  go_ret; exact ⟨z5, z13⟩

/-! ### spec_l7host: function 18 -/
mutual
def spec_l7host.j0 : Nat → ByteArray → Bool → Option (Bool)
 | 0, _, _ => none
 | k + 1, x0, x14 => if x14 = true then (some false) else ((spec_l7split.f k x0 46).bind fun t120 => (spec_l7host.l0 k t120 0))
def spec_l7host.l0 : Nat → List ByteArray → Int → Option (Bool)
 | 0, _, _ => none
 | k + 1, x3, x4 => if x4 < (x3.length : Int) then (if 0 ≤ x4 then (if (rdOf ByteArray.empty x3 x4).toList = ([] : List UInt8) then (some false) else (spec_l7host.l1 k x3 x4 0)) else (none)) else (some true)
def spec_l7host.l1 : Nat → List ByteArray → Int → Int → Option (Bool)
 | 0, _, _, _ => none
 | k + 1, x3, x4, x5 => if 0 ≤ x4 then (if x4 < (x3.length : Int) then (if x5 < ((rdOf ByteArray.empty x3 x4).size : Int) then (if 0 ≤ x5 then (if (bt (rdOf ByteArray.empty x3 x4) x5) ≥ 97 then (if ((bt (rdOf ByteArray.empty x3 x4) x5) ≤ 122) then (spec_l7host.l1 k x3 x4 (wrap64 (x5 + 1))) else ((spec_l1digit.f (bt (rdOf ByteArray.empty x3 x4) x5)).bind fun t126 => (if t126 = true then (spec_l7host.l1 k x3 x4 (wrap64 (x5 + 1))) else (if (bt (rdOf ByteArray.empty x3 x4) x5) = 45 then (spec_l7host.l1 k x3 x4 (wrap64 (x5 + 1))) else (some false))))) else ((spec_l1digit.f (bt (rdOf ByteArray.empty x3 x4) x5)).bind fun t127 => (if t127 = true then (spec_l7host.l1 k x3 x4 (wrap64 (x5 + 1))) else (if (bt (rdOf ByteArray.empty x3 x4) x5) = 45 then (spec_l7host.l1 k x3 x4 (wrap64 (x5 + 1))) else (some false))))) else (none)) else (spec_l7host.l0 k x3 (wrap64 (x4 + 1)))) else (none)) else (none)
end
def spec_l7host.f (k : Nat) (a0 : ByteArray) : Option (Bool) := if (a0.size : Int) = 0 then (spec_l7host.j0 k a0 true) else (spec_l7host.j0 k a0 (decide ((a0.size : Int) > 60)))
theorem spec_l7host.mono_l : ∀ k, (∀ y0 y1, LeO (spec_l7host.j0 k y0 y1) (spec_l7host.j0 (k + 1) y0 y1)) ∧ (∀ y0 y1, LeO (spec_l7host.l0 k y0 y1) (spec_l7host.l0 (k + 1) y0 y1)) ∧ (∀ y0 y1 y2, LeO (spec_l7host.l1 k y0 y1 y2) (spec_l7host.l1 (k + 1) y0 y1 y2))
 | 0 => ⟨fun _ _ r h => by simp [spec_l7host.j0] at h, fun _ _ r h => by simp [spec_l7host.l0] at h, fun _ _ _ r h => by simp [spec_l7host.l1] at h⟩
 | k + 1 => by
  obtain ⟨ih0, ih1, ih2⟩ := spec_l7host.mono_l k; refine ⟨?_, ?_, ?_⟩
  ·intro y0 y1; unfold spec_l7host.j0
   repeat' first | (with_reducible first | exact ih0 _ _ | exact ih1 _ _ | exact ih2 _ _ _ | exact spec_l7split.mono _ _ _ | exact LeO.refl _ | exact LeO.none _ | refine LeO.ite ?_ ?_ | refine LeO.bind ?_ (fun _ => ?_)) | exact ih0 _ _ | exact ih1 _ _ | exact ih2 _ _ _ | exact spec_l7split.mono _ _ _ | exact LeO.none _ | refine LeO.ite ?_ ?_ | refine LeO.bind ?_ (fun _ => ?_)
  ·intro y0 y1; unfold spec_l7host.l0
   repeat' first | (with_reducible first | exact ih0 _ _ | exact ih1 _ _ | exact ih2 _ _ _ | exact spec_l7split.mono _ _ _ | exact LeO.refl _ | exact LeO.none _ | refine LeO.ite ?_ ?_ | refine LeO.bind ?_ (fun _ => ?_)) | exact ih0 _ _ | exact ih1 _ _ | exact ih2 _ _ _ | exact spec_l7split.mono _ _ _ | exact LeO.none _ | refine LeO.ite ?_ ?_ | refine LeO.bind ?_ (fun _ => ?_)
  ·intro y0 y1 y2; unfold spec_l7host.l1
   repeat' first | (with_reducible first | exact ih0 _ _ | exact ih1 _ _ | exact ih2 _ _ _ | exact spec_l7split.mono _ _ _ | exact LeO.refl _ | exact LeO.none _ | refine LeO.ite ?_ ?_ | refine LeO.bind ?_ (fun _ => ?_)) | exact ih0 _ _ | exact ih1 _ _ | exact ih2 _ _ _ | exact spec_l7split.mono _ _ _ | exact LeO.none _ | refine LeO.ite ?_ ?_ | refine LeO.bind ?_ (fun _ => ?_)
theorem spec_l7host.mono : ∀ a0 k, LeO (spec_l7host.f k a0) (spec_l7host.f (k + 1) a0) := by
 intro a0 k; obtain ⟨ih0, ih1, ih2⟩ := spec_l7host.mono_l k; unfold spec_l7host.f
 repeat' first | (with_reducible first | exact ih0 _ _ | exact ih1 _ _ | exact ih2 _ _ _ | exact spec_l7split.mono _ _ _ | exact LeO.refl _ | exact LeO.none _ | refine LeO.ite ?_ ?_ | refine LeO.bind ?_ (fun _ => ?_)) | exact ih0 _ _ | exact ih1 _ _ | exact ih2 _ _ _ | exact spec_l7split.mono _ _ _ | exact LeO.none _ | refine LeO.ite ?_ ?_ | refine LeO.bind ?_ (fun _ => ?_)
set_option maxHeartbeats 8000000 in
set_option maxRecDepth 100000 in
theorem spec_l7host.calls (k : Nat) (a0 : ByteArray) (r : Bool) (w : World) (h : spec_l7host.f k a0 = some r) :
  Calls Tryz.prog 18 #[.string a0] w fun e w' => e = .returned (.bool r) ∧ Below w.heap.size w w' := by
 have HB := Aside0.mk (Below.refl w.heap.size w); have H : (if (a0.size : Int) = 0 then (spec_l7host.j0 k a0 true) else (spec_l7host.j0 k a0 (decide ((a0.size : Int) > 60)))) = some r := h; clear h; have HC2 := Aside0.mk H; clear H; go_enter Tryz.func18, Tryz.ntmps18
 go_upto_region 1 with (fail)
 go_cut [14] (fun v14 wc => ∃ (kq : Nat) (x14_1 : Bool), v14 = .bool x14_1 ∧ Aside0 (spec_l7host.j0 kq a0 x14_1 = some r) ∧ Aside0 (kq ≤ k) ∧ Aside0 (Below w.heap.size w wc))
 case first =>
  have H := HC2.out; clear HC2
  by_cases c3 : (a0.size : Int) = 0
  ·rw [if_pos c3] at H; have c3b0 : ((a0.size : Int) == 0) = true := beq_iff_eq.mpr c3; have c3b1 : ((a0.size : Int) != 0) = false := bne_eq_false_iff_eq.mpr c3; clear c3; (first | rw [c3b0] | (simp only [i64_w, i32_w]; rw [c3b0]) | skip); have H' := Aside0.mk H; clear H; go_wp2
   go_meet
   case rel => exact ⟨_, (true), z5, H', ⟨z35⟩, ⟨z0⟩⟩
  ·rw [if_neg c3] at H; have c3b0 : ((a0.size : Int) == 0) = false := beq_eq_false_iff_ne.mpr c3; have c3b1 : ((a0.size : Int) != 0) = true := bne_iff_ne.mpr c3; (first | rw [c3b0] | (simp only [i64_w, i32_w]; rw [c3b0]) | skip); have H' := Aside0.mk H; clear H; go_wp2
   go_meet
   case rel => exact ⟨_, (decide ((a0.size : Int) > 60)), z5, H', ⟨z35⟩, ⟨z0⟩⟩
 case rest =>
  clear HC2; (try clear c1); (try clear p2); (try clear c3); (try clear c3b0); (try clear c3b1); obtain ⟨kq, x14_1, rfl, HA, HJ1, HB⟩ := hcut
  cases kq with
  | zero => exact absurd HA.out (by simp [spec_l7host.j0])
  | succ kj1 =>
   have H := HA.out; clear HA; simp only [spec_l7host.j0] at H
   by_cases c4 : x14_1 = true
   ·subst c4; rw [if_pos rfl] at H; obtain rfl := Option.some.inj H; go_wp2
    go_ret; exact ⟨z2, z0⟩
   ·replace c4 := Bool.eq_false_iff.mpr c4; subst c4; rw [if_neg Bool.false_ne_true] at H; replace H := Option.bind_eq_some_iff.mp H; obtain ⟨t120, A50, H⟩ := H; (try dsimp only at H); have A5 := Aside0.mk A50; clear A50; have H' := Aside0.mk H; clear H; go_wp2_with (first | ((with_reducible refine gate_callee (f := 49) rfl ?_); refine goesQ_ 16 Tryz.func49 #[.string a0, .int .u8 46] ?_; (with_reducible refine (spec_l7split.calls kj1 a0 46 t120 _ A5.out).mono ?_); rintro e w6 ⟨v121, rfl, ho0, hb⟩; refine ⟨_, rfl, ?_⟩; have HO122 := Aside0.mk (Kd.R_lower ho0 (below_size z0)); replace HB := Aside0.mk (below_step z0 hb); (try clear hb); (try clear ho0)))
    go_loopg [4] kj1 (fun kq v4 w' => ∃ (x4_2 : Int), v4 = .int .i64 x4_2 ∧ Aside0 (spec_l7host.l0 kq t120 x4_2 = some r) ∧ Aside0 (kq ≤ kj1) ∧ Aside0 (Kd.R Kd.string 9 w' w.heap.size (fun _ => True) v121 t120) ∧ Aside0 (Below w.heap.size w w'))
    case atStart => exact ⟨(0), z5, H', ⟨Nat.le_refl _⟩, ⟨by (with_reducible repeat (first | apply Kd.R_alloc | apply Kd.R_drewN | apply Kd.R_drew)); exact HO122.out⟩, ⟨z0⟩⟩
    case round =>
     clear H'; (try clear c1); (try clear p2); (try clear c3); (try clear c3b0); (try clear c3b1); (try clear c4); (try clear p2); obtain ⟨x4_2, rfl, HA, HK2, HO_3, HB⟩ := hrel
     cases gk with
     | zero => exact absurd HA.out (by simp [spec_l7host.l0])
     | succ k2 =>
      have H := HA.out; clear HA; simp only [spec_l7host.l0] at H
      by_cases c7 : x4_2 < (t120.length : Int)
      ·rw [if_pos c7] at H; have c7b0 : decide (x4_2 < (t120.length : Int)) = true := decide_eq_true c7; clear c7
       by_cases c8 : 0 ≤ x4_2
       ·rw [if_pos c8] at H; have c8b0 : decide (0 ≤ x4_2) = true := decide_eq_true c8; clear c8
        by_cases c9 : (rdOf ByteArray.empty t120 x4_2).toList = ([] : List UInt8)
        ·rw [if_pos c9] at H; have c9b0 : ((rdOf ByteArray.empty t120 x4_2).toList == ([] : List UInt8)) = true := beq_iff_eq.mpr c9; have c9e : (rdOf ByteArray.empty t120 x4_2).toList.isEmpty = true := by have hz_ := beq_iff_eq.1 c9b0; rw [hz_]; rfl
         (try rw [c9e]); have c9b1 : ((rdOf ByteArray.empty t120 x4_2).toList != ([] : List UInt8)) = false := bne_eq_false_iff_eq.mpr c9; clear c9; obtain rfl := Option.some.inj H; obtain ⟨Ao10, co10, eo10⟩ := Kd.R_slice HO_3.out; subst eo10; have p123 : 0 ≤ (x4_2 : Int) := of_decide_eq_true z3; have q123 : x4_2 < (t120.length : Int) := of_decide_eq_true z3; obtain ⟨ad123, e123, hx123_0⟩ := Kd.at_string (Kd.R_reads' HO_3.out).2.2 x4_2 p123 q123; cases e123; replace p123 := eq_true p123; replace q123 := eq_true q123; go_wp2
         go_ret; exact ⟨z2, z0⟩
        ·rw [if_neg c9] at H; have c9b0 : ((rdOf ByteArray.empty t120 x4_2).toList == ([] : List UInt8)) = false := beq_eq_false_iff_ne.mpr c9; have c9e : (rdOf ByteArray.empty t120 x4_2).toList.isEmpty = false := by cases hz_ : (rdOf ByteArray.empty t120 x4_2).toList with | nil => (rw [hz_] at c9b0; exact absurd c9b0 (by decide)) | cons _ _ => rfl
         (try rw [c9e]); have c9b1 : ((rdOf ByteArray.empty t120 x4_2).toList != ([] : List UInt8)) = true := bne_iff_ne.mpr c9; have H' := Aside0.mk H; clear H; obtain ⟨Ao11, co11, eo11⟩ := Kd.R_slice HO_3.out; subst eo11; have p123 : 0 ≤ (x4_2 : Int) := of_decide_eq_true z3; have q123 : x4_2 < (t120.length : Int) := of_decide_eq_true z3; obtain ⟨ad123, e123, hx123_0⟩ := Kd.at_string (Kd.R_reads' HO_3.out).2.2 x4_2 p123 q123; cases e123; replace p123 := eq_true p123; replace q123 := eq_true q123; go_wp2
         go_loopg [5] k2 (fun kq v5 w' => ∃ (x5_3 : Int), v5 = .int .i64 x5_3 ∧ Aside0 (spec_l7host.l1 kq t120 x4_2 x5_3 = some r) ∧ Aside0 (kq ≤ k2) ∧ Aside0 (Kd.R Kd.string 9 w' w.heap.size (fun _ => True) (.slice (some ad123) t120.length co11) t120) ∧ Aside0 (Below w.heap.size w w'))
         case atStart => exact ⟨(0), z5, H', ⟨Nat.le_refl _⟩, ⟨z19⟩, ⟨z0⟩⟩
         case round =>
          clear H'; (try clear c1); (try clear p1); (try clear q1); (try clear hx1); (try clear p2); (try clear c3); (try clear c3b0); (try clear c3b1); (try clear c4); (try clear c7); (try clear c7b0); (try clear c8); (try clear c8b0); (try clear c9); (try clear c9b0); (try clear c9b1); (try clear hx123_0); (try clear p123); (try clear p2); (try clear q123); obtain ⟨x5_3, rfl, HA, HK3, HO_3, HB⟩ := hrel
          cases gk with
          | zero => exact absurd HA.out (by simp [spec_l7host.l1])
          | succ k3 =>
           have H := HA.out; clear HA; simp only [spec_l7host.l1] at H
           by_cases c12 : 0 ≤ x4_2
           ·rw [if_pos c12] at H; have c12b0 : decide (0 ≤ x4_2) = true := decide_eq_true c12; clear c12
            by_cases c13 : x4_2 < (t120.length : Int)
            ·rw [if_pos c13] at H; have c13b0 : decide (x4_2 < (t120.length : Int)) = true := decide_eq_true c13; clear c13
             by_cases c14 : x5_3 < ((rdOf ByteArray.empty t120 x4_2).size : Int)
             ·rw [if_pos c14] at H; have c14b0 : decide (x5_3 < ((rdOf ByteArray.empty t120 x4_2).size : Int)) = true := decide_eq_true c14; clear c14
              by_cases c15 : 0 ≤ x5_3
              ·rw [if_pos c15] at H; have c15b0 : decide (0 ≤ x5_3) = true := decide_eq_true c15; clear c15
               by_cases c17 : (bt (rdOf ByteArray.empty t120 x4_2) x5_3) ≥ 97
               ·rw [if_pos c17] at H; have c17b0 : decide (97 ≤ (bt (rdOf ByteArray.empty t120 x4_2) x5_3)) = true := decide_eq_true c17; clear c17
                by_cases c18 : ((bt (rdOf ByteArray.empty t120 x4_2) x5_3) ≤ 122)
                ·rw [if_pos c18] at H; have c18b0 : decide ((bt (rdOf ByteArray.empty t120 x4_2) x5_3) ≤ 122) = true := decide_eq_true c18; clear c18; have H' := Aside0.mk H; clear H; have p124 : 0 ≤ (x4_2 : Int) := of_decide_eq_true z3; have q124 : x4_2 < (t120.length : Int) := of_decide_eq_true z3; obtain ⟨ad124, e124, hx124_0⟩ := Kd.at_string (Kd.R_reads' HO_3.out).2.2 x4_2 p124 q124; obtain rfl : ad123 = ad124 := (by injection e124); replace p124 := eq_true p124; replace q124 := eq_true q124; have p125 : 0 ≤ (x4_2 : Int) := of_decide_eq_true z3; have q125 : x4_2 < (t120.length : Int) := of_decide_eq_true z3; obtain ⟨ad125, e125, hx125_0⟩ := Kd.at_string (Kd.R_reads' HO_3.out).2.2 x4_2 p125 q125; obtain rfl : ad123 = ad125 := (by injection e125); replace p125 := eq_true p125; replace q125 := eq_true q125; have p16 : 0 ≤ (x5_3 : Int) := of_decide_eq_true z3; have q16 : x5_3 < ((rdOf ByteArray.empty t120 x4_2).size : Int) := of_decide_eq_true z3; have hx16 := bt_at (rdOf ByteArray.empty t120 x4_2) x5_3; replace p16 := eq_true p16; replace q16 := eq_true q16; go_wp2
                 go_roundg k3
                 (case measure => have := HJ1.out; have := HK2.out; have := HK3.out; omega); case rel => exact ⟨(wrap64 (x5_3 + 1)), z5, H', ⟨z75⟩, ⟨z19⟩, ⟨z0⟩⟩
                ·rw [if_neg c18] at H; have c18b0 : decide ((bt (rdOf ByteArray.empty t120 x4_2) x5_3) ≤ 122) = false := decide_eq_false c18; clear c18; replace H := Option.bind_eq_some_iff.mp H; obtain ⟨t126, A190, H⟩ := H; (try dsimp only at H); have A19 := Aside0.mk A190; clear A190
                 by_cases c20 : t126 = true
                 ·subst c20; rw [if_pos rfl] at H; have H' := Aside0.mk H; clear H; have p124 : 0 ≤ (x4_2 : Int) := of_decide_eq_true z3; have q124 : x4_2 < (t120.length : Int) := of_decide_eq_true z3; obtain ⟨ad124, e124, hx124_0⟩ := Kd.at_string (Kd.R_reads' HO_3.out).2.2 x4_2 p124 q124; obtain rfl : ad123 = ad124 := (by injection e124); replace p124 := eq_true p124; replace q124 := eq_true q124; have p125 : 0 ≤ (x4_2 : Int) := of_decide_eq_true z3; have q125 : x4_2 < (t120.length : Int) := of_decide_eq_true z3; obtain ⟨ad125, e125, hx125_0⟩ := Kd.at_string (Kd.R_reads' HO_3.out).2.2 x4_2 p125 q125; obtain rfl : ad123 = ad125 := (by injection e125); replace p125 := eq_true p125; replace q125 := eq_true q125; have p16 : 0 ≤ (x5_3 : Int) := of_decide_eq_true z3; have q16 : x5_3 < ((rdOf ByteArray.empty t120 x4_2).size : Int) := of_decide_eq_true z3; have hx16 := bt_at (rdOf ByteArray.empty t120 x4_2) x5_3; replace p16 := eq_true p16; replace q16 := eq_true q16; go_wp2_with (first | (go_at_call 50; (with_reducible refine (spec_l1digit.calls (bt (rdOf ByteArray.empty t120 x4_2) x5_3) true _ A19.out).mono ?_); rintro e w' ⟨rfl, ⟨nd, rfl⟩⟩))
                  go_roundg k3
                  (case measure => have := HJ1.out; have := HK2.out; have := HK3.out; omega); case rel => exact ⟨(wrap64 (x5_3 + 1)), z5, H', ⟨z75⟩, ⟨z19⟩, ⟨z0⟩⟩
                 ·replace c20 := Bool.eq_false_iff.mpr c20; subst c20; rw [if_neg Bool.false_ne_true] at H
                  by_cases c21 : (bt (rdOf ByteArray.empty t120 x4_2) x5_3) = 45
                  ·rw [if_pos c21] at H; have c21b0 : ((bt (rdOf ByteArray.empty t120 x4_2) x5_3) == 45) = true := beq_iff_eq.mpr c21; have c21b1 : ((bt (rdOf ByteArray.empty t120 x4_2) x5_3) != 45) = false := bne_eq_false_iff_eq.mpr c21; clear c21; have H' := Aside0.mk H; clear H; have p124 : 0 ≤ (x4_2 : Int) := of_decide_eq_true z3; have q124 : x4_2 < (t120.length : Int) := of_decide_eq_true z3; obtain ⟨ad124, e124, hx124_0⟩ := Kd.at_string (Kd.R_reads' HO_3.out).2.2 x4_2 p124 q124; obtain rfl : ad123 = ad124 := (by injection e124); replace p124 := eq_true p124; replace q124 := eq_true q124; have p125 : 0 ≤ (x4_2 : Int) := of_decide_eq_true z3; have q125 : x4_2 < (t120.length : Int) := of_decide_eq_true z3; obtain ⟨ad125, e125, hx125_0⟩ := Kd.at_string (Kd.R_reads' HO_3.out).2.2 x4_2 p125 q125; obtain rfl : ad123 = ad125 := (by injection e125); replace p125 := eq_true p125; replace q125 := eq_true q125; have p16 : 0 ≤ (x5_3 : Int) := of_decide_eq_true z3; have q16 : x5_3 < ((rdOf ByteArray.empty t120 x4_2).size : Int) := of_decide_eq_true z3; have hx16 := bt_at (rdOf ByteArray.empty t120 x4_2) x5_3; replace p16 := eq_true p16; replace q16 := eq_true q16; go_wp2_with (first | (go_at_call 50; (with_reducible refine (spec_l1digit.calls (bt (rdOf ByteArray.empty t120 x4_2) x5_3) false _ A19.out).mono ?_); rintro e w' ⟨rfl, ⟨nd, rfl⟩⟩))
                   go_roundg k3
                   (case measure => have := HJ1.out; have := HK2.out; have := HK3.out; omega); case rel => exact ⟨(wrap64 (x5_3 + 1)), z5, H', ⟨z75⟩, ⟨z19⟩, ⟨z0⟩⟩
                  ·rw [if_neg c21] at H; have c21b0 : ((bt (rdOf ByteArray.empty t120 x4_2) x5_3) == 45) = false := beq_eq_false_iff_ne.mpr c21; have c21b1 : ((bt (rdOf ByteArray.empty t120 x4_2) x5_3) != 45) = true := bne_iff_ne.mpr c21; obtain rfl := Option.some.inj H; have p124 : 0 ≤ (x4_2 : Int) := of_decide_eq_true z3; have q124 : x4_2 < (t120.length : Int) := of_decide_eq_true z3; obtain ⟨ad124, e124, hx124_0⟩ := Kd.at_string (Kd.R_reads' HO_3.out).2.2 x4_2 p124 q124; obtain rfl : ad123 = ad124 := (by injection e124); replace p124 := eq_true p124; replace q124 := eq_true q124; have p125 : 0 ≤ (x4_2 : Int) := of_decide_eq_true z3; have q125 : x4_2 < (t120.length : Int) := of_decide_eq_true z3; obtain ⟨ad125, e125, hx125_0⟩ := Kd.at_string (Kd.R_reads' HO_3.out).2.2 x4_2 p125 q125; obtain rfl : ad123 = ad125 := (by injection e125); replace p125 := eq_true p125; replace q125 := eq_true q125; have p16 : 0 ≤ (x5_3 : Int) := of_decide_eq_true z3; have q16 : x5_3 < ((rdOf ByteArray.empty t120 x4_2).size : Int) := of_decide_eq_true z3; have hx16 := bt_at (rdOf ByteArray.empty t120 x4_2) x5_3; replace p16 := eq_true p16; replace q16 := eq_true q16; go_wp2_with (first | (go_at_call 50; (with_reducible refine (spec_l1digit.calls (bt (rdOf ByteArray.empty t120 x4_2) x5_3) false _ A19.out).mono ?_); rintro e w' ⟨rfl, ⟨nd, rfl⟩⟩))
                   go_ret; exact ⟨z2, z0⟩
               ·rw [if_neg c17] at H; have c17b0 : decide (97 ≤ (bt (rdOf ByteArray.empty t120 x4_2) x5_3)) = false := decide_eq_false c17; clear c17; replace H := Option.bind_eq_some_iff.mp H; obtain ⟨t127, A220, H⟩ := H; (try dsimp only at H); have A22 := Aside0.mk A220; clear A220
                by_cases c23 : t127 = true
                ·subst c23; rw [if_pos rfl] at H; have H' := Aside0.mk H; clear H; have p124 : 0 ≤ (x4_2 : Int) := of_decide_eq_true z3; have q124 : x4_2 < (t120.length : Int) := of_decide_eq_true z3; obtain ⟨ad124, e124, hx124_0⟩ := Kd.at_string (Kd.R_reads' HO_3.out).2.2 x4_2 p124 q124; obtain rfl : ad123 = ad124 := (by injection e124); replace p124 := eq_true p124; replace q124 := eq_true q124; have p125 : 0 ≤ (x4_2 : Int) := of_decide_eq_true z3; have q125 : x4_2 < (t120.length : Int) := of_decide_eq_true z3; obtain ⟨ad125, e125, hx125_0⟩ := Kd.at_string (Kd.R_reads' HO_3.out).2.2 x4_2 p125 q125; obtain rfl : ad123 = ad125 := (by injection e125); replace p125 := eq_true p125; replace q125 := eq_true q125; have p16 : 0 ≤ (x5_3 : Int) := of_decide_eq_true z3; have q16 : x5_3 < ((rdOf ByteArray.empty t120 x4_2).size : Int) := of_decide_eq_true z3; have hx16 := bt_at (rdOf ByteArray.empty t120 x4_2) x5_3; replace p16 := eq_true p16; replace q16 := eq_true q16; go_wp2_with (first | (go_at_call 50; (with_reducible refine (spec_l1digit.calls (bt (rdOf ByteArray.empty t120 x4_2) x5_3) true _ A22.out).mono ?_); rintro e w' ⟨rfl, ⟨nd, rfl⟩⟩))
                 go_roundg k3
                 (case measure => have := HJ1.out; have := HK2.out; have := HK3.out; omega); case rel => exact ⟨(wrap64 (x5_3 + 1)), z5, H', ⟨z75⟩, ⟨z19⟩, ⟨z0⟩⟩
                ·replace c23 := Bool.eq_false_iff.mpr c23; subst c23; rw [if_neg Bool.false_ne_true] at H
                 by_cases c24 : (bt (rdOf ByteArray.empty t120 x4_2) x5_3) = 45
                 ·rw [if_pos c24] at H; have c24b0 : ((bt (rdOf ByteArray.empty t120 x4_2) x5_3) == 45) = true := beq_iff_eq.mpr c24; have c24b1 : ((bt (rdOf ByteArray.empty t120 x4_2) x5_3) != 45) = false := bne_eq_false_iff_eq.mpr c24; clear c24; have H' := Aside0.mk H; clear H; have p124 : 0 ≤ (x4_2 : Int) := of_decide_eq_true z3; have q124 : x4_2 < (t120.length : Int) := of_decide_eq_true z3; obtain ⟨ad124, e124, hx124_0⟩ := Kd.at_string (Kd.R_reads' HO_3.out).2.2 x4_2 p124 q124; obtain rfl : ad123 = ad124 := (by injection e124); replace p124 := eq_true p124; replace q124 := eq_true q124; have p125 : 0 ≤ (x4_2 : Int) := of_decide_eq_true z3; have q125 : x4_2 < (t120.length : Int) := of_decide_eq_true z3; obtain ⟨ad125, e125, hx125_0⟩ := Kd.at_string (Kd.R_reads' HO_3.out).2.2 x4_2 p125 q125; obtain rfl : ad123 = ad125 := (by injection e125); replace p125 := eq_true p125; replace q125 := eq_true q125; have p16 : 0 ≤ (x5_3 : Int) := of_decide_eq_true z3; have q16 : x5_3 < ((rdOf ByteArray.empty t120 x4_2).size : Int) := of_decide_eq_true z3; have hx16 := bt_at (rdOf ByteArray.empty t120 x4_2) x5_3; replace p16 := eq_true p16; replace q16 := eq_true q16; go_wp2_with (first | (go_at_call 50; (with_reducible refine (spec_l1digit.calls (bt (rdOf ByteArray.empty t120 x4_2) x5_3) false _ A22.out).mono ?_); rintro e w' ⟨rfl, ⟨nd, rfl⟩⟩))
                  go_roundg k3
                  (case measure => have := HJ1.out; have := HK2.out; have := HK3.out; omega); case rel => exact ⟨(wrap64 (x5_3 + 1)), z5, H', ⟨z75⟩, ⟨z19⟩, ⟨z0⟩⟩
                 ·rw [if_neg c24] at H; have c24b0 : ((bt (rdOf ByteArray.empty t120 x4_2) x5_3) == 45) = false := beq_eq_false_iff_ne.mpr c24; have c24b1 : ((bt (rdOf ByteArray.empty t120 x4_2) x5_3) != 45) = true := bne_iff_ne.mpr c24; obtain rfl := Option.some.inj H; have p124 : 0 ≤ (x4_2 : Int) := of_decide_eq_true z3; have q124 : x4_2 < (t120.length : Int) := of_decide_eq_true z3; obtain ⟨ad124, e124, hx124_0⟩ := Kd.at_string (Kd.R_reads' HO_3.out).2.2 x4_2 p124 q124; obtain rfl : ad123 = ad124 := (by injection e124); replace p124 := eq_true p124; replace q124 := eq_true q124; have p125 : 0 ≤ (x4_2 : Int) := of_decide_eq_true z3; have q125 : x4_2 < (t120.length : Int) := of_decide_eq_true z3; obtain ⟨ad125, e125, hx125_0⟩ := Kd.at_string (Kd.R_reads' HO_3.out).2.2 x4_2 p125 q125; obtain rfl : ad123 = ad125 := (by injection e125); replace p125 := eq_true p125; replace q125 := eq_true q125; have p16 : 0 ≤ (x5_3 : Int) := of_decide_eq_true z3; have q16 : x5_3 < ((rdOf ByteArray.empty t120 x4_2).size : Int) := of_decide_eq_true z3; have hx16 := bt_at (rdOf ByteArray.empty t120 x4_2) x5_3; replace p16 := eq_true p16; replace q16 := eq_true q16; go_wp2_with (first | (go_at_call 50; (with_reducible refine (spec_l1digit.calls (bt (rdOf ByteArray.empty t120 x4_2) x5_3) false _ A22.out).mono ?_); rintro e w' ⟨rfl, ⟨nd, rfl⟩⟩))
                  go_ret; exact ⟨z2, z0⟩
              ·rw [if_neg c15] at H; exact absurd H (by simp)
             ·rw [if_neg c14] at H; have c14b0 : decide (x5_3 < ((rdOf ByteArray.empty t120 x4_2).size : Int)) = false := decide_eq_false c14; clear c14; have H' := Aside0.mk H; clear H; have p124 : 0 ≤ (x4_2 : Int) := of_decide_eq_true z3; have q124 : x4_2 < (t120.length : Int) := of_decide_eq_true z3; obtain ⟨ad124, e124, hx124_0⟩ := Kd.at_string (Kd.R_reads' HO_3.out).2.2 x4_2 p124 q124; obtain rfl : ad123 = ad124 := (by injection e124); replace p124 := eq_true p124; replace q124 := eq_true q124; go_wp2
              go_roundg k3
              (case measure => have := HJ1.out; have := HK2.out; have := HK3.out; omega); case rel => exact ⟨(wrap64 (x4_2 + 1)), z5, H', ⟨z75⟩, ⟨z19⟩, ⟨z0⟩⟩
            ·rw [if_neg c13] at H; exact absurd H (by simp)
           ·rw [if_neg c12] at H; exact absurd H (by simp)
       ·rw [if_neg c8] at H; exact absurd H (by simp)
      ·rw [if_neg c7] at H; have c7b0 : decide (x4_2 < (t120.length : Int)) = false := decide_eq_false c7; clear c7; obtain rfl := Option.some.inj H; obtain ⟨Ao25, co25, eo25⟩ := Kd.R_slice HO_3.out; subst eo25; go_wp2
       go_ret; exact ⟨z2, z0⟩

/-! ### spec_l6visible: function 20 -/
def spec_l6visible.l0 : Nat → ByteArray → Int → Option (Bool)
 | 0, _, _ => none
 | k + 1, x0, x3 => if x3 < (x0.size : Int) then (if 0 ≤ x3 then (if (bt x0 x3) < 33 then (some false) else (if (bt x0 x3) > 126 then (some false) else (spec_l6visible.l0 k x0 (wrap64 (x3 + 1))))) else (none)) else (some (decide ((x0.size : Int) > 0)))
def spec_l6visible.f (k : Nat) (a0 : ByteArray) : Option (Bool) := spec_l6visible.l0 k a0 0
theorem spec_l6visible.mono_l : ∀ k, (∀ y0 y1, LeO (spec_l6visible.l0 k y0 y1) (spec_l6visible.l0 (k + 1) y0 y1))
 | 0 => fun _ _ r h => by simp [spec_l6visible.l0] at h
 | k + 1 => by
  have ih0 := spec_l6visible.mono_l k
  ·intro y0 y1; unfold spec_l6visible.l0
   repeat' first | (with_reducible first | exact ih0 _ _ | exact LeO.refl _ | exact LeO.none _ | refine LeO.ite ?_ ?_ | refine LeO.bind ?_ (fun _ => ?_)) | exact ih0 _ _ | exact LeO.none _ | refine LeO.ite ?_ ?_ | refine LeO.bind ?_ (fun _ => ?_)
theorem spec_l6visible.mono : ∀ a0 k, LeO (spec_l6visible.f k a0) (spec_l6visible.f (k + 1) a0) := by
 intro a0 k; have ih0 := spec_l6visible.mono_l k; unfold spec_l6visible.f
 repeat' first | (with_reducible first | exact ih0 _ _ | exact LeO.refl _ | exact LeO.none _ | refine LeO.ite ?_ ?_ | refine LeO.bind ?_ (fun _ => ?_)) | exact ih0 _ _ | exact LeO.none _ | refine LeO.ite ?_ ?_ | refine LeO.bind ?_ (fun _ => ?_)
set_option maxHeartbeats 8000000 in
set_option maxRecDepth 100000 in
theorem spec_l6visible.calls (k : Nat) (a0 : ByteArray) (r : Bool) (w : World) (h : spec_l6visible.f k a0 = some r) :
  Calls Tryz.prog 20 #[.string a0] w fun e w' => e = .returned (.bool r) ∧ Drawn0 w w' := by
 have H : (spec_l6visible.l0 k a0 0) = some r := h; clear h; have H' := Aside0.mk H; clear H; go_enter Tryz.func20, Tryz.ntmps20
 go_wp2
 go_loopg [3] k (fun kq v3 w' => ∃ (x3_1 : Int), v3 = .int .i64 x3_1 ∧ Aside0 (spec_l6visible.l0 kq a0 x3_1 = some r) ∧ Aside0 (kq ≤ k) ∧ Drawn0 w w')
 case atStart => exact ⟨(0), z5, H', ⟨Nat.le_refl _⟩, z13⟩
 case round =>
  clear H'; obtain ⟨x3_1, rfl, HA, HK1, ⟨m1, rfl⟩⟩ := hrel
  cases gk with
  | zero => exact absurd HA.out (by simp [spec_l6visible.l0])
  | succ k1 =>
   have H := HA.out; clear HA; simp only [spec_l6visible.l0] at H
   by_cases c2 : x3_1 < (a0.size : Int)
   ·rw [if_pos c2] at H; have c2b0 : decide (x3_1 < (a0.size : Int)) = true := decide_eq_true c2; clear c2
    by_cases c3 : 0 ≤ x3_1
    ·rw [if_pos c3] at H; have c3b0 : decide (0 ≤ x3_1) = true := decide_eq_true c3; clear c3
     by_cases c5 : (bt a0 x3_1) < 33
     ·rw [if_pos c5] at H; have c5b0 : decide ((bt a0 x3_1) < 33) = true := decide_eq_true c5; clear c5; obtain rfl := Option.some.inj H; have p4 : 0 ≤ (x3_1 : Int) := of_decide_eq_true z3; have q4 : x3_1 < (a0.size : Int) := of_decide_eq_true z3; have hx4 := bt_at a0 x3_1; replace p4 := eq_true p4; replace q4 := eq_true q4; go_wp2
      go_ret; exact ⟨z5, z13⟩
     ·rw [if_neg c5] at H; have c5b0 : decide ((bt a0 x3_1) < 33) = false := decide_eq_false c5; clear c5
      by_cases c7 : (bt a0 x3_1) > 126
      ·rw [if_pos c7] at H; have c7b0 : decide (126 < (bt a0 x3_1)) = true := decide_eq_true c7; clear c7; obtain rfl := Option.some.inj H; have p4 : 0 ≤ (x3_1 : Int) := of_decide_eq_true z3; have q4 : x3_1 < (a0.size : Int) := of_decide_eq_true z3; have hx4 := bt_at a0 x3_1; replace p4 := eq_true p4; replace q4 := eq_true q4; have p6 : 0 ≤ (x3_1 : Int) := of_decide_eq_true z3; have q6 : x3_1 < (a0.size : Int) := of_decide_eq_true z3; have hx6 := bt_at a0 x3_1; replace p6 := eq_true p6; replace q6 := eq_true q6; go_wp2
       go_ret; exact ⟨z5, z13⟩
      ·rw [if_neg c7] at H; have c7b0 : decide (126 < (bt a0 x3_1)) = false := decide_eq_false c7; clear c7; have H' := Aside0.mk H; clear H; have p4 : 0 ≤ (x3_1 : Int) := of_decide_eq_true z3; have q4 : x3_1 < (a0.size : Int) := of_decide_eq_true z3; have hx4 := bt_at a0 x3_1; replace p4 := eq_true p4; replace q4 := eq_true q4; have p6 : 0 ≤ (x3_1 : Int) := of_decide_eq_true z3; have q6 : x3_1 < (a0.size : Int) := of_decide_eq_true z3; have hx6 := bt_at a0 x3_1; replace p6 := eq_true p6; replace q6 := eq_true q6; go_wp2
       go_roundg k1
       (case measure => have := HK1.out; omega); case rel => exact ⟨(wrap64 (x3_1 + 1)), z5, H', ⟨z79⟩, z13⟩
    ·rw [if_neg c3] at H; exact absurd H (by simp)
   ·rw [if_neg c2] at H; have c2b0 : decide (x3_1 < (a0.size : Int)) = false := decide_eq_false c2; clear c2; obtain rfl := Option.some.inj H; go_wp2
    go_ret; exact ⟨z5, z13⟩

/-! ### spec_l1lower: function 100 -/
def spec_l1lower.f (a0 : Int) : Option (Int) := if a0 ≥ 65 then (if a0 ≤ 90 then (some ((a0 + 32) % 256)) else (some a0)) else (some a0)
set_option maxHeartbeats 8000000 in
set_option maxRecDepth 100000 in
theorem spec_l1lower.calls (a0 : Int) (r : Int) (w : World) (h : spec_l1lower.f a0 = some r) :
  Calls Tryz.prog 100 #[.int .u8 a0] w fun e w' => e = .returned (.int .u8 r) ∧ Drawn0 w w' := by
 have H : (if a0 ≥ 65 then (if a0 ≤ 90 then (some ((a0 + 32) % 256)) else (some a0)) else (some a0)) = some r := h; clear h
 by_cases c2 : a0 ≥ 65
 ·rw [if_pos c2] at H; have c2b0 : decide (65 ≤ a0) = true := decide_eq_true c2; clear c2
  by_cases c3 : a0 ≤ 90
  ·rw [if_pos c3] at H; have c3b0 : decide (a0 ≤ 90) = true := decide_eq_true c3; clear c3; obtain rfl := Option.some.inj H; go_enter Tryz.func100, Tryz.ntmps100
   go_wp2
   go_ret; exact ⟨z5, z13⟩
  ·rw [if_neg c3] at H; have c3b0 : decide (a0 ≤ 90) = false := decide_eq_false c3; clear c3; obtain rfl := Option.some.inj H; go_enter Tryz.func100, Tryz.ntmps100
   go_wp2
   go_ret; exact ⟨z5, z13⟩
 ·rw [if_neg c2] at H; have c2b0 : decide (65 ≤ a0) = false := decide_eq_false c2; clear c2; obtain rfl := Option.some.inj H; go_enter Tryz.func100, Tryz.ntmps100
  go_wp2
  go_ret; exact ⟨z5, z13⟩

end Go.Proofs.YtkkolioolgpljaaGreatDoor.GFnUrls
