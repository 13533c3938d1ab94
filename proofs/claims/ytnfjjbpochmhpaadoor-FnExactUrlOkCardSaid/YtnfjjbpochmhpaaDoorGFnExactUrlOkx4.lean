-- Laid by gen.py of this session (over the kit's printing program): what the law FnExactUrlOk reaches, as Lean functions, and that Go comes to just that.
import Derived.Test.YtnfjjbpochmhpaaDoorGFnExactUrlOkx0
import Derived.Test.YtnfjjbpochmhpaaDoorGFnExactUrlOkx1
import Derived.Test.YtnfjjbpochmhpaaDoorZFnExactUrlOk
namespace Go.Proofs.YtnfjjbpochmhpaaDoor.GFnExactUrlOk
open Go.RowKit Go.Proofs.YtnfjjbpochmhpaaDoorW.PrintWords Go.Proofs.YtnfjjbpochmhpaaDoorW.PrintLast Go.Proofs.YtnfjjbpochmhpaaDoorW.PrintMore Go.Proofs.YtnfjjbpochmhpaaDoorW.Zs
attribute [local go_sem] max2_int min2_int max_two min_two max_three min_three max_four min_four   -- for this text's walks alone
set_option linter.unusedVariables false
set_option linter.unusedSimpArgs false

/-! ### spec_l7host: function 65 -/
mutual
def spec_l7host.j0 : Nat → ByteArray → Bool → Option (Bool)
 | 0, _, _ => none
 | k + 1, x0, x14 => if x14 = true then (some false) else ((spec_l7split.f k x0 46).bind fun t154 => (spec_l7host.l0 k t154 0))
def spec_l7host.l0 : Nat → List ByteArray → Int → Option (Bool)
 | 0, _, _ => none
 | k + 1, x3, x4 => if x4 < (x3.length : Int) then (if 0 ≤ x4 then (if (rdOf ByteArray.empty x3 x4).toList = ([] : List UInt8) then (some false) else (spec_l7host.l1 k x3 x4 0)) else (none)) else (some true)
def spec_l7host.l1 : Nat → List ByteArray → Int → Int → Option (Bool)
 | 0, _, _, _ => none
 | k + 1, x3, x4, x5 => if 0 ≤ x4 then (if x4 < (x3.length : Int) then (if x5 < ((rdOf ByteArray.empty x3 x4).size : Int) then (if 0 ≤ x5 then (if (bt (rdOf ByteArray.empty x3 x4) x5) ≥ 97 then (if ((bt (rdOf ByteArray.empty x3 x4) x5) ≤ 122) then (spec_l7host.l1 k x3 x4 (wrap64 (x5 + 1))) else ((spec_l1digit.f (bt (rdOf ByteArray.empty x3 x4) x5)).bind fun t160 => (if t160 = true then (spec_l7host.l1 k x3 x4 (wrap64 (x5 + 1))) else (if (bt (rdOf ByteArray.empty x3 x4) x5) = 45 then (spec_l7host.l1 k x3 x4 (wrap64 (x5 + 1))) else (some false))))) else ((spec_l1digit.f (bt (rdOf ByteArray.empty x3 x4) x5)).bind fun t161 => (if t161 = true then (spec_l7host.l1 k x3 x4 (wrap64 (x5 + 1))) else (if (bt (rdOf ByteArray.empty x3 x4) x5) = 45 then (spec_l7host.l1 k x3 x4 (wrap64 (x5 + 1))) else (some false))))) else (none)) else (spec_l7host.l0 k x3 (wrap64 (x4 + 1)))) else (none)) else (none)
end
def spec_l7host.f (k : Nat) (a0 : ByteArray) : Option (Bool) := if (a0.size : Int) = 0 then (spec_l7host.j0 k a0 true) else (spec_l7host.j0 k a0 (decide ((a0.size : Int) > 60)))
theorem spec_l7host.mono_l : ∀ k, (∀ y0 y1, LeO (spec_l7host.j0 k y0 y1) (spec_l7host.j0 (k + 1) y0 y1)) ∧ (∀ y0 y1, LeO (spec_l7host.l0 k y0 y1) (spec_l7host.l0 (k + 1) y0 y1)) ∧ (∀ y0 y1 y2, LeO (spec_l7host.l1 k y0 y1 y2) (spec_l7host.l1 (k + 1) y0 y1 y2))
 | 0 => ⟨fun _ _ r h => by simp [spec_l7host.j0] at h, fun _ _ r h => by simp [spec_l7host.l0] at h, fun _ _ _ r h => by simp [spec_l7host.l1] at h⟩
 | k + 1 => by
  obtain ⟨ih0, ih1, ih2⟩ := spec_l7host.mono_l k
  refine ⟨?_, ?_, ?_⟩
  ·intro y0 y1
   unfold spec_l7host.j0
   repeat' first | (with_reducible first | exact ih0 _ _ | exact ih1 _ _ | exact ih2 _ _ _ | exact spec_l7split.mono _ _ _ | exact LeO.refl _ | exact LeO.none _ | refine LeO.ite ?_ ?_ | refine LeO.bind ?_ (fun _ => ?_)) | exact ih0 _ _ | exact ih1 _ _ | exact ih2 _ _ _ | exact spec_l7split.mono _ _ _ | exact LeO.none _ | refine LeO.ite ?_ ?_ | refine LeO.bind ?_ (fun _ => ?_)
  ·intro y0 y1
   unfold spec_l7host.l0
   repeat' first | (with_reducible first | exact ih0 _ _ | exact ih1 _ _ | exact ih2 _ _ _ | exact spec_l7split.mono _ _ _ | exact LeO.refl _ | exact LeO.none _ | refine LeO.ite ?_ ?_ | refine LeO.bind ?_ (fun _ => ?_)) | exact ih0 _ _ | exact ih1 _ _ | exact ih2 _ _ _ | exact spec_l7split.mono _ _ _ | exact LeO.none _ | refine LeO.ite ?_ ?_ | refine LeO.bind ?_ (fun _ => ?_)
  ·intro y0 y1 y2
   unfold spec_l7host.l1
   repeat' first | (with_reducible first | exact ih0 _ _ | exact ih1 _ _ | exact ih2 _ _ _ | exact spec_l7split.mono _ _ _ | exact LeO.refl _ | exact LeO.none _ | refine LeO.ite ?_ ?_ | refine LeO.bind ?_ (fun _ => ?_)) | exact ih0 _ _ | exact ih1 _ _ | exact ih2 _ _ _ | exact spec_l7split.mono _ _ _ | exact LeO.none _ | refine LeO.ite ?_ ?_ | refine LeO.bind ?_ (fun _ => ?_)
theorem spec_l7host.mono : ∀ a0 k, LeO (spec_l7host.f k a0) (spec_l7host.f (k + 1) a0) := by
 intro a0 k
 obtain ⟨ih0, ih1, ih2⟩ := spec_l7host.mono_l k
 unfold spec_l7host.f
 repeat' first | (with_reducible first | exact ih0 _ _ | exact ih1 _ _ | exact ih2 _ _ _ | exact spec_l7split.mono _ _ _ | exact LeO.refl _ | exact LeO.none _ | refine LeO.ite ?_ ?_ | refine LeO.bind ?_ (fun _ => ?_)) | exact ih0 _ _ | exact ih1 _ _ | exact ih2 _ _ _ | exact spec_l7split.mono _ _ _ | exact LeO.none _ | refine LeO.ite ?_ ?_ | refine LeO.bind ?_ (fun _ => ?_)
set_option maxHeartbeats 8000000 in
set_option maxRecDepth 100000 in
theorem spec_l7host.calls (k : Nat) (a0 : ByteArray) (r : Bool) (w : World) (h : spec_l7host.f k a0 = some r) :
  Calls Tryd.prog 65 #[.string a0] w fun e w' => e = .returned (.bool r) ∧ Below w.heap.size w w' := by
 have HB := Aside0.mk (Below.refl w.heap.size w)
 have H : (if (a0.size : Int) = 0 then (spec_l7host.j0 k a0 true) else (spec_l7host.j0 k a0 (decide ((a0.size : Int) > 60)))) = some r := h
 clear h
 have HC2 := Aside0.mk H
 clear H
 go_enter Tryd.func65, Tryd.ntmps65
 go_upto_region 1 with (fail)
 go_cut [14] (fun v14 wc => ∃ (kq : Nat) (x14_1 : Bool), v14 = .bool x14_1 ∧ Aside0 (spec_l7host.j0 kq a0 x14_1 = some r) ∧ Aside0 (kq ≤ k) ∧ Aside0 (Below w.heap.size w wc))
 case first =>
  have H := HC2.out
  clear HC2
  by_cases c3 : (a0.size : Int) = 0
  ·rw [if_pos c3] at H
   have c3b0 : ((a0.size : Int) == 0) = true := beq_iff_eq.mpr c3
   have c3b1 : ((a0.size : Int) != 0) = false := bne_eq_false_iff_eq.mpr c3
   clear c3
   (first | rw [c3b0] | (simp only [i64_w, i32_w]; rw [c3b0]) | skip)
   have H' := Aside0.mk H
   clear H
   go_wp2
   go_meet
   case rel => exact ⟨_, (true), z2, H', ⟨z13⟩, ⟨z0⟩⟩
  ·rw [if_neg c3] at H
   have c3b0 : ((a0.size : Int) == 0) = false := beq_eq_false_iff_ne.mpr c3
   have c3b1 : ((a0.size : Int) != 0) = true := bne_iff_ne.mpr c3
   (first | rw [c3b0] | (simp only [i64_w, i32_w]; rw [c3b0]) | skip)
   have H' := Aside0.mk H
   clear H
   go_wp2
   go_meet
   case rel => exact ⟨_, (decide ((a0.size : Int) > 60)), z2, H', ⟨z13⟩, ⟨z0⟩⟩
 case rest =>
  clear HC2
  try clear p2
  try clear c3
  try clear c3b0
  try clear c3b1
  obtain ⟨kq, x14_1, rfl, HA, HJ1, HB⟩ := hcut
  cases kq with
  | zero => exact absurd HA.out (by simp [spec_l7host.j0])
  | succ kj1 =>
   have H := HA.out
   clear HA
   simp only [spec_l7host.j0] at H
   by_cases c4 : x14_1 = true
   ·subst c4
    rw [if_pos rfl] at H
    obtain rfl := Option.some.inj H
    go_wp2
    go_ret
    exact ⟨z4, z0⟩
   ·replace c4 := Bool.eq_false_iff.mpr c4
    subst c4
    rw [if_neg Bool.false_ne_true] at H
    replace H := Option.bind_eq_some_iff.mp H
    obtain ⟨t154, A50, H⟩ := H
    try dsimp only at H
    have A5 := Aside0.mk A50
    clear A50
    have H' := Aside0.mk H
    clear H
    go_wp2_with (first | ((with_reducible refine gate_callee (f := 56) rfl ?_); refine goesQ_ 16 Tryd.func56 #[.string a0, .int .u8 46] ?_; (with_reducible refine (spec_l7split.calls kj1 a0 46 t154 _ A5.out).mono ?_); rintro e w6 ⟨v155, rfl, ho0, hb⟩; refine ⟨_, rfl, ?_⟩; have HO156 := Aside0.mk (Kd.R_lower ho0 (below_size z0)); replace HB := Aside0.mk (below_step z0 hb); (try clear hb); (try clear ho0)))
    go_loopg [4] kj1 (fun kq v4 w' => ∃ (x4_2 : Int), v4 = .int .i64 x4_2 ∧ Aside0 (spec_l7host.l0 kq t154 x4_2 = some r) ∧ Aside0 (kq ≤ kj1) ∧ Aside0 (Kd.R Kd.string 9 w' w.heap.size (fun _ => True) v155 t154) ∧ Aside0 (Below w.heap.size w w'))
    case atStart => exact ⟨(0), z2, H', ⟨Nat.le_refl _⟩, ⟨by (with_reducible repeat (first | apply Kd.R_alloc | apply Kd.R_drewN | apply Kd.R_drew)); exact HO156.out⟩, ⟨z0⟩⟩
    case round =>
     clear H'
     try clear p2
     try clear c3
     try clear c3b0
     try clear c3b1
     try clear c4
     try clear c5
     try clear c6
     try clear p2
     obtain ⟨x4_2, rfl, HA, HK2, HO_3, HB⟩ := hrel
     cases gk with
     | zero => exact absurd HA.out (by simp [spec_l7host.l0])
     | succ k2 =>
      have H := HA.out
      clear HA
      simp only [spec_l7host.l0] at H
      by_cases c7 : x4_2 < (t154.length : Int)
      ·rw [if_pos c7] at H
       have c7b0 : decide (x4_2 < (t154.length : Int)) = true := decide_eq_true c7
       clear c7
       by_cases c8 : 0 ≤ x4_2
       ·rw [if_pos c8] at H
        have c8b0 : decide (0 ≤ x4_2) = true := decide_eq_true c8
        clear c8
        by_cases c9 : (rdOf ByteArray.empty t154 x4_2).toList = ([] : List UInt8)
        ·rw [if_pos c9] at H
         have c9b0 : ((rdOf ByteArray.empty t154 x4_2).toList == ([] : List UInt8)) = true := beq_iff_eq.mpr c9
         have c9e : (rdOf ByteArray.empty t154 x4_2).toList.isEmpty = true := by have hz_ := beq_iff_eq.1 c9b0; rw [hz_]; rfl
         (try rw [c9e])
         have c9b1 : ((rdOf ByteArray.empty t154 x4_2).toList != ([] : List UInt8)) = false := bne_eq_false_iff_eq.mpr c9
         clear c9
         obtain rfl := Option.some.inj H
         obtain ⟨Ao10, co10, eo10⟩ := Kd.R_slice HO_3.out
         subst eo10
         have p157 : 0 ≤ (x4_2 : Int) := of_decide_eq_true z1
         have q157 : x4_2 < (t154.length : Int) := of_decide_eq_true z1
         obtain ⟨ad157, e157, hx157_0⟩ := Kd.at_string (Kd.R_reads' HO_3.out).2.2 x4_2 p157 q157
         cases e157
         replace p157 := eq_true p157
         replace q157 := eq_true q157
         go_wp2
         go_ret
         exact ⟨z4, z0⟩
        ·rw [if_neg c9] at H
         have c9b0 : ((rdOf ByteArray.empty t154 x4_2).toList == ([] : List UInt8)) = false := beq_eq_false_iff_ne.mpr c9
         have c9e : (rdOf ByteArray.empty t154 x4_2).toList.isEmpty = false := by cases hz_ : (rdOf ByteArray.empty t154 x4_2).toList with | nil => (rw [hz_] at c9b0; exact absurd c9b0 (by decide)) | cons _ _ => rfl
         (try rw [c9e])
         have c9b1 : ((rdOf ByteArray.empty t154 x4_2).toList != ([] : List UInt8)) = true := bne_iff_ne.mpr c9
         have H' := Aside0.mk H
         clear H
         obtain ⟨Ao11, co11, eo11⟩ := Kd.R_slice HO_3.out
         subst eo11
         have p157 : 0 ≤ (x4_2 : Int) := of_decide_eq_true z1
         have q157 : x4_2 < (t154.length : Int) := of_decide_eq_true z1
         obtain ⟨ad157, e157, hx157_0⟩ := Kd.at_string (Kd.R_reads' HO_3.out).2.2 x4_2 p157 q157
         cases e157
         replace p157 := eq_true p157
         replace q157 := eq_true q157
         go_wp2
         go_loopg [5] k2 (fun kq v5 w' => ∃ (x5_3 : Int), v5 = .int .i64 x5_3 ∧ Aside0 (spec_l7host.l1 kq t154 x4_2 x5_3 = some r) ∧ Aside0 (kq ≤ k2) ∧ Aside0 (Kd.R Kd.string 9 w' w.heap.size (fun _ => True) (.slice (some ad157) t154.length co11) t154) ∧ Aside0 (Below w.heap.size w w'))
         case atStart => exact ⟨(0), z2, H', ⟨Nat.le_refl _⟩, ⟨z8⟩, ⟨z0⟩⟩
         case round =>
          clear H'
          try clear p1
          try clear q1
          try clear hx1
          try clear p2
          try clear c3
          try clear c3b0
          try clear c3b1
          try clear c4
          try clear c5
          try clear c6
          try clear c7
          try clear c7b0
          try clear c8
          try clear c8b0
          try clear c9
          try clear c9b0
          try clear c9b1
          try clear hx157_0
          try clear p157
          try clear p2
          try clear q157
          obtain ⟨x5_3, rfl, HA, HK3, HO_3, HB⟩ := hrel
          cases gk with
          | zero => exact absurd HA.out (by simp [spec_l7host.l1])
          | succ k3 =>
           have H := HA.out
           clear HA
           simp only [spec_l7host.l1] at H
           by_cases c12 : 0 ≤ x4_2
           ·rw [if_pos c12] at H
            have c12b0 : decide (0 ≤ x4_2) = true := decide_eq_true c12
            clear c12
            by_cases c13 : x4_2 < (t154.length : Int)
            ·rw [if_pos c13] at H
             have c13b0 : decide (x4_2 < (t154.length : Int)) = true := decide_eq_true c13
             clear c13
             by_cases c14 : x5_3 < ((rdOf ByteArray.empty t154 x4_2).size : Int)
             ·rw [if_pos c14] at H
              have c14b0 : decide (x5_3 < ((rdOf ByteArray.empty t154 x4_2).size : Int)) = true := decide_eq_true c14
              clear c14
              by_cases c15 : 0 ≤ x5_3
              ·rw [if_pos c15] at H
               have c15b0 : decide (0 ≤ x5_3) = true := decide_eq_true c15
               clear c15
               by_cases c17 : (bt (rdOf ByteArray.empty t154 x4_2) x5_3) ≥ 97
               ·rw [if_pos c17] at H
                have c17b0 : decide (97 ≤ (bt (rdOf ByteArray.empty t154 x4_2) x5_3)) = true := decide_eq_true c17
                clear c17
                by_cases c18 : ((bt (rdOf ByteArray.empty t154 x4_2) x5_3) ≤ 122)
                ·rw [if_pos c18] at H
                 have c18b0 : decide ((bt (rdOf ByteArray.empty t154 x4_2) x5_3) ≤ 122) = true := decide_eq_true c18
                 clear c18
                 have H' := Aside0.mk H
                 clear H
                 have p158 : 0 ≤ (x4_2 : Int) := of_decide_eq_true z1
                 have q158 : x4_2 < (t154.length : Int) := of_decide_eq_true z1
                 obtain ⟨ad158, e158, hx158_0⟩ := Kd.at_string (Kd.R_reads' HO_3.out).2.2 x4_2 p158 q158
                 obtain rfl : ad157 = ad158 := (by injection e158)
                 replace p158 := eq_true p158
                 replace q158 := eq_true q158
                 have p159 : 0 ≤ (x4_2 : Int) := of_decide_eq_true z1
                 have q159 : x4_2 < (t154.length : Int) := of_decide_eq_true z1
                 obtain ⟨ad159, e159, hx159_0⟩ := Kd.at_string (Kd.R_reads' HO_3.out).2.2 x4_2 p159 q159
                 obtain rfl : ad157 = ad159 := (by injection e159)
                 replace p159 := eq_true p159
                 replace q159 := eq_true q159
                 have p16 : 0 ≤ (x5_3 : Int) := of_decide_eq_true z1
                 have q16 : x5_3 < ((rdOf ByteArray.empty t154 x4_2).size : Int) := of_decide_eq_true z1
                 have hx16 := bt_at (rdOf ByteArray.empty t154 x4_2) x5_3
                 replace p16 := eq_true p16
                 replace q16 := eq_true q16
                 go_wp2
                 go_roundg k3
                 case measure => have := HJ1.out; have := HK2.out; have := HK3.out; omega
                 case rel => exact ⟨(wrap64 (x5_3 + 1)), z2, H', ⟨z30⟩, ⟨z8⟩, ⟨z0⟩⟩
                ·rw [if_neg c18] at H
                 have c18b0 : decide ((bt (rdOf ByteArray.empty t154 x4_2) x5_3) ≤ 122) = false := decide_eq_false c18
                 clear c18
                 replace H := Option.bind_eq_some_iff.mp H
                 obtain ⟨t160, A190, H⟩ := H
                 try dsimp only at H
                 have A19 := Aside0.mk A190
                 clear A190
                 by_cases c20 : t160 = true
                 ·subst c20
                  rw [if_pos rfl] at H
                  have H' := Aside0.mk H
                  clear H
                  have p158 : 0 ≤ (x4_2 : Int) := of_decide_eq_true z1
                  have q158 : x4_2 < (t154.length : Int) := of_decide_eq_true z1
                  obtain ⟨ad158, e158, hx158_0⟩ := Kd.at_string (Kd.R_reads' HO_3.out).2.2 x4_2 p158 q158
                  obtain rfl : ad157 = ad158 := (by injection e158)
                  replace p158 := eq_true p158
                  replace q158 := eq_true q158
                  have p159 : 0 ≤ (x4_2 : Int) := of_decide_eq_true z1
                  have q159 : x4_2 < (t154.length : Int) := of_decide_eq_true z1
                  obtain ⟨ad159, e159, hx159_0⟩ := Kd.at_string (Kd.R_reads' HO_3.out).2.2 x4_2 p159 q159
                  obtain rfl : ad157 = ad159 := (by injection e159)
                  replace p159 := eq_true p159
                  replace q159 := eq_true q159
                  have p16 : 0 ≤ (x5_3 : Int) := of_decide_eq_true z1
                  have q16 : x5_3 < ((rdOf ByteArray.empty t154 x4_2).size : Int) := of_decide_eq_true z1
                  have hx16 := bt_at (rdOf ByteArray.empty t154 x4_2) x5_3
                  replace p16 := eq_true p16
                  replace q16 := eq_true q16
                  go_wp2_with (first | (go_at_call 72; (with_reducible refine (spec_l1digit.calls (bt (rdOf ByteArray.empty t154 x4_2) x5_3) true _ A19.out).mono ?_); rintro e w' ⟨rfl, ⟨nd, rfl⟩⟩))
                  go_roundg k3
                  case measure => have := HJ1.out; have := HK2.out; have := HK3.out; omega
                  case rel => exact ⟨(wrap64 (x5_3 + 1)), z2, H', ⟨z30⟩, ⟨z8⟩, ⟨z0⟩⟩
                 ·replace c20 := Bool.eq_false_iff.mpr c20
                  subst c20
                  rw [if_neg Bool.false_ne_true] at H
                  by_cases c21 : (bt (rdOf ByteArray.empty t154 x4_2) x5_3) = 45
                  ·rw [if_pos c21] at H
                   have c21b0 : ((bt (rdOf ByteArray.empty t154 x4_2) x5_3) == 45) = true := beq_iff_eq.mpr c21
                   have c21b1 : ((bt (rdOf ByteArray.empty t154 x4_2) x5_3) != 45) = false := bne_eq_false_iff_eq.mpr c21
                   clear c21
                   have H' := Aside0.mk H
                   clear H
                   have p158 : 0 ≤ (x4_2 : Int) := of_decide_eq_true z1
                   have q158 : x4_2 < (t154.length : Int) := of_decide_eq_true z1
                   obtain ⟨ad158, e158, hx158_0⟩ := Kd.at_string (Kd.R_reads' HO_3.out).2.2 x4_2 p158 q158
                   obtain rfl : ad157 = ad158 := (by injection e158)
                   replace p158 := eq_true p158
                   replace q158 := eq_true q158
                   have p159 : 0 ≤ (x4_2 : Int) := of_decide_eq_true z1
                   have q159 : x4_2 < (t154.length : Int) := of_decide_eq_true z1
                   obtain ⟨ad159, e159, hx159_0⟩ := Kd.at_string (Kd.R_reads' HO_3.out).2.2 x4_2 p159 q159
                   obtain rfl : ad157 = ad159 := (by injection e159)
                   replace p159 := eq_true p159
                   replace q159 := eq_true q159
                   have p16 : 0 ≤ (x5_3 : Int) := of_decide_eq_true z1
                   have q16 : x5_3 < ((rdOf ByteArray.empty t154 x4_2).size : Int) := of_decide_eq_true z1
                   have hx16 := bt_at (rdOf ByteArray.empty t154 x4_2) x5_3
                   replace p16 := eq_true p16
                   replace q16 := eq_true q16
                   go_wp2_with (first | (go_at_call 72; (with_reducible refine (spec_l1digit.calls (bt (rdOf ByteArray.empty t154 x4_2) x5_3) false _ A19.out).mono ?_); rintro e w' ⟨rfl, ⟨nd, rfl⟩⟩))
                   go_roundg k3
                   case measure => have := HJ1.out; have := HK2.out; have := HK3.out; omega
                   case rel => exact ⟨(wrap64 (x5_3 + 1)), z2, H', ⟨z30⟩, ⟨z8⟩, ⟨z0⟩⟩
                  ·rw [if_neg c21] at H
                   have c21b0 : ((bt (rdOf ByteArray.empty t154 x4_2) x5_3) == 45) = false := beq_eq_false_iff_ne.mpr c21
                   have c21b1 : ((bt (rdOf ByteArray.empty t154 x4_2) x5_3) != 45) = true := bne_iff_ne.mpr c21
                   obtain rfl := Option.some.inj H
                   have p158 : 0 ≤ (x4_2 : Int) := of_decide_eq_true z1
                   have q158 : x4_2 < (t154.length : Int) := of_decide_eq_true z1
                   obtain ⟨ad158, e158, hx158_0⟩ := Kd.at_string (Kd.R_reads' HO_3.out).2.2 x4_2 p158 q158
                   obtain rfl : ad157 = ad158 := (by injection e158)
                   replace p158 := eq_true p158
                   replace q158 := eq_true q158
                   have p159 : 0 ≤ (x4_2 : Int) := of_decide_eq_true z1
                   have q159 : x4_2 < (t154.length : Int) := of_decide_eq_true z1
                   obtain ⟨ad159, e159, hx159_0⟩ := Kd.at_string (Kd.R_reads' HO_3.out).2.2 x4_2 p159 q159
                   obtain rfl : ad157 = ad159 := (by injection e159)
                   replace p159 := eq_true p159
                   replace q159 := eq_true q159
                   have p16 : 0 ≤ (x5_3 : Int) := of_decide_eq_true z1
                   have q16 : x5_3 < ((rdOf ByteArray.empty t154 x4_2).size : Int) := of_decide_eq_true z1
                   have hx16 := bt_at (rdOf ByteArray.empty t154 x4_2) x5_3
                   replace p16 := eq_true p16
                   replace q16 := eq_true q16
                   go_wp2_with (first | (go_at_call 72; (with_reducible refine (spec_l1digit.calls (bt (rdOf ByteArray.empty t154 x4_2) x5_3) false _ A19.out).mono ?_); rintro e w' ⟨rfl, ⟨nd, rfl⟩⟩))
                   go_ret
                   exact ⟨z4, z0⟩
               ·rw [if_neg c17] at H
                have c17b0 : decide (97 ≤ (bt (rdOf ByteArray.empty t154 x4_2) x5_3)) = false := decide_eq_false c17
                clear c17
                replace H := Option.bind_eq_some_iff.mp H
                obtain ⟨t161, A220, H⟩ := H
                try dsimp only at H
                have A22 := Aside0.mk A220
                clear A220
                by_cases c23 : t161 = true
                ·subst c23
                 rw [if_pos rfl] at H
                 have H' := Aside0.mk H
                 clear H
                 have p158 : 0 ≤ (x4_2 : Int) := of_decide_eq_true z1
                 have q158 : x4_2 < (t154.length : Int) := of_decide_eq_true z1
                 obtain ⟨ad158, e158, hx158_0⟩ := Kd.at_string (Kd.R_reads' HO_3.out).2.2 x4_2 p158 q158
                 obtain rfl : ad157 = ad158 := (by injection e158)
                 replace p158 := eq_true p158
                 replace q158 := eq_true q158
                 have p159 : 0 ≤ (x4_2 : Int) := of_decide_eq_true z1
                 have q159 : x4_2 < (t154.length : Int) := of_decide_eq_true z1
                 obtain ⟨ad159, e159, hx159_0⟩ := Kd.at_string (Kd.R_reads' HO_3.out).2.2 x4_2 p159 q159
                 obtain rfl : ad157 = ad159 := (by injection e159)
                 replace p159 := eq_true p159
                 replace q159 := eq_true q159
                 have p16 : 0 ≤ (x5_3 : Int) := of_decide_eq_true z1
                 have q16 : x5_3 < ((rdOf ByteArray.empty t154 x4_2).size : Int) := of_decide_eq_true z1
                 have hx16 := bt_at (rdOf ByteArray.empty t154 x4_2) x5_3
                 replace p16 := eq_true p16
                 replace q16 := eq_true q16
                 go_wp2_with (first | (go_at_call 72; (with_reducible refine (spec_l1digit.calls (bt (rdOf ByteArray.empty t154 x4_2) x5_3) true _ A22.out).mono ?_); rintro e w' ⟨rfl, ⟨nd, rfl⟩⟩))
                 go_roundg k3
                 case measure => have := HJ1.out; have := HK2.out; have := HK3.out; omega
                 case rel => exact ⟨(wrap64 (x5_3 + 1)), z2, H', ⟨z30⟩, ⟨z8⟩, ⟨z0⟩⟩
                ·replace c23 := Bool.eq_false_iff.mpr c23
                 subst c23
                 rw [if_neg Bool.false_ne_true] at H
                 by_cases c24 : (bt (rdOf ByteArray.empty t154 x4_2) x5_3) = 45
                 ·rw [if_pos c24] at H
                  have c24b0 : ((bt (rdOf ByteArray.empty t154 x4_2) x5_3) == 45) = true := beq_iff_eq.mpr c24
                  have c24b1 : ((bt (rdOf ByteArray.empty t154 x4_2) x5_3) != 45) = false := bne_eq_false_iff_eq.mpr c24
                  clear c24
                  have H' := Aside0.mk H
                  clear H
                  have p158 : 0 ≤ (x4_2 : Int) := of_decide_eq_true z1
                  have q158 : x4_2 < (t154.length : Int) := of_decide_eq_true z1
                  obtain ⟨ad158, e158, hx158_0⟩ := Kd.at_string (Kd.R_reads' HO_3.out).2.2 x4_2 p158 q158
                  obtain rfl : ad157 = ad158 := (by injection e158)
                  replace p158 := eq_true p158
                  replace q158 := eq_true q158
                  have p159 : 0 ≤ (x4_2 : Int) := of_decide_eq_true z1
                  have q159 : x4_2 < (t154.length : Int) := of_decide_eq_true z1
                  obtain ⟨ad159, e159, hx159_0⟩ := Kd.at_string (Kd.R_reads' HO_3.out).2.2 x4_2 p159 q159
                  obtain rfl : ad157 = ad159 := (by injection e159)
                  replace p159 := eq_true p159
                  replace q159 := eq_true q159
                  have p16 : 0 ≤ (x5_3 : Int) := of_decide_eq_true z1
                  have q16 : x5_3 < ((rdOf ByteArray.empty t154 x4_2).size : Int) := of_decide_eq_true z1
                  have hx16 := bt_at (rdOf ByteArray.empty t154 x4_2) x5_3
                  replace p16 := eq_true p16
                  replace q16 := eq_true q16
                  go_wp2_with (first | (go_at_call 72; (with_reducible refine (spec_l1digit.calls (bt (rdOf ByteArray.empty t154 x4_2) x5_3) false _ A22.out).mono ?_); rintro e w' ⟨rfl, ⟨nd, rfl⟩⟩))
                  go_roundg k3
                  case measure => have := HJ1.out; have := HK2.out; have := HK3.out; omega
                  case rel => exact ⟨(wrap64 (x5_3 + 1)), z2, H', ⟨z30⟩, ⟨z8⟩, ⟨z0⟩⟩
                 ·rw [if_neg c24] at H
                  have c24b0 : ((bt (rdOf ByteArray.empty t154 x4_2) x5_3) == 45) = false := beq_eq_false_iff_ne.mpr c24
                  have c24b1 : ((bt (rdOf ByteArray.empty t154 x4_2) x5_3) != 45) = true := bne_iff_ne.mpr c24
                  obtain rfl := Option.some.inj H
                  have p158 : 0 ≤ (x4_2 : Int) := of_decide_eq_true z1
                  have q158 : x4_2 < (t154.length : Int) := of_decide_eq_true z1
                  obtain ⟨ad158, e158, hx158_0⟩ := Kd.at_string (Kd.R_reads' HO_3.out).2.2 x4_2 p158 q158
                  obtain rfl : ad157 = ad158 := (by injection e158)
                  replace p158 := eq_true p158
                  replace q158 := eq_true q158
                  have p159 : 0 ≤ (x4_2 : Int) := of_decide_eq_true z1
                  have q159 : x4_2 < (t154.length : Int) := of_decide_eq_true z1
                  obtain ⟨ad159, e159, hx159_0⟩ := Kd.at_string (Kd.R_reads' HO_3.out).2.2 x4_2 p159 q159
                  obtain rfl : ad157 = ad159 := (by injection e159)
                  replace p159 := eq_true p159
                  replace q159 := eq_true q159
                  have p16 : 0 ≤ (x5_3 : Int) := of_decide_eq_true z1
                  have q16 : x5_3 < ((rdOf ByteArray.empty t154 x4_2).size : Int) := of_decide_eq_true z1
                  have hx16 := bt_at (rdOf ByteArray.empty t154 x4_2) x5_3
                  replace p16 := eq_true p16
                  replace q16 := eq_true q16
                  go_wp2_with (first | (go_at_call 72; (with_reducible refine (spec_l1digit.calls (bt (rdOf ByteArray.empty t154 x4_2) x5_3) false _ A22.out).mono ?_); rintro e w' ⟨rfl, ⟨nd, rfl⟩⟩))
                  go_ret
                  exact ⟨z4, z0⟩
              ·rw [if_neg c15] at H
               exact absurd H (by simp)
             ·rw [if_neg c14] at H
              have c14b0 : decide (x5_3 < ((rdOf ByteArray.empty t154 x4_2).size : Int)) = false := decide_eq_false c14
              clear c14
              have H' := Aside0.mk H
              clear H
              have p158 : 0 ≤ (x4_2 : Int) := of_decide_eq_true z1
              have q158 : x4_2 < (t154.length : Int) := of_decide_eq_true z1
              obtain ⟨ad158, e158, hx158_0⟩ := Kd.at_string (Kd.R_reads' HO_3.out).2.2 x4_2 p158 q158
              obtain rfl : ad157 = ad158 := (by injection e158)
              replace p158 := eq_true p158
              replace q158 := eq_true q158
              go_wp2
              go_roundg k3
              case measure => have := HJ1.out; have := HK2.out; have := HK3.out; omega
              case rel => exact ⟨(wrap64 (x4_2 + 1)), z2, H', ⟨z30⟩, ⟨z8⟩, ⟨z0⟩⟩
            ·rw [if_neg c13] at H
             exact absurd H (by simp)
           ·rw [if_neg c12] at H
            exact absurd H (by simp)
       ·rw [if_neg c8] at H
        exact absurd H (by simp)
      ·rw [if_neg c7] at H
       have c7b0 : decide (x4_2 < (t154.length : Int)) = false := decide_eq_false c7
       clear c7
       obtain rfl := Option.some.inj H
       obtain ⟨Ao25, co25, eo25⟩ := Kd.R_slice HO_3.out
       subst eo25
       go_wp2
       go_ret
       exact ⟨z4, z0⟩

/-! ### spec_l6upto: function 66 -/
def spec_l6upto.l0 : Nat → ByteArray → Int → Int → Option (ByteArray)
 | 0, _, _, _ => none
 | k + 1, x0, x1, x5 => if x5 < (x0.size : Int) then (if 0 ≤ x5 then (if (bt x0 x5) = x1 then (if x5 ≤ (x0.size : Int) then (some (x0.extract 0 (x5 : Int).toNat)) else (none)) else (spec_l6upto.l0 k x0 x1 (wrap64 (x5 + 1)))) else (none)) else (some x0)
def spec_l6upto.f (k : Nat) (a0 : ByteArray) (a1 : Int) : Option (ByteArray) := spec_l6upto.l0 k a0 a1 0
theorem spec_l6upto.mono_l : ∀ k, (∀ y0 y1 y2, LeO (spec_l6upto.l0 k y0 y1 y2) (spec_l6upto.l0 (k + 1) y0 y1 y2))
 | 0 => fun _ _ _ r h => by simp [spec_l6upto.l0] at h
 | k + 1 => by
  have ih0 := spec_l6upto.mono_l k
  ·intro y0 y1 y2
   unfold spec_l6upto.l0
   repeat' first | (with_reducible first | exact ih0 _ _ _ | exact LeO.refl _ | exact LeO.none _ | refine LeO.ite ?_ ?_ | refine LeO.bind ?_ (fun _ => ?_)) | exact ih0 _ _ _ | exact LeO.none _ | refine LeO.ite ?_ ?_ | refine LeO.bind ?_ (fun _ => ?_)
theorem spec_l6upto.mono : ∀ a0 a1 k, LeO (spec_l6upto.f k a0 a1) (spec_l6upto.f (k + 1) a0 a1) := by
 intro a0 a1 k
 have ih0 := spec_l6upto.mono_l k
 unfold spec_l6upto.f
 repeat' first | (with_reducible first | exact ih0 _ _ _ | exact LeO.refl _ | exact LeO.none _ | refine LeO.ite ?_ ?_ | refine LeO.bind ?_ (fun _ => ?_)) | exact ih0 _ _ _ | exact LeO.none _ | refine LeO.ite ?_ ?_ | refine LeO.bind ?_ (fun _ => ?_)
set_option maxHeartbeats 8000000 in
set_option maxRecDepth 100000 in
theorem spec_l6upto.calls (k : Nat) (a0 : ByteArray) (a1 : Int) (r : ByteArray) (w : World) (h : spec_l6upto.f k a0 a1 = some r) :
  Calls Tryd.prog 66 #[.string a0, .int .u8 a1] w fun e w' => e = .returned (.string r) ∧ Drawn0 w w' := by
 have H : (spec_l6upto.l0 k a0 a1 0) = some r := h
 clear h
 have H' := Aside0.mk H
 clear H
 go_enter Tryd.func66, Tryd.ntmps66
 go_wp2
 go_loopg [5] k (fun kq v5 w' => ∃ (x5_1 : Int), v5 = .int .i64 x5_1 ∧ Aside0 (spec_l6upto.l0 kq a0 a1 x5_1 = some r) ∧ Aside0 (kq ≤ k) ∧ Drawn0 w w')
 case atStart => exact ⟨(0), z2, H', ⟨Nat.le_refl _⟩, z5⟩
 case round =>
  clear H'
  try clear p2
  obtain ⟨x5_1, rfl, HA, HK1, ⟨m1, rfl⟩⟩ := hrel
  cases gk with
  | zero => exact absurd HA.out (by simp [spec_l6upto.l0])
  | succ k1 =>
   have H := HA.out
   clear HA
   simp only [spec_l6upto.l0] at H
   by_cases c3 : x5_1 < (a0.size : Int)
   ·rw [if_pos c3] at H
    have c3b0 : decide (x5_1 < (a0.size : Int)) = true := decide_eq_true c3
    clear c3
    by_cases c4 : 0 ≤ x5_1
    ·rw [if_pos c4] at H
     have c4b0 : decide (0 ≤ x5_1) = true := decide_eq_true c4
     clear c4
     by_cases c6 : (bt a0 x5_1) = a1
     ·rw [if_pos c6] at H
      have c6b0 : ((bt a0 x5_1) == a1) = true := beq_iff_eq.mpr c6
      have c6b1 : ((bt a0 x5_1) != a1) = false := bne_eq_false_iff_eq.mpr c6
      clear c6
      have c7b0 := eq_true (of_decide_eq_true z1 : 0 ≤ x5_1)
      by_cases c8 : x5_1 ≤ (a0.size : Int)
      ·rw [if_pos c8] at H
       have c8b0 := eq_true c8
       have c8b1 : decide (x5_1 ≤ (a0.size : Int)) = true := decide_eq_true c8
       clear c8
       obtain rfl := Option.some.inj H
       have p5 : 0 ≤ (x5_1 : Int) := of_decide_eq_true z1
       have q5 : x5_1 < (a0.size : Int) := of_decide_eq_true z1
       have hx5 := bt_at a0 x5_1
       replace p5 := eq_true p5
       replace q5 := eq_true q5
       go_wp2
       go_ret
       exact ⟨z2, z5⟩
      ·rw [if_neg c8] at H
       exact absurd H (by simp)
     ·rw [if_neg c6] at H
      have c6b0 : ((bt a0 x5_1) == a1) = false := beq_eq_false_iff_ne.mpr c6
      have c6b1 : ((bt a0 x5_1) != a1) = true := bne_iff_ne.mpr c6
      have H' := Aside0.mk H
      clear H
      have p5 : 0 ≤ (x5_1 : Int) := of_decide_eq_true z1
      have q5 : x5_1 < (a0.size : Int) := of_decide_eq_true z1
      have hx5 := bt_at a0 x5_1
      replace p5 := eq_true p5
      replace q5 := eq_true q5
      go_wp2
      go_roundg k1
      case measure => have := HK1.out; omega
      case rel => exact ⟨(wrap64 (x5_1 + 1)), z2, H', ⟨z40⟩, z5⟩
    ·rw [if_neg c4] at H
     exact absurd H (by simp)
   ·rw [if_neg c3] at H
    have c3b0 : decide (x5_1 < (a0.size : Int)) = false := decide_eq_false c3
    clear c3
    obtain rfl := Option.some.inj H
    go_wp2
    go_ret
    exact ⟨z2, z5⟩

end Go.Proofs.YtnfjjbpochmhpaaDoor.GFnExactUrlOk
