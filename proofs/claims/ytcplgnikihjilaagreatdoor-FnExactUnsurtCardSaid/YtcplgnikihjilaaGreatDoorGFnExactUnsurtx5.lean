-- Laid by gen.py of this session (over the kit's printing program): what the law FnExactUnsurt reaches, as Lean functions, and that Go comes to just that.
import Derived.Test.YtcplgnikihjilaaGreatDoorGFnExactUnsurtx0
import Derived.Test.YtcplgnikihjilaaGreatDoorGFnExactUnsurtx1
import Derived.Test.YtcplgnikihjilaaGreatDoorGFnExactUnsurtx2
import Derived.Test.YtcplgnikihjilaaGreatDoorZFnExactUnsurt
namespace Go.Proofs.YtcplgnikihjilaaGreatDoor.GFnExactUnsurt
open Go.RowKit Go.Proofs.YtcplgnikihjilaaGreatDoorW.PrintWords Go.Proofs.YtcplgnikihjilaaGreatDoorW.PrintLast Go.Proofs.YtcplgnikihjilaaGreatDoorW.PrintMore Go.Proofs.YtcplgnikihjilaaGreatDoorW.Zs
attribute [local go_sem] max2_int min2_int max_two min_two max_three min_three max_four min_four   -- for this text's walks alone
set_option linter.unusedVariables false
set_option linter.unusedSimpArgs false

/-! ### spec_l7host: function 77 -/
mutual
def spec_l7host.j0 : Nat → ByteArray → Bool → Option (Bool)
 | 0, _, _ => none
 | k + 1, x0, x14 => if x14 = true then (some false) else ((spec_l7split.f k x0 46).bind fun t169 => (spec_l7host.l0 k t169 0))
def spec_l7host.l0 : Nat → List ByteArray → Int → Option (Bool)
 | 0, _, _ => none
 | k + 1, x3, x4 => if x4 < (x3.length : Int) then (if 0 ≤ x4 then (if (rdOf ByteArray.empty x3 x4).toList = ([] : List UInt8) then (some false) else (spec_l7host.l1 k x3 x4 0)) else (none)) else (some true)
def spec_l7host.l1 : Nat → List ByteArray → Int → Int → Option (Bool)
 | 0, _, _, _ => none
 | k + 1, x3, x4, x5 => if 0 ≤ x4 then (if x4 < (x3.length : Int) then (if x5 < ((rdOf ByteArray.empty x3 x4).size : Int) then (if 0 ≤ x5 then (if (bt (rdOf ByteArray.empty x3 x4) x5) ≥ 97 then (if ((bt (rdOf ByteArray.empty x3 x4) x5) ≤ 122) then (spec_l7host.l1 k x3 x4 (wrap64 (x5 + 1))) else ((spec_l1digit.f (bt (rdOf ByteArray.empty x3 x4) x5)).bind fun t175 => (if t175 = true then (spec_l7host.l1 k x3 x4 (wrap64 (x5 + 1))) else (if (bt (rdOf ByteArray.empty x3 x4) x5) = 45 then (spec_l7host.l1 k x3 x4 (wrap64 (x5 + 1))) else (some false))))) else ((spec_l1digit.f (bt (rdOf ByteArray.empty x3 x4) x5)).bind fun t176 => (if t176 = true then (spec_l7host.l1 k x3 x4 (wrap64 (x5 + 1))) else (if (bt (rdOf ByteArray.empty x3 x4) x5) = 45 then (spec_l7host.l1 k x3 x4 (wrap64 (x5 + 1))) else (some false))))) else (none)) else (spec_l7host.l0 k x3 (wrap64 (x4 + 1)))) else (none)) else (none)
end
def spec_l7host.f (k : Nat) (a0 : ByteArray) : Option (Bool) := if (a0.size : Int) = 0 then (spec_l7host.j0 k a0 true) else (spec_l7host.j0 k a0 (decide ((a0.size : Int) > 60)))
theorem spec_l7host.mono_l : ∀ k, (∀ y0 y1, LeO (spec_l7host.j0 k y0 y1) (spec_l7host.j0 (k + 1) y0 y1)) ∧ (∀ y0 y1, LeO (spec_l7host.l0 k y0 y1) (spec_l7host.l0 (k + 1) y0 y1)) ∧ (∀ y0 y1 y2, LeO (spec_l7host.l1 k y0 y1 y2) (spec_l7host.l1 (k + 1) y0 y1 y2))
 | 0 => ⟨fun _ _ r h => by simp [spec_l7host.j0] at h, fun _ _ r h => by simp [spec_l7host.l0] at h, fun _ _ _ r h => by simp [spec_l7host.l1] at h⟩
 | k + 1 => by
  obtain ⟨ih0, ih1, ih2⟩ := spec_l7host.mono_l k
  refine ⟨?_, ?_, ?_⟩
  ·intro y0 y1
   unfold spec_l7host.j0
   repeat' first | (with_reducible first | exact ih0 _ _ | exact ih1 _ _ | exact ih2 _ _ _ | exact spec_l7split.mono _ _ _ | exact LeO.refl _ | exact LeO.none _ | refine LeO.ite ?_ ?_ | refine LeO.bind ?_ (fun _ => ?_)) | exact ih0 _ _ | exact ih1 _ _ | exact ih2 _ _ _ | exact spec_l7split.mono _ _ _ | exact LeO.none _ | refine LeO.ite ?_ ?_ | refine LeO.bind ?_ (fun _ => ?_)
  ·intro y0 y1
   unfold spec_l7host.l0
   repeat' first | (with_reducible first | exact ih0 _ _ | exact ih1 _ _ | exact ih2 _ _ _ | exact spec_l7split.mono _ _ _ | exact LeO.refl _ | exact LeO.none _ | refine LeO.ite ?_ ?_ | refine LeO.bind ?_ (fun _ => ?_)) | exact ih0 _ _ | exact ih1 _ _ | exact ih2 _ _ _ | exact spec_l7split.mono _ _ _ | exact LeO.none _ | refine LeO.ite ?_ ?_ | refine LeO.bind ?_ (fun _ => ?_)
  ·intro y0 y1 y2
   unfold spec_l7host.l1
   repeat' first | (with_reducible first | exact ih0 _ _ | exact ih1 _ _ | exact ih2 _ _ _ | exact spec_l7split.mono _ _ _ | exact LeO.refl _ | exact LeO.none _ | refine LeO.ite ?_ ?_ | refine LeO.bind ?_ (fun _ => ?_)) | exact ih0 _ _ | exact ih1 _ _ | exact ih2 _ _ _ | exact spec_l7split.mono _ _ _ | exact LeO.none _ | refine LeO.ite ?_ ?_ | refine LeO.bind ?_ (fun _ => ?_)
theorem spec_l7host.mono : ∀ a0 k, LeO (spec_l7host.f k a0) (spec_l7host.f (k + 1) a0) := by
 intro a0 k
 obtain ⟨ih0, ih1, ih2⟩ := spec_l7host.mono_l k
 unfold spec_l7host.f
 repeat' first | (with_reducible first | exact ih0 _ _ | exact ih1 _ _ | exact ih2 _ _ _ | exact spec_l7split.mono _ _ _ | exact LeO.refl _ | exact LeO.none _ | refine LeO.ite ?_ ?_ | refine LeO.bind ?_ (fun _ => ?_)) | exact ih0 _ _ | exact ih1 _ _ | exact ih2 _ _ _ | exact spec_l7split.mono _ _ _ | exact LeO.none _ | refine LeO.ite ?_ ?_ | refine LeO.bind ?_ (fun _ => ?_)
set_option maxHeartbeats 8000000 in
set_option maxRecDepth 100000 in
theorem spec_l7host.calls (k : Nat) (a0 : ByteArray) (r : Bool) (w : World) (h : spec_l7host.f k a0 = some r) :
  Calls Tryz.prog 77 #[.string a0] w fun e w' => e = .returned (.bool r) ∧ Below w.heap.size w w' := by
 have HB := Aside0.mk (Below.refl w.heap.size w)
 have H : (if (a0.size : Int) = 0 then (spec_l7host.j0 k a0 true) else (spec_l7host.j0 k a0 (decide ((a0.size : Int) > 60)))) = some r := h
 clear h
 have HC2 := Aside0.mk H
 clear H
 go_enter Tryz.func77, Tryz.ntmps77
 go_upto_region 1 with (fail)
 go_cut [14] (fun v14 wc => ∃ (kq : Nat) (x14_1 : Bool), v14 = .bool x14_1 ∧ Aside0 (spec_l7host.j0 kq a0 x14_1 = some r) ∧ Aside0 (kq ≤ k) ∧ Aside0 (Below w.heap.size w wc))
 case first =>
  have H := HC2.out
  clear HC2
  by_cases c3 : (a0.size : Int) = 0
  ·rw [if_pos c3] at H
   have c3b0 : ((a0.size : Int) == 0) = true := beq_iff_eq.mpr c3
   have c3b1 : ((a0.size : Int) != 0) = false := bne_eq_false_iff_eq.mpr c3
   clear c3
   (first | rw [c3b0] | (simp only [i64_w, i32_w]; rw [c3b0]) | skip)
   have H' := Aside0.mk H
   clear H
   go_wp2
   go_meet
   case rel => exact ⟨_, (true), z2, H', ⟨z28⟩, ⟨z0⟩⟩
  ·rw [if_neg c3] at H
   have c3b0 : ((a0.size : Int) == 0) = false := beq_eq_false_iff_ne.mpr c3
   have c3b1 : ((a0.size : Int) != 0) = true := bne_iff_ne.mpr c3
   (first | rw [c3b0] | (simp only [i64_w, i32_w]; rw [c3b0]) | skip)
   have H' := Aside0.mk H
   clear H
   go_wp2
   go_meet
   case rel => exact ⟨_, (decide ((a0.size : Int) > 60)), z2, H', ⟨z28⟩, ⟨z0⟩⟩
 case rest =>
  clear HC2
  try clear p2
  try clear c3
  try clear c3b0
  try clear c3b1
  obtain ⟨kq, x14_1, rfl, HA, HJ1, HB⟩ := hcut
  cases kq with
  | zero => exact absurd HA.out (by simp [spec_l7host.j0])
  | succ kj1 =>
   have H := HA.out
   clear HA
   simp only [spec_l7host.j0] at H
   by_cases c4 : x14_1 = true
   ·subst c4
    rw [if_pos rfl] at H
    obtain rfl := Option.some.inj H
    go_wp2
    go_ret
    exact ⟨z4, z0⟩
   ·replace c4 := Bool.eq_false_iff.mpr c4
    subst c4
    rw [if_neg Bool.false_ne_true] at H
    replace H := Option.bind_eq_some_iff.mp H
    obtain ⟨t169, A50, H⟩ := H
    try dsimp only at H
    have A5 := Aside0.mk A50
    clear A50
    have H' := Aside0.mk H
    clear H
    go_wp2_with (first | ((with_reducible refine gate_callee (f := 60) rfl ?_); refine goesQ_ 16 Tryz.func60 #[.string a0, .int .u8 46] ?_; (with_reducible refine (spec_l7split.calls kj1 a0 46 t169 _ A5.out).mono ?_); rintro e w6 ⟨v170, rfl, ho0, hb⟩; refine ⟨_, rfl, ?_⟩; have HO171 := Aside0.mk (Kd.R_lower ho0 (below_size z0)); replace HB := Aside0.mk (below_step z0 hb); (try clear hb); (try clear ho0)))
    go_loopg [4] kj1 (fun kq v4 w' => ∃ (x4_2 : Int), v4 = .int .i64 x4_2 ∧ Aside0 (spec_l7host.l0 kq t169 x4_2 = some r) ∧ Aside0 (kq ≤ kj1) ∧ Aside0 (Kd.R Kd.string 9 w' w.heap.size (fun _ => True) v170 t169) ∧ Aside0 (Below w.heap.size w w'))
    case atStart => exact ⟨(0), z2, H', ⟨Nat.le_refl _⟩, ⟨by (with_reducible repeat (first | apply Kd.R_alloc | apply Kd.R_drewN | apply Kd.R_drew)); exact HO171.out⟩, ⟨z0⟩⟩
    case round =>
     clear H'
     try clear p2
     try clear c3
     try clear c3b0
     try clear c3b1
     try clear c4
     try clear c6
     try clear p2
     obtain ⟨x4_2, rfl, HA, HK2, HO_3, HB⟩ := hrel
     cases gk with
     | zero => exact absurd HA.out (by simp [spec_l7host.l0])
     | succ k2 =>
      have H := HA.out
      clear HA
      simp only [spec_l7host.l0] at H
      by_cases c7 : x4_2 < (t169.length : Int)
      ·rw [if_pos c7] at H
       have c7b0 : decide (x4_2 < (t169.length : Int)) = true := decide_eq_true c7
       clear c7
       by_cases c8 : 0 ≤ x4_2
       ·rw [if_pos c8] at H
        have c8b0 : decide (0 ≤ x4_2) = true := decide_eq_true c8
        clear c8
        by_cases c9 : (rdOf ByteArray.empty t169 x4_2).toList = ([] : List UInt8)
        ·rw [if_pos c9] at H
         have c9b0 : ((rdOf ByteArray.empty t169 x4_2).toList == ([] : List UInt8)) = true := beq_iff_eq.mpr c9
         have c9e : (rdOf ByteArray.empty t169 x4_2).toList.isEmpty = true := by have hz_ := beq_iff_eq.1 c9b0; rw [hz_]; rfl
         (try rw [c9e])
         have c9b1 : ((rdOf ByteArray.empty t169 x4_2).toList != ([] : List UInt8)) = false := bne_eq_false_iff_eq.mpr c9
         clear c9
         obtain rfl := Option.some.inj H
         obtain ⟨Ao10, co10, eo10⟩ := Kd.R_slice HO_3.out
         subst eo10
         have p172 : 0 ≤ (x4_2 : Int) := of_decide_eq_true z1
         have q172 : x4_2 < (t169.length : Int) := of_decide_eq_true z1
         obtain ⟨ad172, e172, hx172_0⟩ := Kd.at_string (Kd.R_reads' HO_3.out).2.2 x4_2 p172 q172
         cases e172
         replace p172 := eq_true p172
         replace q172 := eq_true q172
         go_wp2
         go_ret
         exact ⟨z4, z0⟩
        ·rw [if_neg c9] at H
         have c9b0 : ((rdOf ByteArray.empty t169 x4_2).toList == ([] : List UInt8)) = false := beq_eq_false_iff_ne.mpr c9
         have c9e : (rdOf ByteArray.empty t169 x4_2).toList.isEmpty = false := by cases hz_ : (rdOf ByteArray.empty t169 x4_2).toList with | nil => (rw [hz_] at c9b0; exact absurd c9b0 (by decide)) | cons _ _ => rfl
         (try rw [c9e])
         have c9b1 : ((rdOf ByteArray.empty t169 x4_2).toList != ([] : List UInt8)) = true := bne_iff_ne.mpr c9
         have H' := Aside0.mk H
         clear H
         obtain ⟨Ao11, co11, eo11⟩ := Kd.R_slice HO_3.out
         subst eo11
         have p172 : 0 ≤ (x4_2 : Int) := of_decide_eq_true z1
         have q172 : x4_2 < (t169.length : Int) := of_decide_eq_true z1
         obtain ⟨ad172, e172, hx172_0⟩ := Kd.at_string (Kd.R_reads' HO_3.out).2.2 x4_2 p172 q172
         cases e172
         replace p172 := eq_true p172
         replace q172 := eq_true q172
         go_wp2
         go_loopg [5] k2 (fun kq v5 w' => ∃ (x5_3 : Int), v5 = .int .i64 x5_3 ∧ Aside0 (spec_l7host.l1 kq t169 x4_2 x5_3 = some r) ∧ Aside0 (kq ≤ k2) ∧ Aside0 (Kd.R Kd.string 9 w' w.heap.size (fun _ => True) (.slice (some ad172) t169.length co11) t169) ∧ Aside0 (Below w.heap.size w w'))
         case atStart => exact ⟨(0), z2, H', ⟨Nat.le_refl _⟩, ⟨z11⟩, ⟨z0⟩⟩
         case round =>
          clear H'
          try clear p1
          try clear q1
          try clear hx1
          try clear p2
          try clear c3
          try clear c3b0
          try clear c3b1
          try clear c4
          try clear c6
          try clear c7
          try clear c7b0
          try clear c8
          try clear c8b0
          try clear c9
          try clear c9b0
          try clear c9b1
          try clear hx172_0
          try clear p172
          try clear p2
          try clear q172
          obtain ⟨x5_3, rfl, HA, HK3, HO_3, HB⟩ := hrel
          cases gk with
          | zero => exact absurd HA.out (by simp [spec_l7host.l1])
          | succ k3 =>
           have H := HA.out
           clear HA
           simp only [spec_l7host.l1] at H
           by_cases c12 : 0 ≤ x4_2
           ·rw [if_pos c12] at H
            have c12b0 : decide (0 ≤ x4_2) = true := decide_eq_true c12
            clear c12
            by_cases c13 : x4_2 < (t169.length : Int)
            ·rw [if_pos c13] at H
             have c13b0 : decide (x4_2 < (t169.length : Int)) = true := decide_eq_true c13
             clear c13
             by_cases c14 : x5_3 < ((rdOf ByteArray.empty t169 x4_2).size : Int)
             ·rw [if_pos c14] at H
              have c14b0 : decide (x5_3 < ((rdOf ByteArray.empty t169 x4_2).size : Int)) = true := decide_eq_true c14
              clear c14
              by_cases c15 : 0 ≤ x5_3
              ·rw [if_pos c15] at H
               have c15b0 : decide (0 ≤ x5_3) = true := decide_eq_true c15
               clear c15
               by_cases c17 : (bt (rdOf ByteArray.empty t169 x4_2) x5_3) ≥ 97
               ·rw [if_pos c17] at H
                have c17b0 : decide (97 ≤ (bt (rdOf ByteArray.empty t169 x4_2) x5_3)) = true := decide_eq_true c17
                clear c17
                by_cases c18 : ((bt (rdOf ByteArray.empty t169 x4_2) x5_3) ≤ 122)
                ·rw [if_pos c18] at H
                 have c18b0 : decide ((bt (rdOf ByteArray.empty t169 x4_2) x5_3) ≤ 122) = true := decide_eq_true c18
                 clear c18
                 have H' := Aside0.mk H
                 clear H
                 have p173 : 0 ≤ (x4_2 : Int) := of_decide_eq_true z1
                 have q173 : x4_2 < (t169.length : Int) := of_decide_eq_true z1
                 obtain ⟨ad173, e173, hx173_0⟩ := Kd.at_string (Kd.R_reads' HO_3.out).2.2 x4_2 p173 q173
                 obtain rfl : ad172 = ad173 := (by injection e173)
                 replace p173 := eq_true p173
                 replace q173 := eq_true q173
                 have p174 : 0 ≤ (x4_2 : Int) := of_decide_eq_true z1
                 have q174 : x4_2 < (t169.length : Int) := of_decide_eq_true z1
                 obtain ⟨ad174, e174, hx174_0⟩ := Kd.at_string (Kd.R_reads' HO_3.out).2.2 x4_2 p174 q174
                 obtain rfl : ad172 = ad174 := (by injection e174)
                 replace p174 := eq_true p174
                 replace q174 := eq_true q174
                 have p16 : 0 ≤ (x5_3 : Int) := of_decide_eq_true z1
                 have q16 : x5_3 < ((rdOf ByteArray.empty t169 x4_2).size : Int) := of_decide_eq_true z1
                 have hx16 := bt_at (rdOf ByteArray.empty t169 x4_2) x5_3
                 replace p16 := eq_true p16
                 replace q16 := eq_true q16
                 go_wp2
                 go_roundg k3
                 case measure => have := HJ1.out; have := HK2.out; have := HK3.out; omega
                 case rel => exact ⟨(wrap64 (x5_3 + 1)), z2, H', ⟨z59⟩, ⟨z11⟩, ⟨z0⟩⟩
                ·rw [if_neg c18] at H
                 have c18b0 : decide ((bt (rdOf ByteArray.empty t169 x4_2) x5_3) ≤ 122) = false := decide_eq_false c18
                 clear c18
                 replace H := Option.bind_eq_some_iff.mp H
                 obtain ⟨t175, A190, H⟩ := H
                 try dsimp only at H
                 have A19 := Aside0.mk A190
                 clear A190
                 by_cases c20 : t175 = true
                 ·subst c20
                  rw [if_pos rfl] at H
                  have H' := Aside0.mk H
                  clear H
                  have p173 : 0 ≤ (x4_2 : Int) := of_decide_eq_true z1
                  have q173 : x4_2 < (t169.length : Int) := of_decide_eq_true z1
                  obtain ⟨ad173, e173, hx173_0⟩ := Kd.at_string (Kd.R_reads' HO_3.out).2.2 x4_2 p173 q173
                  obtain rfl : ad172 = ad173 := (by injection e173)
                  replace p173 := eq_true p173
                  replace q173 := eq_true q173
                  have p174 : 0 ≤ (x4_2 : Int) := of_decide_eq_true z1
                  have q174 : x4_2 < (t169.length : Int) := of_decide_eq_true z1
                  obtain ⟨ad174, e174, hx174_0⟩ := Kd.at_string (Kd.R_reads' HO_3.out).2.2 x4_2 p174 q174
                  obtain rfl : ad172 = ad174 := (by injection e174)
                  replace p174 := eq_true p174
                  replace q174 := eq_true q174
                  have p16 : 0 ≤ (x5_3 : Int) := of_decide_eq_true z1
                  have q16 : x5_3 < ((rdOf ByteArray.empty t169 x4_2).size : Int) := of_decide_eq_true z1
                  have hx16 := bt_at (rdOf ByteArray.empty t169 x4_2) x5_3
                  replace p16 := eq_true p16
                  replace q16 := eq_true q16
                  go_wp2_with (first | (go_at_call 75; (with_reducible refine (spec_l1digit.calls (bt (rdOf ByteArray.empty t169 x4_2) x5_3) true _ A19.out).mono ?_); rintro e w' ⟨rfl, ⟨nd, rfl⟩⟩))
                  go_roundg k3
                  case measure => have := HJ1.out; have := HK2.out; have := HK3.out; omega
                  case rel => exact ⟨(wrap64 (x5_3 + 1)), z2, H', ⟨z59⟩, ⟨z11⟩, ⟨z0⟩⟩
                 ·replace c20 := Bool.eq_false_iff.mpr c20
                  subst c20
                  rw [if_neg Bool.false_ne_true] at H
                  by_cases c21 : (bt (rdOf ByteArray.empty t169 x4_2) x5_3) = 45
                  ·rw [if_pos c21] at H
                   have c21b0 : ((bt (rdOf ByteArray.empty t169 x4_2) x5_3) == 45) = true := beq_iff_eq.mpr c21
                   have c21b1 : ((bt (rdOf ByteArray.empty t169 x4_2) x5_3) != 45) = false := bne_eq_false_iff_eq.mpr c21
                   clear c21
                   have H' := Aside0.mk H
                   clear H
                   have p173 : 0 ≤ (x4_2 : Int) := of_decide_eq_true z1
                   have q173 : x4_2 < (t169.length : Int) := of_decide_eq_true z1
                   obtain ⟨ad173, e173, hx173_0⟩ := Kd.at_string (Kd.R_reads' HO_3.out).2.2 x4_2 p173 q173
                   obtain rfl : ad172 = ad173 := (by injection e173)
                   replace p173 := eq_true p173
                   replace q173 := eq_true q173
                   have p174 : 0 ≤ (x4_2 : Int) := of_decide_eq_true z1
                   have q174 : x4_2 < (t169.length : Int) := of_decide_eq_true z1
                   obtain ⟨ad174, e174, hx174_0⟩ := Kd.at_string (Kd.R_reads' HO_3.out).2.2 x4_2 p174 q174
                   obtain rfl : ad172 = ad174 := (by injection e174)
                   replace p174 := eq_true p174
                   replace q174 := eq_true q174
                   have p16 : 0 ≤ (x5_3 : Int) := of_decide_eq_true z1
                   have q16 : x5_3 < ((rdOf ByteArray.empty t169 x4_2).size : Int) := of_decide_eq_true z1
                   have hx16 := bt_at (rdOf ByteArray.empty t169 x4_2) x5_3
                   replace p16 := eq_true p16
                   replace q16 := eq_true q16
                   go_wp2_with (first | (go_at_call 75; (with_reducible refine (spec_l1digit.calls (bt (rdOf ByteArray.empty t169 x4_2) x5_3) false _ A19.out).mono ?_); rintro e w' ⟨rfl, ⟨nd, rfl⟩⟩))
                   go_roundg k3
                   case measure => have := HJ1.out; have := HK2.out; have := HK3.out; omega
                   case rel => exact ⟨(wrap64 (x5_3 + 1)), z2, H', ⟨z59⟩, ⟨z11⟩, ⟨z0⟩⟩
                  ·rw [if_neg c21] at H
                   have c21b0 : ((bt (rdOf ByteArray.empty t169 x4_2) x5_3) == 45) = false := beq_eq_false_iff_ne.mpr c21
                   have c21b1 : ((bt (rdOf ByteArray.empty t169 x4_2) x5_3) != 45) = true := bne_iff_ne.mpr c21
                   obtain rfl := Option.some.inj H
                   have p173 : 0 ≤ (x4_2 : Int) := of_decide_eq_true z1
                   have q173 : x4_2 < (t169.length : Int) := of_decide_eq_true z1
                   obtain ⟨ad173, e173, hx173_0⟩ := Kd.at_string (Kd.R_reads' HO_3.out).2.2 x4_2 p173 q173
                   obtain rfl : ad172 = ad173 := (by injection e173)
                   replace p173 := eq_true p173
                   replace q173 := eq_true q173
                   have p174 : 0 ≤ (x4_2 : Int) := of_decide_eq_true z1
                   have q174 : x4_2 < (t169.length : Int) := of_decide_eq_true z1
                   obtain ⟨ad174, e174, hx174_0⟩ := Kd.at_string (Kd.R_reads' HO_3.out).2.2 x4_2 p174 q174
                   obtain rfl : ad172 = ad174 := (by injection e174)
                   replace p174 := eq_true p174
                   replace q174 := eq_true q174
                   have p16 : 0 ≤ (x5_3 : Int) := of_decide_eq_true z1
                   have q16 : x5_3 < ((rdOf ByteArray.empty t169 x4_2).size : Int) := of_decide_eq_true z1
                   have hx16 := bt_at (rdOf ByteArray.empty t169 x4_2) x5_3
                   replace p16 := eq_true p16
                   replace q16 := eq_true q16
                   go_wp2_with (first | (go_at_call 75; (with_reducible refine (spec_l1digit.calls (bt (rdOf ByteArray.empty t169 x4_2) x5_3) false _ A19.out).mono ?_); rintro e w' ⟨rfl, ⟨nd, rfl⟩⟩))
                   go_ret
                   exact ⟨z4, z0⟩
               ·rw [if_neg c17] at H
                have c17b0 : decide (97 ≤ (bt (rdOf ByteArray.empty t169 x4_2) x5_3)) = false := decide_eq_false c17
                clear c17
                replace H := Option.bind_eq_some_iff.mp H
                obtain ⟨t176, A220, H⟩ := H
                try dsimp only at H
                have A22 := Aside0.mk A220
                clear A220
                by_cases c23 : t176 = true
                ·subst c23
                 rw [if_pos rfl] at H
                 have H' := Aside0.mk H
                 clear H
                 have p173 : 0 ≤ (x4_2 : Int) := of_decide_eq_true z1
                 have q173 : x4_2 < (t169.length : Int) := of_decide_eq_true z1
                 obtain ⟨ad173, e173, hx173_0⟩ := Kd.at_string (Kd.R_reads' HO_3.out).2.2 x4_2 p173 q173
                 obtain rfl : ad172 = ad173 := (by injection e173)
                 replace p173 := eq_true p173
                 replace q173 := eq_true q173
                 have p174 : 0 ≤ (x4_2 : Int) := of_decide_eq_true z1
                 have q174 : x4_2 < (t169.length : Int) := of_decide_eq_true z1
                 obtain ⟨ad174, e174, hx174_0⟩ := Kd.at_string (Kd.R_reads' HO_3.out).2.2 x4_2 p174 q174
                 obtain rfl : ad172 = ad174 := (by injection e174)
                 replace p174 := eq_true p174
                 replace q174 := eq_true q174
                 have p16 : 0 ≤ (x5_3 : Int) := of_decide_eq_true z1
                 have q16 : x5_3 < ((rdOf ByteArray.empty t169 x4_2).size : Int) := of_decide_eq_true z1
                 have hx16 := bt_at (rdOf ByteArray.empty t169 x4_2) x5_3
                 replace p16 := eq_true p16
                 replace q16 := eq_true q16
                 go_wp2_with (first | (go_at_call 75; (with_reducible refine (spec_l1digit.calls (bt (rdOf ByteArray.empty t169 x4_2) x5_3) true _ A22.out).mono ?_); rintro e w' ⟨rfl, ⟨nd, rfl⟩⟩))
                 go_roundg k3
                 case measure => have := HJ1.out; have := HK2.out; have := HK3.out; omega
                 case rel => exact ⟨(wrap64 (x5_3 + 1)), z2, H', ⟨z59⟩, ⟨z11⟩, ⟨z0⟩⟩
                ·replace c23 := Bool.eq_false_iff.mpr c23
                 subst c23
                 rw [if_neg Bool.false_ne_true] at H
                 by_cases c24 : (bt (rdOf ByteArray.empty t169 x4_2) x5_3) = 45
                 ·rw [if_pos c24] at H
                  have c24b0 : ((bt (rdOf ByteArray.empty t169 x4_2) x5_3) == 45) = true := beq_iff_eq.mpr c24
                  have c24b1 : ((bt (rdOf ByteArray.empty t169 x4_2) x5_3) != 45) = false := bne_eq_false_iff_eq.mpr c24
                  clear c24
                  have H' := Aside0.mk H
                  clear H
                  have p173 : 0 ≤ (x4_2 : Int) := of_decide_eq_true z1
                  have q173 : x4_2 < (t169.length : Int) := of_decide_eq_true z1
                  obtain ⟨ad173, e173, hx173_0⟩ := Kd.at_string (Kd.R_reads' HO_3.out).2.2 x4_2 p173 q173
                  obtain rfl : ad172 = ad173 := (by injection e173)
                  replace p173 := eq_true p173
                  replace q173 := eq_true q173
                  have p174 : 0 ≤ (x4_2 : Int) := of_decide_eq_true z1
                  have q174 : x4_2 < (t169.length : Int) := of_decide_eq_true z1
                  obtain ⟨ad174, e174, hx174_0⟩ := Kd.at_string (Kd.R_reads' HO_3.out).2.2 x4_2 p174 q174
                  obtain rfl : ad172 = ad174 := (by injection e174)
                  replace p174 := eq_true p174
                  replace q174 := eq_true q174
                  have p16 : 0 ≤ (x5_3 : Int) := of_decide_eq_true z1
                  have q16 : x5_3 < ((rdOf ByteArray.empty t169 x4_2).size : Int) := of_decide_eq_true z1
                  have hx16 := bt_at (rdOf ByteArray.empty t169 x4_2) x5_3
                  replace p16 := eq_true p16
                  replace q16 := eq_true q16
                  go_wp2_with (first | (go_at_call 75; (with_reducible refine (spec_l1digit.calls (bt (rdOf ByteArray.empty t169 x4_2) x5_3) false _ A22.out).mono ?_); rintro e w' ⟨rfl, ⟨nd, rfl⟩⟩))
                  go_roundg k3
                  case measure => have := HJ1.out; have := HK2.out; have := HK3.out; omega
                  case rel => exact ⟨(wrap64 (x5_3 + 1)), z2, H', ⟨z59⟩, ⟨z11⟩, ⟨z0⟩⟩
                 ·rw [if_neg c24] at H
                  have c24b0 : ((bt (rdOf ByteArray.empty t169 x4_2) x5_3) == 45) = false := beq_eq_false_iff_ne.mpr c24
                  have c24b1 : ((bt (rdOf ByteArray.empty t169 x4_2) x5_3) != 45) = true := bne_iff_ne.mpr c24
                  obtain rfl := Option.some.inj H
                  have p173 : 0 ≤ (x4_2 : Int) := of_decide_eq_true z1
                  have q173 : x4_2 < (t169.length : Int) := of_decide_eq_true z1
                  obtain ⟨ad173, e173, hx173_0⟩ := Kd.at_string (Kd.R_reads' HO_3.out).2.2 x4_2 p173 q173
                  obtain rfl : ad172 = ad173 := (by injection e173)
                  replace p173 := eq_true p173
                  replace q173 := eq_true q173
                  have p174 : 0 ≤ (x4_2 : Int) := of_decide_eq_true z1
                  have q174 : x4_2 < (t169.length : Int) := of_decide_eq_true z1
                  obtain ⟨ad174, e174, hx174_0⟩ := Kd.at_string (Kd.R_reads' HO_3.out).2.2 x4_2 p174 q174
                  obtain rfl : ad172 = ad174 := (by injection e174)
                  replace p174 := eq_true p174
                  replace q174 := eq_true q174
                  have p16 : 0 ≤ (x5_3 : Int) := of_decide_eq_true z1
                  have q16 : x5_3 < ((rdOf ByteArray.empty t169 x4_2).size : Int) := of_decide_eq_true z1
                  have hx16 := bt_at (rdOf ByteArray.empty t169 x4_2) x5_3
                  replace p16 := eq_true p16
                  replace q16 := eq_true q16
                  go_wp2_with (first | (go_at_call 75; (with_reducible refine (spec_l1digit.calls (bt (rdOf ByteArray.empty t169 x4_2) x5_3) false _ A22.out).mono ?_); rintro e w' ⟨rfl, ⟨nd, rfl⟩⟩))
                  go_ret
                  exact ⟨z4, z0⟩
              ·rw [if_neg c15] at H
               exact absurd H (by simp)
             ·rw [if_neg c14] at H
              have c14b0 : decide (x5_3 < ((rdOf ByteArray.empty t169 x4_2).size : Int)) = false := decide_eq_false c14
              clear c14
              have H' := Aside0.mk H
              clear H
              have p173 : 0 ≤ (x4_2 : Int) := of_decide_eq_true z1
              have q173 : x4_2 < (t169.length : Int) := of_decide_eq_true z1
              obtain ⟨ad173, e173, hx173_0⟩ := Kd.at_string (Kd.R_reads' HO_3.out).2.2 x4_2 p173 q173
              obtain rfl : ad172 = ad173 := (by injection e173)
              replace p173 := eq_true p173
              replace q173 := eq_true q173
              go_wp2
              go_roundg k3
              case measure => have := HJ1.out; have := HK2.out; have := HK3.out; omega
              case rel => exact ⟨(wrap64 (x4_2 + 1)), z2, H', ⟨z59⟩, ⟨z11⟩, ⟨z0⟩⟩
            ·rw [if_neg c13] at H
             exact absurd H (by simp)
           ·rw [if_neg c12] at H
            exact absurd H (by simp)
       ·rw [if_neg c8] at H
        exact absurd H (by simp)
      ·rw [if_neg c7] at H
       have c7b0 : decide (x4_2 < (t169.length : Int)) = false := decide_eq_false c7
       clear c7
       obtain rfl := Option.some.inj H
       obtain ⟨Ao25, co25, eo25⟩ := Kd.R_slice HO_3.out
       subst eo25
       go_wp2
       go_ret
       exact ⟨z4, z0⟩

/-! ### spec_l7port: function 89 -/
def spec_l7port.f (k : Nat) (a0_0 : ByteArray) (a0_1 : Int) (a0_2 : ByteArray) (a0_3 : ByteArray) (a0_4 : Bool) : Option (ByteArray) := if a0_1 = 80 then (some (⟨#[]⟩ : ByteArray)) else ((spec_DecText.f k a0_1).bind fun t178 => (if 1 + t178.size ≤ 9223372036854775807 then (some ((⟨#[58]⟩ : ByteArray) ++ t178)) else (none)))
theorem spec_l7port.mono : ∀ a0 a1 a2 a3 a4 k, LeO (spec_l7port.f k a0 a1 a2 a3 a4) (spec_l7port.f (k + 1) a0 a1 a2 a3 a4) := by
 intro a0 a1 a2 a3 a4 k
 unfold spec_l7port.f
 repeat' first | (with_reducible first | exact spec_DecText.mono _ _ | exact LeO.refl _ | exact LeO.none _ | refine LeO.ite ?_ ?_ | refine LeO.bind ?_ (fun _ => ?_)) | exact spec_DecText.mono _ _ | exact LeO.none _ | refine LeO.ite ?_ ?_ | refine LeO.bind ?_ (fun _ => ?_)
set_option maxHeartbeats 8000000 in
set_option maxRecDepth 100000 in
theorem spec_l7port.calls (k : Nat) (a0_0 : ByteArray) (a0_1 : Int) (a0_2 : ByteArray) (a0_3 : ByteArray) (a0_4 : Bool) (r : ByteArray) (w : World) (h : spec_l7port.f k a0_0 a0_1 a0_2 a0_3 a0_4 = some r) :
  Calls Tryz.prog 89 #[.agg #[.string a0_0, .int .i64 a0_1, .string a0_2, .string a0_3, .bool a0_4]] w fun e w' => e = .returned (.string r) ∧ Below w.heap.size w w' := by
 have hu23 := Tryz.underlying23
 have HB := Aside0.mk (Below.refl w.heap.size w)
 have H : (if a0_1 = 80 then (some (⟨#[]⟩ : ByteArray)) else ((spec_DecText.f k a0_1).bind fun t178 => (if 1 + t178.size ≤ 9223372036854775807 then (some ((⟨#[58]⟩ : ByteArray) ++ t178)) else (none)))) = some r := h
 clear h
 by_cases c2 : a0_1 = 80
 ·rw [if_pos c2] at H
  have c2b0 : (a0_1 == 80) = true := beq_iff_eq.mpr c2
  have c2b1 : (a0_1 != 80) = false := bne_eq_false_iff_eq.mpr c2
  clear c2
  obtain rfl := Option.some.inj H
  go_enter Tryz.func89, Tryz.ntmps89
  go_wp2_with (first | ((with_reducible refine gate_dst (N := 1) rfl ?_); refine boxP_ (N := 1) (cs := #[.string a0_0, .int .i64 a0_1, .string a0_2, .string a0_3, .bool a0_4]) (t := 23) ?_; intro gb177 hg w3 hbox hb; have BK177 := Aside0.mk (hbox); have GE177 := geb_ (w := w) hg z0; replace HB := Aside0.mk (below_step z0 hb); clear hb hbox hg; obtain ⟨hcz4_0, hcz4_1, hcz4_2, hcz4_3, hcz4_4, hfz4_0, hfz4_1, hfz4_2, hfz4_3, hfz4_4⟩ := cells5_ BK177.out))
  go_ret
  exact ⟨z4, z57⟩
 ·rw [if_neg c2] at H
  have c2b0 : (a0_1 == 80) = false := beq_eq_false_iff_ne.mpr c2
  have c2b1 : (a0_1 != 80) = true := bne_iff_ne.mpr c2
  replace H := Option.bind_eq_some_iff.mp H
  obtain ⟨t178, A50, H⟩ := H
  try dsimp only at H
  have A5 := Aside0.mk A50
  clear A50
  by_cases c6 : 1 + t178.size ≤ 9223372036854775807
  ·rw [if_pos c6] at H
   have c6b0 := eq_true c6
   have c6b1 : decide (1 + t178.size ≤ 9223372036854775807) = true := decide_eq_true c6
   try have c6b2 : (9223372036854775807 < 1 + t178.size) = False := eq_false (Nat.not_lt.2 c6)
   obtain rfl := Option.some.inj H
   go_enter Tryz.func89, Tryz.ntmps89
   go_wp2_with (first | ((with_reducible refine gate_dst (N := 1) rfl ?_); refine boxP_ (N := 1) (cs := #[.string a0_0, .int .i64 a0_1, .string a0_2, .string a0_3, .bool a0_4]) (t := 23) ?_; intro gb177 hg w7 hbox hb; have BK177 := Aside0.mk (hbox); have GE177 := geb_ (w := w) hg z0; replace HB := Aside0.mk (below_step z0 hb); clear hb hbox hg; obtain ⟨hcz8_0, hcz8_1, hcz8_2, hcz8_3, hcz8_4, hfz8_0, hfz8_1, hfz8_2, hfz8_3, hfz8_4⟩ := cells5_ BK177.out) | ((with_reducible refine gate_callee (f := 76) rfl ?_); refine goesQ_ 8 Tryz.func76 #[.int .i64 a0_1] ?_; (with_reducible refine (spec_DecText.calls k a0_1 t178 _ A5.out).mono ?_); rintro e w9 ⟨rfl, hb⟩; refine ⟨_, rfl, ?_⟩; replace BK177 := Aside0.mk (blk_below (g := gb177) (o := .cells #[.string a0_0, .int .i64 a0_1, .string a0_2, .string a0_3, .bool a0_4] 23 (0, 0)) (by (with_reducible repeat (first | refine blk_drewN ?_ _ | refine blk_drew ?_ | refine blk_alloc ?_ _)); exact BK177.out) hb); replace HB := Aside0.mk (below_step z57 hb); (try clear hb)))
   go_ret
   exact ⟨z4, z57⟩
  ·rw [if_neg c6] at H
   exact absurd H (by simp)

/-! ### spec_l7query: function 90 -/
def spec_l7query.f (a0_0 : ByteArray) (a0_1 : Int) (a0_2 : ByteArray) (a0_3 : ByteArray) (a0_4 : Bool) : Option (ByteArray) := if a0_4 = true then (if 1 + a0_3.size ≤ 9223372036854775807 then (some ((⟨#[63]⟩ : ByteArray) ++ a0_3)) else (none)) else (some (⟨#[]⟩ : ByteArray))
set_option maxHeartbeats 8000000 in
set_option maxRecDepth 100000 in
theorem spec_l7query.calls (a0_0 : ByteArray) (a0_1 : Int) (a0_2 : ByteArray) (a0_3 : ByteArray) (a0_4 : Bool) (r : ByteArray) (w : World) (h : spec_l7query.f a0_0 a0_1 a0_2 a0_3 a0_4 = some r) :
  Calls Tryz.prog 90 #[.agg #[.string a0_0, .int .i64 a0_1, .string a0_2, .string a0_3, .bool a0_4]] w fun e w' => e = .returned (.string r) ∧ Below w.heap.size w w' := by
 have hu23 := Tryz.underlying23
 have HB := Aside0.mk (Below.refl w.heap.size w)
 have H : (if a0_4 = true then (if 1 + a0_3.size ≤ 9223372036854775807 then (some ((⟨#[63]⟩ : ByteArray) ++ a0_3)) else (none)) else (some (⟨#[]⟩ : ByteArray))) = some r := h
 clear h
 by_cases c2 : a0_4 = true
 ·subst c2
  rw [if_pos rfl] at H
  by_cases c3 : 1 + a0_3.size ≤ 9223372036854775807
  ·rw [if_pos c3] at H
   have c3b0 := eq_true c3
   have c3b1 : decide (1 + a0_3.size ≤ 9223372036854775807) = true := decide_eq_true c3
   try have c3b2 : (9223372036854775807 < 1 + a0_3.size) = False := eq_false (Nat.not_lt.2 c3)
   obtain rfl := Option.some.inj H
   go_enter Tryz.func90, Tryz.ntmps90
   go_wp2_with (first | ((with_reducible refine gate_dst (N := 1) rfl ?_); refine boxP_ (N := 1) (cs := #[.string a0_0, .int .i64 a0_1, .string a0_2, .string a0_3, .bool true]) (t := 23) ?_; intro gb179 hg w4 hbox hb; have BK179 := Aside0.mk (hbox); have GE179 := geb_ (w := w) hg z0; replace HB := Aside0.mk (below_step z0 hb); clear hb hbox hg; obtain ⟨hcz5_0, hcz5_1, hcz5_2, hcz5_3, hcz5_4, hfz5_0, hfz5_1, hfz5_2, hfz5_3, hfz5_4⟩ := cells5_ BK179.out))
   go_ret
   exact ⟨z4, z75⟩
  ·rw [if_neg c3] at H
   exact absurd H (by simp)
 ·replace c2 := Bool.eq_false_iff.mpr c2
  subst c2
  rw [if_neg Bool.false_ne_true] at H
  obtain rfl := Option.some.inj H
  go_enter Tryz.func90, Tryz.ntmps90
  go_wp2_with (first | ((with_reducible refine gate_dst (N := 1) rfl ?_); refine boxP_ (N := 1) (cs := #[.string a0_0, .int .i64 a0_1, .string a0_2, .string a0_3, .bool false]) (t := 23) ?_; intro gb179 hg w6 hbox hb; have BK179 := Aside0.mk (hbox); have GE179 := geb_ (w := w) hg z0; replace HB := Aside0.mk (below_step z0 hb); clear hb hbox hg; obtain ⟨hcz7_0, hcz7_1, hcz7_2, hcz7_3, hcz7_4, hfz7_0, hfz7_1, hfz7_2, hfz7_3, hfz7_4⟩ := cells5_ BK179.out))
  go_ret
  exact ⟨z4, z75⟩

/-! ### spec_l7text: function 78 -/
def spec_l7text.f (k : Nat) (a0_0 : ByteArray) (a0_1 : Int) (a0_2 : ByteArray) (a0_3 : ByteArray) (a0_4 : Bool) : Option (ByteArray) := if 7 + a0_0.size ≤ 9223372036854775807 then ((spec_l7port.f k a0_0 a0_1 a0_2 a0_3 a0_4).bind fun t181 => (if ((⟨#[104, 116, 116, 112, 58, 47, 47]⟩ : ByteArray) ++ a0_0).size + t181.size ≤ 9223372036854775807 then (if (((⟨#[104, 116, 116, 112, 58, 47, 47]⟩ : ByteArray) ++ a0_0) ++ t181).size + a0_2.size ≤ 9223372036854775807 then ((spec_l7query.f a0_0 a0_1 a0_2 a0_3 a0_4).bind fun t182 => (if ((((⟨#[104, 116, 116, 112, 58, 47, 47]⟩ : ByteArray) ++ a0_0) ++ t181) ++ a0_2).size + t182.size ≤ 9223372036854775807 then (some (((((⟨#[104, 116, 116, 112, 58, 47, 47]⟩ : ByteArray) ++ a0_0) ++ t181) ++ a0_2) ++ t182)) else (none))) else (none)) else (none))) else (none)
theorem spec_l7text.mono : ∀ a0 a1 a2 a3 a4 k, LeO (spec_l7text.f k a0 a1 a2 a3 a4) (spec_l7text.f (k + 1) a0 a1 a2 a3 a4) := by
 intro a0 a1 a2 a3 a4 k
 unfold spec_l7text.f
 repeat' first | (with_reducible first | exact spec_l7port.mono _ _ _ _ _ _ | exact LeO.refl _ | exact LeO.none _ | refine LeO.ite ?_ ?_ | refine LeO.bind ?_ (fun _ => ?_)) | exact spec_l7port.mono _ _ _ _ _ _ | exact LeO.none _ | refine LeO.ite ?_ ?_ | refine LeO.bind ?_ (fun _ => ?_)
def spec_l7text.T1 : Bool × List (List Nat × List Nat) := (true, [([], []), ([0], [0]), ([1], [1]), ([], []), ([3], [3]), ([2, 4], [2, 4]), ([], []), ([6], [6]), ([5, 7], [5, 7]), ([], []), ([9, 4], [9]), ([8, 10], [8, 10]), ([11, 10, 0, 1, 2, 3, 4, 5, 6, 7, 8, 9, 10, 11], [11])])
def spec_l7text.B1 : List Nat := [0, 1, 3, 0, 8, 31, 0, 64, 255, 0, 536, 2047, 4095]
theorem spec_l7text.tab1 : rtab .any (opsOf Tryz.f78 1) = spec_l7text.T1 := by kernel_rfl
theorem spec_l7text.bits1 : waitsOk spec_l7text.T1.2 spec_l7text.B1 = true := by kernel_rfl
set_option maxHeartbeats 8000000 in
set_option maxRecDepth 100000 in
theorem spec_l7text.calls (k : Nat) (a0_0 : ByteArray) (a0_1 : Int) (a0_2 : ByteArray) (a0_3 : ByteArray) (a0_4 : Bool) (r : ByteArray) (w : World) (h : spec_l7text.f k a0_0 a0_1 a0_2 a0_3 a0_4 = some r) :
  Calls Tryz.prog 78 #[.agg #[.string a0_0, .int .i64 a0_1, .string a0_2, .string a0_3, .bool a0_4]] w fun e w' => e = .returned (.string r) ∧ Below w.heap.size w w' := by
 have hu23 := Tryz.underlying23
 have HB := Aside0.mk (Below.refl w.heap.size w)
 have H : (if 7 + a0_0.size ≤ 9223372036854775807 then ((spec_l7port.f k a0_0 a0_1 a0_2 a0_3 a0_4).bind fun t181 => (if ((⟨#[104, 116, 116, 112, 58, 47, 47]⟩ : ByteArray) ++ a0_0).size + t181.size ≤ 9223372036854775807 then (if (((⟨#[104, 116, 116, 112, 58, 47, 47]⟩ : ByteArray) ++ a0_0) ++ t181).size + a0_2.size ≤ 9223372036854775807 then ((spec_l7query.f a0_0 a0_1 a0_2 a0_3 a0_4).bind fun t182 => (if ((((⟨#[104, 116, 116, 112, 58, 47, 47]⟩ : ByteArray) ++ a0_0) ++ t181) ++ a0_2).size + t182.size ≤ 9223372036854775807 then (some (((((⟨#[104, 116, 116, 112, 58, 47, 47]⟩ : ByteArray) ++ a0_0) ++ t181) ++ a0_2) ++ t182)) else (none))) else (none)) else (none))) else (none)) = some r := h
 clear h
 by_cases c2 : 7 + a0_0.size ≤ 9223372036854775807
 ·rw [if_pos c2] at H
  have c2b0 := eq_true c2
  have c2b1 : decide (7 + a0_0.size ≤ 9223372036854775807) = true := decide_eq_true c2
  try have c2b2 : (9223372036854775807 < 7 + a0_0.size) = False := eq_false (Nat.not_lt.2 c2)
  replace H := Option.bind_eq_some_iff.mp H
  obtain ⟨t181, A30, H⟩ := H
  try dsimp only at H
  have A3 := Aside0.mk A30
  clear A30
  by_cases c4 : ((⟨#[104, 116, 116, 112, 58, 47, 47]⟩ : ByteArray) ++ a0_0).size + t181.size ≤ 9223372036854775807
  ·rw [if_pos c4] at H
   have c4b0 := eq_true c4
   have c4b1 : decide (((⟨#[104, 116, 116, 112, 58, 47, 47]⟩ : ByteArray) ++ a0_0).size + t181.size ≤ 9223372036854775807) = true := decide_eq_true c4
   try have c4b2 : (9223372036854775807 < ((⟨#[104, 116, 116, 112, 58, 47, 47]⟩ : ByteArray) ++ a0_0).size + t181.size) = False := eq_false (Nat.not_lt.2 c4)
   try have c4z := c4b2; simp only [ByteArray.size_append, show (⟨#[104, 116, 116, 112, 58, 47, 47]⟩ : ByteArray).size = 7 from rfl] at c4z; have c4b3 := c4z
   by_cases c5 : (((⟨#[104, 116, 116, 112, 58, 47, 47]⟩ : ByteArray) ++ a0_0) ++ t181).size + a0_2.size ≤ 9223372036854775807
   ·rw [if_pos c5] at H
    have c5b0 := eq_true c5
    have c5b1 : decide ((((⟨#[104, 116, 116, 112, 58, 47, 47]⟩ : ByteArray) ++ a0_0) ++ t181).size + a0_2.size ≤ 9223372036854775807) = true := decide_eq_true c5
    try have c5b2 : (9223372036854775807 < (((⟨#[104, 116, 116, 112, 58, 47, 47]⟩ : ByteArray) ++ a0_0) ++ t181).size + a0_2.size) = False := eq_false (Nat.not_lt.2 c5)
    try have c5z := c5b2; simp only [ByteArray.size_append, show (⟨#[104, 116, 116, 112, 58, 47, 47]⟩ : ByteArray).size = 7 from rfl] at c5z; have c5b3 := c5z
    replace H := Option.bind_eq_some_iff.mp H
    obtain ⟨t182, A60, H⟩ := H
    try dsimp only at H
    have A6 := Aside0.mk A60
    clear A60
    by_cases c7 : ((((⟨#[104, 116, 116, 112, 58, 47, 47]⟩ : ByteArray) ++ a0_0) ++ t181) ++ a0_2).size + t182.size ≤ 9223372036854775807
    ·rw [if_pos c7] at H
     have c7b0 := eq_true c7
     have c7b1 : decide (((((⟨#[104, 116, 116, 112, 58, 47, 47]⟩ : ByteArray) ++ a0_0) ++ t181) ++ a0_2).size + t182.size ≤ 9223372036854775807) = true := decide_eq_true c7
     try have c7b2 : (9223372036854775807 < ((((⟨#[104, 116, 116, 112, 58, 47, 47]⟩ : ByteArray) ++ a0_0) ++ t181) ++ a0_2).size + t182.size) = False := eq_false (Nat.not_lt.2 c7)
     try have c7z := c7b2; simp only [ByteArray.size_append, show (⟨#[104, 116, 116, 112, 58, 47, 47]⟩ : ByteArray).size = 7 from rfl] at c7z; have c7b3 := c7z
     obtain rfl := Option.some.inj H
     go_enter Tryz.func78, Tryz.ntmps78
     try go_wp2_with (first | ((with_reducible refine gate_dst (N := 1) rfl ?_); refine boxP_ (N := 1) (cs := #[.string a0_0, .int .i64 a0_1, .string a0_2, .string a0_3, .bool a0_4]) (t := 23) ?_; intro gb180 hg w8 hbox hb; have BK180 := Aside0.mk (hbox); have GE180 := geb_ (w := w) hg z0; replace HB := Aside0.mk (below_step z0 hb); clear hb hbox hg))
     have n0_ := Aside0.mk (blk_drew BK180.out)
     have n1_ := Aside0.mk (below_drew1 HB.out)
     clear BK180
     clear HB
     have BK180 := n0_
     have HB := n1_
     clear n0_ n1_
     refine start_ (n := 13) (S := fun w' => w'.cell? ⟨gb180, 0, none⟩ = some (.string a0_0) ∧ w'.cell? ⟨gb180, 1, none⟩ = some (.int .i64 a0_1) ∧ w'.cell? ⟨gb180, 2, none⟩ = some (.string a0_2) ∧ w'.cell? ⟨gb180, 3, none⟩ = some (.string a0_3) ∧ w'.cell? ⟨gb180, 4, none⟩ = some (.bool a0_4)) (ds := []) #[false, false, false, false, false, false, false, false, false, false, false, false, false] (by kernel_rfl) rfl rfl ⟨(blk_cell BK180.out 0).trans rfl, (blk_cell BK180.out 1).trans rfl, (blk_cell BK180.out 2).trans rfl, (blk_cell BK180.out 3).trans rfl, (blk_cell BK180.out 4).trans rfl⟩ (fun hHeld => ?_); refine with_tabW spec_l7text.tab1 spec_l7text.bits1 (fun HT_ HW_ => ?_)
     generalize w8.drew = w9 at BK180 HB hHeld ⊢
     refine pure_ (i := 0) (N := some 3) (v := ?_) (a' := ?_) #[true, false, false, false, false, false, false, false, false, false, false, false, false] rfl rfl (any_of HT_.out (by kernel_rfl)) (fun _ _ _ h => h) (Or.inl ⟨by rfl, ?_⟩) ?_ ?_
     rotate_left
     ·intro w'
      go_simp
      with_reducible rfl
     rotate_left
     ·simp only [Act.put, List.setIfInBounds_toArray, List.set_cons_zero, List.set_cons_succ, i64_w, i32_w]
      rfl
     refine pure_ (i := 6) (N := some 9) (v := ?_) (a' := ?_) #[true, false, false, false, false, false, true, false, false, false, false, false, false] rfl rfl (any_of HT_.out (by kernel_rfl)) (fun _ _ _ h => h) (Or.inl ⟨by rfl, ?_⟩) ?_ ?_
     rotate_left
     ·intro w'
      go_simp
      with_reducible rfl
     rotate_left
     ·simp only [Act.put, List.setIfInBounds_toArray, List.set_cons_zero, List.set_cons_succ, i64_w, i32_w]
      rfl
     refine take_ (i := 1) (N := some 4) (v := ?_) (a' := ?_) #[true, true, false, false, false, false, true, false, false, false, false, false, false] rfl rfl (take_ofW HT_.out HW_.out (by kernel_rfl)) (fun _ _ _ h => h) (Or.inl ⟨by rfl, ?_⟩) hHeld ?_ ?_
     rotate_left
     ·rintro w' ⟨s0, s1, s2, s3, s4⟩
      go_simp
      with_reducible rfl
     rotate_left
     ·simp only [Act.put, List.setIfInBounds_toArray, List.set_cons_zero, List.set_cons_succ, i64_w, i32_w]
      rfl
     refine pure_ (i := 2) (N := some 5) (v := ?_) (a' := ?_) #[true, true, true, false, false, false, true, false, false, false, false, false, false] rfl rfl (any_of HT_.out (by kernel_rfl)) (fun _ _ _ h => h) (Or.inl ⟨by rfl, ?_⟩) ?_ ?_
     rotate_left
     ·intro w'
      go_simp
      with_reducible rfl
     rotate_left
     ·simp only [Act.put, List.setIfInBounds_toArray, List.set_cons_zero, List.set_cons_succ, i64_w, i32_w]
      rfl
     refine take_ (i := 3) (N := some 6) (v := ?_) (a' := ?_) #[true, true, true, true, false, false, true, false, false, false, false, false, false] rfl rfl (take_ofW HT_.out HW_.out (by kernel_rfl)) (fun _ _ _ h => h) (Or.inl ⟨by rfl, ?_⟩) hHeld ?_ ?_
     rotate_left
     ·rintro w' ⟨s0, s1, s2, s3, s4⟩
      go_simp
      with_reducible rfl
     rotate_left
     ·simp only [Act.put, List.setIfInBounds_toArray, List.set_cons_zero, List.set_cons_succ, i64_w, i32_w]
      rfl
     refine take_ (i := 7) (N := some 10) (v := ?_) (a' := ?_) #[true, true, true, true, false, false, true, true, false, false, false, false, false] rfl rfl (take_ofW HT_.out HW_.out (by kernel_rfl)) (fun _ _ _ h => h) (Or.inl ⟨by rfl, ?_⟩) hHeld ?_ ?_
     rotate_left
     ·rintro w' ⟨s0, s1, s2, s3, s4⟩
      go_simp
      with_reducible rfl
     rotate_left
     ·simp only [Act.put, List.setIfInBounds_toArray, List.set_cons_zero, List.set_cons_succ, i64_w, i32_w]
      rfl
     refine take_ (i := 9) (N := some 12) (v := ?_) (a' := ?_) #[true, true, true, true, false, false, true, true, false, true, false, false, false] rfl rfl (take_ofW HT_.out HW_.out (by kernel_rfl)) (fun _ _ _ h => h) (Or.inl ⟨by rfl, ?_⟩) hHeld ?_ ?_
     rotate_left
     ·rintro w' ⟨s0, s1, s2, s3, s4⟩
      go_simp
      with_reducible rfl
     rotate_left
     ·simp only [Act.put, List.setIfInBounds_toArray, List.set_cons_zero, List.set_cons_succ, i64_w, i32_w]
      rfl
     refine one_ (i := 4) (N := some 7) #[true, true, true, true, true, false, true, true, false, true, false, false, false] rfl rfl (one_of HT_.out (by kernel_rfl)) (by decide) (fun K hK => ?_)
     refine goes_ Tryz.func89 (by kernel_rfl) rfl #[.agg #[.string a0_0, .int .i64 a0_1, .string a0_2, .string a0_3, .bool a0_4]] (by rfl) rfl rfl z5 ?_
     with_reducible refine (spec_l7port.calls k a0_0 a0_1 a0_2 a0_3 a0_4 t181 _ A3.out).mono ?_
     rintro e w10 ⟨rfl, hb⟩
     refine ⟨_, rfl, ?_⟩
     have n0_ := Aside0.mk (blk_below (g := gb180) (o := .cells #[.string a0_0, .int .i64 a0_1, .string a0_2, .string a0_3, .bool a0_4] 23 (0, 0)) (by (with_reducible repeat (first | refine blk_drewN ?_ _ | refine blk_drew ?_ | refine blk_alloc ?_ _)); exact BK180.out) hb)
     have n1_ := Aside0.mk (below_step z56 hb)
     clear BK180
     clear HB
     have BK180 := n0_
     have HB := n1_
     clear n0_ n1_
     (try clear hb)
     (try clear hb2)
     (try clear hk)
     (try clear hi)
     refine hK.out _ _ ⟨(blk_cell BK180.out 0).trans rfl, (blk_cell BK180.out 1).trans rfl, (blk_cell BK180.out 2).trans rfl, (blk_cell BK180.out 3).trans rfl, (blk_cell BK180.out 4).trans rfl⟩ (fun hHeld => ?_)
     clear hK K
     refine norm_ (a' := ?_) ?_ ?_
     rotate_left
     ·show Act.put _ (some 7) _ = _
      simp only [Act.put, List.setIfInBounds_toArray, List.set_cons_zero, List.set_cons_succ, i64_w, i32_w]
      rfl
     refine pure_ (i := 5) (N := some 8) (v := ?_) (a' := ?_) #[true, true, true, true, true, true, true, true, false, true, false, false, false] rfl rfl (any_of HT_.out (by kernel_rfl)) (fun _ _ _ h => h) (Or.inl ⟨by rfl, ?_⟩) ?_ ?_
     rotate_left
     ·intro w'
      go_simp
      with_reducible rfl
     rotate_left
     ·simp only [Act.put, List.setIfInBounds_toArray, List.set_cons_zero, List.set_cons_succ, i64_w, i32_w]
      rfl
     refine pure_ (i := 8) (N := some 11) (v := ?_) (a' := ?_) #[true, true, true, true, true, true, true, true, true, true, false, false, false] rfl rfl (any_of HT_.out (by kernel_rfl)) (fun _ _ _ h => h) (Or.inl ⟨by rfl, ?_⟩) ?_ ?_
     rotate_left
     ·intro w'
      go_simp
      with_reducible rfl
     rotate_left
     ·simp only [Act.put, List.setIfInBounds_toArray, List.set_cons_zero, List.set_cons_succ, i64_w, i32_w]
      rfl
     refine one_ (i := 10) (N := some 13) #[true, true, true, true, true, true, true, true, true, true, true, false, false] rfl rfl (one_of HT_.out (by kernel_rfl)) (by decide) (fun K hK => ?_)
     refine goes_ Tryz.func90 (by kernel_rfl) rfl #[.agg #[.string a0_0, .int .i64 a0_1, .string a0_2, .string a0_3, .bool a0_4]] (by rfl) rfl rfl z5 ?_
     with_reducible refine (spec_l7query.calls a0_0 a0_1 a0_2 a0_3 a0_4 t182 _ A6.out).mono ?_
     rintro e w11 ⟨rfl, hb⟩
     refine ⟨_, rfl, ?_⟩
     have n0_ := Aside0.mk (blk_below (g := gb180) (o := .cells #[.string a0_0, .int .i64 a0_1, .string a0_2, .string a0_3, .bool a0_4] 23 (0, 0)) (by (with_reducible repeat (first | refine blk_drewN ?_ _ | refine blk_drew ?_ | refine blk_alloc ?_ _)); exact BK180.out) hb)
     have n1_ := Aside0.mk (below_step z56 hb)
     clear BK180
     clear HB
     have BK180 := n0_
     have HB := n1_
     clear n0_ n1_
     (try clear hb)
     (try clear hb2)
     (try clear hk)
     (try clear hi)
     refine hK.out _ _ ⟨(blk_cell BK180.out 0).trans rfl, (blk_cell BK180.out 1).trans rfl, (blk_cell BK180.out 2).trans rfl, (blk_cell BK180.out 3).trans rfl, (blk_cell BK180.out 4).trans rfl⟩ (fun hHeld => ?_)
     clear hK K
     refine norm_ (a' := ?_) ?_ ?_
     rotate_left
     ·show Act.put _ (some 13) _ = _
      simp only [Act.put, List.setIfInBounds_toArray, List.set_cons_zero, List.set_cons_succ, i64_w, i32_w]
      rfl
     refine pure_ (i := 11) (N := some 14) (v := ?_) (a' := ?_) #[true, true, true, true, true, true, true, true, true, true, true, true, false] rfl rfl (any_of HT_.out (by kernel_rfl)) (fun _ _ _ h => h) (Or.inl ⟨by rfl, ?_⟩) ?_ ?_
     rotate_left
     ·intro w'
      go_simp
      with_reducible rfl
     rotate_left
     ·simp only [Act.put, List.setIfInBounds_toArray, List.set_cons_zero, List.set_cons_succ, i64_w, i32_w]
      rfl
     refine pure_ (i := 12) (N := some 2) (v := ?_) (a' := ?_) #[true, true, true, true, true, true, true, true, true, true, true, true, true] rfl rfl (any_of HT_.out (by kernel_rfl)) (fun _ _ _ h => h) (Or.inl ⟨by rfl, ?_⟩) ?_ ?_
     rotate_left
     ·intro w'
      go_simp
      with_reducible rfl
     rotate_left
     ·simp only [Act.put, List.setIfInBounds_toArray, List.set_cons_zero, List.set_cons_succ, i64_w, i32_w]
      rfl
     refine done_ (done_of HT_.out (by kernel_rfl)) ?_
     try go_wp2
     go_ret
     exact ⟨z4, z56⟩
    ·rw [if_neg c7] at H
     exact absurd H (by simp)
   ·rw [if_neg c5] at H
    exact absurd H (by simp)
  ·rw [if_neg c4] at H
   exact absurd H (by simp)
 ·rw [if_neg c2] at H
  exact absurd H (by simp)

end Go.Proofs.YtcplgnikihjilaaGreatDoor.GFnExactUnsurt
