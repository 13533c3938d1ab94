-- Laid by gen.py of this session (over the kit's printing program): what the law FnCanons reaches, as Lean functions, and that Go comes to just that.
import Derived.Test.YtkkolioolgpljaaGreatDoorGFnCanonsx0
import Derived.Test.YtkkolioolgpljaaGreatDoorGFnCanonsx14
import Derived.Test.YtkkolioolgpljaaGreatDoorGFnCanonsx15
import Derived.Test.YtkkolioolgpljaaGreatDoorGFnCanonsx17
import Derived.Test.YtkkolioolgpljaaGreatDoorGFnCanonsx18
import Derived.Test.YtkkolioolgpljaaGreatDoorZFnCanons
namespace Go.Proofs.YtkkolioolgpljaaGreatDoor.GFnCanons
open Go.RowKit Go.Proofs.YtkkolioolgpljaaGreatDoorW.PrintWords Go.Proofs.YtkkolioolgpljaaGreatDoorW.PrintLast Go.Proofs.YtkkolioolgpljaaGreatDoorW.PrintMore Go.Proofs.YtkkolioolgpljaaGreatDoorW.Zs
attribute [local go_sem] max2_int min2_int max_two min_two max_three min_three max_four min_four   -- for this text's walks alone
set_option linter.unusedVariables false
set_option linter.unusedSimpArgs false

/-! ### spec_UrlOk: function 6 -/
def spec_UrlOk.j0 : Nat → Bool → ByteArray → Int → ByteArray → ByteArray → Bool → Option (Bool)
 | 0, _, _, _, _, _, _ => none
 | k + 1, x39, x417000, x417001, x417002, x417003, x417004 => if x39 = true then (some false) else (if (x417003.size : Int) > 200 then (some false) else (if x417003.toList = ([] : List UInt8) then ((spec_l6upto.f k x417003 35).bind fun t419 => (if t419.toList = x417003.toList then ((spec_l7text.f k x417000 x417001 x417002 x417003 x417004).bind fun t420 => (some (decide ((t420.size : Int) ≤ 200)))) else (some false))) else ((spec_l6visible.f k x417003).bind fun t421 => (if t421 = true then ((spec_l6upto.f k x417003 35).bind fun t422 => (if t422.toList = x417003.toList then ((spec_l7text.f k x417000 x417001 x417002 x417003 x417004).bind fun t423 => (some (decide ((t423.size : Int) ≤ 200)))) else (some false))) else (some false)))))
def spec_UrlOk.f (k : Nat) (a0_0 : ByteArray) (a0_1 : Int) (a0_2 : ByteArray) (a0_3 : ByteArray) (a0_4 : Bool) : Option (Bool) := (spec_l7host.f k a0_0).bind fun t417 => (if t417 = true then (if a0_1 < 1 then (spec_UrlOk.j0 k true a0_0 a0_1 a0_2 a0_3 a0_4) else (if a0_1 > 65535 then (spec_UrlOk.j0 k true a0_0 a0_1 a0_2 a0_3 a0_4) else (if a0_2.toList = ([] : List UInt8) then (spec_UrlOk.j0 k true a0_0 a0_1 a0_2 a0_3 a0_4) else ((spec_CleanPath.f k a0_2).bind fun t418 => (if t418.toList = a0_2.toList then (if a0_4 = true then (spec_UrlOk.j0 k false a0_0 a0_1 a0_2 a0_3 a0_4) else (spec_UrlOk.j0 k (a0_3.toList != ([] : List UInt8)) a0_0 a0_1 a0_2 a0_3 a0_4)) else (spec_UrlOk.j0 k true a0_0 a0_1 a0_2 a0_3 a0_4)))))) else (spec_UrlOk.j0 k true a0_0 a0_1 a0_2 a0_3 a0_4))
theorem spec_UrlOk.mono_l : ∀ k, (∀ y0 y1 y2 y3 y4 y5, LeO (spec_UrlOk.j0 k y0 y1 y2 y3 y4 y5) (spec_UrlOk.j0 (k + 1) y0 y1 y2 y3 y4 y5))
 | 0 => fun _ _ _ _ _ _ r h => by simp [spec_UrlOk.j0] at h
 | k + 1 => by
  have ih0 := spec_UrlOk.mono_l k
  ·intro y0 y1 y2 y3 y4 y5
   unfold spec_UrlOk.j0
   repeat' first | (with_reducible first | exact ih0 _ _ _ _ _ _ | exact spec_CleanPath.mono _ _ | exact spec_l6upto.mono _ _ _ | exact spec_l6visible.mono _ _ | exact spec_l7host.mono _ _ | exact spec_l7text.mono _ _ _ _ _ _ | exact LeO.refl _ | exact LeO.none _ | refine LeO.ite ?_ ?_ | refine LeO.bind ?_ (fun _ => ?_)) | exact ih0 _ _ _ _ _ _ | exact spec_CleanPath.mono _ _ | exact spec_l6upto.mono _ _ _ | exact spec_l6visible.mono _ _ | exact spec_l7host.mono _ _ | exact spec_l7text.mono _ _ _ _ _ _ | exact LeO.none _ | refine LeO.ite ?_ ?_ | refine LeO.bind ?_ (fun _ => ?_)
theorem spec_UrlOk.mono : ∀ a0 a1 a2 a3 a4 k, LeO (spec_UrlOk.f k a0 a1 a2 a3 a4) (spec_UrlOk.f (k + 1) a0 a1 a2 a3 a4) := by
 intro a0 a1 a2 a3 a4 k
 have ih0 := spec_UrlOk.mono_l k
 unfold spec_UrlOk.f
 repeat' first | (with_reducible first | exact ih0 _ _ _ _ _ _ | exact spec_CleanPath.mono _ _ | exact spec_l6upto.mono _ _ _ | exact spec_l6visible.mono _ _ | exact spec_l7host.mono _ _ | exact spec_l7text.mono _ _ _ _ _ _ | exact LeO.refl _ | exact LeO.none _ | refine LeO.ite ?_ ?_ | refine LeO.bind ?_ (fun _ => ?_)) | exact ih0 _ _ _ _ _ _ | exact spec_CleanPath.mono _ _ | exact spec_l6upto.mono _ _ _ | exact spec_l6visible.mono _ _ | exact spec_l7host.mono _ _ | exact spec_l7text.mono _ _ _ _ _ _ | exact LeO.none _ | refine LeO.ite ?_ ?_ | refine LeO.bind ?_ (fun _ => ?_)
def spec_UrlOk.T1 : Bool × List (List Nat × List Nat) := (true, [([], []), ([0], [0]), ([1], [1]), ([2], [2]), ([3, 2], [3]), ([4], [4]), ([5, 4], [4, 5]), ([6, 4], [4, 6]), ([4, 7], [4, 7]), ([8, 4], [8]), ([9], [9]), ([10, 9], [9, 10]), ([11, 9], [9, 11]), ([9, 12], [9, 12]), ([13, 9], [13]), ([14], [14]), ([15, 14], [14, 15]), ([16, 14], [14, 16]), ([14, 17], [14, 17]), ([18, 14], [18]), ([19], [19]), ([20, 19], [19, 20]), ([21, 19, 19], [19, 21]), ([19], [19]), ([23, 19], [19, 23]), ([22, 24, 19], [19, 22, 24]), ([19, 25], [19, 25]), ([26, 22], [26]), ([27], [27]), ([28, 27], [27, 28]), ([29, 27], [27, 29]), ([30, 27, 27], [27, 30]), ([31], [31]), ([32, 31], [31, 32]), ([33, 31], [31, 33]), ([31, 34, 27], [27, 31, 34]), ([27, 35], [27, 35])])
def spec_UrlOk.B1 : List Nat := [0, 1, 3, 7, 15, 31, 63, 127, 255, 511, 1023, 2047, 4095, 8191, 16383, 32767, 65535, 131071, 262143, 524287, 1048575, 2097151, 4194303, 1048575, 9437183, 33554431, 67108863, 134217727, 268435455, 536870911, 1073741823, 2147483647, 4294967295, 8589934591, 17179869183, 34359738367, 68719476735]
theorem spec_UrlOk.tab1 : rtab .any (opsOf Tryz.f6 1) = spec_UrlOk.T1 := by kernel_rfl
theorem spec_UrlOk.bits1 : waitsOk spec_UrlOk.T1.2 spec_UrlOk.B1 = true := by kernel_rfl
def spec_UrlOk.T3 : Bool × List (List Nat × List Nat) := (true, [([], []), ([0], [0]), ([1], [1]), ([2], [2]), ([3], [3]), ([4], [4]), ([5, 4], [4, 5]), ([6, 4], [4, 6]), ([7, 4, 4], [4, 7]), ([8], [8]), ([9, 8], [8, 9]), ([10, 8, 8], [8, 10]), ([11, 8], [8, 11]), ([8, 12, 4], [4, 8, 12]), ([4, 13], [4, 13]), ([14, 11], [14]), ([15], [15]), ([16, 15], [15, 16]), ([17, 15, 15], [15, 17]), ([15], [15]), ([19, 15], [15, 19]), ([18, 20, 15], [15, 18, 20]), ([15, 21], [15, 21])])
def spec_UrlOk.B3 : List Nat := [0, 1, 3, 7, 15, 31, 63, 127, 255, 511, 1023, 2047, 4095, 8191, 16383, 32767, 65535, 131071, 262143, 65535, 589823, 2097151, 4194303]
theorem spec_UrlOk.tab3 : rtab .any (opsOf Tryz.f6 3) = spec_UrlOk.T3 := by kernel_rfl
theorem spec_UrlOk.bits3 : waitsOk spec_UrlOk.T3.2 spec_UrlOk.B3 = true := by kernel_rfl
set_option maxHeartbeats 8000000 in
set_option maxRecDepth 100000 in
theorem spec_UrlOk.calls (k : Nat) (a0_0 : ByteArray) (a0_1 : Int) (a0_2 : ByteArray) (a0_3 : ByteArray) (a0_4 : Bool) (r : Bool) (w : World) (h : spec_UrlOk.f k a0_0 a0_1 a0_2 a0_3 a0_4 = some r) :
  Calls Tryz.prog 6 #[.agg #[.string a0_0, .int .i64 a0_1, .string a0_2, .string a0_3, .bool a0_4]] w fun e w' => e = .returned (.bool r) ∧ Below w.heap.size w w' := by
 have hu24 := Tryz.underlying24
 have HB := Aside0.mk (Below.refl w.heap.size w)
 have H : ((spec_l7host.f k a0_0).bind fun t417 => (if t417 = true then (if a0_1 < 1 then (spec_UrlOk.j0 k true a0_0 a0_1 a0_2 a0_3 a0_4) else (if a0_1 > 65535 then (spec_UrlOk.j0 k true a0_0 a0_1 a0_2 a0_3 a0_4) else (if a0_2.toList = ([] : List UInt8) then (spec_UrlOk.j0 k true a0_0 a0_1 a0_2 a0_3 a0_4) else ((spec_CleanPath.f k a0_2).bind fun t418 => (if t418.toList = a0_2.toList then (if a0_4 = true then (spec_UrlOk.j0 k false a0_0 a0_1 a0_2 a0_3 a0_4) else (spec_UrlOk.j0 k (a0_3.toList != ([] : List UInt8)) a0_0 a0_1 a0_2 a0_3 a0_4)) else (spec_UrlOk.j0 k true a0_0 a0_1 a0_2 a0_3 a0_4)))))) else (spec_UrlOk.j0 k true a0_0 a0_1 a0_2 a0_3 a0_4))) = some r := h
 clear h
 have HC2 := Aside0.mk H
 clear H
 go_enter Tryz.func6, Tryz.ntmps6
 go_upto_region 1 with (first | ((with_reducible refine gate_dst (N := 1) rfl ?_); refine boxP_ (N := 1) (cs := #[.string a0_0, .int .i64 a0_1, .string a0_2, .string a0_3, .bool a0_4]) (t := 24) ?_; intro gb416 hg w3 hbox hb; have BK416 := Aside0.mk (hbox); have GE416 := geb_ (w := w) hg z0; replace HB := Aside0.mk (below_step z0 hb); clear hb hbox hg))
 (try simp only [Act.put, List.setIfInBounds_toArray, List.set_cons_zero, List.set_cons_succ])
 go_cut [39] (fun v39 wc => ∃ (kq : Nat) (x39_1 : Bool), v39 = .bool x39_1 ∧ Aside0 (spec_UrlOk.j0 kq x39_1 a0_0 a0_1 a0_2 a0_3 a0_4 = some r) ∧ Aside0 (kq ≤ k) ∧ Aside0 (wc.heap[gb416]? = some (.cells #[.string a0_0, .int .i64 a0_1, .string a0_2, .string a0_3, .bool a0_4] 24 (0, 0))) ∧ Aside0 (Below w.heap.size w wc))
 case first =>
  have H := HC2.out
  clear HC2
  replace H := Option.bind_eq_some_iff.mp H
  obtain ⟨t417, A40, H⟩ := H
  try dsimp only at H
  have A4 := Aside0.mk A40
  clear A40
  by_cases c5 : t417 = true
  ·subst c5
   rw [if_pos rfl] at H
   by_cases c6 : a0_1 < 1
   ·rw [if_pos c6] at H
    have c6b0 : decide (a0_1 < 1) = true := decide_eq_true c6
    clear c6
    (first | rw [c6b0] | (simp only [i64_w, i32_w]; rw [c6b0]) | skip)
    have H' := Aside0.mk H
    clear H
    try go_wp2
    have n0_ := Aside0.mk (blk_drew BK416.out)
    have n1_ := Aside0.mk (below_drew1 HB.out)
    clear BK416
    clear HB
    have BK416 := n0_
    have HB := n1_
    clear n0_ n1_
    refine start_ (n := 37) (S := fun w' => w'.cell? ⟨gb416, 0, none⟩ = some (.string a0_0) ∧ w'.cell? ⟨gb416, 1, none⟩ = some (.int .i64 a0_1) ∧ w'.cell? ⟨gb416, 2, none⟩ = some (.string a0_2) ∧ w'.cell? ⟨gb416, 3, none⟩ = some (.string a0_3) ∧ w'.cell? ⟨gb416, 4, none⟩ = some (.bool a0_4)) (ds := []) #[false, false, false, false, false, false, false, false, false, false, false, false, false, false, false, false, false, false, false, false, false, false, false, false, false, false, false, false, false, false, false, false, false, false, false, false, false] (by kernel_rfl) rfl rfl ⟨(blk_cell BK416.out 0).trans rfl, (blk_cell BK416.out 1).trans rfl, (blk_cell BK416.out 2).trans rfl, (blk_cell BK416.out 3).trans rfl, (blk_cell BK416.out 4).trans rfl⟩ (fun hHeld => ?_); refine with_tabW spec_UrlOk.tab1 spec_UrlOk.bits1 (fun HT_ HW_ => ?_)
    generalize w3.drew = w7 at BK416 HB hHeld ⊢
    refine pz 0 3 ?_
    refine tk (i := 1) (N := some 4) (v := ?_) (a' := ?_) rfl rfl (take_ofW HT_.out HW_.out (by kernel_rfl)) (Or.inl ⟨by rfl, ?_⟩) hHeld ?_ ?_
    rotate_left
    ·rintro w' ⟨s0, s1, s2, s3, s4⟩
     go_simp
     with_reducible rfl
    rotate_left
    ·simp only [Act.put, List.setIfInBounds_toArray, List.set_cons_zero, List.set_cons_succ, i64_w, i32_w]
     rfl
    refine oz 2 5 (fun K hK => ?_)
    refine goes_ Tryz.func18 (by kernel_rfl) rfl #[.string a0_0] (by rfl) rfl rfl z8 ?_
    with_reducible refine (spec_l7host.calls k a0_0 true _ A4.out).mono ?_
    rintro e w8 ⟨rfl, hb⟩
    refine ⟨_, rfl, ?_⟩
    have n0_ := Aside0.mk (blk_below (g := gb416) (o := .cells #[.string a0_0, .int .i64 a0_1, .string a0_2, .string a0_3, .bool a0_4] 24 (0, 0)) z21 hb)
    have n1_ := Aside0.mk (below_step z11 hb)
    clear BK416
    clear HB
    have BK416 := n0_
    have HB := n1_
    clear n0_ n1_
    (try clear hb)
    (try clear hb2)
    (try clear hk)
    (try clear hi)
    refine hK.out _ _ ⟨(blk_cell BK416.out 0).trans rfl, (blk_cell BK416.out 1).trans rfl, (blk_cell BK416.out 2).trans rfl, (blk_cell BK416.out 3).trans rfl, (blk_cell BK416.out 4).trans rfl⟩ (fun hHeld => ?_)
    clear hK K
    refine nz ?_
    refine pz 3 6 ?_
    refine pz 4 7 ?_
    refine pz 5 8 ?_
    refine tk (i := 6) (N := some 9) (v := ?_) (a' := ?_) rfl rfl (take_ofW HT_.out HW_.out (by kernel_rfl)) (Or.inl ⟨by rfl, ?_⟩) hHeld ?_ ?_
    rotate_left
    ·rintro w' ⟨s0, s1, s2, s3, s4⟩
     go_simp
     with_reducible rfl
    rotate_left
    ·simp only [Act.put, List.setIfInBounds_toArray, List.set_cons_zero, List.set_cons_succ, i64_w, i32_w]
     rfl
    refine pz 7 10 ?_
    refine pz 8 11 ?_
    refine pz 9 12 ?_
    refine pu 10 13 ?_
    refine pu 11 14 ?_
    refine pu 12 15 ?_
    refine pz 13 16 ?_
    refine pz 14 17 ?_
    refine pu 15 18 ?_
    refine pu 16 19 ?_
    refine pu 17 20 ?_
    refine pz 18 21 ?_
    refine pz 19 22 ?_
    refine pu 20 23 ?_
    refine pu 21 24 ?_
    refine pu 22 25 ?_
    refine pu 23 26 ?_
    refine pu 24 27 ?_
    refine pu 25 28 ?_
    refine pz 26 29 ?_
    refine pz 27 30 ?_
    refine pu 28 31 ?_
    refine pu 29 32 ?_
    refine pu 30 33 ?_
    refine pu 31 34 ?_
    refine pu 32 35 ?_
    refine pu 33 36 ?_
    refine pu 34 37 ?_
    refine pu 35 38 ?_
    refine pz 36 39 ?_
    refine done_ (done_of HT_.out (by kernel_rfl)) ?_
    try go_wp2
    go_meet
    case rel => exact ⟨_, (true), z5, H', ⟨z31⟩, ⟨z21⟩, ⟨z11⟩⟩
   ·rw [if_neg c6] at H
    have c6b0 : decide (a0_1 < 1) = false := decide_eq_false c6
    clear c6
    (first | rw [c6b0] | (simp only [i64_w, i32_w]; rw [c6b0]) | skip)
    by_cases c9 : a0_1 > 65535
    ·rw [if_pos c9] at H
     have c9b0 : decide (65535 < a0_1) = true := decide_eq_true c9
     clear c9
     have H' := Aside0.mk H
     clear H
     try go_wp2
     have n0_ := Aside0.mk (blk_drew BK416.out)
     have n1_ := Aside0.mk (below_drew1 HB.out)
     clear BK416
     clear HB
     have BK416 := n0_
     have HB := n1_
     clear n0_ n1_
     refine start_ (n := 37) (S := fun w' => w'.cell? ⟨gb416, 0, none⟩ = some (.string a0_0) ∧ w'.cell? ⟨gb416, 1, none⟩ = some (.int .i64 a0_1) ∧ w'.cell? ⟨gb416, 2, none⟩ = some (.string a0_2) ∧ w'.cell? ⟨gb416, 3, none⟩ = some (.string a0_3) ∧ w'.cell? ⟨gb416, 4, none⟩ = some (.bool a0_4)) (ds := []) #[false, false, false, false, false, false, false, false, false, false, false, false, false, false, false, false, false, false, false, false, false, false, false, false, false, false, false, false, false, false, false, false, false, false, false, false, false] (by kernel_rfl) rfl rfl ⟨(blk_cell BK416.out 0).trans rfl, (blk_cell BK416.out 1).trans rfl, (blk_cell BK416.out 2).trans rfl, (blk_cell BK416.out 3).trans rfl, (blk_cell BK416.out 4).trans rfl⟩ (fun hHeld => ?_); refine with_tabW spec_UrlOk.tab1 spec_UrlOk.bits1 (fun HT_ HW_ => ?_)
     generalize w3.drew = w10 at BK416 HB hHeld ⊢
     refine pz 0 3 ?_
     refine tk (i := 1) (N := some 4) (v := ?_) (a' := ?_) rfl rfl (take_ofW HT_.out HW_.out (by kernel_rfl)) (Or.inl ⟨by rfl, ?_⟩) hHeld ?_ ?_
     rotate_left
     ·rintro w' ⟨s0, s1, s2, s3, s4⟩
      go_simp
      with_reducible rfl
     rotate_left
     ·simp only [Act.put, List.setIfInBounds_toArray, List.set_cons_zero, List.set_cons_succ, i64_w, i32_w]
      rfl
     refine oz 2 5 (fun K hK => ?_)
     refine goes_ Tryz.func18 (by kernel_rfl) rfl #[.string a0_0] (by rfl) rfl rfl z8 ?_
     with_reducible refine (spec_l7host.calls k a0_0 true _ A4.out).mono ?_
     rintro e w11 ⟨rfl, hb⟩
     refine ⟨_, rfl, ?_⟩
     have n0_ := Aside0.mk (blk_below (g := gb416) (o := .cells #[.string a0_0, .int .i64 a0_1, .string a0_2, .string a0_3, .bool a0_4] 24 (0, 0)) z21 hb)
     have n1_ := Aside0.mk (below_step z11 hb)
     clear BK416
     clear HB
     have BK416 := n0_
     have HB := n1_
     clear n0_ n1_
     (try clear hb)
     (try clear hb2)
     (try clear hk)
     (try clear hi)
     refine hK.out _ _ ⟨(blk_cell BK416.out 0).trans rfl, (blk_cell BK416.out 1).trans rfl, (blk_cell BK416.out 2).trans rfl, (blk_cell BK416.out 3).trans rfl, (blk_cell BK416.out 4).trans rfl⟩ (fun hHeld => ?_)
     clear hK K
     refine nz ?_
     refine pz 3 6 ?_
     refine pz 4 7 ?_
     refine pz 5 8 ?_
     refine tk (i := 6) (N := some 9) (v := ?_) (a' := ?_) rfl rfl (take_ofW HT_.out HW_.out (by kernel_rfl)) (Or.inl ⟨by rfl, ?_⟩) hHeld ?_ ?_
     rotate_left
     ·rintro w' ⟨s0, s1, s2, s3, s4⟩
      go_simp
      with_reducible rfl
     rotate_left
     ·simp only [Act.put, List.setIfInBounds_toArray, List.set_cons_zero, List.set_cons_succ, i64_w, i32_w]
      rfl
     refine pz 7 10 ?_
     refine pz 8 11 ?_
     refine pz 9 12 ?_
     refine pz 10 13 ?_
     refine tk (i := 11) (N := some 14) (v := ?_) (a' := ?_) rfl rfl (take_ofW HT_.out HW_.out (by kernel_rfl)) (Or.inl ⟨by rfl, ?_⟩) hHeld ?_ ?_
     rotate_left
     ·rintro w' ⟨s0, s1, s2, s3, s4⟩
      go_simp
      with_reducible rfl
     rotate_left
     ·simp only [Act.put, List.setIfInBounds_toArray, List.set_cons_zero, List.set_cons_succ, i64_w, i32_w]
      rfl
     refine pz 12 15 ?_
     refine pz 13 16 ?_
     refine pz 14 17 ?_
     refine pu 15 18 ?_
     refine pu 16 19 ?_
     refine pu 17 20 ?_
     refine pz 18 21 ?_
     refine pz 19 22 ?_
     refine pu 20 23 ?_
     refine pu 21 24 ?_
     refine pu 22 25 ?_
     refine pu 23 26 ?_
     refine pu 24 27 ?_
     refine pu 25 28 ?_
     refine pz 26 29 ?_
     refine pz 27 30 ?_
     refine pu 28 31 ?_
     refine pu 29 32 ?_
     refine pu 30 33 ?_
     refine pu 31 34 ?_
     refine pu 32 35 ?_
     refine pu 33 36 ?_
     refine pu 34 37 ?_
     refine pu 35 38 ?_
     refine pz 36 39 ?_
     refine done_ (done_of HT_.out (by kernel_rfl)) ?_
     try go_wp2
     go_meet
     case rel => exact ⟨_, (true), z5, H', ⟨z31⟩, ⟨z21⟩, ⟨z11⟩⟩
    ·rw [if_neg c9] at H
     have c9b0 : decide (65535 < a0_1) = false := decide_eq_false c9
     clear c9
     by_cases c12 : a0_2.toList = ([] : List UInt8)
     ·rw [if_pos c12] at H
      have c12b0 : (a0_2.toList == ([] : List UInt8)) = true := beq_iff_eq.mpr c12
      have c12e : a0_2.toList.isEmpty = true := by have hz_ := beq_iff_eq.1 c12b0; rw [hz_]; rfl
      (try rw [c12e])
      have c12b1 : (a0_2.toList != ([] : List UInt8)) = false := bne_eq_false_iff_eq.mpr c12
      clear c12
      have H' := Aside0.mk H
      clear H
      try go_wp2
      have n0_ := Aside0.mk (blk_drew BK416.out)
      have n1_ := Aside0.mk (below_drew1 HB.out)
      clear BK416
      clear HB
      have BK416 := n0_
      have HB := n1_
      clear n0_ n1_
      refine start_ (n := 37) (S := fun w' => w'.cell? ⟨gb416, 0, none⟩ = some (.string a0_0) ∧ w'.cell? ⟨gb416, 1, none⟩ = some (.int .i64 a0_1) ∧ w'.cell? ⟨gb416, 2, none⟩ = some (.string a0_2) ∧ w'.cell? ⟨gb416, 3, none⟩ = some (.string a0_3) ∧ w'.cell? ⟨gb416, 4, none⟩ = some (.bool a0_4)) (ds := []) #[false, false, false, false, false, false, false, false, false, false, false, false, false, false, false, false, false, false, false, false, false, false, false, false, false, false, false, false, false, false, false, false, false, false, false, false, false] (by kernel_rfl) rfl rfl ⟨(blk_cell BK416.out 0).trans rfl, (blk_cell BK416.out 1).trans rfl, (blk_cell BK416.out 2).trans rfl, (blk_cell BK416.out 3).trans rfl, (blk_cell BK416.out 4).trans rfl⟩ (fun hHeld => ?_); refine with_tabW spec_UrlOk.tab1 spec_UrlOk.bits1 (fun HT_ HW_ => ?_)
      generalize w3.drew = w13 at BK416 HB hHeld ⊢
      refine pz 0 3 ?_
      refine tk (i := 1) (N := some 4) (v := ?_) (a' := ?_) rfl rfl (take_ofW HT_.out HW_.out (by kernel_rfl)) (Or.inl ⟨by rfl, ?_⟩) hHeld ?_ ?_
      rotate_left
      ·rintro w' ⟨s0, s1, s2, s3, s4⟩
       go_simp
       with_reducible rfl
      rotate_left
      ·simp only [Act.put, List.setIfInBounds_toArray, List.set_cons_zero, List.set_cons_succ, i64_w, i32_w]
       rfl
      refine oz 2 5 (fun K hK => ?_)
      refine goes_ Tryz.func18 (by kernel_rfl) rfl #[.string a0_0] (by rfl) rfl rfl z8 ?_
      with_reducible refine (spec_l7host.calls k a0_0 true _ A4.out).mono ?_
      rintro e w14 ⟨rfl, hb⟩
      refine ⟨_, rfl, ?_⟩
      have n0_ := Aside0.mk (blk_below (g := gb416) (o := .cells #[.string a0_0, .int .i64 a0_1, .string a0_2, .string a0_3, .bool a0_4] 24 (0, 0)) z21 hb)
      have n1_ := Aside0.mk (below_step z11 hb)
      clear BK416
      clear HB
      have BK416 := n0_
      have HB := n1_
      clear n0_ n1_
      (try clear hb)
      (try clear hb2)
      (try clear hk)
      (try clear hi)
      refine hK.out _ _ ⟨(blk_cell BK416.out 0).trans rfl, (blk_cell BK416.out 1).trans rfl, (blk_cell BK416.out 2).trans rfl, (blk_cell BK416.out 3).trans rfl, (blk_cell BK416.out 4).trans rfl⟩ (fun hHeld => ?_)
      clear hK K
      refine nz ?_
      refine pz 3 6 ?_
      refine pz 4 7 ?_
      refine pz 5 8 ?_
      refine tk (i := 6) (N := some 9) (v := ?_) (a' := ?_) rfl rfl (take_ofW HT_.out HW_.out (by kernel_rfl)) (Or.inl ⟨by rfl, ?_⟩) hHeld ?_ ?_
      rotate_left
      ·rintro w' ⟨s0, s1, s2, s3, s4⟩
       go_simp
       with_reducible rfl
      rotate_left
      ·simp only [Act.put, List.setIfInBounds_toArray, List.set_cons_zero, List.set_cons_succ, i64_w, i32_w]
       rfl
      refine pz 7 10 ?_
      refine pz 8 11 ?_
      refine pz 9 12 ?_
      refine pz 10 13 ?_
      refine tk (i := 11) (N := some 14) (v := ?_) (a' := ?_) rfl rfl (take_ofW HT_.out HW_.out (by kernel_rfl)) (Or.inl ⟨by rfl, ?_⟩) hHeld ?_ ?_
      rotate_left
      ·rintro w' ⟨s0, s1, s2, s3, s4⟩
       go_simp
       with_reducible rfl
      rotate_left
      ·simp only [Act.put, List.setIfInBounds_toArray, List.set_cons_zero, List.set_cons_succ, i64_w, i32_w]
       rfl
      refine pz 12 15 ?_
      refine pz 13 16 ?_
      refine pz 14 17 ?_
      refine pz 15 18 ?_
      refine tk (i := 16) (N := some 19) (v := ?_) (a' := ?_) rfl rfl (take_ofW HT_.out HW_.out (by kernel_rfl)) (Or.inl ⟨by rfl, ?_⟩) hHeld ?_ ?_
      rotate_left
      ·rintro w' ⟨s0, s1, s2, s3, s4⟩
       go_simp
       with_reducible rfl
      rotate_left
      ·simp only [Act.put, List.setIfInBounds_toArray, List.set_cons_zero, List.set_cons_succ, i64_w, i32_w]
       rfl
      refine pz 17 20 ?_
      refine pz 18 21 ?_
      refine pz 19 22 ?_
      refine pu 20 23 ?_
      refine pu 21 24 ?_
      refine pu 22 25 ?_
      refine pu 23 26 ?_
      refine pu 24 27 ?_
      refine pu 25 28 ?_
      refine pz 26 29 ?_
      refine pz 27 30 ?_
      refine pu 28 31 ?_
      refine pu 29 32 ?_
      refine pu 30 33 ?_
      refine pu 31 34 ?_
      refine pu 32 35 ?_
      refine pu 33 36 ?_
      refine pu 34 37 ?_
      refine pu 35 38 ?_
      refine pz 36 39 ?_
      refine done_ (done_of HT_.out (by kernel_rfl)) ?_
      try go_wp2
      go_meet
      case rel => exact ⟨_, (true), z5, H', ⟨z31⟩, ⟨z21⟩, ⟨z11⟩⟩
     ·rw [if_neg c12] at H
      have c12b0 : (a0_2.toList == ([] : List UInt8)) = false := beq_eq_false_iff_ne.mpr c12
      have c12e : a0_2.toList.isEmpty = false := by cases hz_ : a0_2.toList with | nil => (rw [hz_] at c12b0; exact absurd c12b0 (by decide)) | cons _ _ => rfl
      (try rw [c12e])
      have c12b1 : (a0_2.toList != ([] : List UInt8)) = true := bne_iff_ne.mpr c12
      replace H := Option.bind_eq_some_iff.mp H
      obtain ⟨t418, A150, H⟩ := H
      try dsimp only at H
      have A15 := Aside0.mk A150
      clear A150
      by_cases c16 : t418.toList = a0_2.toList
      ·rw [if_pos c16] at H
       have c16b0 : (t418.toList == a0_2.toList) = true := beq_iff_eq.mpr c16
       have c16b1 : (t418.toList != a0_2.toList) = false := bne_eq_false_iff_eq.mpr c16
       clear c16
       by_cases c17 : a0_4 = true
       ·subst c17
        rw [if_pos rfl] at H
        have H' := Aside0.mk H
        clear H
        try go_wp2
        have n0_ := Aside0.mk (blk_drew BK416.out)
        have n1_ := Aside0.mk (below_drew1 HB.out)
        clear BK416
        clear HB
        have BK416 := n0_
        have HB := n1_
        clear n0_ n1_
        refine start_ (n := 37) (S := fun w' => w'.cell? ⟨gb416, 0, none⟩ = some (.string a0_0) ∧ w'.cell? ⟨gb416, 1, none⟩ = some (.int .i64 a0_1) ∧ w'.cell? ⟨gb416, 2, none⟩ = some (.string a0_2) ∧ w'.cell? ⟨gb416, 3, none⟩ = some (.string a0_3) ∧ w'.cell? ⟨gb416, 4, none⟩ = some (.bool true)) (ds := []) #[false, false, false, false, false, false, false, false, false, false, false, false, false, false, false, false, false, false, false, false, false, false, false, false, false, false, false, false, false, false, false, false, false, false, false, false, false] (by kernel_rfl) rfl rfl ⟨(blk_cell BK416.out 0).trans rfl, (blk_cell BK416.out 1).trans rfl, (blk_cell BK416.out 2).trans rfl, (blk_cell BK416.out 3).trans rfl, (blk_cell BK416.out 4).trans rfl⟩ (fun hHeld => ?_); refine with_tabW spec_UrlOk.tab1 spec_UrlOk.bits1 (fun HT_ HW_ => ?_)
        generalize w3.drew = w18 at BK416 HB hHeld ⊢
        refine pz 0 3 ?_
        refine tk (i := 1) (N := some 4) (v := ?_) (a' := ?_) rfl rfl (take_ofW HT_.out HW_.out (by kernel_rfl)) (Or.inl ⟨by rfl, ?_⟩) hHeld ?_ ?_
        rotate_left
        ·rintro w' ⟨s0, s1, s2, s3, s4⟩
         go_simp
         with_reducible rfl
        rotate_left
        ·simp only [Act.put, List.setIfInBounds_toArray, List.set_cons_zero, List.set_cons_succ, i64_w, i32_w]
         rfl
        refine oz 2 5 (fun K hK => ?_)
        refine goes_ Tryz.func18 (by kernel_rfl) rfl #[.string a0_0] (by rfl) rfl rfl z8 ?_
        with_reducible refine (spec_l7host.calls k a0_0 true _ A4.out).mono ?_
        rintro e w19 ⟨rfl, hb⟩
        refine ⟨_, rfl, ?_⟩
        have n0_ := Aside0.mk (blk_below (g := gb416) (o := .cells #[.string a0_0, .int .i64 a0_1, .string a0_2, .string a0_3, .bool true] 24 (0, 0)) z21 hb)
        have n1_ := Aside0.mk (below_step z11 hb)
        clear BK416
        clear HB
        have BK416 := n0_
        have HB := n1_
        clear n0_ n1_
        (try clear hb)
        (try clear hb2)
        (try clear hk)
        (try clear hi)
        refine hK.out _ _ ⟨(blk_cell BK416.out 0).trans rfl, (blk_cell BK416.out 1).trans rfl, (blk_cell BK416.out 2).trans rfl, (blk_cell BK416.out 3).trans rfl, (blk_cell BK416.out 4).trans rfl⟩ (fun hHeld => ?_)
        clear hK K
        refine nz ?_
        refine pz 3 6 ?_
        refine pz 4 7 ?_
        refine pz 5 8 ?_
        refine tk (i := 6) (N := some 9) (v := ?_) (a' := ?_) rfl rfl (take_ofW HT_.out HW_.out (by kernel_rfl)) (Or.inl ⟨by rfl, ?_⟩) hHeld ?_ ?_
        rotate_left
        ·rintro w' ⟨s0, s1, s2, s3, s4⟩
         go_simp
         with_reducible rfl
        rotate_left
        ·simp only [Act.put, List.setIfInBounds_toArray, List.set_cons_zero, List.set_cons_succ, i64_w, i32_w]
         rfl
        refine pz 7 10 ?_
        refine pz 8 11 ?_
        refine pz 9 12 ?_
        refine pz 10 13 ?_
        refine tk (i := 11) (N := some 14) (v := ?_) (a' := ?_) rfl rfl (take_ofW HT_.out HW_.out (by kernel_rfl)) (Or.inl ⟨by rfl, ?_⟩) hHeld ?_ ?_
        rotate_left
        ·rintro w' ⟨s0, s1, s2, s3, s4⟩
         go_simp
         with_reducible rfl
        rotate_left
        ·simp only [Act.put, List.setIfInBounds_toArray, List.set_cons_zero, List.set_cons_succ, i64_w, i32_w]
         rfl
        refine pz 12 15 ?_
        refine pz 13 16 ?_
        refine pz 14 17 ?_
        refine pz 15 18 ?_
        refine tk (i := 16) (N := some 19) (v := ?_) (a' := ?_) rfl rfl (take_ofW HT_.out HW_.out (by kernel_rfl)) (Or.inl ⟨by rfl, ?_⟩) hHeld ?_ ?_
        rotate_left
        ·rintro w' ⟨s0, s1, s2, s3, s4⟩
         go_simp
         with_reducible rfl
        rotate_left
        ·simp only [Act.put, List.setIfInBounds_toArray, List.set_cons_zero, List.set_cons_succ, i64_w, i32_w]
         rfl
        refine pz 17 20 ?_
        refine pz 18 21 ?_
        refine pz 19 22 ?_
        refine pz 20 23 ?_
        refine pz 23 26 ?_
        refine tk (i := 21) (N := some 24) (v := ?_) (a' := ?_) rfl rfl (take_ofW HT_.out HW_.out (by kernel_rfl)) (Or.inl ⟨by rfl, ?_⟩) hHeld ?_ ?_
        rotate_left
        ·rintro w' ⟨s0, s1, s2, s3, s4⟩
         go_simp
         with_reducible rfl
        rotate_left
        ·simp only [Act.put, List.setIfInBounds_toArray, List.set_cons_zero, List.set_cons_succ, i64_w, i32_w]
         rfl
        refine tk (i := 24) (N := some 27) (v := ?_) (a' := ?_) rfl rfl (take_ofW HT_.out HW_.out (by kernel_rfl)) (Or.inl ⟨by rfl, ?_⟩) hHeld ?_ ?_
        rotate_left
        ·rintro w' ⟨s0, s1, s2, s3, s4⟩
         go_simp
         with_reducible rfl
        rotate_left
        ·simp only [Act.put, List.setIfInBounds_toArray, List.set_cons_zero, List.set_cons_succ, i64_w, i32_w]
         rfl
        refine oz 22 25 (fun K hK => ?_)
        refine goes_ Tryz.func19 (by kernel_rfl) rfl #[.string a0_2] (by rfl) rfl rfl z8 ?_
        with_reducible refine (spec_CleanPath.calls k a0_2 t418 _ A15.out).mono ?_
        rintro e w20 ⟨rfl, hb⟩
        refine ⟨_, rfl, ?_⟩
        have n0_ := Aside0.mk (blk_below (g := gb416) (o := .cells #[.string a0_0, .int .i64 a0_1, .string a0_2, .string a0_3, .bool true] 24 (0, 0)) z21 hb)
        have n1_ := Aside0.mk (below_step z11 hb)
        clear BK416
        clear HB
        have BK416 := n0_
        have HB := n1_
        clear n0_ n1_
        (try clear hb)
        (try clear hb2)
        (try clear hk)
        (try clear hi)
        refine hK.out _ _ ⟨(blk_cell BK416.out 0).trans rfl, (blk_cell BK416.out 1).trans rfl, (blk_cell BK416.out 2).trans rfl, (blk_cell BK416.out 3).trans rfl, (blk_cell BK416.out 4).trans rfl⟩ (fun hHeld => ?_)
        clear hK K
        refine nz ?_
        refine pz 25 28 ?_
        refine pz 26 29 ?_
        refine pz 27 30 ?_
        refine pz 28 31 ?_
        refine tk (i := 29) (N := some 32) (v := ?_) (a' := ?_) rfl rfl (take_ofW HT_.out HW_.out (by kernel_rfl)) (Or.inl ⟨by rfl, ?_⟩) hHeld ?_ ?_
        rotate_left
        ·rintro w' ⟨s0, s1, s2, s3, s4⟩
         go_simp
         with_reducible rfl
        rotate_left
        ·simp only [Act.put, List.setIfInBounds_toArray, List.set_cons_zero, List.set_cons_succ, i64_w, i32_w]
         rfl
        refine pz 30 33 ?_
        refine pz 31 34 ?_
        refine pu 32 35 ?_
        refine pu 33 36 ?_
        refine pu 34 37 ?_
        refine pz 35 38 ?_
        refine pz 36 39 ?_
        refine done_ (done_of HT_.out (by kernel_rfl)) ?_
        try go_wp2
        go_meet
        case rel => exact ⟨_, (false), z5, H', ⟨z31⟩, ⟨z21⟩, ⟨z11⟩⟩
       ·replace c17 := Bool.eq_false_iff.mpr c17
        subst c17
        rw [if_neg Bool.false_ne_true] at H
        have H' := Aside0.mk H
        clear H
        try go_wp2
        have n0_ := Aside0.mk (blk_drew BK416.out)
        have n1_ := Aside0.mk (below_drew1 HB.out)
        clear BK416
        clear HB
        have BK416 := n0_
        have HB := n1_
        clear n0_ n1_
        refine start_ (n := 37) (S := fun w' => w'.cell? ⟨gb416, 0, none⟩ = some (.string a0_0) ∧ w'.cell? ⟨gb416, 1, none⟩ = some (.int .i64 a0_1) ∧ w'.cell? ⟨gb416, 2, none⟩ = some (.string a0_2) ∧ w'.cell? ⟨gb416, 3, none⟩ = some (.string a0_3) ∧ w'.cell? ⟨gb416, 4, none⟩ = some (.bool false)) (ds := []) #[false, false, false, false, false, false, false, false, false, false, false, false, false, false, false, false, false, false, false, false, false, false, false, false, false, false, false, false, false, false, false, false, false, false, false, false, false] (by kernel_rfl) rfl rfl ⟨(blk_cell BK416.out 0).trans rfl, (blk_cell BK416.out 1).trans rfl, (blk_cell BK416.out 2).trans rfl, (blk_cell BK416.out 3).trans rfl, (blk_cell BK416.out 4).trans rfl⟩ (fun hHeld => ?_); refine with_tabW spec_UrlOk.tab1 spec_UrlOk.bits1 (fun HT_ HW_ => ?_)
        generalize w3.drew = w21 at BK416 HB hHeld ⊢
        refine pz 0 3 ?_
        refine tk (i := 1) (N := some 4) (v := ?_) (a' := ?_) rfl rfl (take_ofW HT_.out HW_.out (by kernel_rfl)) (Or.inl ⟨by rfl, ?_⟩) hHeld ?_ ?_
        rotate_left
        ·rintro w' ⟨s0, s1, s2, s3, s4⟩
         go_simp
         with_reducible rfl
        rotate_left
        ·simp only [Act.put, List.setIfInBounds_toArray, List.set_cons_zero, List.set_cons_succ, i64_w, i32_w]
         rfl
        refine oz 2 5 (fun K hK => ?_)
        refine goes_ Tryz.func18 (by kernel_rfl) rfl #[.string a0_0] (by rfl) rfl rfl z8 ?_
        with_reducible refine (spec_l7host.calls k a0_0 true _ A4.out).mono ?_
        rintro e w22 ⟨rfl, hb⟩
        refine ⟨_, rfl, ?_⟩
        have n0_ := Aside0.mk (blk_below (g := gb416) (o := .cells #[.string a0_0, .int .i64 a0_1, .string a0_2, .string a0_3, .bool false] 24 (0, 0)) z21 hb)
        have n1_ := Aside0.mk (below_step z11 hb)
        clear BK416
        clear HB
        have BK416 := n0_
        have HB := n1_
        clear n0_ n1_
        (try clear hb)
        (try clear hb2)
        (try clear hk)
        (try clear hi)
        refine hK.out _ _ ⟨(blk_cell BK416.out 0).trans rfl, (blk_cell BK416.out 1).trans rfl, (blk_cell BK416.out 2).trans rfl, (blk_cell BK416.out 3).trans rfl, (blk_cell BK416.out 4).trans rfl⟩ (fun hHeld => ?_)
        clear hK K
        refine nz ?_
        refine pz 3 6 ?_
        refine pz 4 7 ?_
        refine pz 5 8 ?_
        refine tk (i := 6) (N := some 9) (v := ?_) (a' := ?_) rfl rfl (take_ofW HT_.out HW_.out (by kernel_rfl)) (Or.inl ⟨by rfl, ?_⟩) hHeld ?_ ?_
        rotate_left
        ·rintro w' ⟨s0, s1, s2, s3, s4⟩
         go_simp
         with_reducible rfl
        rotate_left
        ·simp only [Act.put, List.setIfInBounds_toArray, List.set_cons_zero, List.set_cons_succ, i64_w, i32_w]
         rfl
        refine pz 7 10 ?_
        refine pz 8 11 ?_
        refine pz 9 12 ?_
        refine pz 10 13 ?_
        refine tk (i := 11) (N := some 14) (v := ?_) (a' := ?_) rfl rfl (take_ofW HT_.out HW_.out (by kernel_rfl)) (Or.inl ⟨by rfl, ?_⟩) hHeld ?_ ?_
        rotate_left
        ·rintro w' ⟨s0, s1, s2, s3, s4⟩
         go_simp
         with_reducible rfl
        rotate_left
        ·simp only [Act.put, List.setIfInBounds_toArray, List.set_cons_zero, List.set_cons_succ, i64_w, i32_w]
         rfl
        refine pz 12 15 ?_
        refine pz 13 16 ?_
        refine pz 14 17 ?_
        refine pz 15 18 ?_
        refine tk (i := 16) (N := some 19) (v := ?_) (a' := ?_) rfl rfl (take_ofW HT_.out HW_.out (by kernel_rfl)) (Or.inl ⟨by rfl, ?_⟩) hHeld ?_ ?_
        rotate_left
        ·rintro w' ⟨s0, s1, s2, s3, s4⟩
         go_simp
         with_reducible rfl
        rotate_left
        ·simp only [Act.put, List.setIfInBounds_toArray, List.set_cons_zero, List.set_cons_succ, i64_w, i32_w]
         rfl
        refine pz 17 20 ?_
        refine pz 18 21 ?_
        refine pz 19 22 ?_
        refine pz 20 23 ?_
        refine pz 23 26 ?_
        refine tk (i := 21) (N := some 24) (v := ?_) (a' := ?_) rfl rfl (take_ofW HT_.out HW_.out (by kernel_rfl)) (Or.inl ⟨by rfl, ?_⟩) hHeld ?_ ?_
        rotate_left
        ·rintro w' ⟨s0, s1, s2, s3, s4⟩
         go_simp
         with_reducible rfl
        rotate_left
        ·simp only [Act.put, List.setIfInBounds_toArray, List.set_cons_zero, List.set_cons_succ, i64_w, i32_w]
         rfl
        refine tk (i := 24) (N := some 27) (v := ?_) (a' := ?_) rfl rfl (take_ofW HT_.out HW_.out (by kernel_rfl)) (Or.inl ⟨by rfl, ?_⟩) hHeld ?_ ?_
        rotate_left
        ·rintro w' ⟨s0, s1, s2, s3, s4⟩
         go_simp
         with_reducible rfl
        rotate_left
        ·simp only [Act.put, List.setIfInBounds_toArray, List.set_cons_zero, List.set_cons_succ, i64_w, i32_w]
         rfl
        refine oz 22 25 (fun K hK => ?_)
        refine goes_ Tryz.func19 (by kernel_rfl) rfl #[.string a0_2] (by rfl) rfl rfl z8 ?_
        with_reducible refine (spec_CleanPath.calls k a0_2 t418 _ A15.out).mono ?_
        rintro e w23 ⟨rfl, hb⟩
        refine ⟨_, rfl, ?_⟩
        have n0_ := Aside0.mk (blk_below (g := gb416) (o := .cells #[.string a0_0, .int .i64 a0_1, .string a0_2, .string a0_3, .bool false] 24 (0, 0)) z21 hb)
        have n1_ := Aside0.mk (below_step z11 hb)
        clear BK416
        clear HB
        have BK416 := n0_
        have HB := n1_
        clear n0_ n1_
        (try clear hb)
        (try clear hb2)
        (try clear hk)
        (try clear hi)
        refine hK.out _ _ ⟨(blk_cell BK416.out 0).trans rfl, (blk_cell BK416.out 1).trans rfl, (blk_cell BK416.out 2).trans rfl, (blk_cell BK416.out 3).trans rfl, (blk_cell BK416.out 4).trans rfl⟩ (fun hHeld => ?_)
        clear hK K
        refine nz ?_
        refine pz 25 28 ?_
        refine pz 26 29 ?_
        refine pz 27 30 ?_
        refine pz 28 31 ?_
        refine tk (i := 29) (N := some 32) (v := ?_) (a' := ?_) rfl rfl (take_ofW HT_.out HW_.out (by kernel_rfl)) (Or.inl ⟨by rfl, ?_⟩) hHeld ?_ ?_
        rotate_left
        ·rintro w' ⟨s0, s1, s2, s3, s4⟩
         go_simp
         with_reducible rfl
        rotate_left
        ·simp only [Act.put, List.setIfInBounds_toArray, List.set_cons_zero, List.set_cons_succ, i64_w, i32_w]
         rfl
        refine pz 30 33 ?_
        refine pz 31 34 ?_
        refine pz 32 35 ?_
        refine tk (i := 33) (N := some 36) (v := ?_) (a' := ?_) rfl rfl (take_ofW HT_.out HW_.out (by kernel_rfl)) (Or.inl ⟨by rfl, ?_⟩) hHeld ?_ ?_
        rotate_left
        ·rintro w' ⟨s0, s1, s2, s3, s4⟩
         go_simp
         with_reducible rfl
        rotate_left
        ·simp only [Act.put, List.setIfInBounds_toArray, List.set_cons_zero, List.set_cons_succ, i64_w, i32_w]
         rfl
        refine pz 34 37 ?_
        refine pz 35 38 ?_
        refine pz 36 39 ?_
        refine done_ (done_of HT_.out (by kernel_rfl)) ?_
        try go_wp2
        go_meet
        case rel => exact ⟨_, ((a0_3.toList != ([] : List UInt8))), (by first | rfl | (simp; done) | (simp [*]; done) | (generalize a0_3.toList = L_; cases L_ <;> first | rfl | (simp; done))), H', ⟨z31⟩, ⟨z21⟩, ⟨z11⟩⟩
      ·rw [if_neg c16] at H
       have c16b0 : (t418.toList == a0_2.toList) = false := beq_eq_false_iff_ne.mpr c16
       have c16b1 : (t418.toList != a0_2.toList) = true := bne_iff_ne.mpr c16
       have H' := Aside0.mk H
       clear H
       try go_wp2
       have n0_ := Aside0.mk (blk_drew BK416.out)
       have n1_ := Aside0.mk (below_drew1 HB.out)
       clear BK416
       clear HB
       have BK416 := n0_
       have HB := n1_
       clear n0_ n1_
       refine start_ (n := 37) (S := fun w' => w'.cell? ⟨gb416, 0, none⟩ = some (.string a0_0) ∧ w'.cell? ⟨gb416, 1, none⟩ = some (.int .i64 a0_1) ∧ w'.cell? ⟨gb416, 2, none⟩ = some (.string a0_2) ∧ w'.cell? ⟨gb416, 3, none⟩ = some (.string a0_3) ∧ w'.cell? ⟨gb416, 4, none⟩ = some (.bool a0_4)) (ds := []) #[false, false, false, false, false, false, false, false, false, false, false, false, false, false, false, false, false, false, false, false, false, false, false, false, false, false, false, false, false, false, false, false, false, false, false, false, false] (by kernel_rfl) rfl rfl ⟨(blk_cell BK416.out 0).trans rfl, (blk_cell BK416.out 1).trans rfl, (blk_cell BK416.out 2).trans rfl, (blk_cell BK416.out 3).trans rfl, (blk_cell BK416.out 4).trans rfl⟩ (fun hHeld => ?_); refine with_tabW spec_UrlOk.tab1 spec_UrlOk.bits1 (fun HT_ HW_ => ?_)
       generalize w3.drew = w24 at BK416 HB hHeld ⊢
       refine pz 0 3 ?_
       refine tk (i := 1) (N := some 4) (v := ?_) (a' := ?_) rfl rfl (take_ofW HT_.out HW_.out (by kernel_rfl)) (Or.inl ⟨by rfl, ?_⟩) hHeld ?_ ?_
       rotate_left
       ·rintro w' ⟨s0, s1, s2, s3, s4⟩
        go_simp
        with_reducible rfl
       rotate_left
       ·simp only [Act.put, List.setIfInBounds_toArray, List.set_cons_zero, List.set_cons_succ, i64_w, i32_w]
        rfl
       refine oz 2 5 (fun K hK => ?_)
       refine goes_ Tryz.func18 (by kernel_rfl) rfl #[.string a0_0] (by rfl) rfl rfl z8 ?_
       with_reducible refine (spec_l7host.calls k a0_0 true _ A4.out).mono ?_
       rintro e w25 ⟨rfl, hb⟩
       refine ⟨_, rfl, ?_⟩
       have n0_ := Aside0.mk (blk_below (g := gb416) (o := .cells #[.string a0_0, .int .i64 a0_1, .string a0_2, .string a0_3, .bool a0_4] 24 (0, 0)) z21 hb)
       have n1_ := Aside0.mk (below_step z11 hb)
       clear BK416
       clear HB
       have BK416 := n0_
       have HB := n1_
       clear n0_ n1_
       (try clear hb)
       (try clear hb2)
       (try clear hk)
       (try clear hi)
       refine hK.out _ _ ⟨(blk_cell BK416.out 0).trans rfl, (blk_cell BK416.out 1).trans rfl, (blk_cell BK416.out 2).trans rfl, (blk_cell BK416.out 3).trans rfl, (blk_cell BK416.out 4).trans rfl⟩ (fun hHeld => ?_)
       clear hK K
       refine nz ?_
       refine pz 3 6 ?_
       refine pz 4 7 ?_
       refine pz 5 8 ?_
       refine tk (i := 6) (N := some 9) (v := ?_) (a' := ?_) rfl rfl (take_ofW HT_.out HW_.out (by kernel_rfl)) (Or.inl ⟨by rfl, ?_⟩) hHeld ?_ ?_
       rotate_left
       ·rintro w' ⟨s0, s1, s2, s3, s4⟩
        go_simp
        with_reducible rfl
       rotate_left
       ·simp only [Act.put, List.setIfInBounds_toArray, List.set_cons_zero, List.set_cons_succ, i64_w, i32_w]
        rfl
       refine pz 7 10 ?_
       refine pz 8 11 ?_
       refine pz 9 12 ?_
       refine pz 10 13 ?_
       refine tk (i := 11) (N := some 14) (v := ?_) (a' := ?_) rfl rfl (take_ofW HT_.out HW_.out (by kernel_rfl)) (Or.inl ⟨by rfl, ?_⟩) hHeld ?_ ?_
       rotate_left
       ·rintro w' ⟨s0, s1, s2, s3, s4⟩
        go_simp
        with_reducible rfl
       rotate_left
       ·simp only [Act.put, List.setIfInBounds_toArray, List.set_cons_zero, List.set_cons_succ, i64_w, i32_w]
        rfl
       refine pz 12 15 ?_
       refine pz 13 16 ?_
       refine pz 14 17 ?_
       refine pz 15 18 ?_
       refine tk (i := 16) (N := some 19) (v := ?_) (a' := ?_) rfl rfl (take_ofW HT_.out HW_.out (by kernel_rfl)) (Or.inl ⟨by rfl, ?_⟩) hHeld ?_ ?_
       rotate_left
       ·rintro w' ⟨s0, s1, s2, s3, s4⟩
        go_simp
        with_reducible rfl
       rotate_left
       ·simp only [Act.put, List.setIfInBounds_toArray, List.set_cons_zero, List.set_cons_succ, i64_w, i32_w]
        rfl
       refine pz 17 20 ?_
       refine pz 18 21 ?_
       refine pz 19 22 ?_
       refine pz 20 23 ?_
       refine pz 23 26 ?_
       refine tk (i := 21) (N := some 24) (v := ?_) (a' := ?_) rfl rfl (take_ofW HT_.out HW_.out (by kernel_rfl)) (Or.inl ⟨by rfl, ?_⟩) hHeld ?_ ?_
       rotate_left
       ·rintro w' ⟨s0, s1, s2, s3, s4⟩
        go_simp
        with_reducible rfl
       rotate_left
       ·simp only [Act.put, List.setIfInBounds_toArray, List.set_cons_zero, List.set_cons_succ, i64_w, i32_w]
        rfl
       refine tk (i := 24) (N := some 27) (v := ?_) (a' := ?_) rfl rfl (take_ofW HT_.out HW_.out (by kernel_rfl)) (Or.inl ⟨by rfl, ?_⟩) hHeld ?_ ?_
       rotate_left
       ·rintro w' ⟨s0, s1, s2, s3, s4⟩
        go_simp
        with_reducible rfl
       rotate_left
       ·simp only [Act.put, List.setIfInBounds_toArray, List.set_cons_zero, List.set_cons_succ, i64_w, i32_w]
        rfl
       refine oz 22 25 (fun K hK => ?_)
       refine goes_ Tryz.func19 (by kernel_rfl) rfl #[.string a0_2] (by rfl) rfl rfl z8 ?_
       with_reducible refine (spec_CleanPath.calls k a0_2 t418 _ A15.out).mono ?_
       rintro e w26 ⟨rfl, hb⟩
       refine ⟨_, rfl, ?_⟩
       have n0_ := Aside0.mk (blk_below (g := gb416) (o := .cells #[.string a0_0, .int .i64 a0_1, .string a0_2, .string a0_3, .bool a0_4] 24 (0, 0)) z21 hb)
       have n1_ := Aside0.mk (below_step z11 hb)
       clear BK416
       clear HB
       have BK416 := n0_
       have HB := n1_
       clear n0_ n1_
       (try clear hb)
       (try clear hb2)
       (try clear hk)
       (try clear hi)
       refine hK.out _ _ ⟨(blk_cell BK416.out 0).trans rfl, (blk_cell BK416.out 1).trans rfl, (blk_cell BK416.out 2).trans rfl, (blk_cell BK416.out 3).trans rfl, (blk_cell BK416.out 4).trans rfl⟩ (fun hHeld => ?_)
       clear hK K
       refine nz ?_
       refine pz 25 28 ?_
       refine pz 26 29 ?_
       refine pz 27 30 ?_
       refine pu 28 31 ?_
       refine pu 29 32 ?_
       refine pu 30 33 ?_
       refine pu 31 34 ?_
       refine pu 32 35 ?_
       refine pu 33 36 ?_
       refine pu 34 37 ?_
       refine pu 35 38 ?_
       refine pz 36 39 ?_
       refine done_ (done_of HT_.out (by kernel_rfl)) ?_
       try go_wp2
       go_meet
       case rel => exact ⟨_, (true), z5, H', ⟨z31⟩, ⟨z21⟩, ⟨z11⟩⟩
  ·replace c5 := Bool.eq_false_iff.mpr c5
   subst c5
   rw [if_neg Bool.false_ne_true] at H
   have H' := Aside0.mk H
   clear H
   try go_wp2
   have n0_ := Aside0.mk (blk_drew BK416.out)
   have n1_ := Aside0.mk (below_drew1 HB.out)
   clear BK416
   clear HB
   have BK416 := n0_
   have HB := n1_
   clear n0_ n1_
   refine start_ (n := 37) (S := fun w' => w'.cell? ⟨gb416, 0, none⟩ = some (.string a0_0) ∧ w'.cell? ⟨gb416, 1, none⟩ = some (.int .i64 a0_1) ∧ w'.cell? ⟨gb416, 2, none⟩ = some (.string a0_2) ∧ w'.cell? ⟨gb416, 3, none⟩ = some (.string a0_3) ∧ w'.cell? ⟨gb416, 4, none⟩ = some (.bool a0_4)) (ds := []) #[false, false, false, false, false, false, false, false, false, false, false, false, false, false, false, false, false, false, false, false, false, false, false, false, false, false, false, false, false, false, false, false, false, false, false, false, false] (by kernel_rfl) rfl rfl ⟨(blk_cell BK416.out 0).trans rfl, (blk_cell BK416.out 1).trans rfl, (blk_cell BK416.out 2).trans rfl, (blk_cell BK416.out 3).trans rfl, (blk_cell BK416.out 4).trans rfl⟩ (fun hHeld => ?_); refine with_tabW spec_UrlOk.tab1 spec_UrlOk.bits1 (fun HT_ HW_ => ?_)
   generalize w3.drew = w27 at BK416 HB hHeld ⊢
   refine pz 0 3 ?_
   refine tk (i := 1) (N := some 4) (v := ?_) (a' := ?_) rfl rfl (take_ofW HT_.out HW_.out (by kernel_rfl)) (Or.inl ⟨by rfl, ?_⟩) hHeld ?_ ?_
   rotate_left
   ·rintro w' ⟨s0, s1, s2, s3, s4⟩
    go_simp
    with_reducible rfl
   rotate_left
   ·simp only [Act.put, List.setIfInBounds_toArray, List.set_cons_zero, List.set_cons_succ, i64_w, i32_w]
    rfl
   refine oz 2 5 (fun K hK => ?_)
   refine goes_ Tryz.func18 (by kernel_rfl) rfl #[.string a0_0] (by rfl) rfl rfl z8 ?_
   with_reducible refine (spec_l7host.calls k a0_0 false _ A4.out).mono ?_
   rintro e w28 ⟨rfl, hb⟩
   refine ⟨_, rfl, ?_⟩
   have n0_ := Aside0.mk (blk_below (g := gb416) (o := .cells #[.string a0_0, .int .i64 a0_1, .string a0_2, .string a0_3, .bool a0_4] 24 (0, 0)) z21 hb)
   have n1_ := Aside0.mk (below_step z11 hb)
   clear BK416
   clear HB
   have BK416 := n0_
   have HB := n1_
   clear n0_ n1_
   (try clear hb)
   (try clear hb2)
   (try clear hk)
   (try clear hi)
   refine hK.out _ _ ⟨(blk_cell BK416.out 0).trans rfl, (blk_cell BK416.out 1).trans rfl, (blk_cell BK416.out 2).trans rfl, (blk_cell BK416.out 3).trans rfl, (blk_cell BK416.out 4).trans rfl⟩ (fun hHeld => ?_)
   clear hK K
   refine nz ?_
   refine pz 3 6 ?_
   refine pz 4 7 ?_
   refine pu 5 8 ?_
   refine pu 6 9 ?_
   refine pu 7 10 ?_
   refine pz 8 11 ?_
   refine pz 9 12 ?_
   refine pu 10 13 ?_
   refine pu 11 14 ?_
   refine pu 12 15 ?_
   refine pz 13 16 ?_
   refine pz 14 17 ?_
   refine pu 15 18 ?_
   refine pu 16 19 ?_
   refine pu 17 20 ?_
   refine pz 18 21 ?_
   refine pz 19 22 ?_
   refine pu 20 23 ?_
   refine pu 21 24 ?_
   refine pu 22 25 ?_
   refine pu 23 26 ?_
   refine pu 24 27 ?_
   refine pu 25 28 ?_
   refine pz 26 29 ?_
   refine pz 27 30 ?_
   refine pu 28 31 ?_
   refine pu 29 32 ?_
   refine pu 30 33 ?_
   refine pu 31 34 ?_
   refine pu 32 35 ?_
   refine pu 33 36 ?_
   refine pu 34 37 ?_
   refine pu 35 38 ?_
   refine pz 36 39 ?_
   refine done_ (done_of HT_.out (by kernel_rfl)) ?_
   try go_wp2
   go_meet
   case rel => exact ⟨_, (true), z5, H', ⟨z31⟩, ⟨z21⟩, ⟨z11⟩⟩
 case rest =>
  clear HC2
  try clear c1
  try clear p2
  try clear c5
  try clear c16
  try clear c16b0
  try clear c16b1
  try clear c18
  try clear c19
  obtain ⟨kq, x39_1, rfl, HA, HJ1, BK416, HB⟩ := hcut
  cases kq with
  | zero => exact absurd HA.out (by simp [spec_UrlOk.j0])
  | succ kj1 =>
   have H := HA.out
   clear HA
   simp only [spec_UrlOk.j0] at H
   by_cases c29 : x39_1 = true
   ·subst c29
    rw [if_pos rfl] at H
    obtain rfl := Option.some.inj H
    go_wp2
    go_ret
    exact ⟨z4, z11⟩
   ·replace c29 := Bool.eq_false_iff.mpr c29
    subst c29
    rw [if_neg Bool.false_ne_true] at H
    by_cases c30 : (a0_3.size : Int) > 200
    ·rw [if_pos c30] at H
     have c30b0 : decide (200 < (a0_3.size : Int)) = true := decide_eq_true c30
     have c30b1 : decide (200 < a0_3.size) = true := decide_eq_true (by omega)
     clear c30
     obtain rfl := Option.some.inj H
     try go_wp2
     have n0_ := Aside0.mk (blk_drew BK416.out)
     have n1_ := Aside0.mk (below_drew1 HB.out)
     clear BK416
     clear HB
     have BK416 := n0_
     have HB := n1_
     clear n0_ n1_
     refine start_ (n := 23) (S := fun w' => w'.cell? ⟨gb416, 0, none⟩ = some (.string a0_0) ∧ w'.cell? ⟨gb416, 1, none⟩ = some (.int .i64 a0_1) ∧ w'.cell? ⟨gb416, 2, none⟩ = some (.string a0_2) ∧ w'.cell? ⟨gb416, 3, none⟩ = some (.string a0_3) ∧ w'.cell? ⟨gb416, 4, none⟩ = some (.bool a0_4)) (ds := []) #[false, false, false, false, false, false, false, false, false, false, false, false, false, false, false, false, false, false, false, false, false, false, false] (by kernel_rfl) rfl rfl ⟨(blk_cell BK416.out 0).trans rfl, (blk_cell BK416.out 1).trans rfl, (blk_cell BK416.out 2).trans rfl, (blk_cell BK416.out 3).trans rfl, (blk_cell BK416.out 4).trans rfl⟩ (fun hHeld => ?_); refine with_tabW spec_UrlOk.tab3 spec_UrlOk.bits3 (fun HT_ HW_ => ?_)
     generalize wc.drew = w31 at BK416 HB hHeld ⊢
     refine pz 0 40 ?_
     refine tk (i := 1) (N := some 41) (v := ?_) (a' := ?_) rfl rfl (take_ofW HT_.out HW_.out (by kernel_rfl)) (Or.inl ⟨by rfl, ?_⟩) hHeld ?_ ?_
     rotate_left
     ·rintro w' ⟨s0, s1, s2, s3, s4⟩
      go_simp
      with_reducible rfl
     rotate_left
     ·simp only [Act.put, List.setIfInBounds_toArray, List.set_cons_zero, List.set_cons_succ, i64_w, i32_w]
      rfl
     refine pz 2 42 ?_
     refine pz 3 43 ?_
     refine pz 4 44 ?_
     refine pu 5 45 ?_
     refine pu 6 46 ?_
     refine pu 7 47 ?_
     refine pu 8 48 ?_
     refine pu 9 49 ?_
     refine pu 10 50 ?_
     refine pu 11 51 ?_
     refine pu 12 52 ?_
     refine pu 13 53 ?_
     refine pz 14 54 ?_
     refine pz 15 55 ?_
     refine pu 16 56 ?_
     refine pu 17 57 ?_
     refine pu 18 58 ?_
     refine pu 19 59 ?_
     refine pu 20 60 ?_
     refine pu 21 61 ?_
     refine pz 22 62 ?_
     refine done_ (done_of HT_.out (by kernel_rfl)) ?_
     try go_wp2
     go_ret
     exact ⟨z4, z11⟩
    ·rw [if_neg c30] at H
     have c30b0 : decide (200 < (a0_3.size : Int)) = false := decide_eq_false c30
     have c30b1 : decide (200 < a0_3.size) = false := decide_eq_false (by omega)
     clear c30
     by_cases c32 : a0_3.toList = ([] : List UInt8)
     ·rw [if_pos c32] at H
      have c32b0 : (a0_3.toList == ([] : List UInt8)) = true := beq_iff_eq.mpr c32
      have c32e : a0_3.toList.isEmpty = true := by have hz_ := beq_iff_eq.1 c32b0; rw [hz_]; rfl
      (try rw [c32e])
      have c32b1 : (a0_3.toList != ([] : List UInt8)) = false := bne_eq_false_iff_eq.mpr c32
      clear c32
      replace H := Option.bind_eq_some_iff.mp H
      obtain ⟨t419, A330, H⟩ := H
      try dsimp only at H
      have A33 := Aside0.mk A330
      clear A330
      by_cases c34 : t419.toList = a0_3.toList
      ·rw [if_pos c34] at H
       have c34b0 : (t419.toList == a0_3.toList) = true := beq_iff_eq.mpr c34
       have c34b1 : (t419.toList != a0_3.toList) = false := bne_eq_false_iff_eq.mpr c34
       clear c34
       replace H := Option.bind_eq_some_iff.mp H
       obtain ⟨t420, A350, H⟩ := H
       try dsimp only at H
       have A35 := Aside0.mk A350
       clear A350
       obtain rfl := Option.some.inj H
       try go_wp2
       have n0_ := Aside0.mk (blk_drew BK416.out)
       have n1_ := Aside0.mk (below_drew1 HB.out)
       clear BK416
       clear HB
       have BK416 := n0_
       have HB := n1_
       clear n0_ n1_
       refine start_ (n := 23) (S := fun w' => w'.cell? ⟨gb416, 0, none⟩ = some (.string a0_0) ∧ w'.cell? ⟨gb416, 1, none⟩ = some (.int .i64 a0_1) ∧ w'.cell? ⟨gb416, 2, none⟩ = some (.string a0_2) ∧ w'.cell? ⟨gb416, 3, none⟩ = some (.string a0_3) ∧ w'.cell? ⟨gb416, 4, none⟩ = some (.bool a0_4)) (ds := []) #[false, false, false, false, false, false, false, false, false, false, false, false, false, false, false, false, false, false, false, false, false, false, false] (by kernel_rfl) rfl rfl ⟨(blk_cell BK416.out 0).trans rfl, (blk_cell BK416.out 1).trans rfl, (blk_cell BK416.out 2).trans rfl, (blk_cell BK416.out 3).trans rfl, (blk_cell BK416.out 4).trans rfl⟩ (fun hHeld => ?_); refine with_tabW spec_UrlOk.tab3 spec_UrlOk.bits3 (fun HT_ HW_ => ?_)
       generalize wc.drew = w36 at BK416 HB hHeld ⊢
       refine pz 0 40 ?_
       refine tk (i := 1) (N := some 41) (v := ?_) (a' := ?_) rfl rfl (take_ofW HT_.out HW_.out (by kernel_rfl)) (Or.inl ⟨by rfl, ?_⟩) hHeld ?_ ?_
       rotate_left
       ·rintro w' ⟨s0, s1, s2, s3, s4⟩
        go_simp
        with_reducible rfl
       rotate_left
       ·simp only [Act.put, List.setIfInBounds_toArray, List.set_cons_zero, List.set_cons_succ, i64_w, i32_w]
        rfl
       refine pz 2 42 ?_
       refine pz 3 43 ?_
       refine pz 4 44 ?_
       refine pz 5 45 ?_
       refine tk (i := 6) (N := some 46) (v := ?_) (a' := ?_) rfl rfl (take_ofW HT_.out HW_.out (by kernel_rfl)) (Or.inl ⟨by rfl, ?_⟩) hHeld ?_ ?_
       rotate_left
       ·rintro w' ⟨s0, s1, s2, s3, s4⟩
        go_simp
        with_reducible rfl
       rotate_left
       ·simp only [Act.put, List.setIfInBounds_toArray, List.set_cons_zero, List.set_cons_succ, i64_w, i32_w]
        rfl
       refine pz 7 47 ?_
       refine pz 8 48 ?_
       refine pu 9 49 ?_
       refine pu 10 50 ?_
       refine pu 11 51 ?_
       refine pu 12 52 ?_
       refine pz 13 53 ?_
       refine pz 14 54 ?_
       refine pz 15 55 ?_
       refine pz 16 56 ?_
       refine pz 19 59 ?_
       refine tk (i := 17) (N := some 57) (v := ?_) (a' := ?_) rfl rfl (take_ofW HT_.out HW_.out (by kernel_rfl)) (Or.inl ⟨by rfl, ?_⟩) hHeld ?_ ?_
       rotate_left
       ·rintro w' ⟨s0, s1, s2, s3, s4⟩
        go_simp
        with_reducible rfl
       rotate_left
       ·simp only [Act.put, List.setIfInBounds_toArray, List.set_cons_zero, List.set_cons_succ, i64_w, i32_w]
        rfl
       refine tk (i := 20) (N := some 60) (v := ?_) (a' := ?_) rfl rfl (take_ofW HT_.out HW_.out (by kernel_rfl)) (Or.inl ⟨by rfl, ?_⟩) hHeld ?_ ?_
       rotate_left
       ·rintro w' ⟨s0, s1, s2, s3, s4⟩
        go_simp
        with_reducible rfl
       rotate_left
       ·simp only [Act.put, List.setIfInBounds_toArray, List.set_cons_zero, List.set_cons_succ, i64_w, i32_w]
        rfl
       refine oz 18 58 (fun K hK => ?_)
       refine goes_ Tryz.func21 (by kernel_rfl) rfl #[.string a0_3, .int .u8 35] (by rfl) rfl rfl z8 ?_
       with_reducible refine (spec_l6upto.calls kj1 a0_3 35 t419 _ A33.out).mono ?_
       rintro e w' ⟨rfl, ⟨nd, rfl⟩⟩
       refine ⟨_, rfl, ?_⟩
       refine hK.out _ _ ⟨(blk_cell BK416.out 0).trans rfl, (blk_cell BK416.out 1).trans rfl, (blk_cell BK416.out 2).trans rfl, (blk_cell BK416.out 3).trans rfl, (blk_cell BK416.out 4).trans rfl⟩ (fun hHeld => ?_)
       clear hK K
       refine nz ?_
       refine pz 21 61 ?_
       refine pz 22 62 ?_
       refine done_ (done_of HT_.out (by kernel_rfl)) ?_
       have hcz37_0 : w36.cell? ⟨gb416, 0, none⟩ = some (.string a0_0) := (blk_cell BK416.out 0).trans rfl
       have hcz37_1 : w36.cell? ⟨gb416, 1, none⟩ = some (.int .i64 a0_1) := (blk_cell BK416.out 1).trans rfl
       have hcz37_2 : w36.cell? ⟨gb416, 2, none⟩ = some (.string a0_2) := (blk_cell BK416.out 2).trans rfl
       have hcz37_3 : w36.cell? ⟨gb416, 3, none⟩ = some (.string a0_3) := (blk_cell BK416.out 3).trans rfl
       have hcz37_4 : w36.cell? ⟨gb416, 4, none⟩ = some (.bool a0_4) := (blk_cell BK416.out 4).trans rfl
       have hfz37_0 := blk_frozen BK416.out 0
       have hfz37_1 := blk_frozen BK416.out 1
       have hfz37_2 := blk_frozen BK416.out 2
       have hfz37_3 := blk_frozen BK416.out 3
       have hfz37_4 := blk_frozen BK416.out 4
       try go_wp2_with (first | ((with_reducible refine gate_callee (f := 22) rfl ?_); refine goesQ_ 64 Tryz.func22 #[.agg #[.string a0_0, .int .i64 a0_1, .string a0_2, .string a0_3, .bool a0_4]] ?_; (with_reducible refine (spec_l7text.calls kj1 a0_0 a0_1 a0_2 a0_3 a0_4 t420 _ A35.out).mono ?_); rintro e w38 ⟨rfl, hb⟩; refine ⟨_, rfl, ?_⟩; replace BK416 := Aside0.mk (blk_below (g := gb416) (o := .cells #[.string a0_0, .int .i64 a0_1, .string a0_2, .string a0_3, .bool a0_4] 24 (0, 0)) z21 hb); replace HB := Aside0.mk (below_step z11 hb); (try clear hb)))
       go_ret
       exact ⟨z4, z11⟩
      ·rw [if_neg c34] at H
       have c34b0 : (t419.toList == a0_3.toList) = false := beq_eq_false_iff_ne.mpr c34
       have c34b1 : (t419.toList != a0_3.toList) = true := bne_iff_ne.mpr c34
       obtain rfl := Option.some.inj H
       try go_wp2
       have n0_ := Aside0.mk (blk_drew BK416.out)
       have n1_ := Aside0.mk (below_drew1 HB.out)
       clear BK416
       clear HB
       have BK416 := n0_
       have HB := n1_
       clear n0_ n1_
       refine start_ (n := 23) (S := fun w' => w'.cell? ⟨gb416, 0, none⟩ = some (.string a0_0) ∧ w'.cell? ⟨gb416, 1, none⟩ = some (.int .i64 a0_1) ∧ w'.cell? ⟨gb416, 2, none⟩ = some (.string a0_2) ∧ w'.cell? ⟨gb416, 3, none⟩ = some (.string a0_3) ∧ w'.cell? ⟨gb416, 4, none⟩ = some (.bool a0_4)) (ds := []) #[false, false, false, false, false, false, false, false, false, false, false, false, false, false, false, false, false, false, false, false, false, false, false] (by kernel_rfl) rfl rfl ⟨(blk_cell BK416.out 0).trans rfl, (blk_cell BK416.out 1).trans rfl, (blk_cell BK416.out 2).trans rfl, (blk_cell BK416.out 3).trans rfl, (blk_cell BK416.out 4).trans rfl⟩ (fun hHeld => ?_); refine with_tabW spec_UrlOk.tab3 spec_UrlOk.bits3 (fun HT_ HW_ => ?_)
       generalize wc.drew = w39 at BK416 HB hHeld ⊢
       refine pz 0 40 ?_
       refine tk (i := 1) (N := some 41) (v := ?_) (a' := ?_) rfl rfl (take_ofW HT_.out HW_.out (by kernel_rfl)) (Or.inl ⟨by rfl, ?_⟩) hHeld ?_ ?_
       rotate_left
       ·rintro w' ⟨s0, s1, s2, s3, s4⟩
        go_simp
        with_reducible rfl
       rotate_left
       ·simp only [Act.put, List.setIfInBounds_toArray, List.set_cons_zero, List.set_cons_succ, i64_w, i32_w]
        rfl
       refine pz 2 42 ?_
       refine pz 3 43 ?_
       refine pz 4 44 ?_
       refine pz 5 45 ?_
       refine tk (i := 6) (N := some 46) (v := ?_) (a' := ?_) rfl rfl (take_ofW HT_.out HW_.out (by kernel_rfl)) (Or.inl ⟨by rfl, ?_⟩) hHeld ?_ ?_
       rotate_left
       ·rintro w' ⟨s0, s1, s2, s3, s4⟩
        go_simp
        with_reducible rfl
       rotate_left
       ·simp only [Act.put, List.setIfInBounds_toArray, List.set_cons_zero, List.set_cons_succ, i64_w, i32_w]
        rfl
       refine pz 7 47 ?_
       refine pz 8 48 ?_
       refine pu 9 49 ?_
       refine pu 10 50 ?_
       refine pu 11 51 ?_
       refine pu 12 52 ?_
       refine pz 13 53 ?_
       refine pz 14 54 ?_
       refine pz 15 55 ?_
       refine pz 16 56 ?_
       refine pz 19 59 ?_
       refine tk (i := 17) (N := some 57) (v := ?_) (a' := ?_) rfl rfl (take_ofW HT_.out HW_.out (by kernel_rfl)) (Or.inl ⟨by rfl, ?_⟩) hHeld ?_ ?_
       rotate_left
       ·rintro w' ⟨s0, s1, s2, s3, s4⟩
        go_simp
        with_reducible rfl
       rotate_left
       ·simp only [Act.put, List.setIfInBounds_toArray, List.set_cons_zero, List.set_cons_succ, i64_w, i32_w]
        rfl
       refine tk (i := 20) (N := some 60) (v := ?_) (a' := ?_) rfl rfl (take_ofW HT_.out HW_.out (by kernel_rfl)) (Or.inl ⟨by rfl, ?_⟩) hHeld ?_ ?_
       rotate_left
       ·rintro w' ⟨s0, s1, s2, s3, s4⟩
        go_simp
        with_reducible rfl
       rotate_left
       ·simp only [Act.put, List.setIfInBounds_toArray, List.set_cons_zero, List.set_cons_succ, i64_w, i32_w]
        rfl
       refine oz 18 58 (fun K hK => ?_)
       refine goes_ Tryz.func21 (by kernel_rfl) rfl #[.string a0_3, .int .u8 35] (by rfl) rfl rfl z8 ?_
       with_reducible refine (spec_l6upto.calls kj1 a0_3 35 t419 _ A33.out).mono ?_
       rintro e w' ⟨rfl, ⟨nd, rfl⟩⟩
       refine ⟨_, rfl, ?_⟩
       refine hK.out _ _ ⟨(blk_cell BK416.out 0).trans rfl, (blk_cell BK416.out 1).trans rfl, (blk_cell BK416.out 2).trans rfl, (blk_cell BK416.out 3).trans rfl, (blk_cell BK416.out 4).trans rfl⟩ (fun hHeld => ?_)
       clear hK K
       refine nz ?_
       refine pz 21 61 ?_
       refine pz 22 62 ?_
       refine done_ (done_of HT_.out (by kernel_rfl)) ?_
       try go_wp2
       go_ret
       exact ⟨z4, z11⟩
     ·rw [if_neg c32] at H
      have c32b0 : (a0_3.toList == ([] : List UInt8)) = false := beq_eq_false_iff_ne.mpr c32
      have c32e : a0_3.toList.isEmpty = false := by cases hz_ : a0_3.toList with | nil => (rw [hz_] at c32b0; exact absurd c32b0 (by decide)) | cons _ _ => rfl
      (try rw [c32e])
      have c32b1 : (a0_3.toList != ([] : List UInt8)) = true := bne_iff_ne.mpr c32
      replace H := Option.bind_eq_some_iff.mp H
      obtain ⟨t421, A400, H⟩ := H
      try dsimp only at H
      have A40 := Aside0.mk A400
      clear A400
      by_cases c41 : t421 = true
      ·subst c41
       rw [if_pos rfl] at H
       replace H := Option.bind_eq_some_iff.mp H
       obtain ⟨t422, A420, H⟩ := H
       try dsimp only at H
       have A42 := Aside0.mk A420
       clear A420
       by_cases c43 : t422.toList = a0_3.toList
       ·rw [if_pos c43] at H
        have c43b0 : (t422.toList == a0_3.toList) = true := beq_iff_eq.mpr c43
        have c43b1 : (t422.toList != a0_3.toList) = false := bne_eq_false_iff_eq.mpr c43
        clear c43
        replace H := Option.bind_eq_some_iff.mp H
        obtain ⟨t423, A440, H⟩ := H
        try dsimp only at H
        have A44 := Aside0.mk A440
        clear A440
        obtain rfl := Option.some.inj H
        try go_wp2
        have n0_ := Aside0.mk (blk_drew BK416.out)
        have n1_ := Aside0.mk (below_drew1 HB.out)
        clear BK416
        clear HB
        have BK416 := n0_
        have HB := n1_
        clear n0_ n1_
        refine start_ (n := 23) (S := fun w' => w'.cell? ⟨gb416, 0, none⟩ = some (.string a0_0) ∧ w'.cell? ⟨gb416, 1, none⟩ = some (.int .i64 a0_1) ∧ w'.cell? ⟨gb416, 2, none⟩ = some (.string a0_2) ∧ w'.cell? ⟨gb416, 3, none⟩ = some (.string a0_3) ∧ w'.cell? ⟨gb416, 4, none⟩ = some (.bool a0_4)) (ds := []) #[false, false, false, false, false, false, false, false, false, false, false, false, false, false, false, false, false, false, false, false, false, false, false] (by kernel_rfl) rfl rfl ⟨(blk_cell BK416.out 0).trans rfl, (blk_cell BK416.out 1).trans rfl, (blk_cell BK416.out 2).trans rfl, (blk_cell BK416.out 3).trans rfl, (blk_cell BK416.out 4).trans rfl⟩ (fun hHeld => ?_); refine with_tabW spec_UrlOk.tab3 spec_UrlOk.bits3 (fun HT_ HW_ => ?_)
        generalize wc.drew = w45 at BK416 HB hHeld ⊢
        refine pz 0 40 ?_
        refine tk (i := 1) (N := some 41) (v := ?_) (a' := ?_) rfl rfl (take_ofW HT_.out HW_.out (by kernel_rfl)) (Or.inl ⟨by rfl, ?_⟩) hHeld ?_ ?_
        rotate_left
        ·rintro w' ⟨s0, s1, s2, s3, s4⟩
         go_simp
         with_reducible rfl
        rotate_left
        ·simp only [Act.put, List.setIfInBounds_toArray, List.set_cons_zero, List.set_cons_succ, i64_w, i32_w]
         rfl
        refine pz 2 42 ?_
        refine pz 3 43 ?_
        refine pz 4 44 ?_
        refine pz 5 45 ?_
        refine tk (i := 6) (N := some 46) (v := ?_) (a' := ?_) rfl rfl (take_ofW HT_.out HW_.out (by kernel_rfl)) (Or.inl ⟨by rfl, ?_⟩) hHeld ?_ ?_
        rotate_left
        ·rintro w' ⟨s0, s1, s2, s3, s4⟩
         go_simp
         with_reducible rfl
        rotate_left
        ·simp only [Act.put, List.setIfInBounds_toArray, List.set_cons_zero, List.set_cons_succ, i64_w, i32_w]
         rfl
        refine pz 7 47 ?_
        refine pz 8 48 ?_
        refine pz 9 49 ?_
        refine tk (i := 10) (N := some 50) (v := ?_) (a' := ?_) rfl rfl (take_ofW HT_.out HW_.out (by kernel_rfl)) (Or.inl ⟨by rfl, ?_⟩) hHeld ?_ ?_
        rotate_left
        ·rintro w' ⟨s0, s1, s2, s3, s4⟩
         go_simp
         with_reducible rfl
        rotate_left
        ·simp only [Act.put, List.setIfInBounds_toArray, List.set_cons_zero, List.set_cons_succ, i64_w, i32_w]
         rfl
        refine oz 11 51 (fun K hK => ?_)
        refine goes_ Tryz.func20 (by kernel_rfl) rfl #[.string a0_3] (by rfl) rfl rfl z8 ?_
        with_reducible refine (spec_l6visible.calls kj1 a0_3 true _ A40.out).mono ?_
        rintro e w' ⟨rfl, ⟨nd, rfl⟩⟩
        refine ⟨_, rfl, ?_⟩
        refine hK.out _ _ ⟨(blk_cell BK416.out 0).trans rfl, (blk_cell BK416.out 1).trans rfl, (blk_cell BK416.out 2).trans rfl, (blk_cell BK416.out 3).trans rfl, (blk_cell BK416.out 4).trans rfl⟩ (fun hHeld => ?_)
        clear hK K
        refine nz ?_
        refine pz 12 52 ?_
        refine pz 13 53 ?_
        refine pz 14 54 ?_
        refine pz 15 55 ?_
        refine pz 16 56 ?_
        refine pz 19 59 ?_
        refine tk (i := 17) (N := some 57) (v := ?_) (a' := ?_) rfl rfl (take_ofW HT_.out HW_.out (by kernel_rfl)) (Or.inl ⟨by rfl, ?_⟩) hHeld ?_ ?_
        rotate_left
        ·rintro w' ⟨s0, s1, s2, s3, s4⟩
         go_simp
         with_reducible rfl
        rotate_left
        ·simp only [Act.put, List.setIfInBounds_toArray, List.set_cons_zero, List.set_cons_succ, i64_w, i32_w]
         rfl
        refine tk (i := 20) (N := some 60) (v := ?_) (a' := ?_) rfl rfl (take_ofW HT_.out HW_.out (by kernel_rfl)) (Or.inl ⟨by rfl, ?_⟩) hHeld ?_ ?_
        rotate_left
        ·rintro w' ⟨s0, s1, s2, s3, s4⟩
         go_simp
         with_reducible rfl
        rotate_left
        ·simp only [Act.put, List.setIfInBounds_toArray, List.set_cons_zero, List.set_cons_succ, i64_w, i32_w]
         rfl
        refine oz 18 58 (fun K hK => ?_)
        refine goes_ Tryz.func21 (by kernel_rfl) rfl #[.string a0_3, .int .u8 35] (by rfl) rfl rfl z8 ?_
        with_reducible refine (spec_l6upto.calls kj1 a0_3 35 t422 _ A42.out).mono ?_
        rintro e w' ⟨rfl, ⟨nd, rfl⟩⟩
        refine ⟨_, rfl, ?_⟩
        refine hK.out _ _ ⟨(blk_cell BK416.out 0).trans rfl, (blk_cell BK416.out 1).trans rfl, (blk_cell BK416.out 2).trans rfl, (blk_cell BK416.out 3).trans rfl, (blk_cell BK416.out 4).trans rfl⟩ (fun hHeld => ?_)
        clear hK K
        refine nz ?_
        refine pz 21 61 ?_
        refine pz 22 62 ?_
        refine done_ (done_of HT_.out (by kernel_rfl)) ?_
        have hcz46_0 : w45.cell? ⟨gb416, 0, none⟩ = some (.string a0_0) := (blk_cell BK416.out 0).trans rfl
        have hcz46_1 : w45.cell? ⟨gb416, 1, none⟩ = some (.int .i64 a0_1) := (blk_cell BK416.out 1).trans rfl
        have hcz46_2 : w45.cell? ⟨gb416, 2, none⟩ = some (.string a0_2) := (blk_cell BK416.out 2).trans rfl
        have hcz46_3 : w45.cell? ⟨gb416, 3, none⟩ = some (.string a0_3) := (blk_cell BK416.out 3).trans rfl
        have hcz46_4 : w45.cell? ⟨gb416, 4, none⟩ = some (.bool a0_4) := (blk_cell BK416.out 4).trans rfl
        have hfz46_0 := blk_frozen BK416.out 0
        have hfz46_1 := blk_frozen BK416.out 1
        have hfz46_2 := blk_frozen BK416.out 2
        have hfz46_3 := blk_frozen BK416.out 3
        have hfz46_4 := blk_frozen BK416.out 4
        try go_wp2_with (first | ((with_reducible refine gate_callee (f := 22) rfl ?_); refine goesQ_ 64 Tryz.func22 #[.agg #[.string a0_0, .int .i64 a0_1, .string a0_2, .string a0_3, .bool a0_4]] ?_; (with_reducible refine (spec_l7text.calls kj1 a0_0 a0_1 a0_2 a0_3 a0_4 t423 _ A44.out).mono ?_); rintro e w47 ⟨rfl, hb⟩; refine ⟨_, rfl, ?_⟩; replace BK416 := Aside0.mk (blk_below (g := gb416) (o := .cells #[.string a0_0, .int .i64 a0_1, .string a0_2, .string a0_3, .bool a0_4] 24 (0, 0)) z21 hb); replace HB := Aside0.mk (below_step z11 hb); (try clear hb)))
        go_ret
        exact ⟨z4, z11⟩
       ·rw [if_neg c43] at H
        have c43b0 : (t422.toList == a0_3.toList) = false := beq_eq_false_iff_ne.mpr c43
        have c43b1 : (t422.toList != a0_3.toList) = true := bne_iff_ne.mpr c43
        obtain rfl := Option.some.inj H
        try go_wp2
        have n0_ := Aside0.mk (blk_drew BK416.out)
        have n1_ := Aside0.mk (below_drew1 HB.out)
        clear BK416
        clear HB
        have BK416 := n0_
        have HB := n1_
        clear n0_ n1_
        refine start_ (n := 23) (S := fun w' => w'.cell? ⟨gb416, 0, none⟩ = some (.string a0_0) ∧ w'.cell? ⟨gb416, 1, none⟩ = some (.int .i64 a0_1) ∧ w'.cell? ⟨gb416, 2, none⟩ = some (.string a0_2) ∧ w'.cell? ⟨gb416, 3, none⟩ = some (.string a0_3) ∧ w'.cell? ⟨gb416, 4, none⟩ = some (.bool a0_4)) (ds := []) #[false, false, false, false, false, false, false, false, false, false, false, false, false, false, false, false, false, false, false, false, false, false, false] (by kernel_rfl) rfl rfl ⟨(blk_cell BK416.out 0).trans rfl, (blk_cell BK416.out 1).trans rfl, (blk_cell BK416.out 2).trans rfl, (blk_cell BK416.out 3).trans rfl, (blk_cell BK416.out 4).trans rfl⟩ (fun hHeld => ?_); refine with_tabW spec_UrlOk.tab3 spec_UrlOk.bits3 (fun HT_ HW_ => ?_)
        generalize wc.drew = w48 at BK416 HB hHeld ⊢
        refine pz 0 40 ?_
        refine tk (i := 1) (N := some 41) (v := ?_) (a' := ?_) rfl rfl (take_ofW HT_.out HW_.out (by kernel_rfl)) (Or.inl ⟨by rfl, ?_⟩) hHeld ?_ ?_
        rotate_left
        ·rintro w' ⟨s0, s1, s2, s3, s4⟩
         go_simp
         with_reducible rfl
        rotate_left
        ·simp only [Act.put, List.setIfInBounds_toArray, List.set_cons_zero, List.set_cons_succ, i64_w, i32_w]
         rfl
        refine pz 2 42 ?_
        refine pz 3 43 ?_
        refine pz 4 44 ?_
        refine pz 5 45 ?_
        refine tk (i := 6) (N := some 46) (v := ?_) (a' := ?_) rfl rfl (take_ofW HT_.out HW_.out (by kernel_rfl)) (Or.inl ⟨by rfl, ?_⟩) hHeld ?_ ?_
        rotate_left
        ·rintro w' ⟨s0, s1, s2, s3, s4⟩
         go_simp
         with_reducible rfl
        rotate_left
        ·simp only [Act.put, List.setIfInBounds_toArray, List.set_cons_zero, List.set_cons_succ, i64_w, i32_w]
         rfl
        refine pz 7 47 ?_
        refine pz 8 48 ?_
        refine pz 9 49 ?_
        refine tk (i := 10) (N := some 50) (v := ?_) (a' := ?_) rfl rfl (take_ofW HT_.out HW_.out (by kernel_rfl)) (Or.inl ⟨by rfl, ?_⟩) hHeld ?_ ?_
        rotate_left
        ·rintro w' ⟨s0, s1, s2, s3, s4⟩
         go_simp
         with_reducible rfl
        rotate_left
        ·simp only [Act.put, List.setIfInBounds_toArray, List.set_cons_zero, List.set_cons_succ, i64_w, i32_w]
         rfl
        refine oz 11 51 (fun K hK => ?_)
        refine goes_ Tryz.func20 (by kernel_rfl) rfl #[.string a0_3] (by rfl) rfl rfl z8 ?_
        with_reducible refine (spec_l6visible.calls kj1 a0_3 true _ A40.out).mono ?_
        rintro e w' ⟨rfl, ⟨nd, rfl⟩⟩
        refine ⟨_, rfl, ?_⟩
        refine hK.out _ _ ⟨(blk_cell BK416.out 0).trans rfl, (blk_cell BK416.out 1).trans rfl, (blk_cell BK416.out 2).trans rfl, (blk_cell BK416.out 3).trans rfl, (blk_cell BK416.out 4).trans rfl⟩ (fun hHeld => ?_)
        clear hK K
        refine nz ?_
        refine pz 12 52 ?_
        refine pz 13 53 ?_
        refine pz 14 54 ?_
        refine pz 15 55 ?_
        refine pz 16 56 ?_
        refine pz 19 59 ?_
        refine tk (i := 17) (N := some 57) (v := ?_) (a' := ?_) rfl rfl (take_ofW HT_.out HW_.out (by kernel_rfl)) (Or.inl ⟨by rfl, ?_⟩) hHeld ?_ ?_
        rotate_left
        ·rintro w' ⟨s0, s1, s2, s3, s4⟩
         go_simp
         with_reducible rfl
        rotate_left
        ·simp only [Act.put, List.setIfInBounds_toArray, List.set_cons_zero, List.set_cons_succ, i64_w, i32_w]
         rfl
        refine tk (i := 20) (N := some 60) (v := ?_) (a' := ?_) rfl rfl (take_ofW HT_.out HW_.out (by kernel_rfl)) (Or.inl ⟨by rfl, ?_⟩) hHeld ?_ ?_
        rotate_left
        ·rintro w' ⟨s0, s1, s2, s3, s4⟩
         go_simp
         with_reducible rfl
        rotate_left
        ·simp only [Act.put, List.setIfInBounds_toArray, List.set_cons_zero, List.set_cons_succ, i64_w, i32_w]
         rfl
        refine oz 18 58 (fun K hK => ?_)
        refine goes_ Tryz.func21 (by kernel_rfl) rfl #[.string a0_3, .int .u8 35] (by rfl) rfl rfl z8 ?_
        with_reducible refine (spec_l6upto.calls kj1 a0_3 35 t422 _ A42.out).mono ?_
        rintro e w' ⟨rfl, ⟨nd, rfl⟩⟩
        refine ⟨_, rfl, ?_⟩
        refine hK.out _ _ ⟨(blk_cell BK416.out 0).trans rfl, (blk_cell BK416.out 1).trans rfl, (blk_cell BK416.out 2).trans rfl, (blk_cell BK416.out 3).trans rfl, (blk_cell BK416.out 4).trans rfl⟩ (fun hHeld => ?_)
        clear hK K
        refine nz ?_
        refine pz 21 61 ?_
        refine pz 22 62 ?_
        refine done_ (done_of HT_.out (by kernel_rfl)) ?_
        try go_wp2
        go_ret
        exact ⟨z4, z11⟩
      ·replace c41 := Bool.eq_false_iff.mpr c41
       subst c41
       rw [if_neg Bool.false_ne_true] at H
       obtain rfl := Option.some.inj H
       try go_wp2
       have n0_ := Aside0.mk (blk_drew BK416.out)
       have n1_ := Aside0.mk (below_drew1 HB.out)
       clear BK416
       clear HB
       have BK416 := n0_
       have HB := n1_
       clear n0_ n1_
       refine start_ (n := 23) (S := fun w' => w'.cell? ⟨gb416, 0, none⟩ = some (.string a0_0) ∧ w'.cell? ⟨gb416, 1, none⟩ = some (.int .i64 a0_1) ∧ w'.cell? ⟨gb416, 2, none⟩ = some (.string a0_2) ∧ w'.cell? ⟨gb416, 3, none⟩ = some (.string a0_3) ∧ w'.cell? ⟨gb416, 4, none⟩ = some (.bool a0_4)) (ds := []) #[false, false, false, false, false, false, false, false, false, false, false, false, false, false, false, false, false, false, false, false, false, false, false] (by kernel_rfl) rfl rfl ⟨(blk_cell BK416.out 0).trans rfl, (blk_cell BK416.out 1).trans rfl, (blk_cell BK416.out 2).trans rfl, (blk_cell BK416.out 3).trans rfl, (blk_cell BK416.out 4).trans rfl⟩ (fun hHeld => ?_); refine with_tabW spec_UrlOk.tab3 spec_UrlOk.bits3 (fun HT_ HW_ => ?_)
       generalize wc.drew = w49 at BK416 HB hHeld ⊢
       refine pz 0 40 ?_
       refine tk (i := 1) (N := some 41) (v := ?_) (a' := ?_) rfl rfl (take_ofW HT_.out HW_.out (by kernel_rfl)) (Or.inl ⟨by rfl, ?_⟩) hHeld ?_ ?_
       rotate_left
       ·rintro w' ⟨s0, s1, s2, s3, s4⟩
        go_simp
        with_reducible rfl
       rotate_left
       ·simp only [Act.put, List.setIfInBounds_toArray, List.set_cons_zero, List.set_cons_succ, i64_w, i32_w]
        rfl
       refine pz 2 42 ?_
       refine pz 3 43 ?_
       refine pz 4 44 ?_
       refine pz 5 45 ?_
       refine tk (i := 6) (N := some 46) (v := ?_) (a' := ?_) rfl rfl (take_ofW HT_.out HW_.out (by kernel_rfl)) (Or.inl ⟨by rfl, ?_⟩) hHeld ?_ ?_
       rotate_left
       ·rintro w' ⟨s0, s1, s2, s3, s4⟩
        go_simp
        with_reducible rfl
       rotate_left
       ·simp only [Act.put, List.setIfInBounds_toArray, List.set_cons_zero, List.set_cons_succ, i64_w, i32_w]
        rfl
       refine pz 7 47 ?_
       refine pz 8 48 ?_
       refine pz 9 49 ?_
       refine tk (i := 10) (N := some 50) (v := ?_) (a' := ?_) rfl rfl (take_ofW HT_.out HW_.out (by kernel_rfl)) (Or.inl ⟨by rfl, ?_⟩) hHeld ?_ ?_
       rotate_left
       ·rintro w' ⟨s0, s1, s2, s3, s4⟩
        go_simp
        with_reducible rfl
       rotate_left
       ·simp only [Act.put, List.setIfInBounds_toArray, List.set_cons_zero, List.set_cons_succ, i64_w, i32_w]
        rfl
       refine oz 11 51 (fun K hK => ?_)
       refine goes_ Tryz.func20 (by kernel_rfl) rfl #[.string a0_3] (by rfl) rfl rfl z8 ?_
       with_reducible refine (spec_l6visible.calls kj1 a0_3 false _ A40.out).mono ?_
       rintro e w' ⟨rfl, ⟨nd, rfl⟩⟩
       refine ⟨_, rfl, ?_⟩
       refine hK.out _ _ ⟨(blk_cell BK416.out 0).trans rfl, (blk_cell BK416.out 1).trans rfl, (blk_cell BK416.out 2).trans rfl, (blk_cell BK416.out 3).trans rfl, (blk_cell BK416.out 4).trans rfl⟩ (fun hHeld => ?_)
       clear hK K
       refine nz ?_
       refine pz 12 52 ?_
       refine pz 13 53 ?_
       refine pz 14 54 ?_
       refine pz 15 55 ?_
       refine pu 16 56 ?_
       refine pu 17 57 ?_
       refine pu 18 58 ?_
       refine pu 19 59 ?_
       refine pu 20 60 ?_
       refine pu 21 61 ?_
       refine pz 22 62 ?_
       refine done_ (done_of HT_.out (by kernel_rfl)) ?_
       try go_wp2
       go_ret
       exact ⟨z4, z11⟩

end Go.Proofs.YtkkolioolgpljaaGreatDoor.GFnCanons
