-- Laid by gen.py of this session (over the kit's printing program): what the law FnCanons reaches, as Lean functions, and that Go comes to just that.
import Derived.Test.YtkkolioolgpljaaGreatDoorGFnCanonsx0
import Derived.Test.YtkkolioolgpljaaGreatDoorGFnCanonsx2
import Derived.Test.YtkkolioolgpljaaGreatDoorGFnCanonsx5
import Derived.Test.YtkkolioolgpljaaGreatDoorGFnCanonsx6
import Derived.Test.YtkkolioolgpljaaGreatDoorZFnCanons
namespace Go.Proofs.YtkkolioolgpljaaGreatDoor.GFnCanons
open Go.RowKit Go.Proofs.YtkkolioolgpljaaGreatDoorW.PrintWords Go.Proofs.YtkkolioolgpljaaGreatDoorW.PrintLast Go.Proofs.YtkkolioolgpljaaGreatDoorW.PrintMore Go.Proofs.YtkkolioolgpljaaGreatDoorW.Zs
attribute [local go_sem] max2_int min2_int max_two min_two max_three min_three max_four min_four   -- for this text's walks alone
set_option linter.unusedVariables false
set_option linter.unusedSimpArgs false

/-! ### impl_UrlOk: function 23 -/
def impl_UrlOk.j0 : Nat → Bool → ByteArray → Int → ByteArray → ByteArray → Bool → Option (Bool)
 | 0, _, _, _, _, _, _ => none
 | k + 1, x25, x168000, x168001, x168002, x168003, x168004 => if x25 = true then (some false) else ((impl_all__impl_isVisible.f k x168003).bind fun t171 => (if t171 = true then ((strings_Contains.f x168003 (⟨#[35]⟩ : ByteArray)).bind fun t172 => (if t172 = true then (some false) else (if x168004 = true then ((impl_urlText.f x168000 x168001 x168002 x168003 x168004).bind fun t173 => (some (decide ((t173.size : Int) ≤ 200)))) else (if x168003.toList = ([] : List UInt8) then ((impl_urlText.f x168000 x168001 x168002 x168003 x168004).bind fun t174 => (some (decide ((t174.size : Int) ≤ 200)))) else (some false))))) else (some false)))
def impl_UrlOk.f (k : Nat) (a0_0 : ByteArray) (a0_1 : Int) (a0_2 : ByteArray) (a0_3 : ByteArray) (a0_4 : Bool) : Option (Bool) := (impl_isHost.f k a0_0).bind fun t168 => (if t168 = true then ((impl_within.f a0_1 1 65535).bind fun t169 => (if t169 = true then (if a0_2.toList = ([] : List UInt8) then (impl_UrlOk.j0 k true a0_0 a0_1 a0_2 a0_3 a0_4) else ((impl_CleanPath.f k a0_2).bind fun t170 => (impl_UrlOk.j0 k (t170.toList != a0_2.toList) a0_0 a0_1 a0_2 a0_3 a0_4))) else (impl_UrlOk.j0 k true a0_0 a0_1 a0_2 a0_3 a0_4))) else (impl_UrlOk.j0 k true a0_0 a0_1 a0_2 a0_3 a0_4))
theorem impl_UrlOk.mono_l : ∀ k, (∀ y0 y1 y2 y3 y4 y5, LeO (impl_UrlOk.j0 k y0 y1 y2 y3 y4 y5) (impl_UrlOk.j0 (k + 1) y0 y1 y2 y3 y4 y5))
 | 0 => fun _ _ _ _ _ _ r h => by simp [impl_UrlOk.j0] at h
 | k + 1 => by
  have ih0 := impl_UrlOk.mono_l k
  ·intro y0 y1 y2 y3 y4 y5
   unfold impl_UrlOk.j0
   repeat' first | (with_reducible first | exact ih0 _ _ _ _ _ _ | exact impl_CleanPath.mono _ _ | exact impl_all__impl_isVisible.mono _ _ | exact impl_isHost.mono _ _ | exact LeO.refl _ | exact LeO.none _ | refine LeO.ite ?_ ?_ | refine LeO.bind ?_ (fun _ => ?_)) | exact ih0 _ _ _ _ _ _ | exact impl_CleanPath.mono _ _ | exact impl_all__impl_isVisible.mono _ _ | exact impl_isHost.mono _ _ | exact LeO.none _ | refine LeO.ite ?_ ?_ | refine LeO.bind ?_ (fun _ => ?_)
theorem impl_UrlOk.mono : ∀ a0 a1 a2 a3 a4 k, LeO (impl_UrlOk.f k a0 a1 a2 a3 a4) (impl_UrlOk.f (k + 1) a0 a1 a2 a3 a4) := by
 intro a0 a1 a2 a3 a4 k
 have ih0 := impl_UrlOk.mono_l k
 unfold impl_UrlOk.f
 repeat' first | (with_reducible first | exact ih0 _ _ _ _ _ _ | exact impl_CleanPath.mono _ _ | exact impl_all__impl_isVisible.mono _ _ | exact impl_isHost.mono _ _ | exact LeO.refl _ | exact LeO.none _ | refine LeO.ite ?_ ?_ | refine LeO.bind ?_ (fun _ => ?_)) | exact ih0 _ _ _ _ _ _ | exact impl_CleanPath.mono _ _ | exact impl_all__impl_isVisible.mono _ _ | exact impl_isHost.mono _ _ | exact LeO.none _ | refine LeO.ite ?_ ?_ | refine LeO.bind ?_ (fun _ => ?_)
def impl_UrlOk.T1 : Bool × List (List Nat × List Nat) := (true, [([], []), ([0], [0]), ([1], [1]), ([2], [2]), ([3, 2], [3]), ([4], [4]), ([5, 4], [4, 5]), ([6, 4, 4], [4, 6]), ([7, 4], [4, 7]), ([4, 8], [4, 8]), ([9, 7], [9]), ([10], [10]), ([11, 10], [10, 11]), ([12, 10], [10, 12]), ([10, 13], [10, 13]), ([14, 10], [14]), ([15], [15]), ([16, 15], [15, 16]), ([17, 15, 15], [15, 17]), ([15], [15]), ([19, 15], [15, 19]), ([18, 20, 15], [15, 18, 20]), ([15, 21], [15, 21])])
def impl_UrlOk.B1 : List Nat := [0, 1, 3, 7, 15, 31, 63, 127, 255, 511, 1023, 2047, 4095, 8191, 16383, 32767, 65535, 131071, 262143, 65535, 589823, 2097151, 4194303]
theorem impl_UrlOk.tab1 : rtab .any (opsOf Tryz.f23 1) = impl_UrlOk.T1 := by kernel_rfl
theorem impl_UrlOk.bits1 : waitsOk impl_UrlOk.T1.2 impl_UrlOk.B1 = true := by kernel_rfl
set_option maxHeartbeats 8000000 in
set_option maxRecDepth 100000 in
theorem impl_UrlOk.calls (k : Nat) (a0_0 : ByteArray) (a0_1 : Int) (a0_2 : ByteArray) (a0_3 : ByteArray) (a0_4 : Bool) (r : Bool) (w : World) (hG : Gl w) (h : impl_UrlOk.f k a0_0 a0_1 a0_2 a0_3 a0_4 = some r) :
  Calls Tryz.prog 23 #[.agg #[.string a0_0, .int .i64 a0_1, .string a0_2, .string a0_3, .bool a0_4]] w fun e w' => e = .returned (.bool r) ∧ Below w.heap.size w w' := by
 have hu24 := Tryz.underlying24
 have HG := Aside0.mk hG
 clear hG
 have HB := Aside0.mk (Below.refl w.heap.size w)
 have H : ((impl_isHost.f k a0_0).bind fun t168 => (if t168 = true then ((impl_within.f a0_1 1 65535).bind fun t169 => (if t169 = true then (if a0_2.toList = ([] : List UInt8) then (impl_UrlOk.j0 k true a0_0 a0_1 a0_2 a0_3 a0_4) else ((impl_CleanPath.f k a0_2).bind fun t170 => (impl_UrlOk.j0 k (t170.toList != a0_2.toList) a0_0 a0_1 a0_2 a0_3 a0_4))) else (impl_UrlOk.j0 k true a0_0 a0_1 a0_2 a0_3 a0_4))) else (impl_UrlOk.j0 k true a0_0 a0_1 a0_2 a0_3 a0_4))) = some r := h
 clear h
 have HC2 := Aside0.mk H
 clear H
 go_enter Tryz.func23, Tryz.ntmps23
 go_upto_region 1 with (first | ((with_reducible refine gate_dst (N := 1) rfl ?_); refine boxP_ (N := 1) (cs := #[.string a0_0, .int .i64 a0_1, .string a0_2, .string a0_3, .bool a0_4]) (t := 24) ?_; intro gb167 hg w3 hbox hb; have BK167 := Aside0.mk (hbox); have GE167 := geb_ (w := w) hg z0; replace HB := Aside0.mk (below_step z0 hb); clear hb hbox hg))
 (try simp only [Act.put, List.setIfInBounds_toArray, List.set_cons_zero, List.set_cons_succ])
 go_cut [25] (fun v25 wc => ∃ (kq : Nat) (x25_1 : Bool), v25 = .bool x25_1 ∧ Aside0 (impl_UrlOk.j0 kq x25_1 a0_0 a0_1 a0_2 a0_3 a0_4 = some r) ∧ Aside0 (kq ≤ k) ∧ Aside0 (wc.heap[gb167]? = some (.cells #[.string a0_0, .int .i64 a0_1, .string a0_2, .string a0_3, .bool a0_4] 24 (0, 0))) ∧ Aside0 (Below w.heap.size w wc))
 case first =>
  have H := HC2.out
  clear HC2
  replace H := Option.bind_eq_some_iff.mp H
  obtain ⟨t168, A40, H⟩ := H
  try dsimp only at H
  have A4 := Aside0.mk A40
  clear A40
  by_cases c5 : t168 = true
  ·subst c5
   rw [if_pos rfl] at H
   replace H := Option.bind_eq_some_iff.mp H
   obtain ⟨t169, A60, H⟩ := H
   try dsimp only at H
   have A6 := Aside0.mk A60
   clear A60
   by_cases c7 : t169 = true
   ·subst c7
    rw [if_pos rfl] at H
    by_cases c8 : a0_2.toList = ([] : List UInt8)
    ·rw [if_pos c8] at H
     have c8b0 : (a0_2.toList == ([] : List UInt8)) = true := beq_iff_eq.mpr c8
     have c8e : a0_2.toList.isEmpty = true := by have hz_ := beq_iff_eq.1 c8b0; rw [hz_]; rfl
     (try rw [c8e])
     have c8b1 : (a0_2.toList != ([] : List UInt8)) = false := bne_eq_false_iff_eq.mpr c8
     clear c8
     (first | rw [c8b0] | (simp only [i64_w, i32_w]; rw [c8b0]) | skip)
     have H' := Aside0.mk H
     clear H
     try go_wp2
     have n0_ := Aside0.mk (blk_drew BK167.out)
     have n1_ := Aside0.mk (below_drew1 HB.out)
     clear BK167
     clear HB
     have BK167 := n0_
     have HB := n1_
     clear n0_ n1_
     refine start_ (n := 23) (S := fun w' => w'.cell? ⟨gb167, 0, none⟩ = some (.string a0_0) ∧ w'.cell? ⟨gb167, 1, none⟩ = some (.int .i64 a0_1) ∧ w'.cell? ⟨gb167, 2, none⟩ = some (.string a0_2) ∧ w'.cell? ⟨gb167, 3, none⟩ = some (.string a0_3) ∧ w'.cell? ⟨gb167, 4, none⟩ = some (.bool a0_4)) (ds := []) #[false, false, false, false, false, false, false, false, false, false, false, false, false, false, false, false, false, false, false, false, false, false, false] (by kernel_rfl) rfl rfl ⟨(blk_cell BK167.out 0).trans rfl, (blk_cell BK167.out 1).trans rfl, (blk_cell BK167.out 2).trans rfl, (blk_cell BK167.out 3).trans rfl, (blk_cell BK167.out 4).trans rfl⟩ (fun hHeld => ?_); refine with_tabW impl_UrlOk.tab1 impl_UrlOk.bits1 (fun HT_ HW_ => ?_)
     generalize w3.drew = w9 at BK167 HB hHeld ⊢
     refine pz 0 3 ?_
     refine tk (i := 1) (N := some 4) (v := ?_) (a' := ?_) rfl rfl (take_ofW HT_.out HW_.out (by kernel_rfl)) (Or.inl ⟨by rfl, ?_⟩) hHeld ?_ ?_
     rotate_left
     ·rintro w' ⟨s0, s1, s2, s3, s4⟩
      go_simp
      with_reducible rfl
     rotate_left
     ·simp only [Act.put, List.setIfInBounds_toArray, List.set_cons_zero, List.set_cons_succ, i64_w, i32_w]
      rfl
     refine oz 2 5 (fun K hK => ?_)
     refine goes_ Tryz.func54 (by kernel_rfl) rfl #[.string a0_0] (by rfl) rfl rfl z8 ?_
     with_reducible refine (impl_isHost.calls k a0_0 true _ ?side1 A4.out).mono ?_
     (case side1 => exact Gl.below HG.out z9)
     rintro e w10 ⟨rfl, hb⟩
     refine ⟨_, rfl, ?_⟩
     have n0_ := Aside0.mk (blk_below (g := gb167) (o := .cells #[.string a0_0, .int .i64 a0_1, .string a0_2, .string a0_3, .bool a0_4] 24 (0, 0)) z25 hb)
     have n1_ := Aside0.mk (below_step z9 hb)
     clear BK167
     clear HB
     have BK167 := n0_
     have HB := n1_
     clear n0_ n1_
     (try clear hb)
     (try clear hb2)
     (try clear hk)
     (try clear hi)
     refine hK.out _ _ ⟨(blk_cell BK167.out 0).trans rfl, (blk_cell BK167.out 1).trans rfl, (blk_cell BK167.out 2).trans rfl, (blk_cell BK167.out 3).trans rfl, (blk_cell BK167.out 4).trans rfl⟩ (fun hHeld => ?_)
     clear hK K
     refine nz ?_
     refine pz 3 6 ?_
     refine pz 4 7 ?_
     refine pz 5 8 ?_
     refine tk (i := 6) (N := some 9) (v := ?_) (a' := ?_) rfl rfl (take_ofW HT_.out HW_.out (by kernel_rfl)) (Or.inl ⟨by rfl, ?_⟩) hHeld ?_ ?_
     rotate_left
     ·rintro w' ⟨s0, s1, s2, s3, s4⟩
      go_simp
      with_reducible rfl
     rotate_left
     ·simp only [Act.put, List.setIfInBounds_toArray, List.set_cons_zero, List.set_cons_succ, i64_w, i32_w]
      rfl
     refine oz 7 10 (fun K hK => ?_)
     refine goes_ Tryz.func55 (by kernel_rfl) rfl #[.int .i64 a0_1, .int .i64 1, .int .i64 65535] (by rfl) rfl rfl z8 ?_
     with_reducible refine (impl_within.calls a0_1 1 65535 true _ A6.out).mono ?_
     rintro e w' ⟨rfl, ⟨nd, rfl⟩⟩
     refine ⟨_, rfl, ?_⟩
     refine hK.out _ _ ⟨(blk_cell BK167.out 0).trans rfl, (blk_cell BK167.out 1).trans rfl, (blk_cell BK167.out 2).trans rfl, (blk_cell BK167.out 3).trans rfl, (blk_cell BK167.out 4).trans rfl⟩ (fun hHeld => ?_)
     clear hK K
     refine nz ?_
     refine pz 8 11 ?_
     refine pz 9 12 ?_
     refine pz 10 13 ?_
     refine pz 11 14 ?_
     refine tk (i := 12) (N := some 15) (v := ?_) (a' := ?_) rfl rfl (take_ofW HT_.out HW_.out (by kernel_rfl)) (Or.inl ⟨by rfl, ?_⟩) hHeld ?_ ?_
     rotate_left
     ·rintro w' ⟨s0, s1, s2, s3, s4⟩
      go_simp
      with_reducible rfl
     rotate_left
     ·simp only [Act.put, List.setIfInBounds_toArray, List.set_cons_zero, List.set_cons_succ, i64_w, i32_w]
      rfl
     refine pz 13 16 ?_
     refine pz 14 17 ?_
     refine pz 15 18 ?_
     refine pu 16 19 ?_
     refine pu 17 20 ?_
     refine pu 18 21 ?_
     refine pu 19 22 ?_
     refine pu 20 23 ?_
     refine pu 21 24 ?_
     refine pz 22 25 ?_
     refine done_ (done_of HT_.out (by kernel_rfl)) ?_
     try go_wp2
     go_meet
     case rel => exact ⟨_, (true), z5, H', ⟨z31⟩, ⟨z25⟩, ⟨z9⟩⟩
    ·rw [if_neg c8] at H
     have c8b0 : (a0_2.toList == ([] : List UInt8)) = false := beq_eq_false_iff_ne.mpr c8
     have c8e : a0_2.toList.isEmpty = false := by cases hz_ : a0_2.toList with | nil => (rw [hz_] at c8b0; exact absurd c8b0 (by decide)) | cons _ _ => rfl
     (try rw [c8e])
     have c8b1 : (a0_2.toList != ([] : List UInt8)) = true := bne_iff_ne.mpr c8
     (first | rw [c8b0] | (simp only [i64_w, i32_w]; rw [c8b0]) | skip)
     replace H := Option.bind_eq_some_iff.mp H
     obtain ⟨t170, A110, H⟩ := H
     try dsimp only at H
     have A11 := Aside0.mk A110
     clear A110
     have H' := Aside0.mk H
     clear H
     try go_wp2
     have n0_ := Aside0.mk (blk_drew BK167.out)
     have n1_ := Aside0.mk (below_drew1 HB.out)
     clear BK167
     clear HB
     have BK167 := n0_
     have HB := n1_
     clear n0_ n1_
     refine start_ (n := 23) (S := fun w' => w'.cell? ⟨gb167, 0, none⟩ = some (.string a0_0) ∧ w'.cell? ⟨gb167, 1, none⟩ = some (.int .i64 a0_1) ∧ w'.cell? ⟨gb167, 2, none⟩ = some (.string a0_2) ∧ w'.cell? ⟨gb167, 3, none⟩ = some (.string a0_3) ∧ w'.cell? ⟨gb167, 4, none⟩ = some (.bool a0_4)) (ds := []) #[false, false, false, false, false, false, false, false, false, false, false, false, false, false, false, false, false, false, false, false, false, false, false] (by kernel_rfl) rfl rfl ⟨(blk_cell BK167.out 0).trans rfl, (blk_cell BK167.out 1).trans rfl, (blk_cell BK167.out 2).trans rfl, (blk_cell BK167.out 3).trans rfl, (blk_cell BK167.out 4).trans rfl⟩ (fun hHeld => ?_); refine with_tabW impl_UrlOk.tab1 impl_UrlOk.bits1 (fun HT_ HW_ => ?_)
     generalize w3.drew = w12 at BK167 HB hHeld ⊢
     refine pz 0 3 ?_
     refine tk (i := 1) (N := some 4) (v := ?_) (a' := ?_) rfl rfl (take_ofW HT_.out HW_.out (by kernel_rfl)) (Or.inl ⟨by rfl, ?_⟩) hHeld ?_ ?_
     rotate_left
     ·rintro w' ⟨s0, s1, s2, s3, s4⟩
      go_simp
      with_reducible rfl
     rotate_left
     ·simp only [Act.put, List.setIfInBounds_toArray, List.set_cons_zero, List.set_cons_succ, i64_w, i32_w]
      rfl
     refine oz 2 5 (fun K hK => ?_)
     refine goes_ Tryz.func54 (by kernel_rfl) rfl #[.string a0_0] (by rfl) rfl rfl z8 ?_
     with_reducible refine (impl_isHost.calls k a0_0 true _ ?side1 A4.out).mono ?_
     (case side1 => exact Gl.below HG.out z9)
     rintro e w13 ⟨rfl, hb⟩
     refine ⟨_, rfl, ?_⟩
     have n0_ := Aside0.mk (blk_below (g := gb167) (o := .cells #[.string a0_0, .int .i64 a0_1, .string a0_2, .string a0_3, .bool a0_4] 24 (0, 0)) z25 hb)
     have n1_ := Aside0.mk (below_step z9 hb)
     clear BK167
     clear HB
     have BK167 := n0_
     have HB := n1_
     clear n0_ n1_
     (try clear hb)
     (try clear hb2)
     (try clear hk)
     (try clear hi)
     refine hK.out _ _ ⟨(blk_cell BK167.out 0).trans rfl, (blk_cell BK167.out 1).trans rfl, (blk_cell BK167.out 2).trans rfl, (blk_cell BK167.out 3).trans rfl, (blk_cell BK167.out 4).trans rfl⟩ (fun hHeld => ?_)
     clear hK K
     refine nz ?_
     refine pz 3 6 ?_
     refine pz 4 7 ?_
     refine pz 5 8 ?_
     refine tk (i := 6) (N := some 9) (v := ?_) (a' := ?_) rfl rfl (take_ofW HT_.out HW_.out (by kernel_rfl)) (Or.inl ⟨by rfl, ?_⟩) hHeld ?_ ?_
     rotate_left
     ·rintro w' ⟨s0, s1, s2, s3, s4⟩
      go_simp
      with_reducible rfl
     rotate_left
     ·simp only [Act.put, List.setIfInBounds_toArray, List.set_cons_zero, List.set_cons_succ, i64_w, i32_w]
      rfl
     refine oz 7 10 (fun K hK => ?_)
     refine goes_ Tryz.func55 (by kernel_rfl) rfl #[.int .i64 a0_1, .int .i64 1, .int .i64 65535] (by rfl) rfl rfl z8 ?_
     with_reducible refine (impl_within.calls a0_1 1 65535 true _ A6.out).mono ?_
     rintro e w' ⟨rfl, ⟨nd, rfl⟩⟩
     refine ⟨_, rfl, ?_⟩
     refine hK.out _ _ ⟨(blk_cell BK167.out 0).trans rfl, (blk_cell BK167.out 1).trans rfl, (blk_cell BK167.out 2).trans rfl, (blk_cell BK167.out 3).trans rfl, (blk_cell BK167.out 4).trans rfl⟩ (fun hHeld => ?_)
     clear hK K
     refine nz ?_
     refine pz 8 11 ?_
     refine pz 9 12 ?_
     refine pz 10 13 ?_
     refine pz 11 14 ?_
     refine tk (i := 12) (N := some 15) (v := ?_) (a' := ?_) rfl rfl (take_ofW HT_.out HW_.out (by kernel_rfl)) (Or.inl ⟨by rfl, ?_⟩) hHeld ?_ ?_
     rotate_left
     ·rintro w' ⟨s0, s1, s2, s3, s4⟩
      go_simp
      with_reducible rfl
     rotate_left
     ·simp only [Act.put, List.setIfInBounds_toArray, List.set_cons_zero, List.set_cons_succ, i64_w, i32_w]
      rfl
     refine pz 13 16 ?_
     refine pz 14 17 ?_
     refine pz 15 18 ?_
     refine pz 16 19 ?_
     refine pz 19 22 ?_
     refine tk (i := 17) (N := some 20) (v := ?_) (a' := ?_) rfl rfl (take_ofW HT_.out HW_.out (by kernel_rfl)) (Or.inl ⟨by rfl, ?_⟩) hHeld ?_ ?_
     rotate_left
     ·rintro w' ⟨s0, s1, s2, s3, s4⟩
      go_simp
      with_reducible rfl
     rotate_left
     ·simp only [Act.put, List.setIfInBounds_toArray, List.set_cons_zero, List.set_cons_succ, i64_w, i32_w]
      rfl
     refine tk (i := 20) (N := some 23) (v := ?_) (a' := ?_) rfl rfl (take_ofW HT_.out HW_.out (by kernel_rfl)) (Or.inl ⟨by rfl, ?_⟩) hHeld ?_ ?_
     rotate_left
     ·rintro w' ⟨s0, s1, s2, s3, s4⟩
      go_simp
      with_reducible rfl
     rotate_left
     ·simp only [Act.put, List.setIfInBounds_toArray, List.set_cons_zero, List.set_cons_succ, i64_w, i32_w]
      rfl
     refine oz 18 21 (fun K hK => ?_)
     refine goes_ Tryz.func38 (by kernel_rfl) rfl #[.string a0_2] (by rfl) rfl rfl z8 ?_
     with_reducible refine (impl_CleanPath.calls k a0_2 t170 _ ?side1 A11.out).mono ?_
     (case side1 => exact Gl.below HG.out z9)
     rintro e w14 ⟨rfl, hb⟩
     refine ⟨_, rfl, ?_⟩
     have n0_ := Aside0.mk (blk_below (g := gb167) (o := .cells #[.string a0_0, .int .i64 a0_1, .string a0_2, .string a0_3, .bool a0_4] 24 (0, 0)) z25 hb)
     have n1_ := Aside0.mk (below_step z9 hb)
     clear BK167
     clear HB
     have BK167 := n0_
     have HB := n1_
     clear n0_ n1_
     (try clear hb)
     (try clear hb2)
     (try clear hk)
     (try clear hi)
     refine hK.out _ _ ⟨(blk_cell BK167.out 0).trans rfl, (blk_cell BK167.out 1).trans rfl, (blk_cell BK167.out 2).trans rfl, (blk_cell BK167.out 3).trans rfl, (blk_cell BK167.out 4).trans rfl⟩ (fun hHeld => ?_)
     clear hK K
     refine nz ?_
     refine pz 21 24 ?_
     refine pz 22 25 ?_
     refine done_ (done_of HT_.out (by kernel_rfl)) ?_
     try go_wp2
     go_meet
     case rel => exact ⟨_, ((t170.toList != a0_2.toList)), z5, H', ⟨z31⟩, ⟨z25⟩, ⟨z9⟩⟩
   ·replace c7 := Bool.eq_false_iff.mpr c7
    subst c7
    rw [if_neg Bool.false_ne_true] at H
    have H' := Aside0.mk H
    clear H
    try go_wp2
    have n0_ := Aside0.mk (blk_drew BK167.out)
    have n1_ := Aside0.mk (below_drew1 HB.out)
    clear BK167
    clear HB
    have BK167 := n0_
    have HB := n1_
    clear n0_ n1_
    refine start_ (n := 23) (S := fun w' => w'.cell? ⟨gb167, 0, none⟩ = some (.string a0_0) ∧ w'.cell? ⟨gb167, 1, none⟩ = some (.int .i64 a0_1) ∧ w'.cell? ⟨gb167, 2, none⟩ = some (.string a0_2) ∧ w'.cell? ⟨gb167, 3, none⟩ = some (.string a0_3) ∧ w'.cell? ⟨gb167, 4, none⟩ = some (.bool a0_4)) (ds := []) #[false, false, false, false, false, false, false, false, false, false, false, false, false, false, false, false, false, false, false, false, false, false, false] (by kernel_rfl) rfl rfl ⟨(blk_cell BK167.out 0).trans rfl, (blk_cell BK167.out 1).trans rfl, (blk_cell BK167.out 2).trans rfl, (blk_cell BK167.out 3).trans rfl, (blk_cell BK167.out 4).trans rfl⟩ (fun hHeld => ?_); refine with_tabW impl_UrlOk.tab1 impl_UrlOk.bits1 (fun HT_ HW_ => ?_)
    generalize w3.drew = w15 at BK167 HB hHeld ⊢
    refine pz 0 3 ?_
    refine tk (i := 1) (N := some 4) (v := ?_) (a' := ?_) rfl rfl (take_ofW HT_.out HW_.out (by kernel_rfl)) (Or.inl ⟨by rfl, ?_⟩) hHeld ?_ ?_
    rotate_left
    ·rintro w' ⟨s0, s1, s2, s3, s4⟩
     go_simp
     with_reducible rfl
    rotate_left
    ·simp only [Act.put, List.setIfInBounds_toArray, List.set_cons_zero, List.set_cons_succ, i64_w, i32_w]
     rfl
    refine oz 2 5 (fun K hK => ?_)
    refine goes_ Tryz.func54 (by kernel_rfl) rfl #[.string a0_0] (by rfl) rfl rfl z8 ?_
    with_reducible refine (impl_isHost.calls k a0_0 true _ ?side1 A4.out).mono ?_
    (case side1 => exact Gl.below HG.out z9)
    rintro e w16 ⟨rfl, hb⟩
    refine ⟨_, rfl, ?_⟩
    have n0_ := Aside0.mk (blk_below (g := gb167) (o := .cells #[.string a0_0, .int .i64 a0_1, .string a0_2, .string a0_3, .bool a0_4] 24 (0, 0)) z25 hb)
    have n1_ := Aside0.mk (below_step z9 hb)
    clear BK167
    clear HB
    have BK167 := n0_
    have HB := n1_
    clear n0_ n1_
    (try clear hb)
    (try clear hb2)
    (try clear hk)
    (try clear hi)
    refine hK.out _ _ ⟨(blk_cell BK167.out 0).trans rfl, (blk_cell BK167.out 1).trans rfl, (blk_cell BK167.out 2).trans rfl, (blk_cell BK167.out 3).trans rfl, (blk_cell BK167.out 4).trans rfl⟩ (fun hHeld => ?_)
    clear hK K
    refine nz ?_
    refine pz 3 6 ?_
    refine pz 4 7 ?_
    refine pz 5 8 ?_
    refine tk (i := 6) (N := some 9) (v := ?_) (a' := ?_) rfl rfl (take_ofW HT_.out HW_.out (by kernel_rfl)) (Or.inl ⟨by rfl, ?_⟩) hHeld ?_ ?_
    rotate_left
    ·rintro w' ⟨s0, s1, s2, s3, s4⟩
     go_simp
     with_reducible rfl
    rotate_left
    ·simp only [Act.put, List.setIfInBounds_toArray, List.set_cons_zero, List.set_cons_succ, i64_w, i32_w]
     rfl
    refine oz 7 10 (fun K hK => ?_)
    refine goes_ Tryz.func55 (by kernel_rfl) rfl #[.int .i64 a0_1, .int .i64 1, .int .i64 65535] (by rfl) rfl rfl z8 ?_
    with_reducible refine (impl_within.calls a0_1 1 65535 false _ A6.out).mono ?_
    rintro e w' ⟨rfl, ⟨nd, rfl⟩⟩
    refine ⟨_, rfl, ?_⟩
    refine hK.out _ _ ⟨(blk_cell BK167.out 0).trans rfl, (blk_cell BK167.out 1).trans rfl, (blk_cell BK167.out 2).trans rfl, (blk_cell BK167.out 3).trans rfl, (blk_cell BK167.out 4).trans rfl⟩ (fun hHeld => ?_)
    clear hK K
    refine nz ?_
    refine pz 8 11 ?_
    refine pz 9 12 ?_
    refine pz 10 13 ?_
    refine pu 11 14 ?_
    refine pu 12 15 ?_
    refine pu 13 16 ?_
    refine pz 14 17 ?_
    refine pz 15 18 ?_
    refine pu 16 19 ?_
    refine pu 17 20 ?_
    refine pu 18 21 ?_
    refine pu 19 22 ?_
    refine pu 20 23 ?_
    refine pu 21 24 ?_
    refine pz 22 25 ?_
    refine done_ (done_of HT_.out (by kernel_rfl)) ?_
    try go_wp2
    go_meet
    case rel => exact ⟨_, (true), z5, H', ⟨z31⟩, ⟨z25⟩, ⟨z9⟩⟩
  ·replace c5 := Bool.eq_false_iff.mpr c5
   subst c5
   rw [if_neg Bool.false_ne_true] at H
   have H' := Aside0.mk H
   clear H
   try go_wp2
   have n0_ := Aside0.mk (blk_drew BK167.out)
   have n1_ := Aside0.mk (below_drew1 HB.out)
   clear BK167
   clear HB
   have BK167 := n0_
   have HB := n1_
   clear n0_ n1_
   refine start_ (n := 23) (S := fun w' => w'.cell? ⟨gb167, 0, none⟩ = some (.string a0_0) ∧ w'.cell? ⟨gb167, 1, none⟩ = some (.int .i64 a0_1) ∧ w'.cell? ⟨gb167, 2, none⟩ = some (.string a0_2) ∧ w'.cell? ⟨gb167, 3, none⟩ = some (.string a0_3) ∧ w'.cell? ⟨gb167, 4, none⟩ = some (.bool a0_4)) (ds := []) #[false, false, false, false, false, false, false, false, false, false, false, false, false, false, false, false, false, false, false, false, false, false, false] (by kernel_rfl) rfl rfl ⟨(blk_cell BK167.out 0).trans rfl, (blk_cell BK167.out 1).trans rfl, (blk_cell BK167.out 2).trans rfl, (blk_cell BK167.out 3).trans rfl, (blk_cell BK167.out 4).trans rfl⟩ (fun hHeld => ?_); refine with_tabW impl_UrlOk.tab1 impl_UrlOk.bits1 (fun HT_ HW_ => ?_)
   generalize w3.drew = w17 at BK167 HB hHeld ⊢
   refine pz 0 3 ?_
   refine tk (i := 1) (N := some 4) (v := ?_) (a' := ?_) rfl rfl (take_ofW HT_.out HW_.out (by kernel_rfl)) (Or.inl ⟨by rfl, ?_⟩) hHeld ?_ ?_
   rotate_left
   ·rintro w' ⟨s0, s1, s2, s3, s4⟩
    go_simp
    with_reducible rfl
   rotate_left
   ·simp only [Act.put, List.setIfInBounds_toArray, List.set_cons_zero, List.set_cons_succ, i64_w, i32_w]
    rfl
   refine oz 2 5 (fun K hK => ?_)
   refine goes_ Tryz.func54 (by kernel_rfl) rfl #[.string a0_0] (by rfl) rfl rfl z8 ?_
   with_reducible refine (impl_isHost.calls k a0_0 false _ ?side1 A4.out).mono ?_
   (case side1 => exact Gl.below HG.out z9)
   rintro e w18 ⟨rfl, hb⟩
   refine ⟨_, rfl, ?_⟩
   have n0_ := Aside0.mk (blk_below (g := gb167) (o := .cells #[.string a0_0, .int .i64 a0_1, .string a0_2, .string a0_3, .bool a0_4] 24 (0, 0)) z25 hb)
   have n1_ := Aside0.mk (below_step z9 hb)
   clear BK167
   clear HB
   have BK167 := n0_
   have HB := n1_
   clear n0_ n1_
   (try clear hb)
   (try clear hb2)
   (try clear hk)
   (try clear hi)
   refine hK.out _ _ ⟨(blk_cell BK167.out 0).trans rfl, (blk_cell BK167.out 1).trans rfl, (blk_cell BK167.out 2).trans rfl, (blk_cell BK167.out 3).trans rfl, (blk_cell BK167.out 4).trans rfl⟩ (fun hHeld => ?_)
   clear hK K
   refine nz ?_
   refine pz 3 6 ?_
   refine pz 4 7 ?_
   refine pu 5 8 ?_
   refine pu 6 9 ?_
   refine pu 7 10 ?_
   refine pu 8 11 ?_
   refine pz 9 12 ?_
   refine pz 10 13 ?_
   refine pu 11 14 ?_
   refine pu 12 15 ?_
   refine pu 13 16 ?_
   refine pz 14 17 ?_
   refine pz 15 18 ?_
   refine pu 16 19 ?_
   refine pu 17 20 ?_
   refine pu 18 21 ?_
   refine pu 19 22 ?_
   refine pu 20 23 ?_
   refine pu 21 24 ?_
   refine pz 22 25 ?_
   refine done_ (done_of HT_.out (by kernel_rfl)) ?_
   try go_wp2
   go_meet
   case rel => exact ⟨_, (true), z5, H', ⟨z31⟩, ⟨z25⟩, ⟨z9⟩⟩
 case rest =>
  clear HC2
  try clear p2
  try clear c3
  try clear c5
  try clear c7
  obtain ⟨kq, x25_1, rfl, HA, HJ1, BK167, HB⟩ := hcut
  cases kq with
  | zero => exact absurd HA.out (by simp [impl_UrlOk.j0])
  | succ kj1 =>
   have H := HA.out
   clear HA
   simp only [impl_UrlOk.j0] at H
   by_cases c19 : x25_1 = true
   ·subst c19
    rw [if_pos rfl] at H
    obtain rfl := Option.some.inj H
    go_wp2
    go_ret
    exact ⟨z4, z9⟩
   ·replace c19 := Bool.eq_false_iff.mpr c19
    subst c19
    rw [if_neg Bool.false_ne_true] at H
    replace H := Option.bind_eq_some_iff.mp H
    obtain ⟨t171, A200, H⟩ := H
    try dsimp only at H
    have A20 := Aside0.mk A200
    clear A200
    by_cases c21 : t171 = true
    ·subst c21
     rw [if_pos rfl] at H
     replace H := Option.bind_eq_some_iff.mp H
     obtain ⟨t172, A220, H⟩ := H
     try dsimp only at H
     have A22 := Aside0.mk A220
     clear A220
     by_cases c23 : t172 = true
     ·subst c23
      rw [if_pos rfl] at H
      obtain rfl := Option.some.inj H
      have hcz24_0 : wc.cell? ⟨gb167, 0, none⟩ = some (.string a0_0) := (blk_cell BK167.out 0).trans rfl
      have hcz24_1 : wc.cell? ⟨gb167, 1, none⟩ = some (.int .i64 a0_1) := (blk_cell BK167.out 1).trans rfl
      have hcz24_2 : wc.cell? ⟨gb167, 2, none⟩ = some (.string a0_2) := (blk_cell BK167.out 2).trans rfl
      have hcz24_3 : wc.cell? ⟨gb167, 3, none⟩ = some (.string a0_3) := (blk_cell BK167.out 3).trans rfl
      have hcz24_4 : wc.cell? ⟨gb167, 4, none⟩ = some (.bool a0_4) := (blk_cell BK167.out 4).trans rfl
      have hfz24_0 := blk_frozen BK167.out 0
      have hfz24_1 := blk_frozen BK167.out 1
      have hfz24_2 := blk_frozen BK167.out 2
      have hfz24_3 := blk_frozen BK167.out 3
      have hfz24_4 := blk_frozen BK167.out 4
      go_wp2_with (first | ((with_reducible refine gate_callee (f := 30) rfl ?_); refine goesQ_ 28 Tryz.func30 #[.string a0_3, .func (.func 31) #[] #[]] ?_; (with_reducible refine (impl_all__impl_isVisible.calls kj1 a0_3 true _ A20.out).mono ?_); rintro e w' ⟨rfl, ⟨nd, rfl⟩⟩; refine ⟨_, rfl, ?_⟩) | (go_at_call 32; (with_reducible refine (strings_Contains.calls a0_3 (⟨#[35]⟩ : ByteArray) true _ ?side1 A22.out).mono ?_); (case side1 => exact Gl.below HG.out z9); rintro e w25 ⟨rfl, hb⟩; have n0_ := Aside0.mk (blk_below (g := gb167) (o := .cells #[.string a0_0, .int .i64 a0_1, .string a0_2, .string a0_3, .bool a0_4] 24 (0, 0)) z25 hb); have n1_ := Aside0.mk (below_step z9 hb); clear BK167; clear HB; have BK167 := n0_; have HB := n1_; clear n0_ n1_; (try clear hb); (try clear hb2); (try clear hk); (try clear hi)))
      go_ret
      exact ⟨z4, z9⟩
     ·replace c23 := Bool.eq_false_iff.mpr c23
      subst c23
      rw [if_neg Bool.false_ne_true] at H
      by_cases c26 : a0_4 = true
      ·subst c26
       rw [if_pos rfl] at H
       replace H := Option.bind_eq_some_iff.mp H
       obtain ⟨t173, A270, H⟩ := H
       try dsimp only at H
       have A27 := Aside0.mk A270
       clear A270
       obtain rfl := Option.some.inj H
       have hcz28_0 : wc.cell? ⟨gb167, 0, none⟩ = some (.string a0_0) := (blk_cell BK167.out 0).trans rfl
       have hcz28_1 : wc.cell? ⟨gb167, 1, none⟩ = some (.int .i64 a0_1) := (blk_cell BK167.out 1).trans rfl
       have hcz28_2 : wc.cell? ⟨gb167, 2, none⟩ = some (.string a0_2) := (blk_cell BK167.out 2).trans rfl
       have hcz28_3 : wc.cell? ⟨gb167, 3, none⟩ = some (.string a0_3) := (blk_cell BK167.out 3).trans rfl
       have hcz28_4 : wc.cell? ⟨gb167, 4, none⟩ = some (.bool true) := (blk_cell BK167.out 4).trans rfl
       have hfz28_0 := blk_frozen BK167.out 0
       have hfz28_1 := blk_frozen BK167.out 1
       have hfz28_2 := blk_frozen BK167.out 2
       have hfz28_3 := blk_frozen BK167.out 3
       have hfz28_4 := blk_frozen BK167.out 4
       go_wp2_with (first | ((with_reducible refine gate_callee (f := 30) rfl ?_); refine goesQ_ 28 Tryz.func30 #[.string a0_3, .func (.func 31) #[] #[]] ?_; (with_reducible refine (impl_all__impl_isVisible.calls kj1 a0_3 true _ A20.out).mono ?_); rintro e w' ⟨rfl, ⟨nd, rfl⟩⟩; refine ⟨_, rfl, ?_⟩) | (go_at_call 32; (with_reducible refine (strings_Contains.calls a0_3 (⟨#[35]⟩ : ByteArray) false _ ?side1 A22.out).mono ?_); (case side1 => exact Gl.below HG.out z9); rintro e w29 ⟨rfl, hb⟩; have n0_ := Aside0.mk (blk_below (g := gb167) (o := .cells #[.string a0_0, .int .i64 a0_1, .string a0_2, .string a0_3, .bool true] 24 (0, 0)) z25 hb); have n1_ := Aside0.mk (below_step z9 hb); clear BK167; clear HB; have BK167 := n0_; have HB := n1_; clear n0_ n1_; (try clear hb); (try clear hb2); (try clear hk); (try clear hi); have hcz30_0 : w29.cell? ⟨gb167, 0, none⟩ = some (.string a0_0) := (blk_cell BK167.out 0).trans rfl; have hcz30_1 : w29.cell? ⟨gb167, 1, none⟩ = some (.int .i64 a0_1) := (blk_cell BK167.out 1).trans rfl; have hcz30_2 : w29.cell? ⟨gb167, 2, none⟩ = some (.string a0_2) := (blk_cell BK167.out 2).trans rfl; have hcz30_3 : w29.cell? ⟨gb167, 3, none⟩ = some (.string a0_3) := (blk_cell BK167.out 3).trans rfl; have hcz30_4 : w29.cell? ⟨gb167, 4, none⟩ = some (.bool true) := (blk_cell BK167.out 4).trans rfl; have hfz30_0 := blk_frozen BK167.out 0; have hfz30_1 := blk_frozen BK167.out 1; have hfz30_2 := blk_frozen BK167.out 2; have hfz30_3 := blk_frozen BK167.out 3; have hfz30_4 := blk_frozen BK167.out 4) | ((with_reducible refine gate_callee (f := 24) rfl ?_); refine goesQ_ 46 Tryz.func24 #[.agg #[.string a0_0, .int .i64 a0_1, .string a0_2, .string a0_3, .bool true]] ?_; (with_reducible refine (impl_urlText.calls a0_0 a0_1 a0_2 a0_3 true t173 _ ?side1 A27.out).mono ?_); (case side1 => exact Gl.below HG.out z9); rintro e w31 ⟨rfl, hb⟩; refine ⟨_, rfl, ?_⟩; replace BK167 := Aside0.mk (blk_below (g := gb167) (o := .cells #[.string a0_0, .int .i64 a0_1, .string a0_2, .string a0_3, .bool true] 24 (0, 0)) z25 hb); replace HB := Aside0.mk (below_step z9 hb); (try clear hb)))
       go_ret
       exact ⟨z4, z9⟩
      ·replace c26 := Bool.eq_false_iff.mpr c26
       subst c26
       rw [if_neg Bool.false_ne_true] at H
       by_cases c32 : a0_3.toList = ([] : List UInt8)
       ·rw [if_pos c32] at H
        have c32b0 : (a0_3.toList == ([] : List UInt8)) = true := beq_iff_eq.mpr c32
        have c32e : a0_3.toList.isEmpty = true := by have hz_ := beq_iff_eq.1 c32b0; rw [hz_]; rfl
        (try rw [c32e])
        have c32b1 : (a0_3.toList != ([] : List UInt8)) = false := bne_eq_false_iff_eq.mpr c32
        clear c32
        replace H := Option.bind_eq_some_iff.mp H
        obtain ⟨t174, A330, H⟩ := H
        try dsimp only at H
        have A33 := Aside0.mk A330
        clear A330
        obtain rfl := Option.some.inj H
        have hcz34_0 : wc.cell? ⟨gb167, 0, none⟩ = some (.string a0_0) := (blk_cell BK167.out 0).trans rfl
        have hcz34_1 : wc.cell? ⟨gb167, 1, none⟩ = some (.int .i64 a0_1) := (blk_cell BK167.out 1).trans rfl
        have hcz34_2 : wc.cell? ⟨gb167, 2, none⟩ = some (.string a0_2) := (blk_cell BK167.out 2).trans rfl
        have hcz34_3 : wc.cell? ⟨gb167, 3, none⟩ = some (.string a0_3) := (blk_cell BK167.out 3).trans rfl
        have hcz34_4 : wc.cell? ⟨gb167, 4, none⟩ = some (.bool false) := (blk_cell BK167.out 4).trans rfl
        have hfz34_0 := blk_frozen BK167.out 0
        have hfz34_1 := blk_frozen BK167.out 1
        have hfz34_2 := blk_frozen BK167.out 2
        have hfz34_3 := blk_frozen BK167.out 3
        have hfz34_4 := blk_frozen BK167.out 4
        go_wp2_with (first | ((with_reducible refine gate_callee (f := 30) rfl ?_); refine goesQ_ 28 Tryz.func30 #[.string a0_3, .func (.func 31) #[] #[]] ?_; (with_reducible refine (impl_all__impl_isVisible.calls kj1 a0_3 true _ A20.out).mono ?_); rintro e w' ⟨rfl, ⟨nd, rfl⟩⟩; refine ⟨_, rfl, ?_⟩) | (go_at_call 32; (with_reducible refine (strings_Contains.calls a0_3 (⟨#[35]⟩ : ByteArray) false _ ?side1 A22.out).mono ?_); (case side1 => exact Gl.below HG.out z9); rintro e w35 ⟨rfl, hb⟩; have n0_ := Aside0.mk (blk_below (g := gb167) (o := .cells #[.string a0_0, .int .i64 a0_1, .string a0_2, .string a0_3, .bool false] 24 (0, 0)) z25 hb); have n1_ := Aside0.mk (below_step z9 hb); clear BK167; clear HB; have BK167 := n0_; have HB := n1_; clear n0_ n1_; (try clear hb); (try clear hb2); (try clear hk); (try clear hi); have hcz36_0 : w35.cell? ⟨gb167, 0, none⟩ = some (.string a0_0) := (blk_cell BK167.out 0).trans rfl; have hcz36_1 : w35.cell? ⟨gb167, 1, none⟩ = some (.int .i64 a0_1) := (blk_cell BK167.out 1).trans rfl; have hcz36_2 : w35.cell? ⟨gb167, 2, none⟩ = some (.string a0_2) := (blk_cell BK167.out 2).trans rfl; have hcz36_3 : w35.cell? ⟨gb167, 3, none⟩ = some (.string a0_3) := (blk_cell BK167.out 3).trans rfl; have hcz36_4 : w35.cell? ⟨gb167, 4, none⟩ = some (.bool false) := (blk_cell BK167.out 4).trans rfl; have hfz36_0 := blk_frozen BK167.out 0; have hfz36_1 := blk_frozen BK167.out 1; have hfz36_2 := blk_frozen BK167.out 2; have hfz36_3 := blk_frozen BK167.out 3; have hfz36_4 := blk_frozen BK167.out 4) | ((with_reducible refine gate_callee (f := 24) rfl ?_); refine goesQ_ 46 Tryz.func24 #[.agg #[.string a0_0, .int .i64 a0_1, .string a0_2, .string a0_3, .bool false]] ?_; (with_reducible refine (impl_urlText.calls a0_0 a0_1 a0_2 a0_3 false t174 _ ?side1 A33.out).mono ?_); (case side1 => exact Gl.below HG.out z9); rintro e w37 ⟨rfl, hb⟩; refine ⟨_, rfl, ?_⟩; replace BK167 := Aside0.mk (blk_below (g := gb167) (o := .cells #[.string a0_0, .int .i64 a0_1, .string a0_2, .string a0_3, .bool false] 24 (0, 0)) z25 hb); replace HB := Aside0.mk (below_step z9 hb); (try clear hb)))
        go_ret
        exact ⟨z4, z9⟩
       ·rw [if_neg c32] at H
        have c32b0 : (a0_3.toList == ([] : List UInt8)) = false := beq_eq_false_iff_ne.mpr c32
        have c32e : a0_3.toList.isEmpty = false := by cases hz_ : a0_3.toList with | nil => (rw [hz_] at c32b0; exact absurd c32b0 (by decide)) | cons _ _ => rfl
        (try rw [c32e])
        have c32b1 : (a0_3.toList != ([] : List UInt8)) = true := bne_iff_ne.mpr c32
        obtain rfl := Option.some.inj H
        have hcz38_0 : wc.cell? ⟨gb167, 0, none⟩ = some (.string a0_0) := (blk_cell BK167.out 0).trans rfl
        have hcz38_1 : wc.cell? ⟨gb167, 1, none⟩ = some (.int .i64 a0_1) := (blk_cell BK167.out 1).trans rfl
        have hcz38_2 : wc.cell? ⟨gb167, 2, none⟩ = some (.string a0_2) := (blk_cell BK167.out 2).trans rfl
        have hcz38_3 : wc.cell? ⟨gb167, 3, none⟩ = some (.string a0_3) := (blk_cell BK167.out 3).trans rfl
        have hcz38_4 : wc.cell? ⟨gb167, 4, none⟩ = some (.bool false) := (blk_cell BK167.out 4).trans rfl
        have hfz38_0 := blk_frozen BK167.out 0
        have hfz38_1 := blk_frozen BK167.out 1
        have hfz38_2 := blk_frozen BK167.out 2
        have hfz38_3 := blk_frozen BK167.out 3
        have hfz38_4 := blk_frozen BK167.out 4
        go_wp2_with (first | ((with_reducible refine gate_callee (f := 30) rfl ?_); refine goesQ_ 28 Tryz.func30 #[.string a0_3, .func (.func 31) #[] #[]] ?_; (with_reducible refine (impl_all__impl_isVisible.calls kj1 a0_3 true _ A20.out).mono ?_); rintro e w' ⟨rfl, ⟨nd, rfl⟩⟩; refine ⟨_, rfl, ?_⟩) | (go_at_call 32; (with_reducible refine (strings_Contains.calls a0_3 (⟨#[35]⟩ : ByteArray) false _ ?side1 A22.out).mono ?_); (case side1 => exact Gl.below HG.out z9); rintro e w39 ⟨rfl, hb⟩; have n0_ := Aside0.mk (blk_below (g := gb167) (o := .cells #[.string a0_0, .int .i64 a0_1, .string a0_2, .string a0_3, .bool false] 24 (0, 0)) z25 hb); have n1_ := Aside0.mk (below_step z9 hb); clear BK167; clear HB; have BK167 := n0_; have HB := n1_; clear n0_ n1_; (try clear hb); (try clear hb2); (try clear hk); (try clear hi); have hcz40_0 : w39.cell? ⟨gb167, 0, none⟩ = some (.string a0_0) := (blk_cell BK167.out 0).trans rfl; have hcz40_1 : w39.cell? ⟨gb167, 1, none⟩ = some (.int .i64 a0_1) := (blk_cell BK167.out 1).trans rfl; have hcz40_2 : w39.cell? ⟨gb167, 2, none⟩ = some (.string a0_2) := (blk_cell BK167.out 2).trans rfl; have hcz40_3 : w39.cell? ⟨gb167, 3, none⟩ = some (.string a0_3) := (blk_cell BK167.out 3).trans rfl; have hcz40_4 : w39.cell? ⟨gb167, 4, none⟩ = some (.bool false) := (blk_cell BK167.out 4).trans rfl; have hfz40_0 := blk_frozen BK167.out 0; have hfz40_1 := blk_frozen BK167.out 1; have hfz40_2 := blk_frozen BK167.out 2; have hfz40_3 := blk_frozen BK167.out 3; have hfz40_4 := blk_frozen BK167.out 4))
        go_ret
        exact ⟨z4, z9⟩
    ·replace c21 := Bool.eq_false_iff.mpr c21
     subst c21
     rw [if_neg Bool.false_ne_true] at H
     obtain rfl := Option.some.inj H
     have hcz41_0 : wc.cell? ⟨gb167, 0, none⟩ = some (.string a0_0) := (blk_cell BK167.out 0).trans rfl
     have hcz41_1 : wc.cell? ⟨gb167, 1, none⟩ = some (.int .i64 a0_1) := (blk_cell BK167.out 1).trans rfl
     have hcz41_2 : wc.cell? ⟨gb167, 2, none⟩ = some (.string a0_2) := (blk_cell BK167.out 2).trans rfl
     have hcz41_3 : wc.cell? ⟨gb167, 3, none⟩ = some (.string a0_3) := (blk_cell BK167.out 3).trans rfl
     have hcz41_4 : wc.cell? ⟨gb167, 4, none⟩ = some (.bool a0_4) := (blk_cell BK167.out 4).trans rfl
     have hfz41_0 := blk_frozen BK167.out 0
     have hfz41_1 := blk_frozen BK167.out 1
     have hfz41_2 := blk_frozen BK167.out 2
     have hfz41_3 := blk_frozen BK167.out 3
     have hfz41_4 := blk_frozen BK167.out 4
     go_wp2_with (first | ((with_reducible refine gate_callee (f := 30) rfl ?_); refine goesQ_ 28 Tryz.func30 #[.string a0_3, .func (.func 31) #[] #[]] ?_; (with_reducible refine (impl_all__impl_isVisible.calls kj1 a0_3 false _ A20.out).mono ?_); rintro e w' ⟨rfl, ⟨nd, rfl⟩⟩; refine ⟨_, rfl, ?_⟩))
     go_ret
     exact ⟨z4, z9⟩

end Go.Proofs.YtkkolioolgpljaaGreatDoor.GFnCanons
