-- Laid by gen.py of this session (over the kit's printing program): what the law FnExactUnsurt reaches, as Lean functions, and that Go comes to just that.
import Derived.Test.YtcplgnikihjilaaGreatDoorGFnExactUnsurtx0
import Derived.Test.YtcplgnikihjilaaGreatDoorGFnExactUnsurtx1
import Derived.Test.YtcplgnikihjilaaGreatDoorGFnExactUnsurtx2
import Derived.Test.YtcplgnikihjilaaGreatDoorGFnExactUnsurtx5
import Derived.Test.YtcplgnikihjilaaGreatDoorGFnExactUnsurtx6
import Derived.Test.YtcplgnikihjilaaGreatDoorZFnExactUnsurt
namespace Go.Proofs.YtcplgnikihjilaaGreatDoor.GFnExactUnsurt
open Go.RowKit Go.Proofs.YtcplgnikihjilaaGreatDoorW.PrintWords Go.Proofs.YtcplgnikihjilaaGreatDoorW.PrintLast Go.Proofs.YtcplgnikihjilaaGreatDoorW.PrintMore Go.Proofs.YtcplgnikihjilaaGreatDoorW.Zs
attribute [local go_sem] max2_int min2_int max_two min_two max_three min_three max_four min_four   -- for this text's walks alone
set_option linter.unusedVariables false
set_option linter.unusedSimpArgs false

/-! ### spec_Surt: function 43 -/
def spec_Surt.f (k : Nat) (a0_0 : ByteArray) (a0_1 : Int) (a0_2 : ByteArray) (a0_3 : ByteArray) (a0_4 : Bool) : Option (ByteArray) := (spec_UrlOk.f k a0_0 a0_1 a0_2 a0_3 a0_4).bind fun t192 => (if t192 = true then ((spec_l7turned.f k a0_0 46 (⟨#[44]⟩ : ByteArray)).bind fun t193 => ((spec_l7port.f k a0_0 a0_1 a0_2 a0_3 a0_4).bind fun t194 => (if t193.size + t194.size ≤ 9223372036854775807 then (if (t193 ++ t194).size + 1 ≤ 9223372036854775807 then (if ((t193 ++ t194) ++ (⟨#[41]⟩ : ByteArray)).size + a0_2.size ≤ 9223372036854775807 then ((spec_l7query.f a0_0 a0_1 a0_2 a0_3 a0_4).bind fun t195 => (if (((t193 ++ t194) ++ (⟨#[41]⟩ : ByteArray)) ++ a0_2).size + t195.size ≤ 9223372036854775807 then (some ((((t193 ++ t194) ++ (⟨#[41]⟩ : ByteArray)) ++ a0_2) ++ t195)) else (none))) else (none)) else (none)) else (none)))) else (some (⟨#[]⟩ : ByteArray)))
theorem spec_Surt.mono : ∀ a0 a1 a2 a3 a4 k, LeO (spec_Surt.f k a0 a1 a2 a3 a4) (spec_Surt.f (k + 1) a0 a1 a2 a3 a4) := by
 intro a0 a1 a2 a3 a4 k
 unfold spec_Surt.f
 repeat' first | (with_reducible first | exact spec_UrlOk.mono _ _ _ _ _ _ | exact spec_l7port.mono _ _ _ _ _ _ | exact spec_l7turned.mono _ _ _ _ | exact LeO.refl _ | exact LeO.none _ | refine LeO.ite ?_ ?_ | refine LeO.bind ?_ (fun _ => ?_)) | exact spec_UrlOk.mono _ _ _ _ _ _ | exact spec_l7port.mono _ _ _ _ _ _ | exact spec_l7turned.mono _ _ _ _ | exact LeO.none _ | refine LeO.ite ?_ ?_ | refine LeO.bind ?_ (fun _ => ?_)
def spec_Surt.T3 : Bool × List (List Nat × List Nat) := (true, [([], []), ([0], [0]), ([1], [1]), ([], []), ([3, 2], [3]), ([2, 4], [2, 4]), ([5], [5]), ([], []), ([7], [7]), ([6, 8], [6, 8]), ([], []), ([10, 4], [10]), ([9, 11], [9, 11]), ([12, 11, 0, 1, 2, 3, 4, 5, 6, 7, 8, 9, 10, 11, 12], [12])])
def spec_Surt.B3 : List Nat := [0, 1, 3, 0, 15, 31, 63, 0, 128, 511, 0, 1055, 4095, 8191]
theorem spec_Surt.tab3 : rtab .any (opsOf Tryz.f43 3) = spec_Surt.T3 := by kernel_rfl
theorem spec_Surt.bits3 : waitsOk spec_Surt.T3.2 spec_Surt.B3 = true := by kernel_rfl
set_option maxHeartbeats 8000000 in
set_option maxRecDepth 100000 in
theorem spec_Surt.calls (k : Nat) (a0_0 : ByteArray) (a0_1 : Int) (a0_2 : ByteArray) (a0_3 : ByteArray) (a0_4 : Bool) (r : ByteArray) (w : World) (h : spec_Surt.f k a0_0 a0_1 a0_2 a0_3 a0_4 = some r) :
  Calls Tryz.prog 43 #[.agg #[.string a0_0, .int .i64 a0_1, .string a0_2, .string a0_3, .bool a0_4]] w fun e w' => e = .returned (.string r) ∧ Below w.heap.size w w' := by
 have hu23 := Tryz.underlying23
 have HB := Aside0.mk (Below.refl w.heap.size w)
 have H : ((spec_UrlOk.f k a0_0 a0_1 a0_2 a0_3 a0_4).bind fun t192 => (if t192 = true then ((spec_l7turned.f k a0_0 46 (⟨#[44]⟩ : ByteArray)).bind fun t193 => ((spec_l7port.f k a0_0 a0_1 a0_2 a0_3 a0_4).bind fun t194 => (if t193.size + t194.size ≤ 9223372036854775807 then (if (t193 ++ t194).size + 1 ≤ 9223372036854775807 then (if ((t193 ++ t194) ++ (⟨#[41]⟩ : ByteArray)).size + a0_2.size ≤ 9223372036854775807 then ((spec_l7query.f a0_0 a0_1 a0_2 a0_3 a0_4).bind fun t195 => (if (((t193 ++ t194) ++ (⟨#[41]⟩ : ByteArray)) ++ a0_2).size + t195.size ≤ 9223372036854775807 then (some ((((t193 ++ t194) ++ (⟨#[41]⟩ : ByteArray)) ++ a0_2) ++ t195)) else (none))) else (none)) else (none)) else (none)))) else (some (⟨#[]⟩ : ByteArray)))) = some r := h
 clear h
 replace H := Option.bind_eq_some_iff.mp H
 obtain ⟨t192, A20, H⟩ := H
 try dsimp only at H
 have A2 := Aside0.mk A20
 clear A20
 by_cases c3 : t192 = true
 ·subst c3
  rw [if_pos rfl] at H
  replace H := Option.bind_eq_some_iff.mp H
  obtain ⟨t193, A40, H⟩ := H
  try dsimp only at H
  have A4 := Aside0.mk A40
  clear A40
  replace H := Option.bind_eq_some_iff.mp H
  obtain ⟨t194, A50, H⟩ := H
  try dsimp only at H
  have A5 := Aside0.mk A50
  clear A50
  by_cases c6 : t193.size + t194.size ≤ 9223372036854775807
  ·rw [if_pos c6] at H
   have c6b0 := eq_true c6
   have c6b1 : decide (t193.size + t194.size ≤ 9223372036854775807) = true := decide_eq_true c6
   try have c6b2 : (9223372036854775807 < t193.size + t194.size) = False := eq_false (Nat.not_lt.2 c6)
   by_cases c7 : (t193 ++ t194).size + 1 ≤ 9223372036854775807
   ·rw [if_pos c7] at H
    have c7b0 := eq_true c7
    have c7b1 : decide ((t193 ++ t194).size + 1 ≤ 9223372036854775807) = true := decide_eq_true c7
    try have c7b2 : (9223372036854775807 < (t193 ++ t194).size + 1) = False := eq_false (Nat.not_lt.2 c7)
    try have c7z := c7b2; simp only [ByteArray.size_append] at c7z; have c7b3 := c7z
    by_cases c8 : ((t193 ++ t194) ++ (⟨#[41]⟩ : ByteArray)).size + a0_2.size ≤ 9223372036854775807
    ·rw [if_pos c8] at H
     have c8b0 := eq_true c8
     have c8b1 : decide (((t193 ++ t194) ++ (⟨#[41]⟩ : ByteArray)).size + a0_2.size ≤ 9223372036854775807) = true := decide_eq_true c8
     try have c8b2 : (9223372036854775807 < ((t193 ++ t194) ++ (⟨#[41]⟩ : ByteArray)).size + a0_2.size) = False := eq_false (Nat.not_lt.2 c8)
     try have c8z := c8b2; simp only [ByteArray.size_append, show (⟨#[41]⟩ : ByteArray).size = 1 from rfl] at c8z; have c8b3 := c8z
     replace H := Option.bind_eq_some_iff.mp H
     obtain ⟨t195, A90, H⟩ := H
     try dsimp only at H
     have A9 := Aside0.mk A90
     clear A90
     by_cases c10 : (((t193 ++ t194) ++ (⟨#[41]⟩ : ByteArray)) ++ a0_2).size + t195.size ≤ 9223372036854775807
     ·rw [if_pos c10] at H
      have c10b0 := eq_true c10
      have c10b1 : decide ((((t193 ++ t194) ++ (⟨#[41]⟩ : ByteArray)) ++ a0_2).size + t195.size ≤ 9223372036854775807) = true := decide_eq_true c10
      try have c10b2 : (9223372036854775807 < (((t193 ++ t194) ++ (⟨#[41]⟩ : ByteArray)) ++ a0_2).size + t195.size) = False := eq_false (Nat.not_lt.2 c10)
      try have c10z := c10b2; simp only [ByteArray.size_append, show (⟨#[41]⟩ : ByteArray).size = 1 from rfl] at c10z; have c10b3 := c10z
      obtain rfl := Option.some.inj H
      go_enter Tryz.func43, Tryz.ntmps43
      try go_wp2_with (first | ((with_reducible refine gate_dst (N := 1) rfl ?_); refine boxP_ (N := 1) (cs := #[.string a0_0, .int .i64 a0_1, .string a0_2, .string a0_3, .bool a0_4]) (t := 23) ?_; intro gb191 hg w11 hbox hb; have BK191 := Aside0.mk (hbox); have GE191 := geb_ (w := w) hg z0; replace HB := Aside0.mk (below_step z0 hb); clear hb hbox hg; obtain ⟨hcz12_0, hcz12_1, hcz12_2, hcz12_3, hcz12_4, hfz12_0, hfz12_1, hfz12_2, hfz12_3, hfz12_4⟩ := cells5_ BK191.out) | ((with_reducible refine gate_callee (f := 32) rfl ?_); refine goesQ_ 4 Tryz.func32 #[.agg #[.string a0_0, .int .i64 a0_1, .string a0_2, .string a0_3, .bool a0_4]] ?_; (with_reducible refine (spec_UrlOk.calls k a0_0 a0_1 a0_2 a0_3 a0_4 true _ A2.out).mono ?_); rintro e w13 ⟨rfl, hb⟩; refine ⟨_, rfl, ?_⟩; replace BK191 := Aside0.mk (blk_below (g := gb191) (o := .cells #[.string a0_0, .int .i64 a0_1, .string a0_2, .string a0_3, .bool a0_4] 23 (0, 0)) z48 hb); replace HB := Aside0.mk (below_step z29 hb); (try clear hb)))
      have n0_ := Aside0.mk (blk_drew BK191.out)
      have n1_ := Aside0.mk (below_drew1 HB.out)
      clear BK191
      clear HB
      have BK191 := n0_
      have HB := n1_
      clear n0_ n1_
      refine start_ (n := 14) (S := fun w' => w'.cell? ⟨gb191, 0, none⟩ = some (.string a0_0) ∧ w'.cell? ⟨gb191, 1, none⟩ = some (.int .i64 a0_1) ∧ w'.cell? ⟨gb191, 2, none⟩ = some (.string a0_2) ∧ w'.cell? ⟨gb191, 3, none⟩ = some (.string a0_3) ∧ w'.cell? ⟨gb191, 4, none⟩ = some (.bool a0_4)) (ds := []) #[false, false, false, false, false, false, false, false, false, false, false, false, false, false] (by kernel_rfl) rfl rfl ⟨(blk_cell BK191.out 0).trans rfl, (blk_cell BK191.out 1).trans rfl, (blk_cell BK191.out 2).trans rfl, (blk_cell BK191.out 3).trans rfl, (blk_cell BK191.out 4).trans rfl⟩ (fun hHeld => ?_); refine with_tabW spec_Surt.tab3 spec_Surt.bits3 (fun HT_ HW_ => ?_)
      generalize w13.drew = w14 at BK191 HB hHeld ⊢
      refine pure_ (i := 0) (N := some 6) (v := ?_) (a' := ?_) #[true, false, false, false, false, false, false, false, false, false, false, false, false, false] rfl rfl (any_of HT_.out (by kernel_rfl)) (fun _ _ _ h => h) (Or.inl ⟨by rfl, ?_⟩) ?_ ?_
      rotate_left
      ·intro w'
       go_simp
       with_reducible rfl
      rotate_left
      ·simp only [Act.put, List.setIfInBounds_toArray, List.set_cons_zero, List.set_cons_succ, i64_w, i32_w]
       rfl
      refine pure_ (i := 7) (N := some 13) (v := ?_) (a' := ?_) #[true, false, false, false, false, false, false, true, false, false, false, false, false, false] rfl rfl (any_of HT_.out (by kernel_rfl)) (fun _ _ _ h => h) (Or.inl ⟨by rfl, ?_⟩) ?_ ?_
      rotate_left
      ·intro w'
       go_simp
       with_reducible rfl
      rotate_left
      ·simp only [Act.put, List.setIfInBounds_toArray, List.set_cons_zero, List.set_cons_succ, i64_w, i32_w]
       rfl
      refine take_ (i := 1) (N := some 7) (v := ?_) (a' := ?_) #[true, true, false, false, false, false, false, true, false, false, false, false, false, false] rfl rfl (take_ofW HT_.out HW_.out (by kernel_rfl)) (fun _ _ _ h => h) (Or.inl ⟨by rfl, ?_⟩) hHeld ?_ ?_
      rotate_left
      ·rintro w' ⟨s0, s1, s2, s3, s4⟩
       go_simp
       with_reducible rfl
      rotate_left
      ·simp only [Act.put, List.setIfInBounds_toArray, List.set_cons_zero, List.set_cons_succ, i64_w, i32_w]
       rfl
      refine take_ (i := 3) (N := some 9) (v := ?_) (a' := ?_) #[true, true, false, true, false, false, false, true, false, false, false, false, false, false] rfl rfl (take_ofW HT_.out HW_.out (by kernel_rfl)) (fun _ _ _ h => h) (Or.inl ⟨by rfl, ?_⟩) hHeld ?_ ?_
      rotate_left
      ·rintro w' ⟨s0, s1, s2, s3, s4⟩
       go_simp
       with_reducible rfl
      rotate_left
      ·simp only [Act.put, List.setIfInBounds_toArray, List.set_cons_zero, List.set_cons_succ, i64_w, i32_w]
       rfl
      refine take_ (i := 8) (N := some 14) (v := ?_) (a' := ?_) #[true, true, false, true, false, false, false, true, true, false, false, false, false, false] rfl rfl (take_ofW HT_.out HW_.out (by kernel_rfl)) (fun _ _ _ h => h) (Or.inl ⟨by rfl, ?_⟩) hHeld ?_ ?_
      rotate_left
      ·rintro w' ⟨s0, s1, s2, s3, s4⟩
       go_simp
       with_reducible rfl
      rotate_left
      ·simp only [Act.put, List.setIfInBounds_toArray, List.set_cons_zero, List.set_cons_succ, i64_w, i32_w]
       rfl
      refine take_ (i := 10) (N := some 16) (v := ?_) (a' := ?_) #[true, true, false, true, false, false, false, true, true, false, true, false, false, false] rfl rfl (take_ofW HT_.out HW_.out (by kernel_rfl)) (fun _ _ _ h => h) (Or.inl ⟨by rfl, ?_⟩) hHeld ?_ ?_
      rotate_left
      ·rintro w' ⟨s0, s1, s2, s3, s4⟩
       go_simp
       with_reducible rfl
      rotate_left
      ·simp only [Act.put, List.setIfInBounds_toArray, List.set_cons_zero, List.set_cons_succ, i64_w, i32_w]
       rfl
      refine one_ (i := 2) (N := some 8) #[true, true, true, true, false, false, false, true, true, false, true, false, false, false] rfl rfl (one_of HT_.out (by kernel_rfl)) (by decide) (fun K hK => ?_)
      refine goes_ Tryz.func42 (by kernel_rfl) rfl #[.string a0_0, .int .u8 46, .string (⟨#[44]⟩ : ByteArray)] (by rfl) rfl rfl z5 ?_
      with_reducible refine (spec_l7turned.calls k a0_0 46 (⟨#[44]⟩ : ByteArray) t193 _ A4.out).mono ?_
      rintro e w15 ⟨rfl, hb⟩
      refine ⟨_, rfl, ?_⟩
      have n0_ := Aside0.mk (blk_below (g := gb191) (o := .cells #[.string a0_0, .int .i64 a0_1, .string a0_2, .string a0_3, .bool a0_4] 23 (0, 0)) z48 hb)
      have n1_ := Aside0.mk (below_step z29 hb)
      clear BK191
      clear HB
      have BK191 := n0_
      have HB := n1_
      clear n0_ n1_
      (try clear hb)
      (try clear hb2)
      (try clear hk)
      (try clear hi)
      refine hK.out _ _ ⟨(blk_cell BK191.out 0).trans rfl, (blk_cell BK191.out 1).trans rfl, (blk_cell BK191.out 2).trans rfl, (blk_cell BK191.out 3).trans rfl, (blk_cell BK191.out 4).trans rfl⟩ (fun hHeld => ?_)
      clear hK K
      refine norm_ (a' := ?_) ?_ ?_
      rotate_left
      ·show Act.put _ (some 8) _ = _
       simp only [Act.put, List.setIfInBounds_toArray, List.set_cons_zero, List.set_cons_succ, i64_w, i32_w]
       rfl
      refine one_ (i := 4) (N := some 10) #[true, true, true, true, true, false, false, true, true, false, true, false, false, false] rfl rfl (one_of HT_.out (by kernel_rfl)) (by decide) (fun K hK => ?_)
      refine goes_ Tryz.func89 (by kernel_rfl) rfl #[.agg #[.string a0_0, .int .i64 a0_1, .string a0_2, .string a0_3, .bool a0_4]] (by rfl) rfl rfl z5 ?_
      with_reducible refine (spec_l7port.calls k a0_0 a0_1 a0_2 a0_3 a0_4 t194 _ A5.out).mono ?_
      rintro e w16 ⟨rfl, hb⟩
      refine ⟨_, rfl, ?_⟩
      have n0_ := Aside0.mk (blk_below (g := gb191) (o := .cells #[.string a0_0, .int .i64 a0_1, .string a0_2, .string a0_3, .bool a0_4] 23 (0, 0)) z48 hb)
      have n1_ := Aside0.mk (below_step z29 hb)
      clear BK191
      clear HB
      have BK191 := n0_
      have HB := n1_
      clear n0_ n1_
      (try clear hb)
      (try clear hb2)
      (try clear hk)
      (try clear hi)
      refine hK.out _ _ ⟨(blk_cell BK191.out 0).trans rfl, (blk_cell BK191.out 1).trans rfl, (blk_cell BK191.out 2).trans rfl, (blk_cell BK191.out 3).trans rfl, (blk_cell BK191.out 4).trans rfl⟩ (fun hHeld => ?_)
      clear hK K
      refine norm_ (a' := ?_) ?_ ?_
      rotate_left
      ·show Act.put _ (some 10) _ = _
       simp only [Act.put, List.setIfInBounds_toArray, List.set_cons_zero, List.set_cons_succ, i64_w, i32_w]
       rfl
      refine pure_ (i := 5) (N := some 11) (v := ?_) (a' := ?_) #[true, true, true, true, true, true, false, true, true, false, true, false, false, false] rfl rfl (any_of HT_.out (by kernel_rfl)) (fun _ _ _ h => h) (Or.inl ⟨by rfl, ?_⟩) ?_ ?_
      rotate_left
      ·intro w'
       go_simp
       with_reducible rfl
      rotate_left
      ·simp only [Act.put, List.setIfInBounds_toArray, List.set_cons_zero, List.set_cons_succ, i64_w, i32_w]
       rfl
      refine pure_ (i := 6) (N := some 12) (v := ?_) (a' := ?_) #[true, true, true, true, true, true, true, true, true, false, true, false, false, false] rfl rfl (any_of HT_.out (by kernel_rfl)) (fun _ _ _ h => h) (Or.inl ⟨by rfl, ?_⟩) ?_ ?_
      rotate_left
      ·intro w'
       go_simp
       with_reducible rfl
      rotate_left
      ·simp only [Act.put, List.setIfInBounds_toArray, List.set_cons_zero, List.set_cons_succ, i64_w, i32_w]
       rfl
      refine pure_ (i := 9) (N := some 15) (v := ?_) (a' := ?_) #[true, true, true, true, true, true, true, true, true, true, true, false, false, false] rfl rfl (any_of HT_.out (by kernel_rfl)) (fun _ _ _ h => h) (Or.inl ⟨by rfl, ?_⟩) ?_ ?_
      rotate_left
      ·intro w'
       go_simp
       with_reducible rfl
      rotate_left
      ·simp only [Act.put, List.setIfInBounds_toArray, List.set_cons_zero, List.set_cons_succ, i64_w, i32_w]
       rfl
      refine one_ (i := 11) (N := some 17) #[true, true, true, true, true, true, true, true, true, true, true, true, false, false] rfl rfl (one_of HT_.out (by kernel_rfl)) (by decide) (fun K hK => ?_)
      refine goes_ Tryz.func90 (by kernel_rfl) rfl #[.agg #[.string a0_0, .int .i64 a0_1, .string a0_2, .string a0_3, .bool a0_4]] (by rfl) rfl rfl z5 ?_
      with_reducible refine (spec_l7query.calls a0_0 a0_1 a0_2 a0_3 a0_4 t195 _ A9.out).mono ?_
      rintro e w17 ⟨rfl, hb⟩
      refine ⟨_, rfl, ?_⟩
      have n0_ := Aside0.mk (blk_below (g := gb191) (o := .cells #[.string a0_0, .int .i64 a0_1, .string a0_2, .string a0_3, .bool a0_4] 23 (0, 0)) z48 hb)
      have n1_ := Aside0.mk (below_step z29 hb)
      clear BK191
      clear HB
      have BK191 := n0_
      have HB := n1_
      clear n0_ n1_
      (try clear hb)
      (try clear hb2)
      (try clear hk)
      (try clear hi)
      refine hK.out _ _ ⟨(blk_cell BK191.out 0).trans rfl, (blk_cell BK191.out 1).trans rfl, (blk_cell BK191.out 2).trans rfl, (blk_cell BK191.out 3).trans rfl, (blk_cell BK191.out 4).trans rfl⟩ (fun hHeld => ?_)
      clear hK K
      refine norm_ (a' := ?_) ?_ ?_
      rotate_left
      ·show Act.put _ (some 17) _ = _
       simp only [Act.put, List.setIfInBounds_toArray, List.set_cons_zero, List.set_cons_succ, i64_w, i32_w]
       rfl
      refine pure_ (i := 12) (N := some 18) (v := ?_) (a' := ?_) #[true, true, true, true, true, true, true, true, true, true, true, true, true, false] rfl rfl (any_of HT_.out (by kernel_rfl)) (fun _ _ _ h => h) (Or.inl ⟨by rfl, ?_⟩) ?_ ?_
      rotate_left
      ·intro w'
       go_simp
       with_reducible rfl
      rotate_left
      ·simp only [Act.put, List.setIfInBounds_toArray, List.set_cons_zero, List.set_cons_succ, i64_w, i32_w]
       rfl
      refine pure_ (i := 13) (N := some 2) (v := ?_) (a' := ?_) #[true, true, true, true, true, true, true, true, true, true, true, true, true, true] rfl rfl (any_of HT_.out (by kernel_rfl)) (fun _ _ _ h => h) (Or.inl ⟨by rfl, ?_⟩) ?_ ?_
      rotate_left
      ·intro w'
       go_simp
       with_reducible rfl
      rotate_left
      ·simp only [Act.put, List.setIfInBounds_toArray, List.set_cons_zero, List.set_cons_succ, i64_w, i32_w]
       rfl
      refine done_ (done_of HT_.out (by kernel_rfl)) ?_
      try go_wp2
      go_ret
      exact ⟨z4, z29⟩
     ·rw [if_neg c10] at H
      exact absurd H (by simp)
    ·rw [if_neg c8] at H
     exact absurd H (by simp)
   ·rw [if_neg c7] at H
    exact absurd H (by simp)
  ·rw [if_neg c6] at H
   exact absurd H (by simp)
 ·replace c3 := Bool.eq_false_iff.mpr c3
  subst c3
  rw [if_neg Bool.false_ne_true] at H
  obtain rfl := Option.some.inj H
  go_enter Tryz.func43, Tryz.ntmps43
  go_wp2_with (first | ((with_reducible refine gate_dst (N := 1) rfl ?_); refine boxP_ (N := 1) (cs := #[.string a0_0, .int .i64 a0_1, .string a0_2, .string a0_3, .bool a0_4]) (t := 23) ?_; intro gb191 hg w18 hbox hb; have BK191 := Aside0.mk (hbox); have GE191 := geb_ (w := w) hg z0; replace HB := Aside0.mk (below_step z0 hb); clear hb hbox hg; obtain ⟨hcz19_0, hcz19_1, hcz19_2, hcz19_3, hcz19_4, hfz19_0, hfz19_1, hfz19_2, hfz19_3, hfz19_4⟩ := cells5_ BK191.out) | ((with_reducible refine gate_callee (f := 32) rfl ?_); refine goesQ_ 4 Tryz.func32 #[.agg #[.string a0_0, .int .i64 a0_1, .string a0_2, .string a0_3, .bool a0_4]] ?_; (with_reducible refine (spec_UrlOk.calls k a0_0 a0_1 a0_2 a0_3 a0_4 false _ A2.out).mono ?_); rintro e w20 ⟨rfl, hb⟩; refine ⟨_, rfl, ?_⟩; replace BK191 := Aside0.mk (blk_below (g := gb191) (o := .cells #[.string a0_0, .int .i64 a0_1, .string a0_2, .string a0_3, .bool a0_4] 23 (0, 0)) z48 hb); replace HB := Aside0.mk (below_step z29 hb); (try clear hb)))
  go_ret
  exact ⟨z4, z29⟩

/-! ### spec_Unsurt: function 12 -/
def spec_Unsurt.j0 : Nat → ByteArray → ByteArray → ByteArray → ByteArray → Int → ByteArray → ByteArray → Bool → Option (ByteArray × Int × ByteArray × ByteArray × Bool × Bool)
 | 0, _, _, _, _, _, _, _, _ => none
 | k + 1, x0, x4, x6, x202000, x202001, x202002, x202003, x202004 => if 0 ≤ (wrap64 ((wrap64 ((x4.size : Int) + 1)) + (x6.size : Int))) then (if (wrap64 ((wrap64 ((x4.size : Int) + 1)) + (x6.size : Int))) ≤ (x0.size : Int) then (if (x0.extract ((wrap64 ((wrap64 ((x4.size : Int) + 1)) + (x6.size : Int))) : Int).toNat x0.size).toList = ([] : List UInt8) then ((spec_Surt.f k x202000 x202001 x202002 x202003 x202004).bind fun t204 => (if t204.toList = x0.toList then (if x0.toList = ([] : List UInt8) then (some ((⟨#[]⟩ : ByteArray), 0, (⟨#[]⟩ : ByteArray), (⟨#[]⟩ : ByteArray), false, false)) else (some (x202000, x202001, x202002, x202003, x202004, true))) else (some ((⟨#[]⟩ : ByteArray), 0, (⟨#[]⟩ : ByteArray), (⟨#[]⟩ : ByteArray), false, false)))) else (if 1 ≤ ((x0.extract ((wrap64 ((wrap64 ((x4.size : Int) + 1)) + (x6.size : Int))) : Int).toNat x0.size).size : Int) then ((spec_Surt.f k x202000 x202001 x202002 ((x0.extract ((wrap64 ((wrap64 ((x4.size : Int) + 1)) + (x6.size : Int))) : Int).toNat x0.size).extract 1 (x0.extract ((wrap64 ((wrap64 ((x4.size : Int) + 1)) + (x6.size : Int))) : Int).toNat x0.size).size) true).bind fun t205 => (if t205.toList = x0.toList then (if x0.toList = ([] : List UInt8) then (some ((⟨#[]⟩ : ByteArray), 0, (⟨#[]⟩ : ByteArray), (⟨#[]⟩ : ByteArray), false, false)) else (some (x202000, x202001, x202002, (x0.extract ((wrap64 ((wrap64 ((x4.size : Int) + 1)) + (x6.size : Int))) : Int).toNat x0.size).extract 1 (x0.extract ((wrap64 ((wrap64 ((x4.size : Int) + 1)) + (x6.size : Int))) : Int).toNat x0.size).size, true, true))) else (some ((⟨#[]⟩ : ByteArray), 0, (⟨#[]⟩ : ByteArray), (⟨#[]⟩ : ByteArray), false, false)))) else (none))) else (none)) else (none)
def spec_Unsurt.f (k : Nat) (a0 : ByteArray) : Option (ByteArray × Int × ByteArray × ByteArray × Bool × Bool) := if (a0.size : Int) > 200 then (some ((⟨#[]⟩ : ByteArray), 0, (⟨#[]⟩ : ByteArray), (⟨#[]⟩ : ByteArray), false, false)) else ((spec_l6upto.f k a0 41).bind fun t197 => (if (t197.size : Int) = (a0.size : Int) then (some ((⟨#[]⟩ : ByteArray), 0, (⟨#[]⟩ : ByteArray), (⟨#[]⟩ : ByteArray), false, false)) else ((spec_l6upto.f k t197 58).bind fun t198 => (if 0 ≤ (wrap64 ((t197.size : Int) + 1)) then (if (wrap64 ((t197.size : Int) + 1)) ≤ (a0.size : Int) then ((spec_l6upto.f k (a0.extract ((wrap64 ((t197.size : Int) + 1)) : Int).toNat a0.size) 63).bind fun t199 => ((spec_l7turned.f k t198 44 (⟨#[46]⟩ : ByteArray)).bind fun t200 => (if (t198.size : Int) < (t197.size : Int) then (if 0 ≤ (wrap64 ((t198.size : Int) + 1)) then (if (wrap64 ((t198.size : Int) + 1)) ≤ (t197.size : Int) then ((spec_ReadDec.f k (t197.extract ((wrap64 ((t198.size : Int) + 1)) : Int).toNat t197.size)).bind fun bt202 => (spec_Unsurt.j0 k a0 t197 t199 t200 bt202.1 t199 (⟨#[]⟩ : ByteArray) false)) else (none)) else (none)) else (spec_Unsurt.j0 k a0 t197 t199 t200 80 t199 (⟨#[]⟩ : ByteArray) false)))) else (none)) else (none)))))
theorem spec_Unsurt.mono_l : ∀ k, (∀ y0 y1 y2 y3 y4 y5 y6 y7, LeO (spec_Unsurt.j0 k y0 y1 y2 y3 y4 y5 y6 y7) (spec_Unsurt.j0 (k + 1) y0 y1 y2 y3 y4 y5 y6 y7))
 | 0 => fun _ _ _ _ _ _ _ _ r h => by simp [spec_Unsurt.j0] at h
 | k + 1 => by
  have ih0 := spec_Unsurt.mono_l k
  ·intro y0 y1 y2 y3 y4 y5 y6 y7
   unfold spec_Unsurt.j0
   repeat' first | (with_reducible first | exact ih0 _ _ _ _ _ _ _ _ | exact spec_ReadDec.mono _ _ | exact spec_Surt.mono _ _ _ _ _ _ | exact spec_l6upto.mono _ _ _ | exact spec_l7turned.mono _ _ _ _ | exact LeO.refl _ | exact LeO.none _ | refine LeO.ite ?_ ?_ | refine LeO.bind ?_ (fun _ => ?_)) | exact ih0 _ _ _ _ _ _ _ _ | exact spec_ReadDec.mono _ _ | exact spec_Surt.mono _ _ _ _ _ _ | exact spec_l6upto.mono _ _ _ | exact spec_l7turned.mono _ _ _ _ | exact LeO.none _ | refine LeO.ite ?_ ?_ | refine LeO.bind ?_ (fun _ => ?_)
theorem spec_Unsurt.mono : ∀ a0 k, LeO (spec_Unsurt.f k a0) (spec_Unsurt.f (k + 1) a0) := by
 intro a0 k
 have ih0 := spec_Unsurt.mono_l k
 unfold spec_Unsurt.f
 repeat' first | (with_reducible first | exact ih0 _ _ _ _ _ _ _ _ | exact spec_ReadDec.mono _ _ | exact spec_Surt.mono _ _ _ _ _ _ | exact spec_l6upto.mono _ _ _ | exact spec_l7turned.mono _ _ _ _ | exact LeO.refl _ | exact LeO.none _ | refine LeO.ite ?_ ?_ | refine LeO.bind ?_ (fun _ => ?_)) | exact ih0 _ _ _ _ _ _ _ _ | exact spec_ReadDec.mono _ _ | exact spec_Surt.mono _ _ _ _ _ _ | exact spec_l6upto.mono _ _ _ | exact spec_l7turned.mono _ _ _ _ | exact LeO.none _ | refine LeO.ite ?_ ?_ | refine LeO.bind ?_ (fun _ => ?_)
set_option maxHeartbeats 8000000 in
set_option maxRecDepth 100000 in
theorem spec_Unsurt.calls (k : Nat) (a0 : ByteArray) (r1 : ByteArray) (r2 : Int) (r3 : ByteArray) (r4 : ByteArray) (r5 : Bool) (r6 : Bool) (w : World) (h : spec_Unsurt.f k a0 = some (r1, r2, r3, r4, r5, r6)) :
  Calls Tryz.prog 12 #[.string a0] w fun e w' => e = .returned (.tuple #[.agg #[.string r1, .int .i64 r2, .string r3, .string r4, .bool r5], .bool r6]) ∧ Below w.heap.size w w' := by
 have hu23 := Tryz.underlying23
 have HB := Aside0.mk (Below.refl w.heap.size w)
 have H : (if (a0.size : Int) > 200 then (some ((⟨#[]⟩ : ByteArray), 0, (⟨#[]⟩ : ByteArray), (⟨#[]⟩ : ByteArray), false, false)) else ((spec_l6upto.f k a0 41).bind fun t197 => (if (t197.size : Int) = (a0.size : Int) then (some ((⟨#[]⟩ : ByteArray), 0, (⟨#[]⟩ : ByteArray), (⟨#[]⟩ : ByteArray), false, false)) else ((spec_l6upto.f k t197 58).bind fun t198 => (if 0 ≤ (wrap64 ((t197.size : Int) + 1)) then (if (wrap64 ((t197.size : Int) + 1)) ≤ (a0.size : Int) then ((spec_l6upto.f k (a0.extract ((wrap64 ((t197.size : Int) + 1)) : Int).toNat a0.size) 63).bind fun t199 => ((spec_l7turned.f k t198 44 (⟨#[46]⟩ : ByteArray)).bind fun t200 => (if (t198.size : Int) < (t197.size : Int) then (if 0 ≤ (wrap64 ((t198.size : Int) + 1)) then (if (wrap64 ((t198.size : Int) + 1)) ≤ (t197.size : Int) then ((spec_ReadDec.f k (t197.extract ((wrap64 ((t198.size : Int) + 1)) : Int).toNat t197.size)).bind fun bt202 => (spec_Unsurt.j0 k a0 t197 t199 t200 bt202.1 t199 (⟨#[]⟩ : ByteArray) false)) else (none)) else (none)) else (spec_Unsurt.j0 k a0 t197 t199 t200 80 t199 (⟨#[]⟩ : ByteArray) false)))) else (none)) else (none)))))) = some (r1, r2, r3, r4, r5, r6) := h
 clear h
 by_cases c2 : (a0.size : Int) > 200
 ·rw [if_pos c2] at H
  have c2b0 : decide (200 < (a0.size : Int)) = true := decide_eq_true c2
  have c2b1 : decide (200 < a0.size) = true := decide_eq_true (by omega)
  clear c2
  simp only [Option.some.injEq, Prod.mk.injEq] at H
  obtain ⟨rfl, rfl, rfl, rfl, rfl, rfl⟩ := H
  go_enter Tryz.func12, Tryz.ntmps12
  go_wp2_with (first | ((with_reducible refine gate_dst (N := 2) rfl ?_); refine boxP_ (N := 2) (cs := #[.string (⟨#[]⟩ : ByteArray), .int .i64 0, .string (⟨#[]⟩ : ByteArray), .string (⟨#[]⟩ : ByteArray), .bool false]) (t := 23) ?_; intro gb196 hg w3 hbox hb; have BK196 := Aside0.mk (hbox); have GE196 := geb_ (w := w) hg z0; replace HB := Aside0.mk (below_step z0 hb); clear hb hbox hg; obtain ⟨hcz4_0, hcz4_1, hcz4_2, hcz4_3, hcz4_4, hfz4_0, hfz4_1, hfz4_2, hfz4_3, hfz4_4⟩ := cells5_ BK196.out))
  refine bodyPost_ret (results_ct rfl _ _ gb196 23 #[.string (⟨#[]⟩ : ByteArray), .int .i64 0, .string (⟨#[]⟩ : ByteArray), .string (⟨#[]⟩ : ByteArray), .bool false] (0, 0) _ rfl z3 Tryz.underlying23 rfl (by kernel_rfl)) rfl ?_
  exact ⟨z4, z25⟩
 ·rw [if_neg c2] at H
  have c2b0 : decide (200 < (a0.size : Int)) = false := decide_eq_false c2
  have c2b1 : decide (200 < a0.size) = false := decide_eq_false (by omega)
  clear c2
  replace H := Option.bind_eq_some_iff.mp H
  obtain ⟨t197, A50, H⟩ := H
  try dsimp only at H
  have A5 := Aside0.mk A50
  clear A50
  by_cases c6 : (t197.size : Int) = (a0.size : Int)
  ·rw [if_pos c6] at H
   have c6b0 : ((t197.size : Int) == (a0.size : Int)) = true := beq_iff_eq.mpr c6
   have c6b1 : ((t197.size : Int) != (a0.size : Int)) = false := bne_eq_false_iff_eq.mpr c6
   have c6b2 : (t197.size == a0.size) = true := by first | simpa using c6 | (simp at c6 ⊢; omega)
   clear c6
   simp only [Option.some.injEq, Prod.mk.injEq] at H
   obtain ⟨rfl, rfl, rfl, rfl, rfl, rfl⟩ := H
   go_enter Tryz.func12, Tryz.ntmps12
   go_wp2_with (first | ((with_reducible refine gate_dst (N := 2) rfl ?_); refine boxP_ (N := 2) (cs := #[.string (⟨#[]⟩ : ByteArray), .int .i64 0, .string (⟨#[]⟩ : ByteArray), .string (⟨#[]⟩ : ByteArray), .bool false]) (t := 23) ?_; intro gb196 hg w7 hbox hb; have BK196 := Aside0.mk (hbox); have GE196 := geb_ (w := w) hg z0; replace HB := Aside0.mk (below_step z0 hb); clear hb hbox hg) | ((with_reducible refine gate_callee (f := 29) rfl ?_); refine goesQ_ 14 Tryz.func29 #[.string a0, .int .u8 41] ?_; (with_reducible refine (spec_l6upto.calls k a0 41 t197 _ A5.out).mono ?_); rintro e w' ⟨rfl, ⟨nd, rfl⟩⟩; refine ⟨_, rfl, ?_⟩; (try (rw [drewN_self w7]; generalize hq_ : World.drewN w7 _ = w7; have n0_ : Aside0 (w7.heap[gb196]? = some (.cells #[.string (⟨#[]⟩ : ByteArray), .int .i64 0, .string (⟨#[]⟩ : ByteArray), .string (⟨#[]⟩ : ByteArray), .bool false] 23 (0, 0))) := ⟨by rw [← hq_]; exact z27⟩; have n1_ : Aside0 (Below w.heap.size w w7) := ⟨by rw [← hq_]; exact z25⟩; clear BK196 HB hq_; have BK196 := n0_; have HB := n1_; clear n0_ n1_; have hcu1 : w7.cell? ⟨gb196, 0, none⟩ = some (.string (⟨#[]⟩ : ByteArray)) := (blk_cell BK196.out 0).trans rfl; have hfu1 := blk_frozen BK196.out 0; have hcu2 : w7.cell? ⟨gb196, 1, none⟩ = some (.int .i64 0) := (blk_cell BK196.out 1).trans rfl; have hfu2 := blk_frozen BK196.out 1; have hcu3 : w7.cell? ⟨gb196, 2, none⟩ = some (.string (⟨#[]⟩ : ByteArray)) := (blk_cell BK196.out 2).trans rfl; have hfu3 := blk_frozen BK196.out 2; have hcu4 : w7.cell? ⟨gb196, 3, none⟩ = some (.string (⟨#[]⟩ : ByteArray)) := (blk_cell BK196.out 3).trans rfl; have hfu4 := blk_frozen BK196.out 3; have hcu5 : w7.cell? ⟨gb196, 4, none⟩ = some (.bool false) := (blk_cell BK196.out 4).trans rfl; have hfu5 := blk_frozen BK196.out 4)); obtain ⟨hcz8_0, hcz8_1, hcz8_2, hcz8_3, hcz8_4, hfz8_0, hfz8_1, hfz8_2, hfz8_3, hfz8_4⟩ := cells5_ BK196.out))
   refine bodyPost_ret (results_ct rfl _ _ gb196 23 #[.string (⟨#[]⟩ : ByteArray), .int .i64 0, .string (⟨#[]⟩ : ByteArray), .string (⟨#[]⟩ : ByteArray), .bool false] (0, 0) _ rfl z3 Tryz.underlying23 rfl (by kernel_rfl)) rfl ?_
   exact ⟨z4, z25⟩
  ·rw [if_neg c6] at H
   have c6b0 : ((t197.size : Int) == (a0.size : Int)) = false := beq_eq_false_iff_ne.mpr c6
   have c6b1 : ((t197.size : Int) != (a0.size : Int)) = true := bne_iff_ne.mpr c6
   have c6b2 : (t197.size == a0.size) = false := by first | simpa using c6 | (simp at c6 ⊢; omega)
   replace H := Option.bind_eq_some_iff.mp H
   obtain ⟨t198, A90, H⟩ := H
   try dsimp only at H
   have A9 := Aside0.mk A90
   clear A90
   obtain ⟨ji10, hji10⟩ : ∃ j_ : Int, (wrap64 ((t197.size : Int) + 1)) = j_ := ⟨_, rfl⟩
   replace H : (if 0 ≤ (ji10) then (if (ji10) ≤ (a0.size : Int) then ((spec_l6upto.f k (a0.extract ((ji10) : Int).toNat a0.size) 63).bind fun t199 => ((spec_l7turned.f k t198 44 (⟨#[46]⟩ : ByteArray)).bind fun t200 => (if (t198.size : Int) < (t197.size : Int) then (if 0 ≤ (wrap64 ((t198.size : Int) + 1)) then (if (wrap64 ((t198.size : Int) + 1)) ≤ (t197.size : Int) then ((spec_ReadDec.f k (t197.extract ((wrap64 ((t198.size : Int) + 1)) : Int).toNat t197.size)).bind fun bt202 => (spec_Unsurt.j0 k a0 t197 t199 t200 bt202.1 t199 (⟨#[]⟩ : ByteArray) false)) else (none)) else (none)) else (spec_Unsurt.j0 k a0 t197 t199 t200 80 t199 (⟨#[]⟩ : ByteArray) false)))) else (none)) else (none)) = some (r1, r2, r3, r4, r5, r6) := by first | (rw [hji10] at H; exact H) | (simp only [hji10] at H ⊢; exact H)
   (try rw [hji10] at A5)
   (try rw [hji10] at A9)
   have hji10w : (IntKind.i64.wrap ((t197.size : Int) + 1)) = ji10 := (i64_w _).trans hji10
   by_cases c11 : 0 ≤ (ji10)
   ·rw [if_pos c11] at H
    have c11b0 := eq_true c11
    have c11b1 : decide (0 ≤ (ji10)) = true := decide_eq_true c11
    clear c11
    by_cases c12 : (ji10) ≤ (a0.size : Int)
    ·rw [if_pos c12] at H
     have c12b0 := eq_true c12
     have c12b1 : decide ((ji10) ≤ (a0.size : Int)) = true := decide_eq_true c12
     clear c12
     replace H := Option.bind_eq_some_iff.mp H
     obtain ⟨t199, A130, H⟩ := H
     try dsimp only at H
     have A13 := Aside0.mk A130
     clear A130
     replace H := Option.bind_eq_some_iff.mp H
     obtain ⟨t200, A140, H⟩ := H
     try dsimp only at H
     have A14 := Aside0.mk A140
     clear A140
     have HC15 := Aside0.mk H
     clear H
     go_enter Tryz.func12, Tryz.ntmps12
     go_upto_if 37 with (first | ((with_reducible refine gate_dst (N := 2) rfl ?_); refine boxP_ (N := 2) (cs := #[.string (⟨#[]⟩ : ByteArray), .int .i64 0, .string (⟨#[]⟩ : ByteArray), .string (⟨#[]⟩ : ByteArray), .bool false]) (t := 23) ?_; intro gb196 hg w16 hbox hb; have BK196 := Aside0.mk (hbox); have GE196 := geb_ (w := w) hg z0; replace HB := Aside0.mk (below_step z0 hb); clear hb hbox hg) | ((with_reducible refine gate_callee (f := 29) rfl ?_); refine goesQ_ 14 Tryz.func29 #[.string a0, .int .u8 41] ?_; (with_reducible refine (spec_l6upto.calls k a0 41 t197 _ A5.out).mono ?_); rintro e w' ⟨rfl, ⟨nd, rfl⟩⟩; refine ⟨_, rfl, ?_⟩; (try (rw [drewN_self w16]; generalize hq_ : World.drewN w16 _ = w16; have n0_ : Aside0 (w16.heap[gb196]? = some (.cells #[.string (⟨#[]⟩ : ByteArray), .int .i64 0, .string (⟨#[]⟩ : ByteArray), .string (⟨#[]⟩ : ByteArray), .bool false] 23 (0, 0))) := ⟨by rw [← hq_]; exact z27⟩; have n1_ : Aside0 (Below w.heap.size w w16) := ⟨by rw [← hq_]; exact z25⟩; clear BK196 HB hq_; have BK196 := n0_; have HB := n1_; clear n0_ n1_; have hcu6 : w16.cell? ⟨gb196, 0, none⟩ = some (.string (⟨#[]⟩ : ByteArray)) := (blk_cell BK196.out 0).trans rfl; have hfu6 := blk_frozen BK196.out 0; have hcu7 : w16.cell? ⟨gb196, 1, none⟩ = some (.int .i64 0) := (blk_cell BK196.out 1).trans rfl; have hfu7 := blk_frozen BK196.out 1; have hcu8 : w16.cell? ⟨gb196, 2, none⟩ = some (.string (⟨#[]⟩ : ByteArray)) := (blk_cell BK196.out 2).trans rfl; have hfu8 := blk_frozen BK196.out 2; have hcu9 : w16.cell? ⟨gb196, 3, none⟩ = some (.string (⟨#[]⟩ : ByteArray)) := (blk_cell BK196.out 3).trans rfl; have hfu9 := blk_frozen BK196.out 3; have hcu10 : w16.cell? ⟨gb196, 4, none⟩ = some (.bool false) := (blk_cell BK196.out 4).trans rfl; have hfu10 := blk_frozen BK196.out 4))) | ((with_reducible refine gate_callee (f := 29) rfl ?_); refine goesQ_ 22 Tryz.func29 #[.string t197, .int .u8 58] ?_; (with_reducible refine (spec_l6upto.calls k t197 58 t198 _ A9.out).mono ?_); rintro e w' ⟨rfl, ⟨nd, rfl⟩⟩; refine ⟨_, rfl, ?_⟩; (try (rw [drewN_self w16]; generalize hq_ : World.drewN w16 _ = w16; have n0_ : Aside0 (w16.heap[gb196]? = some (.cells #[.string (⟨#[]⟩ : ByteArray), .int .i64 0, .string (⟨#[]⟩ : ByteArray), .string (⟨#[]⟩ : ByteArray), .bool false] 23 (0, 0))) := ⟨by rw [← hq_]; exact z27⟩; have n1_ : Aside0 (Below w.heap.size w w16) := ⟨by rw [← hq_]; exact z25⟩; clear BK196 HB hq_; have BK196 := n0_; have HB := n1_; clear n0_ n1_; have hcu11 : w16.cell? ⟨gb196, 0, none⟩ = some (.string (⟨#[]⟩ : ByteArray)) := (blk_cell BK196.out 0).trans rfl; have hfu11 := blk_frozen BK196.out 0; have hcu12 : w16.cell? ⟨gb196, 1, none⟩ = some (.int .i64 0) := (blk_cell BK196.out 1).trans rfl; have hfu12 := blk_frozen BK196.out 1; have hcu13 : w16.cell? ⟨gb196, 2, none⟩ = some (.string (⟨#[]⟩ : ByteArray)) := (blk_cell BK196.out 2).trans rfl; have hfu13 := blk_frozen BK196.out 2; have hcu14 : w16.cell? ⟨gb196, 3, none⟩ = some (.string (⟨#[]⟩ : ByteArray)) := (blk_cell BK196.out 3).trans rfl; have hfu14 := blk_frozen BK196.out 3; have hcu15 : w16.cell? ⟨gb196, 4, none⟩ = some (.bool false) := (blk_cell BK196.out 4).trans rfl; have hfu15 := blk_frozen BK196.out 4))) | ((with_reducible refine gate_callee (f := 29) rfl ?_); refine goesL_ (some 28) rfl rfl Tryz.func29 (by kernel_rfl) rfl #[.string (a0.extract ((ji10) : Int).toNat a0.size), .int .u8 63] rfl (by (try simp only [List.map_toArray, List.map_cons, List.map_nil]); first | done | (simp only [hji10]; rfl) | rfl | (simp only [List.length_drop, List.length_take]; rfl)) ?_; (with_reducible refine (spec_l6upto.calls k (a0.extract ((ji10) : Int).toNat a0.size) 63 t199 _ A13.out).mono ?_); rintro e w' ⟨rfl, ⟨nd, rfl⟩⟩; refine ⟨_, rfl, ?_⟩; (try (rw [drewN_self w16]; generalize hq_ : World.drewN w16 _ = w16; have n0_ : Aside0 (w16.heap[gb196]? = some (.cells #[.string (⟨#[]⟩ : ByteArray), .int .i64 0, .string (⟨#[]⟩ : ByteArray), .string (⟨#[]⟩ : ByteArray), .bool false] 23 (0, 0))) := ⟨by rw [← hq_]; exact z27⟩; have n1_ : Aside0 (Below w.heap.size w w16) := ⟨by rw [← hq_]; exact z25⟩; clear BK196 HB hq_; have BK196 := n0_; have HB := n1_; clear n0_ n1_; have hcu16 : w16.cell? ⟨gb196, 0, none⟩ = some (.string (⟨#[]⟩ : ByteArray)) := (blk_cell BK196.out 0).trans rfl; have hfu16 := blk_frozen BK196.out 0; have hcu17 : w16.cell? ⟨gb196, 1, none⟩ = some (.int .i64 0) := (blk_cell BK196.out 1).trans rfl; have hfu17 := blk_frozen BK196.out 1; have hcu18 : w16.cell? ⟨gb196, 2, none⟩ = some (.string (⟨#[]⟩ : ByteArray)) := (blk_cell BK196.out 2).trans rfl; have hfu18 := blk_frozen BK196.out 2; have hcu19 : w16.cell? ⟨gb196, 3, none⟩ = some (.string (⟨#[]⟩ : ByteArray)) := (blk_cell BK196.out 3).trans rfl; have hfu19 := blk_frozen BK196.out 3; have hcu20 : w16.cell? ⟨gb196, 4, none⟩ = some (.bool false) := (blk_cell BK196.out 4).trans rfl; have hfu20 := blk_frozen BK196.out 4))) | ((with_reducible refine gate_callee (f := 42) rfl ?_); refine goesQ_ 30 Tryz.func42 #[.string t198, .int .u8 44, .string (⟨#[46]⟩ : ByteArray)] ?_; (with_reducible refine (spec_l7turned.calls k t198 44 (⟨#[46]⟩ : ByteArray) t200 _ A14.out).mono ?_); rintro e w17 ⟨rfl, hb⟩; refine ⟨_, rfl, ?_⟩; replace BK196 := Aside0.mk (blk_below (g := gb196) (o := .cells #[.string (⟨#[]⟩ : ByteArray), .int .i64 0, .string (⟨#[]⟩ : ByteArray), .string (⟨#[]⟩ : ByteArray), .bool false] 23 (0, 0)) z27 hb); replace HB := Aside0.mk (below_step z25 hb); (try clear hb)) | ((with_reducible refine gate_dst (N := 7) rfl ?_); refine boxP_ (N := 7) (cs := #[.string (⟨#[]⟩ : ByteArray), .int .i64 0, .string (⟨#[]⟩ : ByteArray), .string (⟨#[]⟩ : ByteArray), .bool false]) (t := 23) ?_; intro gb201 hg w18 hbox hb; have BK201 := Aside0.mk (hbox); have GE201 := geb_ (w := w) hg z25; replace HB := Aside0.mk (below_step z25 hb); have NB196_201 := Aside0.mk ((by rw [hg]; exact Nat.ne_of_lt (blk_lt (g := gb196) (o := .cells #[.string (⟨#[]⟩ : ByteArray), .int .i64 0, .string (⟨#[]⟩ : ByteArray), .string (⟨#[]⟩ : ByteArray), .bool false] 23 (0, 0)) z27) : gb196 ≠ gb201)); have NB201_196 := Aside0.mk ((by rw [hg]; exact Nat.ne_of_gt (blk_lt (g := gb196) (o := .cells #[.string (⟨#[]⟩ : ByteArray), .int .i64 0, .string (⟨#[]⟩ : ByteArray), .string (⟨#[]⟩ : ByteArray), .bool false] 23 (0, 0)) z27) : gb201 ≠ gb196)); replace BK196 := Aside0.mk (blk_below (g := gb196) (o := .cells #[.string (⟨#[]⟩ : ByteArray), .int .i64 0, .string (⟨#[]⟩ : ByteArray), .string (⟨#[]⟩ : ByteArray), .bool false] 23 (0, 0)) z27 hb); clear hb hbox hg; have hnb19 := NB201_196.out; have hnc19 := NB196_201.out; obtain ⟨hcz20_0, hcz20_1, hcz20_2, hcz20_3, hcz20_4, hfz20_0, hfz20_1, hfz20_2, hfz20_3, hfz20_4⟩ := cells5_ BK201.out))
     (try simp only [Act.put, List.setIfInBounds_toArray, List.set_cons_zero, List.set_cons_succ])
     go_cut [] (fun wc => ∃ (kq : Nat) (x202001_14 : Int), Aside0 (spec_Unsurt.j0 kq a0 t197 t199 t200 x202001_14 t199 (⟨#[]⟩ : ByteArray) false = some (r1, r2, r3, r4, r5, r6)) ∧ Aside0 (kq ≤ k) ∧ Aside0 (wc.heap[gb196]? = some (.cells #[.string (⟨#[]⟩ : ByteArray), .int .i64 0, .string (⟨#[]⟩ : ByteArray), .string (⟨#[]⟩ : ByteArray), .bool false] 23 (0, 0))) ∧ Aside0 (wc.heap[gb201]? = some (.cells #[.string t200, .int .i64 x202001_14, .string t199, .string (⟨#[]⟩ : ByteArray), .bool false] 23 (0, 0))) ∧ Aside0 (Below w.heap.size w wc))
     case first =>
      have H := HC15.out
      clear HC15
      by_cases c21 : (t198.size : Int) < (t197.size : Int)
      ·rw [if_pos c21] at H
       have c21b0 : decide ((t198.size : Int) < (t197.size : Int)) = true := decide_eq_true c21
       have c21b1 : decide (t198.size < t197.size) = true := decide_eq_true (Int.ofNat_lt.mp c21)
       have c21b2_ : (t198.size < t197.size) = True := eq_true (of_decide_eq_true c21b1)
       clear c21
       (first | rw [c21b0] | (simp only [i64_w, i32_w]; rw [c21b0]) | rw [c21b1] | skip)
       obtain ⟨ji22, hji22⟩ : ∃ j_ : Int, (wrap64 ((t198.size : Int) + 1)) = j_ := ⟨_, rfl⟩
       replace H : (if 0 ≤ (ji22) then (if (ji22) ≤ (t197.size : Int) then ((spec_ReadDec.f k (t197.extract ((ji22) : Int).toNat t197.size)).bind fun bt202 => (spec_Unsurt.j0 k a0 t197 t199 t200 bt202.1 t199 (⟨#[]⟩ : ByteArray) false)) else (none)) else (none)) = some (r1, r2, r3, r4, r5, r6) := by first | (rw [hji22] at H; exact H) | (simp only [hji22] at H ⊢; exact H)
       have hji22w : (IntKind.i64.wrap ((t198.size : Int) + 1)) = ji22 := (i64_w _).trans hji22
       by_cases c23 : 0 ≤ (ji22)
       ·rw [if_pos c23] at H
        have c23b0 := eq_true c23
        have c23b1 : decide (0 ≤ (ji22)) = true := decide_eq_true c23
        clear c23
        by_cases c24 : (ji22) ≤ (t197.size : Int)
        ·rw [if_pos c24] at H
         have c24b0 := eq_true c24
         have c24b1 : decide ((ji22) ≤ (t197.size : Int)) = true := decide_eq_true c24
         clear c24
         replace H := Option.bind_eq_some_iff.mp H
         obtain ⟨⟨t202, t203⟩, A250, H⟩ := H
         try dsimp only at H
         have A25 := Aside0.mk A250
         clear A250
         have H' := Aside0.mk H
         clear H
         go_wp2_with (first | ((with_reducible refine gate_callee (f := 31) rfl ?_); refine goesL_ (some 44) rfl rfl Tryz.func31 (by kernel_rfl) rfl #[.string (t197.extract ((ji22) : Int).toNat t197.size)] rfl (by (try simp only [List.map_toArray, List.map_cons, List.map_nil]); first | done | (simp only [hji22]; rfl) | rfl | (simp only [List.length_drop, List.length_take]; rfl)) ?_; (with_reducible refine (spec_ReadDec.calls k (t197.extract ((ji22) : Int).toNat t197.size) t202 t203 _ A25.out).mono ?_); rintro e w26 ⟨rfl, hb⟩; refine ⟨_, rfl, ?_⟩; replace BK196 := Aside0.mk (blk_below (g := gb196) (o := .cells #[.string (⟨#[]⟩ : ByteArray), .int .i64 0, .string (⟨#[]⟩ : ByteArray), .string (⟨#[]⟩ : ByteArray), .bool false] 23 (0, 0)) z34 hb); replace BK201 := Aside0.mk (blk_below (g := gb201) (o := .cells #[.string t200, .int .i64 80, .string t199, .string (⟨#[]⟩ : ByteArray), .bool false] 23 (0, 0)) z24 hb); replace HB := Aside0.mk (below_step z12 hb); (try clear hb); have hnb27 := NB201_196.out; have hnc27 := NB196_201.out; obtain ⟨hcz28_0, hcz28_1, hcz28_2, hcz28_3, hcz28_4, hfz28_0, hfz28_1, hfz28_2, hfz28_3, hfz28_4⟩ := cells5_ BK201.out))
         go_meet
         case rel => exact ⟨_, (t202), H', ⟨z28⟩, ⟨by (with_reducible repeat (first | refine blk_drewN ?_ _ | refine blk_drew ?_ | refine blk_alloc ?_ _)); refine blk_far ?_ NB196_201.out _; (with_reducible repeat (first | refine blk_drewN ?_ _ | refine blk_drew ?_ | refine blk_alloc ?_ _)); exact BK196.out⟩, ⟨by (with_reducible repeat (first | refine blk_drewN ?_ _ | refine blk_drew ?_ | refine blk_alloc ?_ _)); refine blk_put (cs := #[.string t200, .int .i64 80, .string t199, .string (⟨#[]⟩ : ByteArray), .bool false]) ?_ 1 _ rfl; (with_reducible repeat (first | refine blk_drewN ?_ _ | refine blk_drew ?_ | refine blk_alloc ?_ _)); exact BK201.out⟩, ⟨z12⟩⟩
        ·rw [if_neg c24] at H
         exact absurd H (by simp)
       ·rw [if_neg c23] at H
        exact absurd H (by simp)
      ·rw [if_neg c21] at H
       have c21b0 : decide ((t198.size : Int) < (t197.size : Int)) = false := decide_eq_false c21
       have c21b1 : decide (t198.size < t197.size) = false := decide_eq_false (fun h => c21 (Int.ofNat_lt.mpr h))
       have c21b2_ : (t198.size < t197.size) = False := eq_false (of_decide_eq_false c21b1)
       clear c21
       (first | rw [c21b0] | (simp only [i64_w, i32_w]; rw [c21b0]) | rw [c21b1] | skip)
       have H' := Aside0.mk H
       clear H
       go_wp2
       go_meet
       case rel => exact ⟨_, (80), H', ⟨z28⟩, ⟨z34⟩, ⟨z24⟩, ⟨z12⟩⟩
     case rest =>
      clear HC15
      try clear c1
      try clear c2
      try clear c2b0
      try clear c2b1
      try clear p2
      try clear c3
      try clear c4
      try clear c6
      try clear c6b0
      try clear c6b1
      try clear c6b2
      try clear p6
      try clear c11
      try clear c11b0
      try clear c11b1
      try clear c12
      try clear c12b0
      try clear c12b1
      try clear c19
      try clear c21
      try clear c21b0
      try clear c21b1
      try clear c23
      try clear c23b0
      try clear c23b1
      try clear c24
      try clear c24b0
      try clear c24b1
      try clear c27
      try clear hcz20_0
      try clear hcz20_1
      try clear hcz20_2
      try clear hcz20_3
      try clear hcz20_4
      try clear hcz28_0
      try clear hcz28_1
      try clear hcz28_2
      try clear hcz28_3
      try clear hcz28_4
      try clear hcz4_0
      try clear hcz4_1
      try clear hcz4_2
      try clear hcz4_3
      try clear hcz4_4
      try clear hcz8_0
      try clear hcz8_1
      try clear hcz8_2
      try clear hcz8_3
      try clear hcz8_4
      try clear hfz20_0
      try clear hfz20_1
      try clear hfz20_2
      try clear hfz20_3
      try clear hfz20_4
      try clear hfz28_0
      try clear hfz28_1
      try clear hfz28_2
      try clear hfz28_3
      try clear hfz28_4
      try clear hfz4_0
      try clear hfz4_1
      try clear hfz4_2
      try clear hfz4_3
      try clear hfz4_4
      try clear hfz8_0
      try clear hfz8_1
      try clear hfz8_2
      try clear hfz8_3
      try clear hfz8_4
      obtain ⟨kq, x202001_14, HA, HJ14, BK196, BK201, HB⟩ := hcut
      cases kq with
      | zero => exact absurd HA.out (by simp [spec_Unsurt.j0])
      | succ kj14 =>
       have H := HA.out
       clear HA
       simp only [spec_Unsurt.j0] at H
       obtain ⟨ji29, hji29⟩ : ∃ j_ : Int, (wrap64 ((wrap64 ((t197.size : Int) + 1)) + (t199.size : Int))) = j_ := ⟨_, rfl⟩
       replace H : (if 0 ≤ (ji29) then (if (ji29) ≤ (a0.size : Int) then (if (a0.extract ((ji29) : Int).toNat a0.size).toList = ([] : List UInt8) then ((spec_Surt.f kj14 t200 x202001_14 t199 (⟨#[]⟩ : ByteArray) false).bind fun t204 => (if t204.toList = a0.toList then (if a0.toList = ([] : List UInt8) then (some ((⟨#[]⟩ : ByteArray), 0, (⟨#[]⟩ : ByteArray), (⟨#[]⟩ : ByteArray), false, false)) else (some (t200, x202001_14, t199, (⟨#[]⟩ : ByteArray), false, true))) else (some ((⟨#[]⟩ : ByteArray), 0, (⟨#[]⟩ : ByteArray), (⟨#[]⟩ : ByteArray), false, false)))) else (if 1 ≤ ((a0.extract ((ji29) : Int).toNat a0.size).size : Int) then ((spec_Surt.f kj14 t200 x202001_14 t199 ((a0.extract ((ji29) : Int).toNat a0.size).extract 1 (a0.extract ((ji29) : Int).toNat a0.size).size) true).bind fun t205 => (if t205.toList = a0.toList then (if a0.toList = ([] : List UInt8) then (some ((⟨#[]⟩ : ByteArray), 0, (⟨#[]⟩ : ByteArray), (⟨#[]⟩ : ByteArray), false, false)) else (some (t200, x202001_14, t199, (a0.extract ((ji29) : Int).toNat a0.size).extract 1 (a0.extract ((ji29) : Int).toNat a0.size).size, true, true))) else (some ((⟨#[]⟩ : ByteArray), 0, (⟨#[]⟩ : ByteArray), (⟨#[]⟩ : ByteArray), false, false)))) else (none))) else (none)) else (none)) = some (r1, r2, r3, r4, r5, r6) := by first | (rw [hji29] at H; exact H) | (simp only [hji29] at H ⊢; exact H)
       have hji29w : (IntKind.i64.wrap ((wrap64 ((t197.size : Int) + 1)) + (t199.size : Int))) = ji29 := (i64_w _).trans hji29
       have hji29x : wrap64 (ji10 + (t199.size : Int)) = ji29 := by rw [← hji10]; exact hji29
       have hji29y : IntKind.i64.wrap (ji10 + (t199.size : Int)) = ji29 := (i64_w _).trans hji29x
       obtain ⟨q7_, hq7_⟩ : ∃ q_ : ByteArray, a0.extract ji29.toNat a0.size = q_ := ⟨_, rfl⟩
       simp only [hq7_] at H
       by_cases c30 : 0 ≤ (ji29)
       ·rw [if_pos c30] at H
        have c30b0 := eq_true c30
        have c30b1 : decide (0 ≤ (ji29)) = true := decide_eq_true c30
        clear c30
        by_cases c31 : (ji29) ≤ (a0.size : Int)
        ·rw [if_pos c31] at H
         have c31b0 := eq_true c31
         have c31b1 : decide ((ji29) ≤ (a0.size : Int)) = true := decide_eq_true c31
         clear c31
         by_cases c32 : q7_.toList = ([] : List UInt8)
         ·rw [if_pos c32] at H
          have c32b0 : (q7_.toList == ([] : List UInt8)) = true := beq_iff_eq.mpr c32
          have c32e : q7_.toList.isEmpty = true := by have hz_ := beq_iff_eq.1 c32b0; rw [hz_]; rfl
          (try rw [c32e])
          have c32b1 : (q7_.toList != ([] : List UInt8)) = false := bne_eq_false_iff_eq.mpr c32
          clear c32
          replace H := Option.bind_eq_some_iff.mp H
          obtain ⟨t204, A330, H⟩ := H
          try dsimp only at H
          have A33 := Aside0.mk A330
          clear A330
          by_cases c34 : t204.toList = a0.toList
          ·rw [if_pos c34] at H
           have c34b0 : (t204.toList == a0.toList) = true := beq_iff_eq.mpr c34
           have c34b1 : (t204.toList != a0.toList) = false := bne_eq_false_iff_eq.mpr c34
           clear c34
           by_cases c35 : a0.toList = ([] : List UInt8)
           ·rw [if_pos c35] at H
            have c35b0 : (a0.toList == ([] : List UInt8)) = true := beq_iff_eq.mpr c35
            have c35e : a0.toList.isEmpty = true := by have hz_ := beq_iff_eq.1 c35b0; rw [hz_]; rfl
            (try rw [c35e])
            have c35b1 : (a0.toList != ([] : List UInt8)) = false := bne_eq_false_iff_eq.mpr c35
            clear c35
            simp only [Option.some.injEq, Prod.mk.injEq] at H
            obtain ⟨rfl, rfl, rfl, rfl, rfl, rfl⟩ := H
            have hnb36 := NB201_196.out
            have hnc36 := NB196_201.out
            have hcz37_0 : wc.cell? ⟨gb201, 0, none⟩ = some (.string t200) := (blk_cell BK201.out 0).trans rfl
            have hcz37_1 : wc.cell? ⟨gb201, 1, none⟩ = some (.int .i64 x202001_14) := (blk_cell BK201.out 1).trans rfl
            have hcz37_2 : wc.cell? ⟨gb201, 2, none⟩ = some (.string t199) := (blk_cell BK201.out 2).trans rfl
            have hcz37_3 : wc.cell? ⟨gb201, 3, none⟩ = some (.string (⟨#[]⟩ : ByteArray)) := (blk_cell BK201.out 3).trans rfl
            have hcz37_4 : wc.cell? ⟨gb201, 4, none⟩ = some (.bool false) := (blk_cell BK201.out 4).trans rfl
            have hfz37_0 := blk_frozen BK201.out 0
            have hfz37_1 := blk_frozen BK201.out 1
            have hfz37_2 := blk_frozen BK201.out 2
            have hfz37_3 := blk_frozen BK201.out 3
            have hfz37_4 := blk_frozen BK201.out 4
            go_wp2_with (first | ((with_reducible refine gate_callee (f := 43) rfl ?_); refine goesQ_ 63 Tryz.func43 #[.agg #[.string t200, .int .i64 x202001_14, .string t199, .string (⟨#[]⟩ : ByteArray), .bool false]] ?_; (with_reducible refine (spec_Surt.calls kj14 t200 x202001_14 t199 (⟨#[]⟩ : ByteArray) false t204 _ A33.out).mono ?_); rintro e w38 ⟨rfl, hb⟩; refine ⟨_, rfl, ?_⟩; replace BK196 := Aside0.mk (blk_below (g := gb196) (o := .cells #[.string (⟨#[]⟩ : ByteArray), .int .i64 0, .string (⟨#[]⟩ : ByteArray), .string (⟨#[]⟩ : ByteArray), .bool false] 23 (0, 0)) z27 hb); replace BK201 := Aside0.mk (blk_below (g := gb201) (o := .cells #[.string t200, .int .i64 x202001_14, .string t199, .string (⟨#[]⟩ : ByteArray), .bool false] 23 (0, 0)) z63 hb); replace HB := Aside0.mk (below_step z12 hb); (try clear hb); obtain ⟨hcz39_0, hcz39_1, hcz39_2, hcz39_3, hcz39_4, hfz39_0, hfz39_1, hfz39_2, hfz39_3, hfz39_4⟩ := cells5_ BK196.out))
            refine bodyPost_ret (results_ct rfl _ _ gb196 23 #[.string (⟨#[]⟩ : ByteArray), .int .i64 0, .string (⟨#[]⟩ : ByteArray), .string (⟨#[]⟩ : ByteArray), .bool false] (0, 0) _ rfl z3 Tryz.underlying23 rfl (by kernel_rfl)) rfl ?_
            exact ⟨z33, z12⟩
           ·rw [if_neg c35] at H
            have c35b0 : (a0.toList == ([] : List UInt8)) = false := beq_eq_false_iff_ne.mpr c35
            have c35e : a0.toList.isEmpty = false := by cases hz_ : a0.toList with | nil => (rw [hz_] at c35b0; exact absurd c35b0 (by decide)) | cons _ _ => rfl
            (try rw [c35e])
            have c35b1 : (a0.toList != ([] : List UInt8)) = true := bne_iff_ne.mpr c35
            simp only [Option.some.injEq, Prod.mk.injEq] at H
            obtain ⟨rfl, rfl, rfl, rfl, rfl, rfl⟩ := H
            have hnb40 := NB201_196.out
            have hnc40 := NB196_201.out
            have hcz41_0 : wc.cell? ⟨gb201, 0, none⟩ = some (.string t200) := (blk_cell BK201.out 0).trans rfl
            have hcz41_1 : wc.cell? ⟨gb201, 1, none⟩ = some (.int .i64 x202001_14) := (blk_cell BK201.out 1).trans rfl
            have hcz41_2 : wc.cell? ⟨gb201, 2, none⟩ = some (.string t199) := (blk_cell BK201.out 2).trans rfl
            have hcz41_3 : wc.cell? ⟨gb201, 3, none⟩ = some (.string (⟨#[]⟩ : ByteArray)) := (blk_cell BK201.out 3).trans rfl
            have hcz41_4 : wc.cell? ⟨gb201, 4, none⟩ = some (.bool false) := (blk_cell BK201.out 4).trans rfl
            have hfz41_0 := blk_frozen BK201.out 0
            have hfz41_1 := blk_frozen BK201.out 1
            have hfz41_2 := blk_frozen BK201.out 2
            have hfz41_3 := blk_frozen BK201.out 3
            have hfz41_4 := blk_frozen BK201.out 4
            go_wp2_with (first | ((with_reducible refine gate_callee (f := 43) rfl ?_); refine goesQ_ 63 Tryz.func43 #[.agg #[.string t200, .int .i64 x202001_14, .string t199, .string (⟨#[]⟩ : ByteArray), .bool false]] ?_; (with_reducible refine (spec_Surt.calls kj14 t200 x202001_14 t199 (⟨#[]⟩ : ByteArray) false t204 _ A33.out).mono ?_); rintro e w42 ⟨rfl, hb⟩; refine ⟨_, rfl, ?_⟩; replace BK196 := Aside0.mk (blk_below (g := gb196) (o := .cells #[.string (⟨#[]⟩ : ByteArray), .int .i64 0, .string (⟨#[]⟩ : ByteArray), .string (⟨#[]⟩ : ByteArray), .bool false] 23 (0, 0)) z27 hb); replace BK201 := Aside0.mk (blk_below (g := gb201) (o := .cells #[.string t200, .int .i64 x202001_14, .string t199, .string (⟨#[]⟩ : ByteArray), .bool false] 23 (0, 0)) z63 hb); replace HB := Aside0.mk (below_step z12 hb); (try clear hb); obtain ⟨hcz43_0, hcz43_1, hcz43_2, hcz43_3, hcz43_4, hfz43_0, hfz43_1, hfz43_2, hfz43_3, hfz43_4⟩ := cells5_ BK201.out; obtain ⟨hcz44_0, hcz44_1, hcz44_2, hcz44_3, hcz44_4, hfz44_0, hfz44_1, hfz44_2, hfz44_3, hfz44_4⟩ := cells5_ BK196.out))
            refine bodyPost_ret (results_ct rfl _ _ gb196 23 #[.string t200, .int .i64 x202001_14, .string t199, .string (⟨#[]⟩ : ByteArray), .bool false] (0, 0) _ rfl (by (with_reducible repeat (first | refine blk_drewN ?_ _ | refine blk_drew ?_ | refine blk_alloc ?_ _)); refine blk_put (cs := #[.string t200, .int .i64 x202001_14, .string t199, .string (⟨#[]⟩ : ByteArray), .bool false]) ?_ 4 _ rfl; (with_reducible repeat (first | refine blk_drewN ?_ _ | refine blk_drew ?_ | refine blk_alloc ?_ _)); refine blk_put (cs := #[.string t200, .int .i64 x202001_14, .string t199, .string (⟨#[]⟩ : ByteArray), .bool false]) ?_ 3 _ rfl; (with_reducible repeat (first | refine blk_drewN ?_ _ | refine blk_drew ?_ | refine blk_alloc ?_ _)); refine blk_put (cs := #[.string t200, .int .i64 x202001_14, .string (⟨#[]⟩ : ByteArray), .string (⟨#[]⟩ : ByteArray), .bool false]) ?_ 2 _ rfl; (with_reducible repeat (first | refine blk_drewN ?_ _ | refine blk_drew ?_ | refine blk_alloc ?_ _)); refine blk_put (cs := #[.string t200, .int .i64 0, .string (⟨#[]⟩ : ByteArray), .string (⟨#[]⟩ : ByteArray), .bool false]) ?_ 1 _ rfl; (with_reducible repeat (first | refine blk_drewN ?_ _ | refine blk_drew ?_ | refine blk_alloc ?_ _)); refine blk_put (cs := #[.string (⟨#[]⟩ : ByteArray), .int .i64 0, .string (⟨#[]⟩ : ByteArray), .string (⟨#[]⟩ : ByteArray), .bool false]) ?_ 0 _ rfl; (with_reducible repeat (first | refine blk_drewN ?_ _ | refine blk_drew ?_ | refine blk_alloc ?_ _)); exact BK196.out) Tryz.underlying23 rfl (by kernel_rfl)) rfl ?_
            exact ⟨z33, z12⟩
          ·rw [if_neg c34] at H
           have c34b0 : (t204.toList == a0.toList) = false := beq_eq_false_iff_ne.mpr c34
           have c34b1 : (t204.toList != a0.toList) = true := bne_iff_ne.mpr c34
           simp only [Option.some.injEq, Prod.mk.injEq] at H
           obtain ⟨rfl, rfl, rfl, rfl, rfl, rfl⟩ := H
           have hnb45 := NB201_196.out
           have hnc45 := NB196_201.out
           have hcz46_0 : wc.cell? ⟨gb201, 0, none⟩ = some (.string t200) := (blk_cell BK201.out 0).trans rfl
           have hcz46_1 : wc.cell? ⟨gb201, 1, none⟩ = some (.int .i64 x202001_14) := (blk_cell BK201.out 1).trans rfl
           have hcz46_2 : wc.cell? ⟨gb201, 2, none⟩ = some (.string t199) := (blk_cell BK201.out 2).trans rfl
           have hcz46_3 : wc.cell? ⟨gb201, 3, none⟩ = some (.string (⟨#[]⟩ : ByteArray)) := (blk_cell BK201.out 3).trans rfl
           have hcz46_4 : wc.cell? ⟨gb201, 4, none⟩ = some (.bool false) := (blk_cell BK201.out 4).trans rfl
           have hfz46_0 := blk_frozen BK201.out 0
           have hfz46_1 := blk_frozen BK201.out 1
           have hfz46_2 := blk_frozen BK201.out 2
           have hfz46_3 := blk_frozen BK201.out 3
           have hfz46_4 := blk_frozen BK201.out 4
           go_wp2_with (first | ((with_reducible refine gate_callee (f := 43) rfl ?_); refine goesQ_ 63 Tryz.func43 #[.agg #[.string t200, .int .i64 x202001_14, .string t199, .string (⟨#[]⟩ : ByteArray), .bool false]] ?_; (with_reducible refine (spec_Surt.calls kj14 t200 x202001_14 t199 (⟨#[]⟩ : ByteArray) false t204 _ A33.out).mono ?_); rintro e w47 ⟨rfl, hb⟩; refine ⟨_, rfl, ?_⟩; replace BK196 := Aside0.mk (blk_below (g := gb196) (o := .cells #[.string (⟨#[]⟩ : ByteArray), .int .i64 0, .string (⟨#[]⟩ : ByteArray), .string (⟨#[]⟩ : ByteArray), .bool false] 23 (0, 0)) z27 hb); replace BK201 := Aside0.mk (blk_below (g := gb201) (o := .cells #[.string t200, .int .i64 x202001_14, .string t199, .string (⟨#[]⟩ : ByteArray), .bool false] 23 (0, 0)) z63 hb); replace HB := Aside0.mk (below_step z12 hb); (try clear hb); obtain ⟨hcz48_0, hcz48_1, hcz48_2, hcz48_3, hcz48_4, hfz48_0, hfz48_1, hfz48_2, hfz48_3, hfz48_4⟩ := cells5_ BK196.out))
           refine bodyPost_ret (results_ct rfl _ _ gb196 23 #[.string (⟨#[]⟩ : ByteArray), .int .i64 0, .string (⟨#[]⟩ : ByteArray), .string (⟨#[]⟩ : ByteArray), .bool false] (0, 0) _ rfl z3 Tryz.underlying23 rfl (by kernel_rfl)) rfl ?_
           exact ⟨z33, z12⟩
         ·rw [if_neg c32] at H
          have c32b0 : (q7_.toList == ([] : List UInt8)) = false := beq_eq_false_iff_ne.mpr c32
          have c32e : q7_.toList.isEmpty = false := by cases hz_ : q7_.toList with | nil => (rw [hz_] at c32b0; exact absurd c32b0 (by decide)) | cons _ _ => rfl
          (try rw [c32e])
          have c32b1 : (q7_.toList != ([] : List UInt8)) = true := bne_iff_ne.mpr c32
          by_cases c49 : 1 ≤ (q7_.size : Int)
          ·rw [if_pos c49] at H
           have c49b0 := eq_true c49
           have c49b1 : decide (1 ≤ (q7_.size : Int)) = true := decide_eq_true c49
           clear c49
           replace H := Option.bind_eq_some_iff.mp H
           obtain ⟨t205, A500, H⟩ := H
           try dsimp only at H
           have A50 := Aside0.mk A500
           clear A500
           by_cases c51 : t205.toList = a0.toList
           ·rw [if_pos c51] at H
            have c51b0 : (t205.toList == a0.toList) = true := beq_iff_eq.mpr c51
            have c51b1 : (t205.toList != a0.toList) = false := bne_eq_false_iff_eq.mpr c51
            clear c51
            by_cases c52 : a0.toList = ([] : List UInt8)
            ·rw [if_pos c52] at H
             have c52b0 : (a0.toList == ([] : List UInt8)) = true := beq_iff_eq.mpr c52
             have c52e : a0.toList.isEmpty = true := by have hz_ := beq_iff_eq.1 c52b0; rw [hz_]; rfl
             (try rw [c52e])
             have c52b1 : (a0.toList != ([] : List UInt8)) = false := bne_eq_false_iff_eq.mpr c52
             clear c52
             simp only [Option.some.injEq, Prod.mk.injEq] at H
             obtain ⟨rfl, rfl, rfl, rfl, rfl, rfl⟩ := H
             have hnb53 := NB201_196.out
             have hnc53 := NB196_201.out
             have hcz54_0 : wc.cell? ⟨gb201, 0, none⟩ = some (.string t200) := (blk_cell BK201.out 0).trans rfl
             have hcz54_1 : wc.cell? ⟨gb201, 1, none⟩ = some (.int .i64 x202001_14) := (blk_cell BK201.out 1).trans rfl
             have hcz54_2 : wc.cell? ⟨gb201, 2, none⟩ = some (.string t199) := (blk_cell BK201.out 2).trans rfl
             have hcz54_3 : wc.cell? ⟨gb201, 3, none⟩ = some (.string (⟨#[]⟩ : ByteArray)) := (blk_cell BK201.out 3).trans rfl
             have hcz54_4 : wc.cell? ⟨gb201, 4, none⟩ = some (.bool false) := (blk_cell BK201.out 4).trans rfl
             have hfz54_0 := blk_frozen BK201.out 0
             have hfz54_1 := blk_frozen BK201.out 1
             have hfz54_2 := blk_frozen BK201.out 2
             have hfz54_3 := blk_frozen BK201.out 3
             have hfz54_4 := blk_frozen BK201.out 4
             go_wp2_with (first | ((with_reducible refine gate_callee (f := 43) rfl ?_); refine goesL_ (some 63) rfl rfl Tryz.func43 (by kernel_rfl) rfl #[.agg #[.string t200, .int .i64 x202001_14, .string t199, .string (q7_.extract 1 q7_.size), .bool true]] rfl z55 ?_; (with_reducible refine (spec_Surt.calls kj14 t200 x202001_14 t199 (q7_.extract 1 q7_.size) true t205 _ A50.out).mono ?_); rintro e w55 ⟨rfl, hb⟩; refine ⟨_, rfl, ?_⟩; replace BK196 := Aside0.mk (blk_below (g := gb196) (o := .cells #[.string (⟨#[]⟩ : ByteArray), .int .i64 0, .string (⟨#[]⟩ : ByteArray), .string (⟨#[]⟩ : ByteArray), .bool false] 23 (0, 0)) z35 hb); replace BK201 := Aside0.mk (blk_below (g := gb201) (o := .cells #[.string t200, .int .i64 x202001_14, .string t199, .string (q7_.extract 1 q7_.size), .bool true] 23 (0, 0)) z26 hb); replace HB := Aside0.mk (below_step z12 hb); (try clear hb); obtain ⟨hcz56_0, hcz56_1, hcz56_2, hcz56_3, hcz56_4, hfz56_0, hfz56_1, hfz56_2, hfz56_3, hfz56_4⟩ := cells5_ BK196.out))
             refine bodyPost_ret (results_ct rfl _ _ gb196 23 #[.string (⟨#[]⟩ : ByteArray), .int .i64 0, .string (⟨#[]⟩ : ByteArray), .string (⟨#[]⟩ : ByteArray), .bool false] (0, 0) _ rfl z3 Tryz.underlying23 rfl (by kernel_rfl)) rfl ?_
             exact ⟨z33, z12⟩
            ·rw [if_neg c52] at H
             have c52b0 : (a0.toList == ([] : List UInt8)) = false := beq_eq_false_iff_ne.mpr c52
             have c52e : a0.toList.isEmpty = false := by cases hz_ : a0.toList with | nil => (rw [hz_] at c52b0; exact absurd c52b0 (by decide)) | cons _ _ => rfl
             (try rw [c52e])
             have c52b1 : (a0.toList != ([] : List UInt8)) = true := bne_iff_ne.mpr c52
             simp only [Option.some.injEq, Prod.mk.injEq] at H
             obtain ⟨rfl, rfl, rfl, rfl, rfl, rfl⟩ := H
             have hnb57 := NB201_196.out
             have hnc57 := NB196_201.out
             have hcz58_0 : wc.cell? ⟨gb201, 0, none⟩ = some (.string t200) := (blk_cell BK201.out 0).trans rfl
             have hcz58_1 : wc.cell? ⟨gb201, 1, none⟩ = some (.int .i64 x202001_14) := (blk_cell BK201.out 1).trans rfl
             have hcz58_2 : wc.cell? ⟨gb201, 2, none⟩ = some (.string t199) := (blk_cell BK201.out 2).trans rfl
             have hcz58_3 : wc.cell? ⟨gb201, 3, none⟩ = some (.string (⟨#[]⟩ : ByteArray)) := (blk_cell BK201.out 3).trans rfl
             have hcz58_4 : wc.cell? ⟨gb201, 4, none⟩ = some (.bool false) := (blk_cell BK201.out 4).trans rfl
             have hfz58_0 := blk_frozen BK201.out 0
             have hfz58_1 := blk_frozen BK201.out 1
             have hfz58_2 := blk_frozen BK201.out 2
             have hfz58_3 := blk_frozen BK201.out 3
             have hfz58_4 := blk_frozen BK201.out 4
             go_wp2_with (first | ((with_reducible refine gate_callee (f := 43) rfl ?_); refine goesL_ (some 63) rfl rfl Tryz.func43 (by kernel_rfl) rfl #[.agg #[.string t200, .int .i64 x202001_14, .string t199, .string (q7_.extract 1 q7_.size), .bool true]] rfl z55 ?_; (with_reducible refine (spec_Surt.calls kj14 t200 x202001_14 t199 (q7_.extract 1 q7_.size) true t205 _ A50.out).mono ?_); rintro e w59 ⟨rfl, hb⟩; refine ⟨_, rfl, ?_⟩; replace BK196 := Aside0.mk (blk_below (g := gb196) (o := .cells #[.string (⟨#[]⟩ : ByteArray), .int .i64 0, .string (⟨#[]⟩ : ByteArray), .string (⟨#[]⟩ : ByteArray), .bool false] 23 (0, 0)) z35 hb); replace BK201 := Aside0.mk (blk_below (g := gb201) (o := .cells #[.string t200, .int .i64 x202001_14, .string t199, .string (q7_.extract 1 q7_.size), .bool true] 23 (0, 0)) z26 hb); replace HB := Aside0.mk (below_step z12 hb); (try clear hb); obtain ⟨hcz60_0, hcz60_1, hcz60_2, hcz60_3, hcz60_4, hfz60_0, hfz60_1, hfz60_2, hfz60_3, hfz60_4⟩ := cells5_ BK201.out; obtain ⟨hcz61_0, hcz61_1, hcz61_2, hcz61_3, hcz61_4, hfz61_0, hfz61_1, hfz61_2, hfz61_3, hfz61_4⟩ := cells5_ BK196.out))
             refine bodyPost_ret (results_ct rfl _ _ gb196 23 #[.string t200, .int .i64 x202001_14, .string t199, .string (q7_.extract 1 q7_.size), .bool true] (0, 0) _ rfl (by (with_reducible repeat (first | refine blk_drewN ?_ _ | refine blk_drew ?_ | refine blk_alloc ?_ _)); refine blk_put (cs := #[.string t200, .int .i64 x202001_14, .string t199, .string (q7_.extract 1 q7_.size), .bool false]) ?_ 4 _ rfl; (with_reducible repeat (first | refine blk_drewN ?_ _ | refine blk_drew ?_ | refine blk_alloc ?_ _)); refine blk_put (cs := #[.string t200, .int .i64 x202001_14, .string t199, .string (⟨#[]⟩ : ByteArray), .bool false]) ?_ 3 _ rfl; (with_reducible repeat (first | refine blk_drewN ?_ _ | refine blk_drew ?_ | refine blk_alloc ?_ _)); refine blk_put (cs := #[.string t200, .int .i64 x202001_14, .string (⟨#[]⟩ : ByteArray), .string (⟨#[]⟩ : ByteArray), .bool false]) ?_ 2 _ rfl; (with_reducible repeat (first | refine blk_drewN ?_ _ | refine blk_drew ?_ | refine blk_alloc ?_ _)); refine blk_put (cs := #[.string t200, .int .i64 0, .string (⟨#[]⟩ : ByteArray), .string (⟨#[]⟩ : ByteArray), .bool false]) ?_ 1 _ rfl; (with_reducible repeat (first | refine blk_drewN ?_ _ | refine blk_drew ?_ | refine blk_alloc ?_ _)); refine blk_put (cs := #[.string (⟨#[]⟩ : ByteArray), .int .i64 0, .string (⟨#[]⟩ : ByteArray), .string (⟨#[]⟩ : ByteArray), .bool false]) ?_ 0 _ rfl; (with_reducible repeat (first | refine blk_drewN ?_ _ | refine blk_drew ?_ | refine blk_alloc ?_ _)); exact BK196.out) Tryz.underlying23 rfl (by kernel_rfl)) rfl ?_
             exact ⟨z33, z12⟩
           ·rw [if_neg c51] at H
            have c51b0 : (t205.toList == a0.toList) = false := beq_eq_false_iff_ne.mpr c51
            have c51b1 : (t205.toList != a0.toList) = true := bne_iff_ne.mpr c51
            simp only [Option.some.injEq, Prod.mk.injEq] at H
            obtain ⟨rfl, rfl, rfl, rfl, rfl, rfl⟩ := H
            have hnb62 := NB201_196.out
            have hnc62 := NB196_201.out
            have hcz63_0 : wc.cell? ⟨gb201, 0, none⟩ = some (.string t200) := (blk_cell BK201.out 0).trans rfl
            have hcz63_1 : wc.cell? ⟨gb201, 1, none⟩ = some (.int .i64 x202001_14) := (blk_cell BK201.out 1).trans rfl
            have hcz63_2 : wc.cell? ⟨gb201, 2, none⟩ = some (.string t199) := (blk_cell BK201.out 2).trans rfl
            have hcz63_3 : wc.cell? ⟨gb201, 3, none⟩ = some (.string (⟨#[]⟩ : ByteArray)) := (blk_cell BK201.out 3).trans rfl
            have hcz63_4 : wc.cell? ⟨gb201, 4, none⟩ = some (.bool false) := (blk_cell BK201.out 4).trans rfl
            have hfz63_0 := blk_frozen BK201.out 0
            have hfz63_1 := blk_frozen BK201.out 1
            have hfz63_2 := blk_frozen BK201.out 2
            have hfz63_3 := blk_frozen BK201.out 3
            have hfz63_4 := blk_frozen BK201.out 4
            go_wp2_with (first | ((with_reducible refine gate_callee (f := 43) rfl ?_); refine goesL_ (some 63) rfl rfl Tryz.func43 (by kernel_rfl) rfl #[.agg #[.string t200, .int .i64 x202001_14, .string t199, .string (q7_.extract 1 q7_.size), .bool true]] rfl z55 ?_; (with_reducible refine (spec_Surt.calls kj14 t200 x202001_14 t199 (q7_.extract 1 q7_.size) true t205 _ A50.out).mono ?_); rintro e w64 ⟨rfl, hb⟩; refine ⟨_, rfl, ?_⟩; replace BK196 := Aside0.mk (blk_below (g := gb196) (o := .cells #[.string (⟨#[]⟩ : ByteArray), .int .i64 0, .string (⟨#[]⟩ : ByteArray), .string (⟨#[]⟩ : ByteArray), .bool false] 23 (0, 0)) z35 hb); replace BK201 := Aside0.mk (blk_below (g := gb201) (o := .cells #[.string t200, .int .i64 x202001_14, .string t199, .string (q7_.extract 1 q7_.size), .bool true] 23 (0, 0)) z26 hb); replace HB := Aside0.mk (below_step z12 hb); (try clear hb); obtain ⟨hcz65_0, hcz65_1, hcz65_2, hcz65_3, hcz65_4, hfz65_0, hfz65_1, hfz65_2, hfz65_3, hfz65_4⟩ := cells5_ BK196.out))
            refine bodyPost_ret (results_ct rfl _ _ gb196 23 #[.string (⟨#[]⟩ : ByteArray), .int .i64 0, .string (⟨#[]⟩ : ByteArray), .string (⟨#[]⟩ : ByteArray), .bool false] (0, 0) _ rfl z3 Tryz.underlying23 rfl (by kernel_rfl)) rfl ?_
            exact ⟨z33, z12⟩
          ·rw [if_neg c49] at H
           exact absurd H (by simp)
        ·rw [if_neg c31] at H
         exact absurd H (by simp)
       ·rw [if_neg c30] at H
        exact absurd H (by simp)
    ·rw [if_neg c12] at H
     exact absurd H (by simp)
   ·rw [if_neg c11] at H
    exact absurd H (by simp)

/-! ### strings_Cut: function 38 -/
def strings_Cut.f (a0 : ByteArray) (a1 : ByteArray) : Option (ByteArray × ByteArray × Bool) := if a0.size < 4294967281 then some (⟨(Lib.cut a0.data.toList a1.data.toList).1.toArray⟩, ⟨(Lib.cut a0.data.toList a1.data.toList).2.1.toArray⟩, (Lib.cut a0.data.toList a1.data.toList).2.2) else none
theorem strings_Cut.calls (a0 : ByteArray) (a1 : ByteArray) (r1 : ByteArray) (r2 : ByteArray) (r3 : Bool) (w : World) (hG : Gl w) (h : strings_Cut.f a0 a1 = some (r1, r2, r3)) :
  Calls Tryz.prog 38 #[.string a0, .string a1] w fun e w' => e = .returned (.tuple #[.string r1, .string r2, .bool r3]) ∧ Below w.heap.size w w' := by
 unfold strings_Cut.f at h
 by_cases hs : a0.size < 4294967281
 ·rw [if_pos hs] at h
  obtain ⟨rfl, rfl, rfl⟩ : _ ∧ _ ∧ _ := by simpa only [Option.some.injEq, Prod.mk.injEq] using h
  obtain ⟨m, hm⟩ := hG.maxLen
  refine (Tryz.strings_Cut a0 a1 m w hs hm).mono ?_
  rintro e w' ⟨he, n, hw⟩
  subst hw
  exact ⟨he, pw_below_drewN (Below.refl _ _) n⟩
 ·rw [if_neg hs] at h; cases h


/-! ### impl_readPath: function 39 -/
def impl_readPath.f (a0 : ByteArray) : Option (ByteArray × Int × ByteArray × ByteArray × Bool) := (strings_Cut.f a0 (⟨#[63]⟩ : ByteArray)).bind fun bt208 => (some ((⟨#[]⟩ : ByteArray), 0, bt208.1, bt208.2.1, bt208.2.2))
set_option maxHeartbeats 8000000 in
set_option maxRecDepth 100000 in
theorem impl_readPath.calls (a0 : ByteArray) (r1 : ByteArray) (r2 : Int) (r3 : ByteArray) (r4 : ByteArray) (r5 : Bool) (w : World) (hG : Gl w) (h : impl_readPath.f a0 = some (r1, r2, r3, r4, r5)) :
  Calls Tryz.prog 39 #[.string a0] w fun e w' => e = .returned (.agg #[.string r1, .int .i64 r2, .string r3, .string r4, .bool r5]) ∧ Below w.heap.size w w' := by
 have hu23 := Tryz.underlying23
 have HG := Aside0.mk hG
 clear hG
 have HB := Aside0.mk (Below.refl w.heap.size w)
 have H : ((strings_Cut.f a0 (⟨#[63]⟩ : ByteArray)).bind fun bt208 => (some ((⟨#[]⟩ : ByteArray), 0, bt208.1, bt208.2.1, bt208.2.2))) = some (r1, r2, r3, r4, r5) := h
 clear h
 replace H := Option.bind_eq_some_iff.mp H
 obtain ⟨⟨t208, t209, t210⟩, A20, H⟩ := H
 try dsimp only at H
 have A2 := Aside0.mk A20
 clear A20
 simp only [Option.some.injEq, Prod.mk.injEq] at H
 obtain ⟨rfl, rfl, rfl, rfl, rfl⟩ := H
 go_enter Tryz.func39, Tryz.ntmps39
 go_wp2_with (first | ((with_reducible refine gate_dst (N := 2) rfl ?_); refine boxP_ (N := 2) (cs := #[.string (⟨#[]⟩ : ByteArray), .int .i64 0, .string (⟨#[]⟩ : ByteArray), .string (⟨#[]⟩ : ByteArray), .bool false]) (t := 23) ?_; intro gb206 hg w3 hbox hb; have BK206 := Aside0.mk (hbox); have GE206 := geb_ (w := w) hg z0; replace HB := Aside0.mk (below_step z0 hb); clear hb hbox hg) | ((with_reducible refine gate_dst (N := 3) rfl ?_); refine boxP_ (N := 3) (cs := #[.string (⟨#[]⟩ : ByteArray), .int .i64 0, .string (⟨#[]⟩ : ByteArray), .string (⟨#[]⟩ : ByteArray), .bool false]) (t := 23) ?_; intro gb207 hg w4 hbox hb; have BK207 := Aside0.mk (hbox); have GE207 := geb_ (w := w) hg z74; replace HB := Aside0.mk (below_step z74 hb); have NB206_207 := Aside0.mk ((by rw [hg]; exact Nat.ne_of_lt (blk_lt (g := gb206) (o := .cells #[.string (⟨#[]⟩ : ByteArray), .int .i64 0, .string (⟨#[]⟩ : ByteArray), .string (⟨#[]⟩ : ByteArray), .bool false] 23 (0, 0)) z53) : gb206 ≠ gb207)); have NB207_206 := Aside0.mk ((by rw [hg]; exact Nat.ne_of_gt (blk_lt (g := gb206) (o := .cells #[.string (⟨#[]⟩ : ByteArray), .int .i64 0, .string (⟨#[]⟩ : ByteArray), .string (⟨#[]⟩ : ByteArray), .bool false] 23 (0, 0)) z53) : gb207 ≠ gb206)); replace BK206 := Aside0.mk (blk_below (g := gb206) (o := .cells #[.string (⟨#[]⟩ : ByteArray), .int .i64 0, .string (⟨#[]⟩ : ByteArray), .string (⟨#[]⟩ : ByteArray), .bool false] 23 (0, 0)) z53 hb); clear hb hbox hg) | ((with_reducible refine gate_callee (f := 38) rfl ?_); refine goesQ_ 6 Tryz.func38 #[.string a0, .string (⟨#[63]⟩ : ByteArray)] ?_; (with_reducible refine (strings_Cut.calls a0 (⟨#[63]⟩ : ByteArray) t208 t209 t210 _ ?side1 A2.out).mono ?_); (case side1 => exact Gl.below HG.out z51); rintro e w5 ⟨rfl, hb⟩; refine ⟨_, rfl, ?_⟩; replace BK206 := Aside0.mk (blk_below (g := gb206) (o := .cells #[.string (⟨#[]⟩ : ByteArray), .int .i64 0, .string (⟨#[]⟩ : ByteArray), .string (⟨#[]⟩ : ByteArray), .bool false] 23 (0, 0)) z53 hb); replace BK207 := Aside0.mk (blk_below (g := gb207) (o := .cells #[.string (⟨#[]⟩ : ByteArray), .int .i64 0, .string (⟨#[]⟩ : ByteArray), .string (⟨#[]⟩ : ByteArray), .bool false] 23 (0, 0)) (by (with_reducible repeat (first | refine blk_drewN ?_ _ | refine blk_drew ?_ | refine blk_alloc ?_ _)); exact BK207.out) hb); replace HB := Aside0.mk (below_step z51 hb); (try clear hb); have hnb6 := NB207_206.out; have hnc6 := NB206_207.out; obtain ⟨hcz7_0, hcz7_1, hcz7_2, hcz7_3, hcz7_4, hfz7_0, hfz7_1, hfz7_2, hfz7_3, hfz7_4⟩ := cells5_ BK207.out; obtain ⟨hcz8_0, hcz8_1, hcz8_2, hcz8_3, hcz8_4, hfz8_0, hfz8_1, hfz8_2, hfz8_3, hfz8_4⟩ := cells5_ BK206.out))
 refine bodyPost_ret (results_cell_row rfl _ _ gb206 23 #[.string (⟨#[]⟩ : ByteArray), .int .i64 0, .string t208, .string t209, .bool t210] (0, 0) _ rfl (by (with_reducible repeat (first | refine blk_drewN ?_ _ | refine blk_drew ?_ | refine blk_alloc ?_ _)); refine blk_put (cs := #[.string (⟨#[]⟩ : ByteArray), .int .i64 0, .string t208, .string t209, .bool false]) ?_ 4 _ rfl; (with_reducible repeat (first | refine blk_drewN ?_ _ | refine blk_drew ?_ | refine blk_alloc ?_ _)); refine blk_put (cs := #[.string (⟨#[]⟩ : ByteArray), .int .i64 0, .string t208, .string (⟨#[]⟩ : ByteArray), .bool false]) ?_ 3 _ rfl; (with_reducible repeat (first | refine blk_drewN ?_ _ | refine blk_drew ?_ | refine blk_alloc ?_ _)); refine blk_put (cs := #[.string (⟨#[]⟩ : ByteArray), .int .i64 0, .string (⟨#[]⟩ : ByteArray), .string (⟨#[]⟩ : ByteArray), .bool false]) ?_ 2 _ rfl; (with_reducible repeat (first | refine blk_drewN ?_ _ | refine blk_drew ?_ | refine blk_alloc ?_ _)); refine blk_put (cs := #[.string (⟨#[]⟩ : ByteArray), .int .i64 0, .string (⟨#[]⟩ : ByteArray), .string (⟨#[]⟩ : ByteArray), .bool false]) ?_ 1 _ rfl; (with_reducible repeat (first | refine blk_drewN ?_ _ | refine blk_drew ?_ | refine blk_alloc ?_ _)); refine blk_put (cs := #[.string (⟨#[]⟩ : ByteArray), .int .i64 0, .string (⟨#[]⟩ : ByteArray), .string (⟨#[]⟩ : ByteArray), .bool false]) ?_ 0 _ rfl; (with_reducible repeat (first | refine blk_drewN ?_ _ | refine blk_drew ?_ | refine blk_alloc ?_ _)); refine blk_far ?_ NB206_207.out _; (with_reducible repeat (first | refine blk_drewN ?_ _ | refine blk_drew ?_ | refine blk_alloc ?_ _)); refine blk_far ?_ NB206_207.out _; (with_reducible repeat (first | refine blk_drewN ?_ _ | refine blk_drew ?_ | refine blk_alloc ?_ _)); refine blk_far ?_ NB206_207.out _; (with_reducible repeat (first | refine blk_drewN ?_ _ | refine blk_drew ?_ | refine blk_alloc ?_ _)); exact BK206.out) Tryz.underlying23 rfl (by kernel_rfl)) rfl ?_
 exact ⟨z4, z51⟩

/-! ### impl_within: function 65 -/
def impl_within.f (a0 : Int) (a1 : Int) (a2 : Int) : Option (Bool) := if a1 ≤ a0 then (some (decide (a0 ≤ a2))) else (some false)
set_option maxHeartbeats 8000000 in
set_option maxRecDepth 100000 in
theorem impl_within.calls (a0 : Int) (a1 : Int) (a2 : Int) (r : Bool) (w : World) (h : impl_within.f a0 a1 a2 = some r) :
  Calls Tryz.prog 65 #[.int .i64 a0, .int .i64 a1, .int .i64 a2] w fun e w' => e = .returned (.bool r) ∧ Drawn0 w w' := by
 have H : (if a1 ≤ a0 then (some (decide (a0 ≤ a2))) else (some false)) = some r := h
 clear h
 by_cases c4 : a1 ≤ a0
 ·rw [if_pos c4] at H
  have c4b0 : decide (a1 ≤ a0) = true := decide_eq_true c4
  clear c4
  obtain rfl := Option.some.inj H
  go_enter Tryz.func65, Tryz.ntmps65
  go_wp2
  go_ret
  exact ⟨z2, z7⟩
 ·rw [if_neg c4] at H
  have c4b0 : decide (a1 ≤ a0) = false := decide_eq_false c4
  clear c4
  obtain rfl := Option.some.inj H
  go_enter Tryz.func65, Tryz.ntmps65
  go_wp2
  go_ret
  exact ⟨z2, z7⟩

/-! ### strconv_Itoa: function 136 -/
def strconv_Itoa.f (a0 : Int) : Option (ByteArray) := if -9223372036854775808 ≤ a0 ∧ a0 ≤ 9223372036854775807 then some ⟨(Lib.itoa a0).toArray⟩ else none
theorem strconv_Itoa.calls (a0 : Int) (r : ByteArray) (w : World) (hG : Gl w) (h : strconv_Itoa.f a0 = some r) :
  Calls Tryz.prog 136 #[.int .i64 a0] w fun e w' => e = .returned (.string r) ∧ Below w.heap.size w w' := by
 unfold strconv_Itoa.f at h
 by_cases hs : -9223372036854775808 ≤ a0 ∧ a0 ≤ 9223372036854775807
 ·rw [if_pos hs] at h
  obtain rfl := Option.some.inj h
  refine (Tryz.strconv_Itoa a0 hs.1 hs.2 w hG.tab).mono ?_
  rintro e w' ⟨he, k, os, hw⟩
  subst hw
  exact ⟨he, ⟨rfl, rfl, rfl, by show w.heap.size ≤ (w.heap ++ os).size; rw [Array.size_append]; omega, fun j hj => by show (w.heap ++ os)[j]? = w.heap[j]?; rw [Array.getElem?_append_left hj]⟩⟩
 ·rw [if_neg hs] at h; cases h


/-! ### impl_DecText: function 87 -/
def impl_DecText.f (a0 : Int) : Option (ByteArray) := (impl_within.f a0 0 999999999999999).bind fun t211 => (if t211 = true then ((strconv_Itoa.f a0).bind fun t212 => (some t212)) else (some (⟨#[]⟩ : ByteArray)))
set_option maxHeartbeats 8000000 in
set_option maxRecDepth 100000 in
theorem impl_DecText.calls (a0 : Int) (r : ByteArray) (w : World) (hG : Gl w) (h : impl_DecText.f a0 = some r) :
  Calls Tryz.prog 87 #[.int .i64 a0] w fun e w' => e = .returned (.string r) ∧ Below w.heap.size w w' := by
 have HG := Aside0.mk hG
 clear hG
 have HB := Aside0.mk (Below.refl w.heap.size w)
 have H : ((impl_within.f a0 0 999999999999999).bind fun t211 => (if t211 = true then ((strconv_Itoa.f a0).bind fun t212 => (some t212)) else (some (⟨#[]⟩ : ByteArray)))) = some r := h
 clear h
 replace H := Option.bind_eq_some_iff.mp H
 obtain ⟨t211, A20, H⟩ := H
 try dsimp only at H
 have A2 := Aside0.mk A20
 clear A20
 by_cases c3 : t211 = true
 ·subst c3
  rw [if_pos rfl] at H
  replace H := Option.bind_eq_some_iff.mp H
  obtain ⟨t212, A40, H⟩ := H
  try dsimp only at H
  have A4 := Aside0.mk A40
  clear A40
  obtain rfl := Option.some.inj H
  go_enter Tryz.func87, Tryz.ntmps87
  go_wp2_with (first | ((with_reducible refine gate_callee (f := 65) rfl ?_); refine goesQ_ 4 Tryz.func65 #[.int .i64 a0, .int .i64 0, .int .i64 999999999999999] ?_; (with_reducible refine (impl_within.calls a0 0 999999999999999 true _ A2.out).mono ?_); rintro e w' ⟨rfl, ⟨nd, rfl⟩⟩; refine ⟨_, rfl, ?_⟩) | ((with_reducible refine gate_callee (f := 136) rfl ?_); refine goesQ_ 7 Tryz.func136 #[.int .i64 a0] ?_; (with_reducible refine (strconv_Itoa.calls a0 t212 _ ?side1 A4.out).mono ?_); (case side1 => exact Gl.below HG.out z0); rintro e w5 ⟨rfl, hb⟩; refine ⟨_, rfl, ?_⟩; replace HB := Aside0.mk (below_step z0 hb); (try clear hb)))
  go_ret
  exact ⟨z4, z0⟩
 ·replace c3 := Bool.eq_false_iff.mpr c3
  subst c3
  rw [if_neg Bool.false_ne_true] at H
  obtain rfl := Option.some.inj H
  go_enter Tryz.func87, Tryz.ntmps87
  go_wp2_with (first | ((with_reducible refine gate_callee (f := 65) rfl ?_); refine goesQ_ 4 Tryz.func65 #[.int .i64 a0, .int .i64 0, .int .i64 999999999999999] ?_; (with_reducible refine (impl_within.calls a0 0 999999999999999 false _ A2.out).mono ?_); rintro e w' ⟨rfl, ⟨nd, rfl⟩⟩; refine ⟨_, rfl, ?_⟩))
  go_ret
  exact ⟨z4, z0⟩

end Go.Proofs.YtcplgnikihjilaaGreatDoor.GFnExactUnsurt
