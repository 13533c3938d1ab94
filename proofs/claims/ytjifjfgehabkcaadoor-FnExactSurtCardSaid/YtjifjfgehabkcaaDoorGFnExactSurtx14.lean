-- Laid by gen.py of this session (over the kit's printing program): what the law FnExactSurt reaches, as Lean functions, and that Go comes to just that.
import Derived.Test.YtjifjfgehabkcaaDoorGFnExactSurtx0
import Derived.Test.YtjifjfgehabkcaaDoorGFnExactSurtx1
import Derived.Test.YtjifjfgehabkcaaDoorGFnExactSurtx8
import Derived.Test.YtjifjfgehabkcaaDoorGFnExactSurtx9
import Derived.Test.YtjifjfgehabkcaaDoorGFnExactSurtx13
import Derived.Test.YtjifjfgehabkcaaDoorZFnExactSurt
namespace Go.Proofs.YtjifjfgehabkcaaDoor.GFnExactSurt
open Go.RowKit Go.Proofs.YtjifjfgehabkcaaDoorW.PrintWords Go.Proofs.YtjifjfgehabkcaaDoorW.PrintLast Go.Proofs.YtjifjfgehabkcaaDoorW.PrintMore Go.Proofs.YtjifjfgehabkcaaDoorW.Zs
attribute [local go_sem] max2_int min2_int max_two min_two max_three min_three max_four min_four   -- for this text's walks alone
set_option linter.unusedVariables false
set_option linter.unusedSimpArgs false

/-! ### slices_Reverse_string_string: function 73 -/
def slices_Reverse_string_string.l0 : Nat → List ByteArray → Int → Int → Option (List ByteArray)
 | 0, _, _, _ => none
 | k + 1, x0, x2, x3 => if x2 < x3 then (if 0 ≤ x3 then (if x3 < (x0.length : Int) then (if 0 ≤ x2 then (if x2 < (x0.length : Int) then (slices_Reverse_string_string.l0 k ((x0.set (x2 : Int).toNat (rdOf ByteArray.empty x0 x3)).set (x3 : Int).toNat (rdOf ByteArray.empty x0 x2)) (wrap64 (x2 + 1)) (wrap64 (x3 - 1))) else (none)) else (none)) else (none)) else (none)) else (some x0)
def slices_Reverse_string_string.f (k : Nat) (l0 : List ByteArray) : Option (List ByteArray) := slices_Reverse_string_string.l0 k l0 0 (wrap64 ((l0.length : Int) - 1))
theorem slices_Reverse_string_string.mono_l : ∀ k, (∀ y0 y1 y2, LeO (slices_Reverse_string_string.l0 k y0 y1 y2) (slices_Reverse_string_string.l0 (k + 1) y0 y1 y2))
 | 0 => fun _ _ _ r h => by simp [slices_Reverse_string_string.l0] at h
 | k + 1 => by
  have ih0 := slices_Reverse_string_string.mono_l k
  ·intro y0 y1 y2
   unfold slices_Reverse_string_string.l0
   repeat' first | (with_reducible first | exact ih0 _ _ _ | exact LeO.refl _ | exact LeO.none _ | refine LeO.ite ?_ ?_ | refine LeO.bind ?_ (fun _ => ?_)) | exact ih0 _ _ _ | exact LeO.none _ | refine LeO.ite ?_ ?_ | refine LeO.bind ?_ (fun _ => ?_)
theorem slices_Reverse_string_string.mono : ∀ a0 k, LeO (slices_Reverse_string_string.f k a0) (slices_Reverse_string_string.f (k + 1) a0) := by
 intro a0 k
 have ih0 := slices_Reverse_string_string.mono_l k
 unfold slices_Reverse_string_string.f
 repeat' first | (with_reducible first | exact ih0 _ _ _ | exact LeO.refl _ | exact LeO.none _ | refine LeO.ite ?_ ?_ | refine LeO.bind ?_ (fun _ => ?_)) | exact ih0 _ _ _ | exact LeO.none _ | refine LeO.ite ?_ ?_ | refine LeO.bind ?_ (fun _ => ?_)
def slices_Reverse_string_string.T3 : Bool × List (List Nat × List Nat) := (true, [([], []), ([], []), ([], []), ([], []), ([], []), ([], []), ([4, 5], [4, 5]), ([6], [6]), ([], []), ([], []), ([8, 9], [8, 9]), ([10], [10]), ([0, 1, 0, 1, 4, 5, 6, 7, 11], [0, 1]), ([12, 7, 0, 1, 4, 5, 6, 7, 11], [7, 12]), ([2, 3, 0, 1, 2, 3, 4, 5, 6, 7, 8, 9, 10, 11, 12, 13], [2, 3]), ([14, 11, 13, 0, 1, 2, 3, 4, 5, 6, 7, 8, 9, 10, 11, 12, 13], [11, 14])])
def slices_Reverse_string_string.B3 : List Nat := [0, 0, 0, 0, 0, 0, 48, 112, 0, 0, 768, 1792, 4083, 8179, 16383, 32767]
theorem slices_Reverse_string_string.tab3 : rtab .any (opsOf Tryd.f73 3) = slices_Reverse_string_string.T3 := by kernel_rfl
theorem slices_Reverse_string_string.bits3 : waitsOk slices_Reverse_string_string.T3.2 slices_Reverse_string_string.B3 = true := by kernel_rfl
set_option maxHeartbeats 8000000 in
set_option maxRecDepth 100000 in
theorem slices_Reverse_string_string.calls (k : Nat) (P0_ : Nat → Prop) (u9000_ : Value) (l0 : List ByteArray) (r : List ByteArray) (w0 w : World) (hB : Below w0.heap.size w0 w) (ho0 : Kd.R Kd.string 9 w w0.heap.size P0_ u9000_ l0) (h : slices_Reverse_string_string.f k l0 = some r) :
  Calls Tryd.prog 73 #[u9000_] w fun e w' => e = .returned (.tuple #[]) ∧ Kd.R Kd.string 9 w' w0.heap.size (fun k_ => (P0_ k_ ∨ w.heap.size ≤ k_)) u9000_ r ∧ Below w0.heap.size w0 w' ∧ Kept w w' (fun k_ => P0_ k_) := by
 have HO0 := Aside0.mk (show Kd.R Kd.string 9 w w0.heap.size (fun k_ => (P0_ k_ ∨ w.heap.size ≤ k_)) u9000_ l0 from Kd.R_mono ho0 (fun k_ hk => (.inl hk)))
 have HK := Aside0.mk (Kept.refl w (fun k_ => P0_ k_))
 have HW0 := Aside0.mk hB.size
 have HB := Aside0.mk hB
 clear hB
 have H : (slices_Reverse_string_string.l0 k l0 0 (wrap64 ((l0.length : Int) - 1))) = some r := h
 clear h
 have H' := Aside0.mk H
 clear H
 obtain ⟨Ao2, co2, eo2⟩ := Kd.R_slice HO0.out
 subst eo2
 go_enter Tryd.func73, Tryd.ntmps73
 go_wp2
 go_loopg [2, 3] k (fun kq v2 v3 w' => ∃ (x0_1 : List ByteArray) (x2_1 : Int) (x3_1 : Int), v2 = .int .i64 x2_1 ∧ v3 = .int .i64 x3_1 ∧ Aside0 (slices_Reverse_string_string.l0 kq x0_1 x2_1 x3_1 = some r) ∧ Aside0 (kq ≤ k) ∧ Aside0 (Kd.R Kd.string 9 w' w0.heap.size (fun k_ => (P0_ k_ ∨ w.heap.size ≤ k_)) (.slice Ao2 l0.length co2) x0_1) ∧ Aside0 (Kept w w' (fun k_ => P0_ k_)) ∧ Aside0 (Below w0.heap.size w0 w'))
 case atStart => exact ⟨(l0), (0), (wrap64 ((l0.length : Int) - 1)), z2, z2, H', ⟨Nat.le_refl _⟩, ⟨by (with_reducible repeat (first | apply Kd.R_alloc | apply Kd.R_drewN | apply Kd.R_drew)); exact HO0.out⟩, ⟨z54⟩, ⟨z0⟩⟩
 case round =>
  clear H'
  try clear p2
  obtain ⟨x0_1, x2_1, x3_1, rfl, rfl, HA, HK1, HO_0, HK, HB⟩ := hrel
  have hl0_1 := (Kd.R_reads' HO_0.out).1
  rw [hl0_1] at HO_0
  (try simp only [hl0_1])
  cases gk with
  | zero => exact absurd HA.out (by simp [slices_Reverse_string_string.l0])
  | succ k1 =>
   have H := HA.out
   clear HA
   simp only [slices_Reverse_string_string.l0] at H
   by_cases c3 : x2_1 < x3_1
   ·rw [if_pos c3] at H
    have c3b0 : decide (x2_1 < x3_1) = true := decide_eq_true c3
    clear c3
    by_cases c4 : 0 ≤ x3_1
    ·rw [if_pos c4] at H
     have c4b0 : decide (0 ≤ x3_1) = true := decide_eq_true c4
     clear c4
     by_cases c5 : x3_1 < (x0_1.length : Int)
     ·rw [if_pos c5] at H
      have c5b0 : decide (x3_1 < (x0_1.length : Int)) = true := decide_eq_true c5
      clear c5
      by_cases c6 : 0 ≤ x2_1
      ·rw [if_pos c6] at H
       have c6b0 : decide (0 ≤ x2_1) = true := decide_eq_true c6
       clear c6
       by_cases c7 : x2_1 < (x0_1.length : Int)
       ·rw [if_pos c7] at H
        have c7b0 : decide (x2_1 < (x0_1.length : Int)) = true := decide_eq_true c7
        clear c7
        obtain ⟨y272, hy272⟩ : ∃ y_ : List ByteArray, y_ = (x0_1.set (x2_1 : Int).toNat (rdOf ByteArray.empty x0_1 x3_1)) := ⟨_, rfl⟩
        replace H : (slices_Reverse_string_string.l0 k1 (y272.set (x3_1 : Int).toNat (rdOf ByteArray.empty x0_1 x2_1)) (wrap64 (x2_1 + 1)) (wrap64 (x3_1 - 1))) = some r := by first | (rw [hy272]; with_reducible exact H) | (have H2_ := (Option.bind_some _ _).symm.trans H; rw [hy272]; with_reducible exact H2_) | (have H2_ := (Option.bind_some _ _).symm.trans H; with_reducible exact H2_) | with_reducible exact H | (rw [hy272]; exact H) | exact H
        have Ny272 := Aside0.mk hy272
        clear hy272
        obtain ⟨y273, hy273⟩ : ∃ y_ : List ByteArray, y_ = (y272.set (x3_1 : Int).toNat (rdOf ByteArray.empty x0_1 x2_1)) := ⟨_, rfl⟩
        replace H : (slices_Reverse_string_string.l0 k1 y273 (wrap64 (x2_1 + 1)) (wrap64 (x3_1 - 1))) = some r := by first | (rw [hy273]; with_reducible exact H) | (have H2_ := (Option.bind_some _ _).symm.trans H; rw [hy273]; with_reducible exact H2_) | (have H2_ := (Option.bind_some _ _).symm.trans H; with_reducible exact H2_) | with_reducible exact H | (rw [hy273]; exact H) | exact H
        have Ny273 := Aside0.mk hy273
        clear hy273
        have H' := Aside0.mk H
        clear H
        try go_wp2
        have n0_ := Aside0.mk (Kd.R_drew HO_0.out)
        have n1_ := Aside0.mk (Kept.drew HK.out)
        have n2_ := Aside0.mk (below_drew1 HB.out)
        clear HO_0
        clear HK
        clear HB
        have HO_0 := n0_
        have HK := n1_
        have HB := n2_
        clear n0_ n1_ n2_
        have p270 : 0 ≤ (x3_1 : Int) := of_decide_eq_true z1
        have q270 : x3_1 < (x0_1.length : Int) := of_decide_eq_true z1
        obtain ⟨ad270, e270, hx270_0⟩ := Kd.at_string (Kd.R_reads' HO_0.out).2.2 x3_1 p270 q270
        cases e270
        replace p270 := eq_true p270
        replace q270 := eq_true q270
        have p271 : 0 ≤ (x2_1 : Int) := of_decide_eq_true z1
        have q271 : x2_1 < (x0_1.length : Int) := of_decide_eq_true z1
        obtain ⟨ad271, e271, hx271_0⟩ := Kd.at_string (Kd.R_reads' HO_0.out).2.2 x2_1 p271 q271
        obtain rfl : ad270 = ad271 := (by injection e271)
        replace p271 := eq_true p271
        replace q271 := eq_true q271
        have p8 : 0 ≤ (x2_1 : Int) := of_decide_eq_true z1
        have q8 : (x2_1 : Int) < ((x0_1.length : Int) : Int) := of_decide_eq_true z1
        obtain ⟨go8, co8, eo8, gb8, gl8, cl8, HG8⟩ := Kd.R_form HO_0.out (by omega)
        (first | cases eo8 | (injection eo8 with ea_ en_ ec_; (first | subst ea_ | (injection ea_ with ea_; subst ea_)); subst ec_; clear en_))
        have GB8 := Aside0.mk gb8
        have GG8 := Aside0.mk HG8
        clear gb8 gl8 HG8
        have HMgo8 := Aside0.mk (show (P0_ go8 ∨ w.heap.size ≤ go8) from (HO_0.out.1 _ rfl))
        (first | simp only [add_plain] at hx270_0 | skip)
        (first | simp only [add_plain] at hx271_0 | skip)
        obtain ⟨hx8_0, hf8_0⟩ := Kd.R_celln (⟨#[]⟩ : ByteArray) HO_0.out (x2_1 : Int) p8 q8
        replace p8 := eq_true p8
        replace q8 := eq_true q8
        have HP11 := Kd.R_putn HO_0.out (x2_1 : Int) (rdOf ByteArray.empty x0_1 x3_1)
        rw [← Ny272.out] at HP11
        have HQ11 := Aside0.mk HP11
        clear HP11
        have p9 : 0 ≤ (x3_1 : Int) := of_decide_eq_true z1
        have q9 : (x3_1 : Int) < ((x0_1.length : Int) : Int) := of_decide_eq_true z1
        obtain ⟨hx9_0, hf9_0⟩ := Kd.R_celln (⟨#[]⟩ : ByteArray) HQ11.out (x3_1 : Int) p9 q9
        replace p9 := eq_true p9
        replace q9 := eq_true q9
        have HP12 := Kd.R_putn HQ11.out (x3_1 : Int) (rdOf ByteArray.empty x0_1 x2_1)
        rw [← Ny273.out] at HP12
        have HQ12 := Aside0.mk HP12
        clear HP12
        refine start_ (n := 16) (S := fun w' => w'.cell? ⟨go8, (x3_1).toNat, none⟩ = some (.string (rdOf ByteArray.empty x0_1 x3_1)) ∧ w'.cell? ⟨go8, (x2_1).toNat, none⟩ = some (.string (rdOf ByteArray.empty x0_1 x2_1))) (ds := [13, 15]) #[false, false, false, false, false, false, false, false, false, false, false, false, false, false, false, false] (by kernel_rfl) rfl rfl ⟨hx270_0, hx271_0⟩ (fun hHeld => ?_); refine with_tabW slices_Reverse_string_string.tab3 slices_Reverse_string_string.bits3 (fun HT_ HW_ => ?_)
        generalize wr.drew = w10 at HO_0 HK HB GG8 HQ11 HQ12 hf8_0 hf9_0 hx270_0 hx271_0 hx8_0 hx9_0 hHeld ⊢
        refine pure_ (i := 0) (N := some 14) (v := ?_) (a' := ?_) #[true, false, false, false, false, false, false, false, false, false, false, false, false, false, false, false] rfl rfl (any_of HT_.out (by kernel_rfl)) (fun _ _ _ h => h) (Or.inl ⟨by rfl, ?_⟩) ?_ ?_
        rotate_left
        ·intro w'
         go_simp
         with_reducible rfl
        rotate_left
        ·simp only [Act.put, List.setIfInBounds_toArray, List.set_cons_zero, List.set_cons_succ, i64_w, i32_w]
         rfl
        refine pure_ (i := 1) (N := some 15) (v := ?_) (a' := ?_) #[true, true, false, false, false, false, false, false, false, false, false, false, false, false, false, false] rfl rfl (any_of HT_.out (by kernel_rfl)) (fun _ _ _ h => h) (Or.inl ⟨by rfl, ?_⟩) ?_ ?_
        rotate_left
        ·intro w'
         go_simp
         with_reducible rfl
        rotate_left
        ·simp only [Act.put, List.setIfInBounds_toArray, List.set_cons_zero, List.set_cons_succ, i64_w, i32_w]
         rfl
        refine pure_ (i := 2) (N := some 16) (v := ?_) (a' := ?_) #[true, true, true, false, false, false, false, false, false, false, false, false, false, false, false, false] rfl rfl (any_of HT_.out (by kernel_rfl)) (fun _ _ _ h => h) (Or.inl ⟨by rfl, ?_⟩) ?_ ?_
        rotate_left
        ·intro w'
         go_simp
         with_reducible rfl
        rotate_left
        ·simp only [Act.put, List.setIfInBounds_toArray, List.set_cons_zero, List.set_cons_succ, i64_w, i32_w]
         rfl
        refine pure_ (i := 3) (N := some 17) (v := ?_) (a' := ?_) #[true, true, true, true, false, false, false, false, false, false, false, false, false, false, false, false] rfl rfl (any_of HT_.out (by kernel_rfl)) (fun _ _ _ h => h) (Or.inl ⟨by rfl, ?_⟩) ?_ ?_
        rotate_left
        ·intro w'
         go_simp
         with_reducible rfl
        rotate_left
        ·simp only [Act.put, List.setIfInBounds_toArray, List.set_cons_zero, List.set_cons_succ, i64_w, i32_w]
         rfl
        refine pure_ (i := 4) (N := some 18) (v := ?_) (a' := ?_) #[true, true, true, true, true, false, false, false, false, false, false, false, false, false, false, false] rfl rfl (any_of HT_.out (by kernel_rfl)) (fun _ _ _ h => h) (Or.inl ⟨by rfl, ?_⟩) ?_ ?_
        rotate_left
        ·intro w'
         go_simp
         with_reducible rfl
        rotate_left
        ·simp only [Act.put, List.setIfInBounds_toArray, List.set_cons_zero, List.set_cons_succ, i64_w, i32_w]
         rfl
        refine pure_ (i := 5) (N := some 19) (v := ?_) (a' := ?_) #[true, true, true, true, true, true, false, false, false, false, false, false, false, false, false, false] rfl rfl (any_of HT_.out (by kernel_rfl)) (fun _ _ _ h => h) (Or.inl ⟨by rfl, ?_⟩) ?_ ?_
        rotate_left
        ·intro w'
         go_simp
         with_reducible rfl
        rotate_left
        ·simp only [Act.put, List.setIfInBounds_toArray, List.set_cons_zero, List.set_cons_succ, i64_w, i32_w]
         rfl
        refine pure_ (i := 6) (N := some 20) (v := ?_) (a' := ?_) #[true, true, true, true, true, true, true, false, false, false, false, false, false, false, false, false] rfl rfl (any_of HT_.out (by kernel_rfl)) (fun _ _ _ h => h) (Or.inl ⟨by rfl, ?_⟩) ?_ ?_
        rotate_left
        ·intro w'
         go_simp
         with_reducible rfl
        rotate_left
        ·simp only [Act.put, List.setIfInBounds_toArray, List.set_cons_zero, List.set_cons_succ, i64_w, i32_w]
         rfl
        refine pure_ (i := 8) (N := some 22) (v := ?_) (a' := ?_) #[true, true, true, true, true, true, true, false, true, false, false, false, false, false, false, false] rfl rfl (any_of HT_.out (by kernel_rfl)) (fun _ _ _ h => h) (Or.inl ⟨by rfl, ?_⟩) ?_ ?_
        rotate_left
        ·intro w'
         go_simp
         with_reducible rfl
        rotate_left
        ·simp only [Act.put, List.setIfInBounds_toArray, List.set_cons_zero, List.set_cons_succ, i64_w, i32_w]
         rfl
        refine pure_ (i := 9) (N := some 23) (v := ?_) (a' := ?_) #[true, true, true, true, true, true, true, false, true, true, false, false, false, false, false, false] rfl rfl (any_of HT_.out (by kernel_rfl)) (fun _ _ _ h => h) (Or.inl ⟨by rfl, ?_⟩) ?_ ?_
        rotate_left
        ·intro w'
         go_simp
         with_reducible rfl
        rotate_left
        ·simp only [Act.put, List.setIfInBounds_toArray, List.set_cons_zero, List.set_cons_succ, i64_w, i32_w]
         rfl
        refine pure_ (i := 10) (N := some 24) (v := ?_) (a' := ?_) #[true, true, true, true, true, true, true, false, true, true, true, false, false, false, false, false] rfl rfl (any_of HT_.out (by kernel_rfl)) (fun _ _ _ h => h) (Or.inl ⟨by rfl, ?_⟩) ?_ ?_
        rotate_left
        ·intro w'
         go_simp
         with_reducible rfl
        rotate_left
        ·simp only [Act.put, List.setIfInBounds_toArray, List.set_cons_zero, List.set_cons_succ, i64_w, i32_w]
         rfl
        refine take_ (i := 7) (N := some 21) (v := ?_) (a' := ?_) #[true, true, true, true, true, true, true, true, true, true, true, false, false, false, false, false] rfl rfl (take_ofW HT_.out HW_.out (by kernel_rfl)) (fun _ _ _ h => h) (Or.inl ⟨by rfl, ?_⟩) hHeld ?_ ?_
        rotate_left
        ·rintro w' ⟨s0, s1⟩
         go_simp
         with_reducible rfl
        rotate_left
        ·simp only [Act.put, List.setIfInBounds_toArray, List.set_cons_zero, List.set_cons_succ, i64_w, i32_w]
         rfl
        refine take_ (i := 11) (N := some 25) (v := ?_) (a' := ?_) #[true, true, true, true, true, true, true, true, true, true, true, true, false, false, false, false] rfl rfl (take_ofW HT_.out HW_.out (by kernel_rfl)) (fun _ _ _ h => h) (Or.inl ⟨by rfl, ?_⟩) hHeld ?_ ?_
        rotate_left
        ·rintro w' ⟨s0, s1⟩
         go_simp
         with_reducible rfl
        rotate_left
        ·simp only [Act.put, List.setIfInBounds_toArray, List.set_cons_zero, List.set_cons_succ, i64_w, i32_w]
         rfl
        refine pure_ (i := 12) (N := some 26) (v := ?_) (a' := ?_) #[true, true, true, true, true, true, true, true, true, true, true, true, true, false, false, false] rfl rfl (any_of HT_.out (by kernel_rfl)) (fun _ _ _ h => h) (Or.inl ⟨by rfl, ?_⟩) ?_ ?_
        rotate_left
        ·intro w'
         go_simp
         with_reducible rfl
        rotate_left
        ·simp only [Act.put, List.setIfInBounds_toArray, List.set_cons_zero, List.set_cons_succ, i64_w, i32_w]
         rfl
        refine last_ (i := 13) (N := none) #[true, true, true, true, true, true, true, true, true, true, true, true, true, true, false, false] rfl rfl (one_of HT_.out (by kernel_rfl)) (by decide) (fun K hK => ?_)
        refine skip_ (w1 := ?_) (by rfl) rfl ?_ ?_
        rotate_left
        ·go_simp
         rfl
        refine hK.out _ _ ?_
        clear hK K
        refine pure_ (i := 14) (N := some 27) (v := ?_) (a' := ?_) #[true, true, true, true, true, true, true, true, true, true, true, true, true, true, true, false] rfl rfl (any_of HT_.out (by kernel_rfl)) (fun _ _ _ h => h) (Or.inl ⟨by rfl, ?_⟩) ?_ ?_
        rotate_left
        ·intro w'
         go_simp
         with_reducible rfl
        rotate_left
        ·simp only [Act.put, List.setIfInBounds_toArray, List.set_cons_zero, List.set_cons_succ, i64_w, i32_w]
         rfl
        refine last_ (i := 15) (N := none) #[true, true, true, true, true, true, true, true, true, true, true, true, true, true, true, true] rfl rfl (one_of HT_.out (by kernel_rfl)) (by decide) (fun K hK => ?_)
        refine skip_ (w1 := ?_) (by rfl) rfl ?_ ?_
        rotate_left
        ·go_simp
         rfl
        refine hK.out _ _ ?_
        clear hK K
        refine done_ (done_of HT_.out (by kernel_rfl)) ?_
        try go_wp2
        (try simp only [← hl0_1])
        go_roundg k1
        case measure => have := HK1.out; omega
        case rel => exact ⟨(y273), (wrap64 (x2_1 + 1)), (wrap64 (x3_1 - 1)), z2, z2, H', ⟨z40⟩, ⟨by (try simp only [hl0_1]); (with_reducible repeat (first | apply Kd.R_alloc | apply Kd.R_drewN | apply Kd.R_drew)); exact HQ12.out⟩, ⟨by repeat (first | (with_reducible first | exact HK.out | apply Kept.alloc | apply Kept.drewN | apply Kept.drew | refine Kept.setCell ?_ HMgo8.out _ | refine Kept.setCell ?_ HMgo8.out _) | exact HK.out)⟩, ⟨by repeat (first | (with_reducible first | exact HB.out | apply below_alloc | apply pw_below_drewN | apply below_drew1 | refine below_set ?_ GB8.out | refine below_set ?_ GB8.out) | exact HB.out)⟩⟩
       ·rw [if_neg c7] at H
        exact absurd H (by simp)
      ·rw [if_neg c6] at H
       exact absurd H (by simp)
     ·rw [if_neg c5] at H
      exact absurd H (by simp)
    ·rw [if_neg c4] at H
     exact absurd H (by simp)
   ·rw [if_neg c3] at H
    have c3b0 : decide (x2_1 < x3_1) = false := decide_eq_false c3
    clear c3
    obtain rfl := Option.some.inj H
    go_wp2
    first | go_end0 | ((try simp only [Exit.inBlock, Exit.then]); refine bodyPost_ret (results_none rfl _ _ _) rfl ?_)
    exact ⟨z3, (by first | exact (by (with_reducible repeat (first | apply Kd.R_alloc | apply Kd.R_drewN | apply Kd.R_drew)); exact HO_0.out) | (simp only [hl0_1]; exact (by (with_reducible repeat (first | apply Kd.R_alloc | apply Kd.R_drewN | apply Kd.R_drew)); exact HO_0.out))), z0, z54⟩

/-! ### impl_turned: function 42 -/
def impl_turned.f (k : Nat) (l0 : List ByteArray) : Option (List ByteArray) := (some (([] : List ByteArray) : List ByteArray)).bind fun y274 => (if y274.length + l0.length < 8796093022208 then ((slices_Reverse_string_string.f k (y274 ++ l0)).bind fun t280 => (some t280)) else (none))
theorem impl_turned.mono : ∀ a0 k, LeO (impl_turned.f k a0) (impl_turned.f (k + 1) a0) := by
 intro a0 k
 unfold impl_turned.f
 repeat' first | (with_reducible first | exact slices_Reverse_string_string.mono _ _ | exact LeO.refl _ | exact LeO.none _ | refine LeO.ite ?_ ?_ | refine LeO.bind ?_ (fun _ => ?_)) | exact slices_Reverse_string_string.mono _ _ | exact LeO.none _ | refine LeO.ite ?_ ?_ | refine LeO.bind ?_ (fun _ => ?_)
set_option maxHeartbeats 8000000 in
set_option maxRecDepth 100000 in
theorem impl_turned.calls (k : Nat) (A0 : Option Addr) (c0 : Nat) (l0 : List ByteArray) (r : List ByteArray) (w : World) (hr0 : Kd.C Kd.string w A0 l0.length l0) (hc0 : l0.length ≤ c0) (h : impl_turned.f k l0 = some r) :
  Calls Tryd.prog 42 #[.slice A0 l0.length c0] w fun e w' => ∃ v0_ : Value, e = .returned (v0_) ∧ Kd.R Kd.string 9 w' w.heap.size (fun _ => True) v0_ r ∧ Below w.heap.size w w' := by
 have HR0 := Aside0.mk hr0
 have HC0 := Aside0.mk hc0
 clear hr0 hc0
 have HB := Aside0.mk (Below.refl w.heap.size w)
 have H : ((some (([] : List ByteArray) : List ByteArray)).bind fun y274 => (if y274.length + l0.length < 8796093022208 then ((slices_Reverse_string_string.f k (y274 ++ l0)).bind fun t280 => (some t280)) else (none))) = some r := h
 clear h
 obtain ⟨y274, hy274⟩ : ∃ y_ : List ByteArray, y_ = (([] : List ByteArray)) := ⟨_, rfl⟩
 replace H : (if y274.length + l0.length < 8796093022208 then ((slices_Reverse_string_string.f k (y274 ++ l0)).bind fun t280 => (some t280)) else (none)) = some r := by first | (rw [hy274]; with_reducible exact H) | (have H2_ := (Option.bind_some _ _).symm.trans H; rw [hy274]; with_reducible exact H2_) | (have H2_ := (Option.bind_some _ _).symm.trans H; with_reducible exact H2_) | with_reducible exact H | (rw [hy274]; exact H) | exact H
 have Ny274 := Aside0.mk hy274
 clear hy274
 by_cases c2 : y274.length + l0.length < 8796093022208
 ·rw [if_pos c2] at H
  have LMc2 := Aside0.mk c2
  clear c2
  obtain ⟨y277, hy277⟩ : ∃ y_ : List ByteArray, y_ = (y274 ++ l0) := ⟨_, rfl⟩
  replace H : ((slices_Reverse_string_string.f k y277).bind fun t280 => (some t280)) = some r := by first | (rw [hy277]; with_reducible exact H) | (have H2_ := (Option.bind_some _ _).symm.trans H; rw [hy277]; with_reducible exact H2_) | (have H2_ := (Option.bind_some _ _).symm.trans H; with_reducible exact H2_) | with_reducible exact H | (rw [hy277]; exact H) | exact H
  have Ny277 := Aside0.mk hy277
  clear hy277
  replace H := Option.bind_eq_some_iff.mp H
  obtain ⟨t280, A30, H⟩ := H
  try dsimp only at H
  have A3 := Aside0.mk A30
  clear A30
  obtain rfl := Option.some.inj H
  go_enter Tryd.func42, Tryd.ntmps42
  go_wp2_with (first | ((with_reducible refine gate_dst (N := 4) rfl ?_); refine Kd.R_lit Kd.string _ 9 ?hg (N := 4) ?hd (xs := ([] : List ByteArray)) (inner := []) (ok := fun _ => True) (okp := fun _ => True) ?hr ?hp (fun _ hk => hk) trivial (Below.refl _ _) (Nat.le_refl _) (by simp) ?_; (case hd => rfl); (case hg => rfl); (case hr => first | (go_simp; done) | (go_simp; rfl)); (case hp => exact (Reps.none _ _)); intro v275 w4 ho5 hb hg_ hnew_; clear hg_ hnew_; (first | rw [← Ny274.out] at ho5 | (simp only [Int.reduceToNat] at ho5; rw [← Ny274.out] at ho5)); have HO276 := Aside0.mk (Kd.R_lower ho5 (below_size z0)); replace HB := Aside0.mk (below_step z0 hb); clear hb ho5) | ((with_reducible refine gate_builtin (b := .append) (xs := #[.tmp 4, .tmp 5]) rfl ?_); at_builtin; refine Kd.R_append_rows Kd.string (w0 := w) w.heap.size rfl (.tmp 4) (.tmp 5) 44 9 (.string ⟨#[]⟩) 16 rfl Tryd.underlying44 info9 rfl (by decide) (by omega) v275 y274 l0 _ _ _ (fun _ => True) (fun _ => False) rfl rfl ?aO ?aR (fun _ _ h => h) (fun _ h => h.elim) ?aF ?aB ?aS ?aL ?_; (case aR => repeat (first | exact (Kd.C_below HR0.out HB.out) | (with_reducible refine Kd.C_alloc ?_ _) | (with_reducible refine Kd.C_drewN ?_ _) | (with_reducible refine Kd.C_drew ?_))); (case aB => exact z0); (case aF => exact (fun _ _ => trivial)); (case aO => exact (by (with_reducible repeat (first | apply Kd.R_alloc | apply Kd.R_drewN | apply Kd.R_drew)); exact HO276.out)); (case aS => exact (below_size z0)); (case aL => have := LMc2.out; omega); intro v278 w6 ho hb hg hat; rw [← Ny277.out] at ho; replace HB := Aside0.mk (hb); have HO279 := Aside0.mk (ho); clear HO276; clear ho hb hg hat; obtain ⟨Ao7, co7, eo7⟩ := Kd.R_slice HO279.out; subst eo7) | ((with_reducible refine gate_callee (f := 73) rfl ?_); refine goesQ_ 8 Tryd.func73 #[.slice Ao7 y277.length co7] ?_; (with_reducible refine (slices_Reverse_string_string.calls k (fun k_ => some k_ = (.slice Ao7 y277.length co7 : Value).ownBlock) (.slice Ao7 y277.length co7) y277 t280 w _ ?side1 ?side2 A3.out).mono ?_); (case side1 => repeat (first | (with_reducible first | exact HB.out | apply below_alloc | apply pw_below_drewN | apply below_drew1) | exact HB.out)); (case side2 => exact Kd.R_tight rfl HO279.out); rintro e w8 ⟨rfl, hy0, hb, hkp⟩; refine ⟨_, rfl, ?_⟩; replace HO279 := Aside0.mk (Kd.R_reok rfl hy0 (fun k_ e_ => HO279.out.1 k_ e_)); replace HB := Aside0.mk (hb); (try clear hb); (try clear hkp); (try clear hy0)))
  go_ret
  exact ⟨_, z3, by (with_reducible repeat (first | apply Kd.R_alloc | apply Kd.R_drewN | apply Kd.R_drew)); exact HO279.out, z0⟩
 ·rw [if_neg c2] at H
  exact absurd H (by simp)

/-! ### impl_Surt: function 19 -/
def impl_Surt.f (k : Nat) (a0_0 : ByteArray) (a0_1 : Int) (a0_2 : ByteArray) (a0_3 : ByteArray) (a0_4 : Bool) : Option (ByteArray) := (impl_UrlOk.f k a0_0 a0_1 a0_2 a0_3 a0_4).bind fun t282 => (if t282 = true then ((strings_Split.f a0_0 (⟨#[46]⟩ : ByteArray)).bind fun t283 => ((impl_turned.f k t283).bind fun t286 => ((strings_Join.f t286 (⟨#[44]⟩ : ByteArray)).bind fun t289 => ((impl_portText.f a0_0 a0_1 a0_2 a0_3 a0_4).bind fun t290 => (if t289.size + t290.size ≤ 9223372036854775807 then (if (t289 ++ t290).size + 1 ≤ 9223372036854775807 then ((impl_pathText.f a0_0 a0_1 a0_2 a0_3 a0_4).bind fun t291 => (if ((t289 ++ t290) ++ (⟨#[41]⟩ : ByteArray)).size + t291.size ≤ 9223372036854775807 then (some (((t289 ++ t290) ++ (⟨#[41]⟩ : ByteArray)) ++ t291)) else (none))) else (none)) else (none)))))) else (some (⟨#[]⟩ : ByteArray)))
theorem impl_Surt.mono : ∀ a0 a1 a2 a3 a4 k, LeO (impl_Surt.f k a0 a1 a2 a3 a4) (impl_Surt.f (k + 1) a0 a1 a2 a3 a4) := by
 intro a0 a1 a2 a3 a4 k
 unfold impl_Surt.f
 repeat' first | (with_reducible first | exact impl_UrlOk.mono _ _ _ _ _ _ | exact impl_turned.mono _ _ | exact LeO.refl _ | exact LeO.none _ | refine LeO.ite ?_ ?_ | refine LeO.bind ?_ (fun _ => ?_)) | exact impl_UrlOk.mono _ _ _ _ _ _ | exact impl_turned.mono _ _ | exact LeO.none _ | refine LeO.ite ?_ ?_ | refine LeO.bind ?_ (fun _ => ?_)
def impl_Surt.T3 : Bool × List (List Nat × List Nat) := (true, [([], []), ([0], [0]), ([1], [1]), ([2, 2], [2]), ([3, 3], [3]), ([], []), ([5, 4], [5]), ([4, 6], [4, 6]), ([7], [7]), ([], []), ([9, 6], [9]), ([8, 10], [8, 10]), ([11, 10, 0, 1, 2, 3, 4, 5, 6, 7, 8, 9, 10, 11], [11])])
def impl_Surt.B3 : List Nat := [0, 1, 3, 7, 15, 0, 63, 127, 255, 0, 639, 2047, 4095]
theorem impl_Surt.tab3 : rtab .any (opsOf Tryd.f19 3) = impl_Surt.T3 := by kernel_rfl
theorem impl_Surt.bits3 : waitsOk impl_Surt.T3.2 impl_Surt.B3 = true := by kernel_rfl
set_option maxHeartbeats 8000000 in
set_option maxRecDepth 100000 in
theorem impl_Surt.calls (k : Nat) (a0_0 : ByteArray) (a0_1 : Int) (a0_2 : ByteArray) (a0_3 : ByteArray) (a0_4 : Bool) (r : ByteArray) (w : World) (hG : Gl w) (h : impl_Surt.f k a0_0 a0_1 a0_2 a0_3 a0_4 = some r) :
  Calls Tryd.prog 19 #[.agg #[.string a0_0, .int .i64 a0_1, .string a0_2, .string a0_3, .bool a0_4]] w fun e w' => e = .returned (.string r) ∧ Below w.heap.size w w' := by
 have hu26 := Tryd.underlying26
 have HG := Aside0.mk hG
 clear hG
 have HB := Aside0.mk (Below.refl w.heap.size w)
 have H : ((impl_UrlOk.f k a0_0 a0_1 a0_2 a0_3 a0_4).bind fun t282 => (if t282 = true then ((strings_Split.f a0_0 (⟨#[46]⟩ : ByteArray)).bind fun t283 => ((impl_turned.f k t283).bind fun t286 => ((strings_Join.f t286 (⟨#[44]⟩ : ByteArray)).bind fun t289 => ((impl_portText.f a0_0 a0_1 a0_2 a0_3 a0_4).bind fun t290 => (if t289.size + t290.size ≤ 9223372036854775807 then (if (t289 ++ t290).size + 1 ≤ 9223372036854775807 then ((impl_pathText.f a0_0 a0_1 a0_2 a0_3 a0_4).bind fun t291 => (if ((t289 ++ t290) ++ (⟨#[41]⟩ : ByteArray)).size + t291.size ≤ 9223372036854775807 then (some (((t289 ++ t290) ++ (⟨#[41]⟩ : ByteArray)) ++ t291)) else (none))) else (none)) else (none)))))) else (some (⟨#[]⟩ : ByteArray)))) = some r := h
 clear h
 replace H := Option.bind_eq_some_iff.mp H
 obtain ⟨t282, A20, H⟩ := H
 try dsimp only at H
 have A2 := Aside0.mk A20
 clear A20
 by_cases c3 : t282 = true
 ·subst c3
  rw [if_pos rfl] at H
  replace H := Option.bind_eq_some_iff.mp H
  obtain ⟨t283, A40, H⟩ := H
  try dsimp only at H
  have A4 := Aside0.mk A40
  clear A40
  replace H := Option.bind_eq_some_iff.mp H
  obtain ⟨t286, A50, H⟩ := H
  try dsimp only at H
  have A5 := Aside0.mk A50
  clear A50
  replace H := Option.bind_eq_some_iff.mp H
  obtain ⟨t289, A60, H⟩ := H
  try dsimp only at H
  have A6 := Aside0.mk A60
  clear A60
  replace H := Option.bind_eq_some_iff.mp H
  obtain ⟨t290, A70, H⟩ := H
  try dsimp only at H
  have A7 := Aside0.mk A70
  clear A70
  by_cases c8 : t289.size + t290.size ≤ 9223372036854775807
  ·rw [if_pos c8] at H
   have c8b0 := eq_true c8
   have c8b1 : decide (t289.size + t290.size ≤ 9223372036854775807) = true := decide_eq_true c8
   try have c8b2 : (9223372036854775807 < t289.size + t290.size) = False := eq_false (Nat.not_lt.2 c8)
   by_cases c9 : (t289 ++ t290).size + 1 ≤ 9223372036854775807
   ·rw [if_pos c9] at H
    have c9b0 := eq_true c9
    have c9b1 : decide ((t289 ++ t290).size + 1 ≤ 9223372036854775807) = true := decide_eq_true c9
    try have c9b2 : (9223372036854775807 < (t289 ++ t290).size + 1) = False := eq_false (Nat.not_lt.2 c9)
    try have c9z := c9b2; simp only [ByteArray.size_append] at c9z; have c9b3 := c9z
    replace H := Option.bind_eq_some_iff.mp H
    obtain ⟨t291, A100, H⟩ := H
    try dsimp only at H
    have A10 := Aside0.mk A100
    clear A100
    by_cases c11 : ((t289 ++ t290) ++ (⟨#[41]⟩ : ByteArray)).size + t291.size ≤ 9223372036854775807
    ·rw [if_pos c11] at H
     have c11b0 := eq_true c11
     have c11b1 : decide (((t289 ++ t290) ++ (⟨#[41]⟩ : ByteArray)).size + t291.size ≤ 9223372036854775807) = true := decide_eq_true c11
     try have c11b2 : (9223372036854775807 < ((t289 ++ t290) ++ (⟨#[41]⟩ : ByteArray)).size + t291.size) = False := eq_false (Nat.not_lt.2 c11)
     try have c11z := c11b2; simp only [ByteArray.size_append, show (⟨#[41]⟩ : ByteArray).size = 1 from rfl] at c11z; have c11b3 := c11z
     obtain rfl := Option.some.inj H
     go_enter Tryd.func19, Tryd.ntmps19
     try go_wp2_with (first | ((with_reducible refine gate_dst (N := 1) rfl ?_); refine boxP_ (N := 1) (cs := #[.string a0_0, .int .i64 a0_1, .string a0_2, .string a0_3, .bool a0_4]) (t := 26) ?_; intro gb281 hg w12 hbox hb; have BK281 := Aside0.mk (hbox); have GE281 := geb_ (w := w) hg z0; replace HB := Aside0.mk (below_step z0 hb); clear hb hbox hg; obtain ⟨hcz13_0, hcz13_1, hcz13_2, hcz13_3, hcz13_4, hfz13_0, hfz13_1, hfz13_2, hfz13_3, hfz13_4⟩ := cells5_ BK281.out) | ((with_reducible refine gate_callee (f := 22) rfl ?_); refine goesQ_ 4 Tryd.func22 #[.agg #[.string a0_0, .int .i64 a0_1, .string a0_2, .string a0_3, .bool a0_4]] ?_; (with_reducible refine (impl_UrlOk.calls k a0_0 a0_1 a0_2 a0_3 a0_4 true _ ?side1 A2.out).mono ?_); (case side1 => exact Gl.below HG.out z10); rintro e w14 ⟨rfl, hb⟩; refine ⟨_, rfl, ?_⟩; replace BK281 := Aside0.mk (blk_below (g := gb281) (o := .cells #[.string a0_0, .int .i64 a0_1, .string a0_2, .string a0_3, .bool a0_4] 26 (0, 0)) z17 hb); replace HB := Aside0.mk (below_step z10 hb); (try clear hb)))
     have n0_ := Aside0.mk (blk_drew BK281.out)
     have n1_ := Aside0.mk (below_drew1 HB.out)
     clear BK281
     clear HB
     have BK281 := n0_
     have HB := n1_
     clear n0_ n1_
     refine start_ (n := 13) (S := fun w' => w'.cell? ⟨gb281, 0, none⟩ = some (.string a0_0) ∧ w'.cell? ⟨gb281, 1, none⟩ = some (.int .i64 a0_1) ∧ w'.cell? ⟨gb281, 2, none⟩ = some (.string a0_2) ∧ w'.cell? ⟨gb281, 3, none⟩ = some (.string a0_3) ∧ w'.cell? ⟨gb281, 4, none⟩ = some (.bool a0_4)) (ds := []) #[false, false, false, false, false, false, false, false, false, false, false, false, false] (by kernel_rfl) rfl rfl ⟨(blk_cell BK281.out 0).trans rfl, (blk_cell BK281.out 1).trans rfl, (blk_cell BK281.out 2).trans rfl, (blk_cell BK281.out 3).trans rfl, (blk_cell BK281.out 4).trans rfl⟩ (fun hHeld => ?_); refine with_tabW impl_Surt.tab3 impl_Surt.bits3 (fun HT_ HW_ => ?_)
     generalize w14.drew = w15 at BK281 HB hHeld ⊢
     refine pure_ (i := 0) (N := some 6) (v := ?_) (a' := ?_) #[true, false, false, false, false, false, false, false, false, false, false, false, false] rfl rfl (any_of HT_.out (by kernel_rfl)) (fun _ _ _ h => h) (Or.inl ⟨by rfl, ?_⟩) ?_ ?_
     rotate_left
     ·intro w'
      go_simp
      with_reducible rfl
     rotate_left
     ·simp only [Act.put, List.setIfInBounds_toArray, List.set_cons_zero, List.set_cons_succ, i64_w, i32_w]
      rfl
     refine take_ (i := 1) (N := some 7) (v := ?_) (a' := ?_) #[true, true, false, false, false, false, false, false, false, false, false, false, false] rfl rfl (take_ofW HT_.out HW_.out (by kernel_rfl)) (fun _ _ _ h => h) (Or.inl ⟨by rfl, ?_⟩) hHeld ?_ ?_
     rotate_left
     ·rintro w' ⟨s0, s1, s2, s3, s4⟩
      go_simp
      with_reducible rfl
     rotate_left
     ·simp only [Act.put, List.setIfInBounds_toArray, List.set_cons_zero, List.set_cons_succ, i64_w, i32_w]
      rfl
     refine take_ (i := 5) (N := some 11) (v := ?_) (a' := ?_) #[true, true, false, false, false, true, false, false, false, false, false, false, false] rfl rfl (take_ofW HT_.out HW_.out (by kernel_rfl)) (fun _ _ _ h => h) (Or.inl ⟨by rfl, ?_⟩) hHeld ?_ ?_
     rotate_left
     ·rintro w' ⟨s0, s1, s2, s3, s4⟩
      go_simp
      with_reducible rfl
     rotate_left
     ·simp only [Act.put, List.setIfInBounds_toArray, List.set_cons_zero, List.set_cons_succ, i64_w, i32_w]
      rfl
     refine take_ (i := 9) (N := some 15) (v := ?_) (a' := ?_) #[true, true, false, false, false, true, false, false, false, true, false, false, false] rfl rfl (take_ofW HT_.out HW_.out (by kernel_rfl)) (fun _ _ _ h => h) (Or.inl ⟨by rfl, ?_⟩) hHeld ?_ ?_
     rotate_left
     ·rintro w' ⟨s0, s1, s2, s3, s4⟩
      go_simp
      with_reducible rfl
     rotate_left
     ·simp only [Act.put, List.setIfInBounds_toArray, List.set_cons_zero, List.set_cons_succ, i64_w, i32_w]
      rfl
     refine one_ (i := 2) (N := some 8) #[true, true, true, false, false, true, false, false, false, true, false, false, false] rfl rfl (one_of HT_.out (by kernel_rfl)) (by decide) (fun K hK => ?_)
     refine goes_ Tryd.func43 (by kernel_rfl) rfl #[.string a0_0, .string (⟨#[46]⟩ : ByteArray)] (by rfl) rfl rfl z4 ?_
     with_reducible refine (strings_Split.calls a0_0 (⟨#[46]⟩ : ByteArray) t283 _ ?side1 A4.out).mono ?_
     (case side1 => exact Gl.below HG.out z10)
     rintro e w16 ⟨v284, rfl, ho0, hb⟩
     refine ⟨_, rfl, ?_⟩
     have n0_ := Aside0.mk (Kd.R_lower ho0 (below_size z10))
     have n1_ := Aside0.mk (blk_below (g := gb281) (o := .cells #[.string a0_0, .int .i64 a0_1, .string a0_2, .string a0_3, .bool a0_4] 26 (0, 0)) z17 hb)
     have n2_ := Aside0.mk (below_step z10 hb)
     clear BK281
     clear HB
     have HO285 := n0_
     have BK281 := n1_
     have HB := n2_
     clear n0_ n1_ n2_
     (try clear hb)
     (try clear hb2)
     (try clear hk)
     (try clear hi)
     (try clear ho0)
     obtain ⟨Ao17, co17, eo17⟩ := Kd.R_slice HO285.out
     (first | subst eo17 | (injection eo17 with f1_ f2_ f3_; have f4_ := f1_.symm; have f5_ := f3_.symm; clear f1_ f2_ f3_; subst f4_; subst f5_))
     refine hK.out _ _ ⟨(blk_cell BK281.out 0).trans rfl, (blk_cell BK281.out 1).trans rfl, (blk_cell BK281.out 2).trans rfl, (blk_cell BK281.out 3).trans rfl, (blk_cell BK281.out 4).trans rfl⟩ (fun hHeld => ?_)
     clear hK K
     refine norm_ (a' := ?_) ?_ ?_
     rotate_left
     ·show Act.put _ (some 8) _ = _
      simp only [Act.put, List.setIfInBounds_toArray, List.set_cons_zero, List.set_cons_succ, i64_w, i32_w]
      rfl
     refine one_ (i := 3) (N := some 9) #[true, true, true, true, false, true, false, false, false, true, false, false, false] rfl rfl (one_of HT_.out (by kernel_rfl)) (by decide) (fun K hK => ?_)
     refine goes_ Tryd.func42 (by kernel_rfl) rfl #[.slice Ao17 t283.length co17] (by rfl) rfl rfl z4 ?_
     with_reducible refine (impl_turned.calls k _ _ t283 t286 _ ?side1 ?side2 A5.out).mono ?_
     (case side1 => repeat (first | exact (Kd.R_reads' HO285.out).2.2 | (with_reducible refine Kd.C_alloc ?_ _) | (with_reducible refine Kd.C_drewN ?_ _) | (with_reducible refine Kd.C_drew ?_)))
     (case side2 => exact (Kd.R_reads' HO285.out).2.1)
     rintro e w18 ⟨v287, rfl, ho0, hb⟩
     refine ⟨_, rfl, ?_⟩
     have n0_ := Aside0.mk (Kd.R_elder' z29 (Kd.R_base ho0) hb)
     have n1_ := Aside0.mk (Kd.R_lower (Kd.R_new' ho0 (Kd.R_lt z29)) (below_size z10))
     have n2_ := Aside0.mk (blk_below (g := gb281) (o := .cells #[.string a0_0, .int .i64 a0_1, .string a0_2, .string a0_3, .bool a0_4] 26 (0, 0)) z17 hb)
     have n3_ := Aside0.mk (below_step z10 hb)
     clear HO285
     clear BK281
     clear HB
     have HO285 := n0_
     have HO288 := n1_
     have BK281 := n2_
     have HB := n3_
     clear n0_ n1_ n2_ n3_
     (try clear hb)
     (try clear hb2)
     (try clear hk)
     (try clear hi)
     (try clear ho0)
     obtain ⟨Ao19, co19, eo19⟩ := Kd.R_slice HO288.out
     (first | subst eo19 | (injection eo19 with f1_ f2_ f3_; have f4_ := f1_.symm; have f5_ := f3_.symm; clear f1_ f2_ f3_; subst f4_; subst f5_))
     refine hK.out _ _ ⟨(blk_cell BK281.out 0).trans rfl, (blk_cell BK281.out 1).trans rfl, (blk_cell BK281.out 2).trans rfl, (blk_cell BK281.out 3).trans rfl, (blk_cell BK281.out 4).trans rfl⟩ (fun hHeld => ?_)
     clear hK K
     refine norm_ (a' := ?_) ?_ ?_
     rotate_left
     ·show Act.put _ (some 9) _ = _
      simp only [Act.put, List.setIfInBounds_toArray, List.set_cons_zero, List.set_cons_succ, i64_w, i32_w]
      rfl
     refine one_ (i := 4) (N := some 10) #[true, true, true, true, true, true, false, false, false, true, false, false, false] rfl rfl (one_of HT_.out (by kernel_rfl)) (by decide) (fun K hK => ?_)
     refine goes_ Tryd.func41 (by kernel_rfl) rfl #[.slice Ao19 t286.length co19, .string (⟨#[44]⟩ : ByteArray)] (by rfl) rfl rfl z4 ?_
     with_reducible refine (strings_Join.calls _ _ t286 (⟨#[44]⟩ : ByteArray) t289 _ ?side1 ?side2 A6.out).mono ?_
     (case side1 => repeat (first | exact (Kd.R_reads' HO288.out).2.2 | (with_reducible refine Kd.C_alloc ?_ _) | (with_reducible refine Kd.C_drewN ?_ _) | (with_reducible refine Kd.C_drew ?_)))
     (case side2 => exact (Kd.R_reads' HO288.out).2.1)
     rintro e w20 ⟨rfl, hb⟩
     refine ⟨_, rfl, ?_⟩
     have n0_ := Aside0.mk (Kd.R_below z29 hb)
     have n1_ := Aside0.mk (Kd.R_below z43 hb)
     have n2_ := Aside0.mk (blk_below (g := gb281) (o := .cells #[.string a0_0, .int .i64 a0_1, .string a0_2, .string a0_3, .bool a0_4] 26 (0, 0)) z17 hb)
     have n3_ := Aside0.mk (below_step z10 hb)
     clear HO285
     clear HO288
     clear BK281
     clear HB
     have HO285 := n0_
     have HO288 := n1_
     have BK281 := n2_
     have HB := n3_
     clear n0_ n1_ n2_ n3_
     (try clear hb)
     (try clear hb2)
     (try clear hk)
     (try clear hi)
     refine hK.out _ _ ⟨(blk_cell BK281.out 0).trans rfl, (blk_cell BK281.out 1).trans rfl, (blk_cell BK281.out 2).trans rfl, (blk_cell BK281.out 3).trans rfl, (blk_cell BK281.out 4).trans rfl⟩ (fun hHeld => ?_)
     clear hK K
     refine norm_ (a' := ?_) ?_ ?_
     rotate_left
     ·show Act.put _ (some 10) _ = _
      simp only [Act.put, List.setIfInBounds_toArray, List.set_cons_zero, List.set_cons_succ, i64_w, i32_w]
      rfl
     refine one_ (i := 6) (N := some 12) #[true, true, true, true, true, true, true, false, false, true, false, false, false] rfl rfl (one_of HT_.out (by kernel_rfl)) (by decide) (fun K hK => ?_)
     refine goes_ Tryd.func23 (by kernel_rfl) rfl #[.agg #[.string a0_0, .int .i64 a0_1, .string a0_2, .string a0_3, .bool a0_4]] (by rfl) rfl rfl z4 ?_
     with_reducible refine (impl_portText.calls a0_0 a0_1 a0_2 a0_3 a0_4 t290 _ ?side1 A7.out).mono ?_
     (case side1 => exact Gl.below HG.out z10)
     rintro e w21 ⟨rfl, hb⟩
     refine ⟨_, rfl, ?_⟩
     have n0_ := Aside0.mk (Kd.R_below z29 hb)
     have n1_ := Aside0.mk (Kd.R_below z43 hb)
     have n2_ := Aside0.mk (blk_below (g := gb281) (o := .cells #[.string a0_0, .int .i64 a0_1, .string a0_2, .string a0_3, .bool a0_4] 26 (0, 0)) z17 hb)
     have n3_ := Aside0.mk (below_step z10 hb)
     clear HO285
     clear HO288
     clear BK281
     clear HB
     have HO285 := n0_
     have HO288 := n1_
     have BK281 := n2_
     have HB := n3_
     clear n0_ n1_ n2_ n3_
     (try clear hb)
     (try clear hb2)
     (try clear hk)
     (try clear hi)
     refine hK.out _ _ ⟨(blk_cell BK281.out 0).trans rfl, (blk_cell BK281.out 1).trans rfl, (blk_cell BK281.out 2).trans rfl, (blk_cell BK281.out 3).trans rfl, (blk_cell BK281.out 4).trans rfl⟩ (fun hHeld => ?_)
     clear hK K
     refine norm_ (a' := ?_) ?_ ?_
     rotate_left
     ·show Act.put _ (some 12) _ = _
      simp only [Act.put, List.setIfInBounds_toArray, List.set_cons_zero, List.set_cons_succ, i64_w, i32_w]
      rfl
     refine pure_ (i := 7) (N := some 13) (v := ?_) (a' := ?_) #[true, true, true, true, true, true, true, true, false, true, false, false, false] rfl rfl (any_of HT_.out (by kernel_rfl)) (fun _ _ _ h => h) (Or.inl ⟨by rfl, ?_⟩) ?_ ?_
     rotate_left
     ·intro w'
      go_simp
      with_reducible rfl
     rotate_left
     ·simp only [Act.put, List.setIfInBounds_toArray, List.set_cons_zero, List.set_cons_succ, i64_w, i32_w]
      rfl
     refine pure_ (i := 8) (N := some 14) (v := ?_) (a' := ?_) #[true, true, true, true, true, true, true, true, true, true, false, false, false] rfl rfl (any_of HT_.out (by kernel_rfl)) (fun _ _ _ h => h) (Or.inl ⟨by rfl, ?_⟩) ?_ ?_
     rotate_left
     ·intro w'
      go_simp
      with_reducible rfl
     rotate_left
     ·simp only [Act.put, List.setIfInBounds_toArray, List.set_cons_zero, List.set_cons_succ, i64_w, i32_w]
      rfl
     refine one_ (i := 10) (N := some 16) #[true, true, true, true, true, true, true, true, true, true, true, false, false] rfl rfl (one_of HT_.out (by kernel_rfl)) (by decide) (fun K hK => ?_)
     refine goes_ Tryd.func44 (by kernel_rfl) rfl #[.agg #[.string a0_0, .int .i64 a0_1, .string a0_2, .string a0_3, .bool a0_4]] (by rfl) rfl rfl z4 ?_
     with_reducible refine (impl_pathText.calls a0_0 a0_1 a0_2 a0_3 a0_4 t291 _ A10.out).mono ?_
     rintro e w22 ⟨rfl, hb⟩
     refine ⟨_, rfl, ?_⟩
     have n0_ := Aside0.mk (Kd.R_below z29 hb)
     have n1_ := Aside0.mk (Kd.R_below z43 hb)
     have n2_ := Aside0.mk (blk_below (g := gb281) (o := .cells #[.string a0_0, .int .i64 a0_1, .string a0_2, .string a0_3, .bool a0_4] 26 (0, 0)) z17 hb)
     have n3_ := Aside0.mk (below_step z10 hb)
     clear HO285
     clear HO288
     clear BK281
     clear HB
     have HO285 := n0_
     have HO288 := n1_
     have BK281 := n2_
     have HB := n3_
     clear n0_ n1_ n2_ n3_
     (try clear hb)
     (try clear hb2)
     (try clear hk)
     (try clear hi)
     refine hK.out _ _ ⟨(blk_cell BK281.out 0).trans rfl, (blk_cell BK281.out 1).trans rfl, (blk_cell BK281.out 2).trans rfl, (blk_cell BK281.out 3).trans rfl, (blk_cell BK281.out 4).trans rfl⟩ (fun hHeld => ?_)
     clear hK K
     refine norm_ (a' := ?_) ?_ ?_
     rotate_left
     ·show Act.put _ (some 16) _ = _
      simp only [Act.put, List.setIfInBounds_toArray, List.set_cons_zero, List.set_cons_succ, i64_w, i32_w]
      rfl
     refine pure_ (i := 11) (N := some 17) (v := ?_) (a' := ?_) #[true, true, true, true, true, true, true, true, true, true, true, true, false] rfl rfl (any_of HT_.out (by kernel_rfl)) (fun _ _ _ h => h) (Or.inl ⟨by rfl, ?_⟩) ?_ ?_
     rotate_left
     ·intro w'
      go_simp
      with_reducible rfl
     rotate_left
     ·simp only [Act.put, List.setIfInBounds_toArray, List.set_cons_zero, List.set_cons_succ, i64_w, i32_w]
      rfl
     refine pure_ (i := 12) (N := some 2) (v := ?_) (a' := ?_) #[true, true, true, true, true, true, true, true, true, true, true, true, true] rfl rfl (any_of HT_.out (by kernel_rfl)) (fun _ _ _ h => h) (Or.inl ⟨by rfl, ?_⟩) ?_ ?_
     rotate_left
     ·intro w'
      go_simp
      with_reducible rfl
     rotate_left
     ·simp only [Act.put, List.setIfInBounds_toArray, List.set_cons_zero, List.set_cons_succ, i64_w, i32_w]
      rfl
     refine done_ (done_of HT_.out (by kernel_rfl)) ?_
     try go_wp2
     go_ret
     exact ⟨z3, z10⟩
    ·rw [if_neg c11] at H
     exact absurd H (by simp)
   ·rw [if_neg c9] at H
    exact absurd H (by simp)
  ·rw [if_neg c8] at H
   exact absurd H (by simp)
 ·replace c3 := Bool.eq_false_iff.mpr c3
  subst c3
  rw [if_neg Bool.false_ne_true] at H
  obtain rfl := Option.some.inj H
  go_enter Tryd.func19, Tryd.ntmps19
  go_wp2_with (first | ((with_reducible refine gate_dst (N := 1) rfl ?_); refine boxP_ (N := 1) (cs := #[.string a0_0, .int .i64 a0_1, .string a0_2, .string a0_3, .bool a0_4]) (t := 26) ?_; intro gb281 hg w23 hbox hb; have BK281 := Aside0.mk (hbox); have GE281 := geb_ (w := w) hg z0; replace HB := Aside0.mk (below_step z0 hb); clear hb hbox hg; obtain ⟨hcz24_0, hcz24_1, hcz24_2, hcz24_3, hcz24_4, hfz24_0, hfz24_1, hfz24_2, hfz24_3, hfz24_4⟩ := cells5_ BK281.out) | ((with_reducible refine gate_callee (f := 22) rfl ?_); refine goesQ_ 4 Tryd.func22 #[.agg #[.string a0_0, .int .i64 a0_1, .string a0_2, .string a0_3, .bool a0_4]] ?_; (with_reducible refine (impl_UrlOk.calls k a0_0 a0_1 a0_2 a0_3 a0_4 false _ ?side1 A2.out).mono ?_); (case side1 => exact Gl.below HG.out z10); rintro e w25 ⟨rfl, hb⟩; refine ⟨_, rfl, ?_⟩; replace BK281 := Aside0.mk (blk_below (g := gb281) (o := .cells #[.string a0_0, .int .i64 a0_1, .string a0_2, .string a0_3, .bool a0_4] 26 (0, 0)) z17 hb); replace HB := Aside0.mk (below_step z10 hb); (try clear hb)))
  go_ret
  exact ⟨z3, z10⟩

/-! ### laws_FnExactSurt: function 6 -/
def laws_FnExactSurt.f (k : Nat) (a0_0 : ByteArray) (a0_1 : Int) (a0_2 : ByteArray) (a0_3 : ByteArray) (a0_4 : Bool) : Option (Bool) := (laws_szUrl.f a0_0 a0_1 a0_2 a0_3 a0_4 1048576).bind fun t293 => (if t293 < 0 then (some true) else ((laws_toUrl.f a0_0 a0_1 a0_2 a0_3 a0_4).bind fun bt294 => ((spec_Surt.f k bt294.1 bt294.2.1 bt294.2.2.1 bt294.2.2.2.1 bt294.2.2.2.2).bind fun t299 => ((laws_toUrl.f a0_0 a0_1 a0_2 a0_3 a0_4).bind fun bt300 => ((impl_Surt.f k bt300.1 bt300.2.1 bt300.2.2.1 bt300.2.2.2.1 bt300.2.2.2.2).bind fun t305 => (if t305.toList = t299.toList then (some true) else (some false)))))))
theorem laws_FnExactSurt.mono : ∀ a0 a1 a2 a3 a4 k, LeO (laws_FnExactSurt.f k a0 a1 a2 a3 a4) (laws_FnExactSurt.f (k + 1) a0 a1 a2 a3 a4) := by
 intro a0 a1 a2 a3 a4 k
 unfold laws_FnExactSurt.f
 repeat' first | (with_reducible first | exact impl_Surt.mono _ _ _ _ _ _ | exact spec_Surt.mono _ _ _ _ _ _ | exact LeO.refl _ | exact LeO.none _ | refine LeO.ite ?_ ?_ | refine LeO.bind ?_ (fun _ => ?_)) | exact impl_Surt.mono _ _ _ _ _ _ | exact spec_Surt.mono _ _ _ _ _ _ | exact LeO.none _ | refine LeO.ite ?_ ?_ | refine LeO.bind ?_ (fun _ => ?_)
set_option maxHeartbeats 8000000 in
set_option maxRecDepth 100000 in
theorem laws_FnExactSurt.calls (k : Nat) (a0_0 : ByteArray) (a0_1 : Int) (a0_2 : ByteArray) (a0_3 : ByteArray) (a0_4 : Bool) (r : Bool) (w : World) (hG : Gl w) (h : laws_FnExactSurt.f k a0_0 a0_1 a0_2 a0_3 a0_4 = some r) :
  Calls Tryd.prog 6 #[.agg #[.string a0_0, .int .i64 a0_1, .string a0_2, .string a0_3, .bool a0_4]] w fun e w' => e = .returned (.bool r) ∧ Below w.heap.size w w' := by
 have hu23 := Tryd.underlying23
 have HG := Aside0.mk hG
 clear hG
 have HB := Aside0.mk (Below.refl w.heap.size w)
 have H : ((laws_szUrl.f a0_0 a0_1 a0_2 a0_3 a0_4 1048576).bind fun t293 => (if t293 < 0 then (some true) else ((laws_toUrl.f a0_0 a0_1 a0_2 a0_3 a0_4).bind fun bt294 => ((spec_Surt.f k bt294.1 bt294.2.1 bt294.2.2.1 bt294.2.2.2.1 bt294.2.2.2.2).bind fun t299 => ((laws_toUrl.f a0_0 a0_1 a0_2 a0_3 a0_4).bind fun bt300 => ((impl_Surt.f k bt300.1 bt300.2.1 bt300.2.2.1 bt300.2.2.2.1 bt300.2.2.2.2).bind fun t305 => (if t305.toList = t299.toList then (some true) else (some false)))))))) = some r := h
 clear h
 replace H := Option.bind_eq_some_iff.mp H
 obtain ⟨t293, A20, H⟩ := H
 try dsimp only at H
 have A2 := Aside0.mk A20
 clear A20
 by_cases c3 : t293 < 0
 ·rw [if_pos c3] at H
  have c3b0 : decide (t293 < 0) = true := decide_eq_true c3
  clear c3
  obtain rfl := Option.some.inj H
  go_enter Tryd.func6, Tryd.ntmps6
  go_wp2_with (first | ((with_reducible refine gate_dst (N := 1) rfl ?_); refine boxP_ (N := 1) (cs := #[.string a0_0, .int .i64 a0_1, .string a0_2, .string a0_3, .bool a0_4]) (t := 23) ?_; intro gb292 hg w4 hbox hb; have BK292 := Aside0.mk (hbox); have GE292 := geb_ (w := w) hg z0; replace HB := Aside0.mk (below_step z0 hb); clear hb hbox hg; obtain ⟨hcz5_0, hcz5_1, hcz5_2, hcz5_3, hcz5_4, hfz5_0, hfz5_1, hfz5_2, hfz5_3, hfz5_4⟩ := cells5_ BK292.out) | ((with_reducible refine gate_callee (f := 7) rfl ?_); refine goesQ_ 8 Tryd.func7 #[.agg #[.string a0_0, .int .i64 a0_1, .string a0_2, .string a0_3, .bool a0_4], .int .i64 1048576] ?_; (with_reducible refine (laws_szUrl.calls a0_0 a0_1 a0_2 a0_3 a0_4 1048576 t293 _ A2.out).mono ?_); rintro e w6 ⟨rfl, hb⟩; refine ⟨_, rfl, ?_⟩; replace BK292 := Aside0.mk (blk_below (g := gb292) (o := .cells #[.string a0_0, .int .i64 a0_1, .string a0_2, .string a0_3, .bool a0_4] 23 (0, 0)) z13 hb); replace HB := Aside0.mk (below_step z9 hb); (try clear hb)))
  go_ret
  exact ⟨z3, z9⟩
 ·rw [if_neg c3] at H
  have c3b0 : decide (t293 < 0) = false := decide_eq_false c3
  clear c3
  replace H := Option.bind_eq_some_iff.mp H
  obtain ⟨⟨t294, t295, t296, t297, t298⟩, A70, H⟩ := H
  try dsimp only at H
  have A7 := Aside0.mk A70
  clear A70
  replace H := Option.bind_eq_some_iff.mp H
  obtain ⟨t299, A80, H⟩ := H
  try dsimp only at H
  have A8 := Aside0.mk A80
  clear A80
  replace H := Option.bind_eq_some_iff.mp H
  obtain ⟨⟨t300, t301, t302, t303, t304⟩, A90, H⟩ := H
  try dsimp only at H
  have A9 := Aside0.mk A90
  clear A90
  replace H := Option.bind_eq_some_iff.mp H
  obtain ⟨t305, A100, H⟩ := H
  try dsimp only at H
  have A10 := Aside0.mk A100
  clear A100
  by_cases c11 : t305.toList = t299.toList
  ·rw [if_pos c11] at H
   have c11b0 : (t305.toList == t299.toList) = true := beq_iff_eq.mpr c11
   have c11b1 : (t305.toList != t299.toList) = false := bne_eq_false_iff_eq.mpr c11
   clear c11
   obtain rfl := Option.some.inj H
   go_enter Tryd.func6, Tryd.ntmps6
   go_wp2_with (first | ((with_reducible refine gate_dst (N := 1) rfl ?_); refine boxP_ (N := 1) (cs := #[.string a0_0, .int .i64 a0_1, .string a0_2, .string a0_3, .bool a0_4]) (t := 23) ?_; intro gb292 hg w12 hbox hb; have BK292 := Aside0.mk (hbox); have GE292 := geb_ (w := w) hg z0; replace HB := Aside0.mk (below_step z0 hb); clear hb hbox hg; obtain ⟨hcz13_0, hcz13_1, hcz13_2, hcz13_3, hcz13_4, hfz13_0, hfz13_1, hfz13_2, hfz13_3, hfz13_4⟩ := cells5_ BK292.out) | ((with_reducible refine gate_callee (f := 7) rfl ?_); refine goesQ_ 8 Tryd.func7 #[.agg #[.string a0_0, .int .i64 a0_1, .string a0_2, .string a0_3, .bool a0_4], .int .i64 1048576] ?_; (with_reducible refine (laws_szUrl.calls a0_0 a0_1 a0_2 a0_3 a0_4 1048576 t293 _ A2.out).mono ?_); rintro e w14 ⟨rfl, hb⟩; refine ⟨_, rfl, ?_⟩; replace BK292 := Aside0.mk (blk_below (g := gb292) (o := .cells #[.string a0_0, .int .i64 a0_1, .string a0_2, .string a0_3, .bool a0_4] 23 (0, 0)) z13 hb); replace HB := Aside0.mk (below_step z9 hb); (try clear hb); obtain ⟨hcz15_0, hcz15_1, hcz15_2, hcz15_3, hcz15_4, hfz15_0, hfz15_1, hfz15_2, hfz15_3, hfz15_4⟩ := cells5_ BK292.out) | ((with_reducible refine gate_callee (f := 9) rfl ?_); refine goesQ_ 12 Tryd.func9 #[.agg #[.string a0_0, .int .i64 a0_1, .string a0_2, .string a0_3, .bool a0_4]] ?_; (with_reducible refine (laws_toUrl.calls a0_0 a0_1 a0_2 a0_3 a0_4 t294 t295 t296 t297 t298 _ A7.out).mono ?_); rintro e w16 ⟨rfl, hb⟩; refine ⟨_, rfl, ?_⟩; replace BK292 := Aside0.mk (blk_below (g := gb292) (o := .cells #[.string a0_0, .int .i64 a0_1, .string a0_2, .string a0_3, .bool a0_4] 23 (0, 0)) z13 hb); replace HB := Aside0.mk (below_step z9 hb); (try clear hb)) | ((with_reducible refine gate_callee (f := 18) rfl ?_); refine goesQ_ 13 Tryd.func18 #[.agg #[.string t294, .int .i64 t295, .string t296, .string t297, .bool t298]] ?_; (with_reducible refine (spec_Surt.calls k t294 t295 t296 t297 t298 t299 _ A8.out).mono ?_); rintro e w17 ⟨rfl, hb⟩; refine ⟨_, rfl, ?_⟩; replace BK292 := Aside0.mk (blk_below (g := gb292) (o := .cells #[.string a0_0, .int .i64 a0_1, .string a0_2, .string a0_3, .bool a0_4] 23 (0, 0)) z13 hb); replace HB := Aside0.mk (below_step z9 hb); (try clear hb); obtain ⟨hcz18_0, hcz18_1, hcz18_2, hcz18_3, hcz18_4, hfz18_0, hfz18_1, hfz18_2, hfz18_3, hfz18_4⟩ := cells5_ BK292.out) | ((with_reducible refine gate_callee (f := 9) rfl ?_); refine goesQ_ 15 Tryd.func9 #[.agg #[.string a0_0, .int .i64 a0_1, .string a0_2, .string a0_3, .bool a0_4]] ?_; (with_reducible refine (laws_toUrl.calls a0_0 a0_1 a0_2 a0_3 a0_4 t300 t301 t302 t303 t304 _ A9.out).mono ?_); rintro e w19 ⟨rfl, hb⟩; refine ⟨_, rfl, ?_⟩; replace BK292 := Aside0.mk (blk_below (g := gb292) (o := .cells #[.string a0_0, .int .i64 a0_1, .string a0_2, .string a0_3, .bool a0_4] 23 (0, 0)) z13 hb); replace HB := Aside0.mk (below_step z9 hb); (try clear hb)) | ((with_reducible refine gate_callee (f := 19) rfl ?_); refine goesQ_ 16 Tryd.func19 #[.agg #[.string t300, .int .i64 t301, .string t302, .string t303, .bool t304]] ?_; (with_reducible refine (impl_Surt.calls k t300 t301 t302 t303 t304 t305 _ ?side1 A10.out).mono ?_); (case side1 => exact Gl.below HG.out z9); rintro e w20 ⟨rfl, hb⟩; refine ⟨_, rfl, ?_⟩; replace BK292 := Aside0.mk (blk_below (g := gb292) (o := .cells #[.string a0_0, .int .i64 a0_1, .string a0_2, .string a0_3, .bool a0_4] 23 (0, 0)) z13 hb); replace HB := Aside0.mk (below_step z9 hb); (try clear hb)))
   go_ret
   exact ⟨z3, z9⟩
  ·rw [if_neg c11] at H
   have c11b0 : (t305.toList == t299.toList) = false := beq_eq_false_iff_ne.mpr c11
   have c11b1 : (t305.toList != t299.toList) = true := bne_iff_ne.mpr c11
   obtain rfl := Option.some.inj H
   go_enter Tryd.func6, Tryd.ntmps6
   go_wp2_with (first | ((with_reducible refine gate_dst (N := 1) rfl ?_); refine boxP_ (N := 1) (cs := #[.string a0_0, .int .i64 a0_1, .string a0_2, .string a0_3, .bool a0_4]) (t := 23) ?_; intro gb292 hg w21 hbox hb; have BK292 := Aside0.mk (hbox); have GE292 := geb_ (w := w) hg z0; replace HB := Aside0.mk (below_step z0 hb); clear hb hbox hg; obtain ⟨hcz22_0, hcz22_1, hcz22_2, hcz22_3, hcz22_4, hfz22_0, hfz22_1, hfz22_2, hfz22_3, hfz22_4⟩ := cells5_ BK292.out) | ((with_reducible refine gate_callee (f := 7) rfl ?_); refine goesQ_ 8 Tryd.func7 #[.agg #[.string a0_0, .int .i64 a0_1, .string a0_2, .string a0_3, .bool a0_4], .int .i64 1048576] ?_; (with_reducible refine (laws_szUrl.calls a0_0 a0_1 a0_2 a0_3 a0_4 1048576 t293 _ A2.out).mono ?_); rintro e w23 ⟨rfl, hb⟩; refine ⟨_, rfl, ?_⟩; replace BK292 := Aside0.mk (blk_below (g := gb292) (o := .cells #[.string a0_0, .int .i64 a0_1, .string a0_2, .string a0_3, .bool a0_4] 23 (0, 0)) z13 hb); replace HB := Aside0.mk (below_step z9 hb); (try clear hb); obtain ⟨hcz24_0, hcz24_1, hcz24_2, hcz24_3, hcz24_4, hfz24_0, hfz24_1, hfz24_2, hfz24_3, hfz24_4⟩ := cells5_ BK292.out) | ((with_reducible refine gate_callee (f := 9) rfl ?_); refine goesQ_ 12 Tryd.func9 #[.agg #[.string a0_0, .int .i64 a0_1, .string a0_2, .string a0_3, .bool a0_4]] ?_; (with_reducible refine (laws_toUrl.calls a0_0 a0_1 a0_2 a0_3 a0_4 t294 t295 t296 t297 t298 _ A7.out).mono ?_); rintro e w25 ⟨rfl, hb⟩; refine ⟨_, rfl, ?_⟩; replace BK292 := Aside0.mk (blk_below (g := gb292) (o := .cells #[.string a0_0, .int .i64 a0_1, .string a0_2, .string a0_3, .bool a0_4] 23 (0, 0)) z13 hb); replace HB := Aside0.mk (below_step z9 hb); (try clear hb)) | ((with_reducible refine gate_callee (f := 18) rfl ?_); refine goesQ_ 13 Tryd.func18 #[.agg #[.string t294, .int .i64 t295, .string t296, .string t297, .bool t298]] ?_; (with_reducible refine (spec_Surt.calls k t294 t295 t296 t297 t298 t299 _ A8.out).mono ?_); rintro e w26 ⟨rfl, hb⟩; refine ⟨_, rfl, ?_⟩; replace BK292 := Aside0.mk (blk_below (g := gb292) (o := .cells #[.string a0_0, .int .i64 a0_1, .string a0_2, .string a0_3, .bool a0_4] 23 (0, 0)) z13 hb); replace HB := Aside0.mk (below_step z9 hb); (try clear hb); obtain ⟨hcz27_0, hcz27_1, hcz27_2, hcz27_3, hcz27_4, hfz27_0, hfz27_1, hfz27_2, hfz27_3, hfz27_4⟩ := cells5_ BK292.out) | ((with_reducible refine gate_callee (f := 9) rfl ?_); refine goesQ_ 15 Tryd.func9 #[.agg #[.string a0_0, .int .i64 a0_1, .string a0_2, .string a0_3, .bool a0_4]] ?_; (with_reducible refine (laws_toUrl.calls a0_0 a0_1 a0_2 a0_3 a0_4 t300 t301 t302 t303 t304 _ A9.out).mono ?_); rintro e w28 ⟨rfl, hb⟩; refine ⟨_, rfl, ?_⟩; replace BK292 := Aside0.mk (blk_below (g := gb292) (o := .cells #[.string a0_0, .int .i64 a0_1, .string a0_2, .string a0_3, .bool a0_4] 23 (0, 0)) z13 hb); replace HB := Aside0.mk (below_step z9 hb); (try clear hb)) | ((with_reducible refine gate_callee (f := 19) rfl ?_); refine goesQ_ 16 Tryd.func19 #[.agg #[.string t300, .int .i64 t301, .string t302, .string t303, .bool t304]] ?_; (with_reducible refine (impl_Surt.calls k t300 t301 t302 t303 t304 t305 _ ?side1 A10.out).mono ?_); (case side1 => exact Gl.below HG.out z9); rintro e w29 ⟨rfl, hb⟩; refine ⟨_, rfl, ?_⟩; replace BK292 := Aside0.mk (blk_below (g := gb292) (o := .cells #[.string a0_0, .int .i64 a0_1, .string a0_2, .string a0_3, .bool a0_4] 23 (0, 0)) z13 hb); replace HB := Aside0.mk (below_step z9 hb); (try clear hb)))
   go_ret
   exact ⟨z3, z9⟩

/-- THE ONE PURE STATEMENT of laws_FnExactSurt. -/
def laws_FnExactSurt.Pure : Prop := ∀ (a0_0 : ByteArray) (a0_1 : Int) (a0_2 : ByteArray) (a0_3 : ByteArray) (a0_4 : Bool), ((a0_0.size ≤ 9223372036854775807) ∧ ((Lit.int .i64 a0_1).wf = true) ∧ (a0_2.size ≤ 9223372036854775807) ∧ (a0_3.size ≤ 9223372036854775807) ∧ (True)) → ∃ k, laws_FnExactSurt.f k a0_0 a0_1 a0_2 a0_3 a0_4 = some true
theorem laws_FnExactSurt.walk (P : laws_FnExactSurt.Pure) (a0_0 : ByteArray) (a0_1 : Int) (a0_2 : ByteArray) (a0_3 : ByteArray) (a0_4 : Bool) (w : World) (hG : Gl w) (ok_0 : (a0_0.size ≤ 9223372036854775807) ∧ ((Lit.int .i64 a0_1).wf = true) ∧ (a0_2.size ≤ 9223372036854775807) ∧ (a0_3.size ≤ 9223372036854775807) ∧ (True)) :
  Calls Tryd.prog 6 #[.agg #[.string a0_0, .int .i64 a0_1, .string a0_2, .string a0_3, .bool a0_4]] w fun e w' => e = .returned (.bool true) ∧ Below w.heap.size w w' := by
 obtain ⟨k, h⟩ := P a0_0 a0_1 a0_2 a0_3 a0_4 ok_0
 refine (laws_FnExactSurt.calls k a0_0 a0_1 a0_2 a0_3 a0_4 true w hG h).mono ?_
 rintro e w' ⟨rfl, hd⟩
 exact ⟨rfl, hd⟩

end Go.Proofs.YtjifjfgehabkcaaDoor.GFnExactSurt
