-- Laid by gen.py of this session (over the kit's printing program): what the law FnCanons reaches, as Lean functions, and that Go comes to just that.
import Derived.Test.YtkkolioolgpljaaGreatDoorGFnCanonsx0
import Derived.Test.YtkkolioolgpljaaGreatDoorGFnCanonsx2
import Derived.Test.YtkkolioolgpljaaGreatDoorGFnCanonsx3
import Derived.Test.YtkkolioolgpljaaGreatDoorGFnCanonsx7
import Derived.Test.YtkkolioolgpljaaGreatDoorZFnCanons
namespace Go.Proofs.YtkkolioolgpljaaGreatDoor.GFnCanons
open Go.RowKit Go.Proofs.YtkkolioolgpljaaGreatDoorW.PrintWords Go.Proofs.YtkkolioolgpljaaGreatDoorW.PrintLast Go.Proofs.YtkkolioolgpljaaGreatDoorW.PrintMore Go.Proofs.YtkkolioolgpljaaGreatDoorW.Zs
attribute [local go_sem] max2_int min2_int max_two min_two max_three min_three max_four min_four   -- for this text's walks alone
set_option linter.unusedVariables false
set_option linter.unusedSimpArgs false

/-! ### impl_UrlText: function 7 -/
def impl_UrlText.f (k : Nat) (a0_0 : ByteArray) (a0_1 : Int) (a0_2 : ByteArray) (a0_3 : ByteArray) (a0_4 : Bool) : Option (ByteArray) := (impl_UrlOk.f k a0_0 a0_1 a0_2 a0_3 a0_4).bind fun t176 => (if t176 = true then ((impl_urlText.f a0_0 a0_1 a0_2 a0_3 a0_4).bind fun t177 => (some t177)) else (some (⟨#[]⟩ : ByteArray)))
theorem impl_UrlText.mono : ∀ a0 a1 a2 a3 a4 k, LeO (impl_UrlText.f k a0 a1 a2 a3 a4) (impl_UrlText.f (k + 1) a0 a1 a2 a3 a4) := by
 intro a0 a1 a2 a3 a4 k
 unfold impl_UrlText.f
 repeat' first | (with_reducible first | exact impl_UrlOk.mono _ _ _ _ _ _ | exact LeO.refl _ | exact LeO.none _ | refine LeO.ite ?_ ?_ | refine LeO.bind ?_ (fun _ => ?_)) | exact impl_UrlOk.mono _ _ _ _ _ _ | exact LeO.none _ | refine LeO.ite ?_ ?_ | refine LeO.bind ?_ (fun _ => ?_)
set_option maxHeartbeats 8000000 in
set_option maxRecDepth 100000 in
theorem impl_UrlText.calls (k : Nat) (a0_0 : ByteArray) (a0_1 : Int) (a0_2 : ByteArray) (a0_3 : ByteArray) (a0_4 : Bool) (r : ByteArray) (w : World) (hG : Gl w) (h : impl_UrlText.f k a0_0 a0_1 a0_2 a0_3 a0_4 = some r) :
  Calls Tryz.prog 7 #[.agg #[.string a0_0, .int .i64 a0_1, .string a0_2, .string a0_3, .bool a0_4]] w fun e w' => e = .returned (.string r) ∧ Below w.heap.size w w' := by
 have hu24 := Tryz.underlying24
 have HG := Aside0.mk hG
 clear hG
 have HB := Aside0.mk (Below.refl w.heap.size w)
 have H : ((impl_UrlOk.f k a0_0 a0_1 a0_2 a0_3 a0_4).bind fun t176 => (if t176 = true then ((impl_urlText.f a0_0 a0_1 a0_2 a0_3 a0_4).bind fun t177 => (some t177)) else (some (⟨#[]⟩ : ByteArray)))) = some r := h
 clear h
 replace H := Option.bind_eq_some_iff.mp H
 obtain ⟨t176, A20, H⟩ := H
 try dsimp only at H
 have A2 := Aside0.mk A20
 clear A20
 by_cases c3 : t176 = true
 ·subst c3
  rw [if_pos rfl] at H
  replace H := Option.bind_eq_some_iff.mp H
  obtain ⟨t177, A40, H⟩ := H
  try dsimp only at H
  have A4 := Aside0.mk A40
  clear A40
  obtain rfl := Option.some.inj H
  go_enter Tryz.func7, Tryz.ntmps7
  go_wp2_with (first | ((with_reducible refine gate_dst (N := 1) rfl ?_); refine boxP_ (N := 1) (cs := #[.string a0_0, .int .i64 a0_1, .string a0_2, .string a0_3, .bool a0_4]) (t := 24) ?_; intro gb175 hg w5 hbox hb; have BK175 := Aside0.mk (hbox); have GE175 := geb_ (w := w) hg z0; replace HB := Aside0.mk (below_step z0 hb); clear hb hbox hg; obtain ⟨hcz6_0, hcz6_1, hcz6_2, hcz6_3, hcz6_4, hfz6_0, hfz6_1, hfz6_2, hfz6_3, hfz6_4⟩ := cells5_ BK175.out) | ((with_reducible refine gate_callee (f := 23) rfl ?_); refine goesQ_ 4 Tryz.func23 #[.agg #[.string a0_0, .int .i64 a0_1, .string a0_2, .string a0_3, .bool a0_4]] ?_; (with_reducible refine (impl_UrlOk.calls k a0_0 a0_1 a0_2 a0_3 a0_4 true _ ?side1 A2.out).mono ?_); (case side1 => exact Gl.below HG.out z35); rintro e w7 ⟨rfl, hb⟩; refine ⟨_, rfl, ?_⟩; replace BK175 := Aside0.mk (blk_below (g := gb175) (o := .cells #[.string a0_0, .int .i64 a0_1, .string a0_2, .string a0_3, .bool a0_4] 24 (0, 0)) z77 hb); replace HB := Aside0.mk (below_step z35 hb); (try clear hb); obtain ⟨hcz8_0, hcz8_1, hcz8_2, hcz8_3, hcz8_4, hfz8_0, hfz8_1, hfz8_2, hfz8_3, hfz8_4⟩ := cells5_ BK175.out) | ((with_reducible refine gate_callee (f := 24) rfl ?_); refine goesQ_ 7 Tryz.func24 #[.agg #[.string a0_0, .int .i64 a0_1, .string a0_2, .string a0_3, .bool a0_4]] ?_; (with_reducible refine (impl_urlText.calls a0_0 a0_1 a0_2 a0_3 a0_4 t177 _ ?side1 A4.out).mono ?_); (case side1 => exact Gl.below HG.out z35); rintro e w9 ⟨rfl, hb⟩; refine ⟨_, rfl, ?_⟩; replace BK175 := Aside0.mk (blk_below (g := gb175) (o := .cells #[.string a0_0, .int .i64 a0_1, .string a0_2, .string a0_3, .bool a0_4] 24 (0, 0)) z77 hb); replace HB := Aside0.mk (below_step z35 hb); (try clear hb)))
  go_ret
  exact ⟨z4, z35⟩
 ·replace c3 := Bool.eq_false_iff.mpr c3
  subst c3
  rw [if_neg Bool.false_ne_true] at H
  obtain rfl := Option.some.inj H
  go_enter Tryz.func7, Tryz.ntmps7
  go_wp2_with (first | ((with_reducible refine gate_dst (N := 1) rfl ?_); refine boxP_ (N := 1) (cs := #[.string a0_0, .int .i64 a0_1, .string a0_2, .string a0_3, .bool a0_4]) (t := 24) ?_; intro gb175 hg w10 hbox hb; have BK175 := Aside0.mk (hbox); have GE175 := geb_ (w := w) hg z0; replace HB := Aside0.mk (below_step z0 hb); clear hb hbox hg; obtain ⟨hcz11_0, hcz11_1, hcz11_2, hcz11_3, hcz11_4, hfz11_0, hfz11_1, hfz11_2, hfz11_3, hfz11_4⟩ := cells5_ BK175.out) | ((with_reducible refine gate_callee (f := 23) rfl ?_); refine goesQ_ 4 Tryz.func23 #[.agg #[.string a0_0, .int .i64 a0_1, .string a0_2, .string a0_3, .bool a0_4]] ?_; (with_reducible refine (impl_UrlOk.calls k a0_0 a0_1 a0_2 a0_3 a0_4 false _ ?side1 A2.out).mono ?_); (case side1 => exact Gl.below HG.out z35); rintro e w12 ⟨rfl, hb⟩; refine ⟨_, rfl, ?_⟩; replace BK175 := Aside0.mk (blk_below (g := gb175) (o := .cells #[.string a0_0, .int .i64 a0_1, .string a0_2, .string a0_3, .bool a0_4] 24 (0, 0)) z77 hb); replace HB := Aside0.mk (below_step z35 hb); (try clear hb)))
  go_ret
  exact ⟨z4, z35⟩

/-! ### slices_Reverse_string_string: function 59 -/
def slices_Reverse_string_string.l0 : Nat → List ByteArray → Int → Int → Option (List ByteArray)
 | 0, _, _, _ => none
 | k + 1, x0, x2, x3 => if x2 < x3 then (if 0 ≤ x3 then (if x3 < (x0.length : Int) then (if 0 ≤ x2 then (if x2 < (x0.length : Int) then (slices_Reverse_string_string.l0 k ((x0.set (x2 : Int).toNat (rdOf ByteArray.empty x0 x3)).set (x3 : Int).toNat (rdOf ByteArray.empty x0 x2)) (wrap64 (x2 + 1)) (wrap64 (x3 - 1))) else (none)) else (none)) else (none)) else (none)) else (some x0)
def slices_Reverse_string_string.f (k : Nat) (l0 : List ByteArray) : Option (List ByteArray) := slices_Reverse_string_string.l0 k l0 0 (wrap64 ((l0.length : Int) - 1))
theorem slices_Reverse_string_string.mono_l : ∀ k, (∀ y0 y1 y2, LeO (slices_Reverse_string_string.l0 k y0 y1 y2) (slices_Reverse_string_string.l0 (k + 1) y0 y1 y2))
 | 0 => fun _ _ _ r h => by simp [slices_Reverse_string_string.l0] at h
 | k + 1 => by
  have ih0 := slices_Reverse_string_string.mono_l k
  ·intro y0 y1 y2
   unfold slices_Reverse_string_string.l0
   repeat' first | (with_reducible first | exact ih0 _ _ _ | exact LeO.refl _ | exact LeO.none _ | refine LeO.ite ?_ ?_ | refine LeO.bind ?_ (fun _ => ?_)) | exact ih0 _ _ _ | exact LeO.none _ | refine LeO.ite ?_ ?_ | refine LeO.bind ?_ (fun _ => ?_)
theorem slices_Reverse_string_string.mono : ∀ a0 k, LeO (slices_Reverse_string_string.f k a0) (slices_Reverse_string_string.f (k + 1) a0) := by
 intro a0 k
 have ih0 := slices_Reverse_string_string.mono_l k
 unfold slices_Reverse_string_string.f
 repeat' first | (with_reducible first | exact ih0 _ _ _ | exact LeO.refl _ | exact LeO.none _ | refine LeO.ite ?_ ?_ | refine LeO.bind ?_ (fun _ => ?_)) | exact ih0 _ _ _ | exact LeO.none _ | refine LeO.ite ?_ ?_ | refine LeO.bind ?_ (fun _ => ?_)
def slices_Reverse_string_string.T3 : Bool × List (List Nat × List Nat) := (true, [([], []), ([], []), ([], []), ([], []), ([], []), ([], []), ([4, 5], [4, 5]), ([6], [6]), ([], []), ([], []), ([8, 9], [8, 9]), ([10], [10]), ([0, 1, 0, 1, 4, 5, 6, 7, 11], [0, 1]), ([12, 7, 0, 1, 4, 5, 6, 7, 11], [7, 12]), ([2, 3, 0, 1, 2, 3, 4, 5, 6, 7, 8, 9, 10, 11, 12, 13], [2, 3]), ([14, 11, 13, 0, 1, 2, 3, 4, 5, 6, 7, 8, 9, 10, 11, 12, 13], [11, 14])])
def slices_Reverse_string_string.B3 : List Nat := [0, 0, 0, 0, 0, 0, 48, 112, 0, 0, 768, 1792, 4083, 8179, 16383, 32767]
theorem slices_Reverse_string_string.tab3 : rtab .any (opsOf Tryz.f59 3) = slices_Reverse_string_string.T3 := by kernel_rfl
theorem slices_Reverse_string_string.bits3 : waitsOk slices_Reverse_string_string.T3.2 slices_Reverse_string_string.B3 = true := by kernel_rfl
set_option maxHeartbeats 8000000 in
set_option maxRecDepth 100000 in
theorem slices_Reverse_string_string.calls (k : Nat) (P0_ : Nat → Prop) (u9000_ : Value) (l0 : List ByteArray) (r : List ByteArray) (w0 w : World) (hB : Below w0.heap.size w0 w) (ho0 : Kd.R Kd.string 9 w w0.heap.size P0_ u9000_ l0) (h : slices_Reverse_string_string.f k l0 = some r) :
  Calls Tryz.prog 59 #[u9000_] w fun e w' => e = .returned (.tuple #[]) ∧ Kd.R Kd.string 9 w' w0.heap.size (fun k_ => (P0_ k_ ∨ w.heap.size ≤ k_)) u9000_ r ∧ Below w0.heap.size w0 w' ∧ Kept w w' (fun k_ => P0_ k_) := by
 have HO0 := Aside0.mk (show Kd.R Kd.string 9 w w0.heap.size (fun k_ => (P0_ k_ ∨ w.heap.size ≤ k_)) u9000_ l0 from Kd.R_mono ho0 (fun k_ hk => (.inl hk)))
 have HK := Aside0.mk (Kept.refl w (fun k_ => P0_ k_))
 have HW0 := Aside0.mk hB.size
 have HB := Aside0.mk hB
 clear hB
 have H : (slices_Reverse_string_string.l0 k l0 0 (wrap64 ((l0.length : Int) - 1))) = some r := h
 clear h
 have H' := Aside0.mk H
 clear H
 obtain ⟨Ao2, co2, eo2⟩ := Kd.R_slice HO0.out
 subst eo2
 go_enter Tryz.func59, Tryz.ntmps59
 go_wp2
 go_loopg [2, 3] k (fun kq v2 v3 w' => ∃ (x0_1 : List ByteArray) (x2_1 : Int) (x3_1 : Int), v2 = .int .i64 x2_1 ∧ v3 = .int .i64 x3_1 ∧ Aside0 (slices_Reverse_string_string.l0 kq x0_1 x2_1 x3_1 = some r) ∧ Aside0 (kq ≤ k) ∧ Aside0 (Kd.R Kd.string 9 w' w0.heap.size (fun k_ => (P0_ k_ ∨ w.heap.size ≤ k_)) (.slice Ao2 l0.length co2) x0_1) ∧ Aside0 (Kept w w' (fun k_ => P0_ k_)) ∧ Aside0 (Below w0.heap.size w0 w'))
 case atStart => exact ⟨(l0), (0), (wrap64 ((l0.length : Int) - 1)), z5, z5, H', ⟨Nat.le_refl _⟩, ⟨by (with_reducible repeat (first | apply Kd.R_alloc | apply Kd.R_drewN | apply Kd.R_drew)); exact HO0.out⟩, ⟨z102⟩, ⟨z0⟩⟩
 case round =>
  clear H'
  try clear p2
  obtain ⟨x0_1, x2_1, x3_1, rfl, rfl, HA, HK1, HO_0, HK, HB⟩ := hrel
  have hl0_1 := (Kd.R_reads' HO_0.out).1
  rw [hl0_1] at HO_0
  (try simp only [hl0_1])
  cases gk with
  | zero => exact absurd HA.out (by simp [slices_Reverse_string_string.l0])
  | succ k1 =>
   have H := HA.out
   clear HA
   simp only [slices_Reverse_string_string.l0] at H
   by_cases c3 : x2_1 < x3_1
   ·rw [if_pos c3] at H
    have c3b0 : decide (x2_1 < x3_1) = true := decide_eq_true c3
    clear c3
    by_cases c4 : 0 ≤ x3_1
    ·rw [if_pos c4] at H
     have c4b0 : decide (0 ≤ x3_1) = true := decide_eq_true c4
     clear c4
     by_cases c5 : x3_1 < (x0_1.length : Int)
     ·rw [if_pos c5] at H
      have c5b0 : decide (x3_1 < (x0_1.length : Int)) = true := decide_eq_true c5
      clear c5
      by_cases c6 : 0 ≤ x2_1
      ·rw [if_pos c6] at H
       have c6b0 : decide (0 ≤ x2_1) = true := decide_eq_true c6
       clear c6
       by_cases c7 : x2_1 < (x0_1.length : Int)
       ·rw [if_pos c7] at H
        have c7b0 : decide (x2_1 < (x0_1.length : Int)) = true := decide_eq_true c7
        clear c7
        obtain ⟨y180, hy180⟩ : ∃ y_ : List ByteArray, y_ = (x0_1.set (x2_1 : Int).toNat (rdOf ByteArray.empty x0_1 x3_1)) := ⟨_, rfl⟩
        replace H : (slices_Reverse_string_string.l0 k1 (y180.set (x3_1 : Int).toNat (rdOf ByteArray.empty x0_1 x2_1)) (wrap64 (x2_1 + 1)) (wrap64 (x3_1 - 1))) = some r := by first | (rw [hy180]; with_reducible exact H) | (have H2_ := (Option.bind_some _ _).symm.trans H; rw [hy180]; with_reducible exact H2_) | (have H2_ := (Option.bind_some _ _).symm.trans H; with_reducible exact H2_) | with_reducible exact H | (rw [hy180]; exact H) | exact H
        have Ny180 := Aside0.mk hy180
        clear hy180
        obtain ⟨y181, hy181⟩ : ∃ y_ : List ByteArray, y_ = (y180.set (x3_1 : Int).toNat (rdOf ByteArray.empty x0_1 x2_1)) := ⟨_, rfl⟩
        replace H : (slices_Reverse_string_string.l0 k1 y181 (wrap64 (x2_1 + 1)) (wrap64 (x3_1 - 1))) = some r := by first | (rw [hy181]; with_reducible exact H) | (have H2_ := (Option.bind_some _ _).symm.trans H; rw [hy181]; with_reducible exact H2_) | (have H2_ := (Option.bind_some _ _).symm.trans H; with_reducible exact H2_) | with_reducible exact H | (rw [hy181]; exact H) | exact H
        have Ny181 := Aside0.mk hy181
        clear hy181
        have H' := Aside0.mk H
        clear H
        try go_wp2
        have n0_ := Aside0.mk (Kd.R_drew HO_0.out)
        have n1_ := Aside0.mk (Kept.drew HK.out)
        have n2_ := Aside0.mk (below_drew1 HB.out)
        clear HO_0
        clear HK
        clear HB
        have HO_0 := n0_
        have HK := n1_
        have HB := n2_
        clear n0_ n1_ n2_
        have p178 : 0 ≤ (x3_1 : Int) := of_decide_eq_true z3
        have q178 : x3_1 < (x0_1.length : Int) := of_decide_eq_true z3
        obtain ⟨ad178, e178, hx178_0⟩ := Kd.at_string (Kd.R_reads' HO_0.out).2.2 x3_1 p178 q178
        cases e178
        replace p178 := eq_true p178
        replace q178 := eq_true q178
        have p179 : 0 ≤ (x2_1 : Int) := of_decide_eq_true z3
        have q179 : x2_1 < (x0_1.length : Int) := of_decide_eq_true z3
        obtain ⟨ad179, e179, hx179_0⟩ := Kd.at_string (Kd.R_reads' HO_0.out).2.2 x2_1 p179 q179
        obtain rfl : ad178 = ad179 := (by injection e179)
        replace p179 := eq_true p179
        replace q179 := eq_true q179
        have p8 : 0 ≤ (x2_1 : Int) := of_decide_eq_true z3
        have q8 : (x2_1 : Int) < ((x0_1.length : Int) : Int) := of_decide_eq_true z3
        obtain ⟨go8, co8, eo8, gb8, gl8, cl8, HG8⟩ := Kd.R_form HO_0.out (by omega)
        (first | cases eo8 | (injection eo8 with ea_ en_ ec_; (first | subst ea_ | (injection ea_ with ea_; subst ea_)); subst ec_; clear en_))
        have GB8 := Aside0.mk gb8
        have GG8 := Aside0.mk HG8
        clear gb8 gl8 HG8
        have HMgo8 := Aside0.mk (show (P0_ go8 ∨ w.heap.size ≤ go8) from (HO_0.out.1 _ rfl))
        (first | simp only [add_plain] at hx178_0 | skip)
        (first | simp only [add_plain] at hx179_0 | skip)
        obtain ⟨hx8_0, hf8_0⟩ := Kd.R_celln (⟨#[]⟩ : ByteArray) HO_0.out (x2_1 : Int) p8 q8
        replace p8 := eq_true p8
        replace q8 := eq_true q8
        have HP11 := Kd.R_putn HO_0.out (x2_1 : Int) (rdOf ByteArray.empty x0_1 x3_1)
        rw [← Ny180.out] at HP11
        have HQ11 := Aside0.mk HP11
        clear HP11
        have p9 : 0 ≤ (x3_1 : Int) := of_decide_eq_true z3
        have q9 : (x3_1 : Int) < ((x0_1.length : Int) : Int) := of_decide_eq_true z3
        obtain ⟨hx9_0, hf9_0⟩ := Kd.R_celln (⟨#[]⟩ : ByteArray) HQ11.out (x3_1 : Int) p9 q9
        replace p9 := eq_true p9
        replace q9 := eq_true q9
        have HP12 := Kd.R_putn HQ11.out (x3_1 : Int) (rdOf ByteArray.empty x0_1 x2_1)
        rw [← Ny181.out] at HP12
        have HQ12 := Aside0.mk HP12
        clear HP12
        refine start_ (n := 16) (S := fun w' => w'.cell? ⟨go8, (x3_1).toNat, none⟩ = some (.string (rdOf ByteArray.empty x0_1 x3_1)) ∧ w'.cell? ⟨go8, (x2_1).toNat, none⟩ = some (.string (rdOf ByteArray.empty x0_1 x2_1))) (ds := [13, 15]) #[false, false, false, false, false, false, false, false, false, false, false, false, false, false, false, false] (by kernel_rfl) rfl rfl ⟨hx178_0, hx179_0⟩ (fun hHeld => ?_); refine with_tabW slices_Reverse_string_string.tab3 slices_Reverse_string_string.bits3 (fun HT_ HW_ => ?_)
        generalize wr.drew = w10 at HO_0 HK HB GG8 HQ11 HQ12 hf8_0 hf9_0 hx178_0 hx179_0 hx8_0 hx9_0 hHeld ⊢
        refine pz 0 14 ?_
        refine pz 1 15 ?_
        refine pz 2 16 ?_
        refine pz 3 17 ?_
        refine pz 4 18 ?_
        refine pz 5 19 ?_
        refine pz 6 20 ?_
        refine pz 8 22 ?_
        refine pz 9 23 ?_
        refine pz 10 24 ?_
        refine tk (i := 7) (N := some 21) (v := ?_) (a' := ?_) rfl rfl (take_ofW HT_.out HW_.out (by kernel_rfl)) (Or.inl ⟨by rfl, ?_⟩) hHeld ?_ ?_
        rotate_left
        ·rintro w' ⟨s0, s1⟩
         go_simp
         with_reducible rfl
        rotate_left
        ·simp only [Act.put, List.setIfInBounds_toArray, List.set_cons_zero, List.set_cons_succ, i64_w, i32_w]
         rfl
        refine tk (i := 11) (N := some 25) (v := ?_) (a' := ?_) rfl rfl (take_ofW HT_.out HW_.out (by kernel_rfl)) (Or.inl ⟨by rfl, ?_⟩) hHeld ?_ ?_
        rotate_left
        ·rintro w' ⟨s0, s1⟩
         go_simp
         with_reducible rfl
        rotate_left
        ·simp only [Act.put, List.setIfInBounds_toArray, List.set_cons_zero, List.set_cons_succ, i64_w, i32_w]
         rfl
        refine pz 12 26 ?_
        refine last_ (i := 13) (N := none) #[true, true, true, true, true, true, true, true, true, true, true, true, true, true, false, false] rfl rfl (one_of HT_.out (by kernel_rfl)) (by decide) (fun K hK => ?_)
        refine skip_ (w1 := ?_) (by rfl) rfl ?_ ?_
        rotate_left
        ·go_simp
         rfl
        refine hK.out _ _ ?_
        clear hK K
        refine pz 14 27 ?_
        refine last_ (i := 15) (N := none) #[true, true, true, true, true, true, true, true, true, true, true, true, true, true, true, true] rfl rfl (one_of HT_.out (by kernel_rfl)) (by decide) (fun K hK => ?_)
        refine skip_ (w1 := ?_) (by rfl) rfl ?_ ?_
        rotate_left
        ·go_simp
         rfl
        refine hK.out _ _ ?_
        clear hK K
        refine done_ (done_of HT_.out (by kernel_rfl)) ?_
        try go_wp2
        (try simp only [← hl0_1])
        go_roundg k1
        case measure => have := HK1.out; omega
        case rel => exact ⟨(y181), (wrap64 (x2_1 + 1)), (wrap64 (x3_1 - 1)), z5, z5, H', ⟨z73⟩, ⟨by (try simp only [hl0_1]); (with_reducible repeat (first | apply Kd.R_alloc | apply Kd.R_drewN | apply Kd.R_drew)); exact HQ12.out⟩, ⟨by repeat (first | (with_reducible first | exact HK.out | apply Kept.alloc | apply Kept.drewN | apply Kept.drew | refine Kept.setCell ?_ HMgo8.out _ | refine Kept.setCell ?_ HMgo8.out _) | exact HK.out)⟩, ⟨by repeat (first | (with_reducible first | exact HB.out | apply below_alloc | apply pw_below_drewN | apply below_drew1 | refine below_set ?_ GB8.out | refine below_set ?_ GB8.out) | exact HB.out)⟩⟩
       ·rw [if_neg c7] at H
        exact absurd H (by simp)
      ·rw [if_neg c6] at H
       exact absurd H (by simp)
     ·rw [if_neg c5] at H
      exact absurd H (by simp)
    ·rw [if_neg c4] at H
     exact absurd H (by simp)
   ·rw [if_neg c3] at H
    have c3b0 : decide (x2_1 < x3_1) = false := decide_eq_false c3
    clear c3
    obtain rfl := Option.some.inj H
    go_wp2
    first | go_end0 | ((try simp only [Exit.inBlock, Exit.then]); refine bodyPost_ret (results_none rfl _ _ _) rfl ?_)
    exact ⟨z4, (by first | exact (by (with_reducible repeat (first | apply Kd.R_alloc | apply Kd.R_drewN | apply Kd.R_drew)); exact HO_0.out) | (simp only [hl0_1]; exact (by (with_reducible repeat (first | apply Kd.R_alloc | apply Kd.R_drewN | apply Kd.R_drew)); exact HO_0.out))), z0, z102⟩

/-! ### impl_turned: function 26 -/
def impl_turned.f (k : Nat) (l0 : List ByteArray) : Option (List ByteArray) := (some (([] : List ByteArray) : List ByteArray)).bind fun y182 => (if y182.length + l0.length < 8796093022208 then ((slices_Reverse_string_string.f k (y182 ++ l0)).bind fun t188 => (some t188)) else (none))
theorem impl_turned.mono : ∀ a0 k, LeO (impl_turned.f k a0) (impl_turned.f (k + 1) a0) := by
 intro a0 k
 unfold impl_turned.f
 repeat' first | (with_reducible first | exact slices_Reverse_string_string.mono _ _ | exact LeO.refl _ | exact LeO.none _ | refine LeO.ite ?_ ?_ | refine LeO.bind ?_ (fun _ => ?_)) | exact slices_Reverse_string_string.mono _ _ | exact LeO.none _ | refine LeO.ite ?_ ?_ | refine LeO.bind ?_ (fun _ => ?_)
set_option maxHeartbeats 8000000 in
set_option maxRecDepth 100000 in
theorem impl_turned.calls (k : Nat) (A0 : Option Addr) (c0 : Nat) (l0 : List ByteArray) (r : List ByteArray) (w : World) (hr0 : Kd.C Kd.string w A0 l0.length l0) (hc0 : l0.length ≤ c0) (h : impl_turned.f k l0 = some r) :
  Calls Tryz.prog 26 #[.slice A0 l0.length c0] w fun e w' => ∃ v0_ : Value, e = .returned (v0_) ∧ Kd.R Kd.string 9 w' w.heap.size (fun _ => True) v0_ r ∧ Below w.heap.size w w' := by
 have HR0 := Aside0.mk hr0
 have HC0 := Aside0.mk hc0
 clear hr0 hc0
 have HB := Aside0.mk (Below.refl w.heap.size w)
 have H : ((some (([] : List ByteArray) : List ByteArray)).bind fun y182 => (if y182.length + l0.length < 8796093022208 then ((slices_Reverse_string_string.f k (y182 ++ l0)).bind fun t188 => (some t188)) else (none))) = some r := h
 clear h
 obtain ⟨y182, hy182⟩ : ∃ y_ : List ByteArray, y_ = (([] : List ByteArray)) := ⟨_, rfl⟩
 replace H : (if y182.length + l0.length < 8796093022208 then ((slices_Reverse_string_string.f k (y182 ++ l0)).bind fun t188 => (some t188)) else (none)) = some r := by first | (rw [hy182]; with_reducible exact H) | (have H2_ := (Option.bind_some _ _).symm.trans H; rw [hy182]; with_reducible exact H2_) | (have H2_ := (Option.bind_some _ _).symm.trans H; with_reducible exact H2_) | with_reducible exact H | (rw [hy182]; exact H) | exact H
 have Ny182 := Aside0.mk hy182
 clear hy182
 by_cases c2 : y182.length + l0.length < 8796093022208
 ·rw [if_pos c2] at H
  have LMc2 := Aside0.mk c2
  clear c2
  obtain ⟨y185, hy185⟩ : ∃ y_ : List ByteArray, y_ = (y182 ++ l0) := ⟨_, rfl⟩
  replace H : ((slices_Reverse_string_string.f k y185).bind fun t188 => (some t188)) = some r := by first | (rw [hy185]; with_reducible exact H) | (have H2_ := (Option.bind_some _ _).symm.trans H; rw [hy185]; with_reducible exact H2_) | (have H2_ := (Option.bind_some _ _).symm.trans H; with_reducible exact H2_) | with_reducible exact H | (rw [hy185]; exact H) | exact H
  have Ny185 := Aside0.mk hy185
  clear hy185
  replace H := Option.bind_eq_some_iff.mp H
  obtain ⟨t188, A30, H⟩ := H
  try dsimp only at H
  have A3 := Aside0.mk A30
  clear A30
  obtain rfl := Option.some.inj H
  go_enter Tryz.func26, Tryz.ntmps26
  go_wp2_with (first | ((with_reducible refine gate_dst (N := 4) rfl ?_); refine Kd.R_lit Kd.string _ 9 ?hg (N := 4) ?hd (xs := ([] : List ByteArray)) (inner := []) (ok := fun _ => True) (okp := fun _ => True) ?hr ?hp (fun _ hk => hk) trivial (Below.refl _ _) (Nat.le_refl _) (by simp) ?_; (case hd => rfl); (case hg => rfl); (case hr => first | (go_simp; done) | (go_simp; rfl)); (case hp => exact (Reps.none _ _)); intro v183 w4 ho5 hb hg_ hnew_; clear hg_ hnew_; (first | rw [← Ny182.out] at ho5 | (simp only [Int.reduceToNat] at ho5; rw [← Ny182.out] at ho5)); have HO184 := Aside0.mk (Kd.R_lower ho5 (below_size z0)); replace HB := Aside0.mk (below_step z0 hb); clear hb ho5) | ((with_reducible refine gate_builtin (b := .append) (xs := #[.tmp 4, .tmp 5]) rfl ?_); at_builtin; refine Kd.R_append_rows Kd.string (w0 := w) w.heap.size rfl (.tmp 4) (.tmp 5) 43 9 (.string ⟨#[]⟩) 16 rfl Tryz.underlying43 info9 rfl (by decide) (by omega) v183 y182 l0 _ _ _ (fun _ => True) (fun _ => False) rfl rfl ?aO ?aR (fun _ _ h => h) (fun _ h => h.elim) ?aF ?aB ?aS ?aL ?_; (case aR => repeat (first | exact (Kd.C_below HR0.out HB.out) | (with_reducible refine Kd.C_alloc ?_ _) | (with_reducible refine Kd.C_drewN ?_ _) | (with_reducible refine Kd.C_drew ?_))); (case aB => exact z0); (case aF => exact (fun _ _ => trivial)); (case aO => exact (by (with_reducible repeat (first | apply Kd.R_alloc | apply Kd.R_drewN | apply Kd.R_drew)); exact HO184.out)); (case aS => exact (below_size z0)); (case aL => have := LMc2.out; omega); intro v186 w6 ho hb hg hat; rw [← Ny185.out] at ho; replace HB := Aside0.mk (hb); have HO187 := Aside0.mk (ho); clear HO184; clear ho hb hg hat; obtain ⟨Ao7, co7, eo7⟩ := Kd.R_slice HO187.out; subst eo7) | ((with_reducible refine gate_callee (f := 59) rfl ?_); refine goesQ_ 8 Tryz.func59 #[.slice Ao7 y185.length co7] ?_; (with_reducible refine (slices_Reverse_string_string.calls k (fun k_ => some k_ = (.slice Ao7 y185.length co7 : Value).ownBlock) (.slice Ao7 y185.length co7) y185 t188 w _ ?side1 ?side2 A3.out).mono ?_); (case side1 => repeat (first | (with_reducible first | exact HB.out | apply below_alloc | apply pw_below_drewN | apply below_drew1) | exact HB.out)); (case side2 => exact Kd.R_tight rfl HO187.out); rintro e w8 ⟨rfl, hy0, hb, hkp⟩; refine ⟨_, rfl, ?_⟩; replace HO187 := Aside0.mk (Kd.R_reok rfl hy0 (fun k_ e_ => HO187.out.1 k_ e_)); replace HB := Aside0.mk (hb); (try clear hb); (try clear hkp); (try clear hy0)))
  go_ret
  exact ⟨_, z4, by (with_reducible repeat (first | apply Kd.R_alloc | apply Kd.R_drewN | apply Kd.R_drew)); exact HO187.out, z0⟩
 ·rw [if_neg c2] at H
  exact absurd H (by simp)

/-! ### impl_Surt: function 8 -/
def impl_Surt.f (k : Nat) (a0_0 : ByteArray) (a0_1 : Int) (a0_2 : ByteArray) (a0_3 : ByteArray) (a0_4 : Bool) : Option (ByteArray) := (impl_UrlOk.f k a0_0 a0_1 a0_2 a0_3 a0_4).bind fun t190 => (if t190 = true then ((strings_Split.f a0_0 (⟨#[46]⟩ : ByteArray)).bind fun t191 => ((impl_turned.f k t191).bind fun t194 => ((strings_Join.f t194 (⟨#[44]⟩ : ByteArray)).bind fun t197 => ((impl_portText.f a0_0 a0_1 a0_2 a0_3 a0_4).bind fun t198 => (if t197.size + t198.size ≤ 9223372036854775807 then (if (t197 ++ t198).size + 1 ≤ 9223372036854775807 then ((impl_pathText.f a0_0 a0_1 a0_2 a0_3 a0_4).bind fun t199 => (if ((t197 ++ t198) ++ (⟨#[41]⟩ : ByteArray)).size + t199.size ≤ 9223372036854775807 then (some (((t197 ++ t198) ++ (⟨#[41]⟩ : ByteArray)) ++ t199)) else (none))) else (none)) else (none)))))) else (some (⟨#[]⟩ : ByteArray)))
theorem impl_Surt.mono : ∀ a0 a1 a2 a3 a4 k, LeO (impl_Surt.f k a0 a1 a2 a3 a4) (impl_Surt.f (k + 1) a0 a1 a2 a3 a4) := by
 intro a0 a1 a2 a3 a4 k
 unfold impl_Surt.f
 repeat' first | (with_reducible first | exact impl_UrlOk.mono _ _ _ _ _ _ | exact impl_turned.mono _ _ | exact LeO.refl _ | exact LeO.none _ | refine LeO.ite ?_ ?_ | refine LeO.bind ?_ (fun _ => ?_)) | exact impl_UrlOk.mono _ _ _ _ _ _ | exact impl_turned.mono _ _ | exact LeO.none _ | refine LeO.ite ?_ ?_ | refine LeO.bind ?_ (fun _ => ?_)
def impl_Surt.T3 : Bool × List (List Nat × List Nat) := (true, [([], []), ([0], [0]), ([1], [1]), ([2, 2], [2]), ([3, 3], [3]), ([], []), ([5, 4], [5]), ([4, 6], [4, 6]), ([7], [7]), ([], []), ([9, 6], [9]), ([8, 10], [8, 10]), ([11, 10, 0, 1, 2, 3, 4, 5, 6, 7, 8, 9, 10, 11], [11])])
def impl_Surt.B3 : List Nat := [0, 1, 3, 7, 15, 0, 63, 127, 255, 0, 639, 2047, 4095]
theorem impl_Surt.tab3 : rtab .any (opsOf Tryz.f8 3) = impl_Surt.T3 := by kernel_rfl
theorem impl_Surt.bits3 : waitsOk impl_Surt.T3.2 impl_Surt.B3 = true := by kernel_rfl
set_option maxHeartbeats 8000000 in
set_option maxRecDepth 100000 in
theorem impl_Surt.calls (k : Nat) (a0_0 : ByteArray) (a0_1 : Int) (a0_2 : ByteArray) (a0_3 : ByteArray) (a0_4 : Bool) (r : ByteArray) (w : World) (hG : Gl w) (h : impl_Surt.f k a0_0 a0_1 a0_2 a0_3 a0_4 = some r) :
  Calls Tryz.prog 8 #[.agg #[.string a0_0, .int .i64 a0_1, .string a0_2, .string a0_3, .bool a0_4]] w fun e w' => e = .returned (.string r) ∧ Below w.heap.size w w' := by
 have hu24 := Tryz.underlying24
 have HG := Aside0.mk hG
 clear hG
 have HB := Aside0.mk (Below.refl w.heap.size w)
 have H : ((impl_UrlOk.f k a0_0 a0_1 a0_2 a0_3 a0_4).bind fun t190 => (if t190 = true then ((strings_Split.f a0_0 (⟨#[46]⟩ : ByteArray)).bind fun t191 => ((impl_turned.f k t191).bind fun t194 => ((strings_Join.f t194 (⟨#[44]⟩ : ByteArray)).bind fun t197 => ((impl_portText.f a0_0 a0_1 a0_2 a0_3 a0_4).bind fun t198 => (if t197.size + t198.size ≤ 9223372036854775807 then (if (t197 ++ t198).size + 1 ≤ 9223372036854775807 then ((impl_pathText.f a0_0 a0_1 a0_2 a0_3 a0_4).bind fun t199 => (if ((t197 ++ t198) ++ (⟨#[41]⟩ : ByteArray)).size + t199.size ≤ 9223372036854775807 then (some (((t197 ++ t198) ++ (⟨#[41]⟩ : ByteArray)) ++ t199)) else (none))) else (none)) else (none)))))) else (some (⟨#[]⟩ : ByteArray)))) = some r := h
 clear h
 replace H := Option.bind_eq_some_iff.mp H
 obtain ⟨t190, A20, H⟩ := H
 try dsimp only at H
 have A2 := Aside0.mk A20
 clear A20
 by_cases c3 : t190 = true
 ·subst c3
  rw [if_pos rfl] at H
  replace H := Option.bind_eq_some_iff.mp H
  obtain ⟨t191, A40, H⟩ := H
  try dsimp only at H
  have A4 := Aside0.mk A40
  clear A40
  replace H := Option.bind_eq_some_iff.mp H
  obtain ⟨t194, A50, H⟩ := H
  try dsimp only at H
  have A5 := Aside0.mk A50
  clear A50
  replace H := Option.bind_eq_some_iff.mp H
  obtain ⟨t197, A60, H⟩ := H
  try dsimp only at H
  have A6 := Aside0.mk A60
  clear A60
  replace H := Option.bind_eq_some_iff.mp H
  obtain ⟨t198, A70, H⟩ := H
  try dsimp only at H
  have A7 := Aside0.mk A70
  clear A70
  by_cases c8 : t197.size + t198.size ≤ 9223372036854775807
  ·rw [if_pos c8] at H
   have c8b0 := eq_true c8
   have c8b1 : decide (t197.size + t198.size ≤ 9223372036854775807) = true := decide_eq_true c8
   try have c8b2 : (9223372036854775807 < t197.size + t198.size) = False := eq_false (Nat.not_lt.2 c8)
   by_cases c9 : (t197 ++ t198).size + 1 ≤ 9223372036854775807
   ·rw [if_pos c9] at H
    have c9b0 := eq_true c9
    have c9b1 : decide ((t197 ++ t198).size + 1 ≤ 9223372036854775807) = true := decide_eq_true c9
    try have c9b2 : (9223372036854775807 < (t197 ++ t198).size + 1) = False := eq_false (Nat.not_lt.2 c9)
    try have c9z := c9b2; simp only [ByteArray.size_append] at c9z; have c9b3 := c9z
    replace H := Option.bind_eq_some_iff.mp H
    obtain ⟨t199, A100, H⟩ := H
    try dsimp only at H
    have A10 := Aside0.mk A100
    clear A100
    by_cases c11 : ((t197 ++ t198) ++ (⟨#[41]⟩ : ByteArray)).size + t199.size ≤ 9223372036854775807
    ·rw [if_pos c11] at H
     have c11b0 := eq_true c11
     have c11b1 : decide (((t197 ++ t198) ++ (⟨#[41]⟩ : ByteArray)).size + t199.size ≤ 9223372036854775807) = true := decide_eq_true c11
     try have c11b2 : (9223372036854775807 < ((t197 ++ t198) ++ (⟨#[41]⟩ : ByteArray)).size + t199.size) = False := eq_false (Nat.not_lt.2 c11)
     try have c11z := c11b2; simp only [ByteArray.size_append, show (⟨#[41]⟩ : ByteArray).size = 1 from rfl] at c11z; have c11b3 := c11z
     obtain rfl := Option.some.inj H
     go_enter Tryz.func8, Tryz.ntmps8
     try go_wp2_with (first | ((with_reducible refine gate_dst (N := 1) rfl ?_); refine boxP_ (N := 1) (cs := #[.string a0_0, .int .i64 a0_1, .string a0_2, .string a0_3, .bool a0_4]) (t := 24) ?_; intro gb189 hg w12 hbox hb; have BK189 := Aside0.mk (hbox); have GE189 := geb_ (w := w) hg z0; replace HB := Aside0.mk (below_step z0 hb); clear hb hbox hg; obtain ⟨hcz13_0, hcz13_1, hcz13_2, hcz13_3, hcz13_4, hfz13_0, hfz13_1, hfz13_2, hfz13_3, hfz13_4⟩ := cells5_ BK189.out) | ((with_reducible refine gate_callee (f := 23) rfl ?_); refine goesQ_ 4 Tryz.func23 #[.agg #[.string a0_0, .int .i64 a0_1, .string a0_2, .string a0_3, .bool a0_4]] ?_; (with_reducible refine (impl_UrlOk.calls k a0_0 a0_1 a0_2 a0_3 a0_4 true _ ?side1 A2.out).mono ?_); (case side1 => exact Gl.below HG.out z18); rintro e w14 ⟨rfl, hb⟩; refine ⟨_, rfl, ?_⟩; replace BK189 := Aside0.mk (blk_below (g := gb189) (o := .cells #[.string a0_0, .int .i64 a0_1, .string a0_2, .string a0_3, .bool a0_4] 24 (0, 0)) z41 hb); replace HB := Aside0.mk (below_step z18 hb); (try clear hb)))
     have n0_ := Aside0.mk (blk_drew BK189.out)
     have n1_ := Aside0.mk (below_drew1 HB.out)
     clear BK189
     clear HB
     have BK189 := n0_
     have HB := n1_
     clear n0_ n1_
     refine start_ (n := 13) (S := fun w' => w'.cell? ⟨gb189, 0, none⟩ = some (.string a0_0) ∧ w'.cell? ⟨gb189, 1, none⟩ = some (.int .i64 a0_1) ∧ w'.cell? ⟨gb189, 2, none⟩ = some (.string a0_2) ∧ w'.cell? ⟨gb189, 3, none⟩ = some (.string a0_3) ∧ w'.cell? ⟨gb189, 4, none⟩ = some (.bool a0_4)) (ds := []) #[false, false, false, false, false, false, false, false, false, false, false, false, false] (by kernel_rfl) rfl rfl ⟨(blk_cell BK189.out 0).trans rfl, (blk_cell BK189.out 1).trans rfl, (blk_cell BK189.out 2).trans rfl, (blk_cell BK189.out 3).trans rfl, (blk_cell BK189.out 4).trans rfl⟩ (fun hHeld => ?_); refine with_tabW impl_Surt.tab3 impl_Surt.bits3 (fun HT_ HW_ => ?_)
     generalize w14.drew = w15 at BK189 HB hHeld ⊢
     refine pz 0 6 ?_
     refine tk (i := 1) (N := some 7) (v := ?_) (a' := ?_) rfl rfl (take_ofW HT_.out HW_.out (by kernel_rfl)) (Or.inl ⟨by rfl, ?_⟩) hHeld ?_ ?_
     rotate_left
     ·rintro w' ⟨s0, s1, s2, s3, s4⟩
      go_simp
      with_reducible rfl
     rotate_left
     ·simp only [Act.put, List.setIfInBounds_toArray, List.set_cons_zero, List.set_cons_succ, i64_w, i32_w]
      rfl
     refine tk (i := 5) (N := some 11) (v := ?_) (a' := ?_) rfl rfl (take_ofW HT_.out HW_.out (by kernel_rfl)) (Or.inl ⟨by rfl, ?_⟩) hHeld ?_ ?_
     rotate_left
     ·rintro w' ⟨s0, s1, s2, s3, s4⟩
      go_simp
      with_reducible rfl
     rotate_left
     ·simp only [Act.put, List.setIfInBounds_toArray, List.set_cons_zero, List.set_cons_succ, i64_w, i32_w]
      rfl
     refine tk (i := 9) (N := some 15) (v := ?_) (a' := ?_) rfl rfl (take_ofW HT_.out HW_.out (by kernel_rfl)) (Or.inl ⟨by rfl, ?_⟩) hHeld ?_ ?_
     rotate_left
     ·rintro w' ⟨s0, s1, s2, s3, s4⟩
      go_simp
      with_reducible rfl
     rotate_left
     ·simp only [Act.put, List.setIfInBounds_toArray, List.set_cons_zero, List.set_cons_succ, i64_w, i32_w]
      rfl
     refine oz 2 8 (fun K hK => ?_)
     refine goes_ Tryz.func27 (by kernel_rfl) rfl #[.string a0_0, .string (⟨#[46]⟩ : ByteArray)] (by rfl) rfl rfl z8 ?_
     with_reducible refine (strings_Split.calls a0_0 (⟨#[46]⟩ : ByteArray) t191 _ ?side1 A4.out).mono ?_
     (case side1 => exact Gl.below HG.out z18)
     rintro e w16 ⟨v192, rfl, ho0, hb⟩
     refine ⟨_, rfl, ?_⟩
     have n0_ := Aside0.mk (Kd.R_lower ho0 (below_size z18))
     have n1_ := Aside0.mk (blk_below (g := gb189) (o := .cells #[.string a0_0, .int .i64 a0_1, .string a0_2, .string a0_3, .bool a0_4] 24 (0, 0)) z41 hb)
     have n2_ := Aside0.mk (below_step z18 hb)
     clear BK189
     clear HB
     have HO193 := n0_
     have BK189 := n1_
     have HB := n2_
     clear n0_ n1_ n2_
     (try clear hb)
     (try clear hb2)
     (try clear hk)
     (try clear hi)
     (try clear ho0)
     obtain ⟨Ao17, co17, eo17⟩ := Kd.R_slice HO193.out
     (first | subst eo17 | (injection eo17 with f1_ f2_ f3_; have f4_ := f1_.symm; have f5_ := f3_.symm; clear f1_ f2_ f3_; subst f4_; subst f5_))
     refine hK.out _ _ ⟨(blk_cell BK189.out 0).trans rfl, (blk_cell BK189.out 1).trans rfl, (blk_cell BK189.out 2).trans rfl, (blk_cell BK189.out 3).trans rfl, (blk_cell BK189.out 4).trans rfl⟩ (fun hHeld => ?_)
     clear hK K
     refine nz ?_
     refine oz 3 9 (fun K hK => ?_)
     refine goes_ Tryz.func26 (by kernel_rfl) rfl #[.slice Ao17 t191.length co17] (by rfl) rfl rfl z8 ?_
     with_reducible refine (impl_turned.calls k _ _ t191 t194 _ ?side1 ?side2 A5.out).mono ?_
     (case side1 => repeat (first | exact (Kd.R_reads' HO193.out).2.2 | (with_reducible refine Kd.C_alloc ?_ _) | (with_reducible refine Kd.C_drewN ?_ _) | (with_reducible refine Kd.C_drew ?_)))
     (case side2 => exact (Kd.R_reads' HO193.out).2.1)
     rintro e w18 ⟨v195, rfl, ho0, hb⟩
     refine ⟨_, rfl, ?_⟩
     have n0_ := Aside0.mk (Kd.R_elder' z56 (Kd.R_base ho0) hb)
     have n1_ := Aside0.mk (Kd.R_lower (Kd.R_new' ho0 (Kd.R_lt z56)) (below_size z18))
     have n2_ := Aside0.mk (blk_below (g := gb189) (o := .cells #[.string a0_0, .int .i64 a0_1, .string a0_2, .string a0_3, .bool a0_4] 24 (0, 0)) z41 hb)
     have n3_ := Aside0.mk (below_step z18 hb)
     clear HO193
     clear BK189
     clear HB
     have HO193 := n0_
     have HO196 := n1_
     have BK189 := n2_
     have HB := n3_
     clear n0_ n1_ n2_ n3_
     (try clear hb)
     (try clear hb2)
     (try clear hk)
     (try clear hi)
     (try clear ho0)
     obtain ⟨Ao19, co19, eo19⟩ := Kd.R_slice HO196.out
     (first | subst eo19 | (injection eo19 with f1_ f2_ f3_; have f4_ := f1_.symm; have f5_ := f3_.symm; clear f1_ f2_ f3_; subst f4_; subst f5_))
     refine hK.out _ _ ⟨(blk_cell BK189.out 0).trans rfl, (blk_cell BK189.out 1).trans rfl, (blk_cell BK189.out 2).trans rfl, (blk_cell BK189.out 3).trans rfl, (blk_cell BK189.out 4).trans rfl⟩ (fun hHeld => ?_)
     clear hK K
     refine nz ?_
     refine oz 4 10 (fun K hK => ?_)
     refine goes_ Tryz.func25 (by kernel_rfl) rfl #[.slice Ao19 t194.length co19, .string (⟨#[44]⟩ : ByteArray)] (by rfl) rfl rfl z8 ?_
     with_reducible refine (strings_Join.calls _ _ t194 (⟨#[44]⟩ : ByteArray) t197 _ ?side1 ?side2 A6.out).mono ?_
     (case side1 => repeat (first | exact (Kd.R_reads' HO196.out).2.2 | (with_reducible refine Kd.C_alloc ?_ _) | (with_reducible refine Kd.C_drewN ?_ _) | (with_reducible refine Kd.C_drew ?_)))
     (case side2 => exact (Kd.R_reads' HO196.out).2.1)
     rintro e w20 ⟨rfl, hb⟩
     refine ⟨_, rfl, ?_⟩
     have n0_ := Aside0.mk (Kd.R_below z56 hb)
     have n1_ := Aside0.mk (Kd.R_below z83 hb)
     have n2_ := Aside0.mk (blk_below (g := gb189) (o := .cells #[.string a0_0, .int .i64 a0_1, .string a0_2, .string a0_3, .bool a0_4] 24 (0, 0)) z41 hb)
     have n3_ := Aside0.mk (below_step z18 hb)
     clear HO193
     clear HO196
     clear BK189
     clear HB
     have HO193 := n0_
     have HO196 := n1_
     have BK189 := n2_
     have HB := n3_
     clear n0_ n1_ n2_ n3_
     (try clear hb)
     (try clear hb2)
     (try clear hk)
     (try clear hi)
     refine hK.out _ _ ⟨(blk_cell BK189.out 0).trans rfl, (blk_cell BK189.out 1).trans rfl, (blk_cell BK189.out 2).trans rfl, (blk_cell BK189.out 3).trans rfl, (blk_cell BK189.out 4).trans rfl⟩ (fun hHeld => ?_)
     clear hK K
     refine nz ?_
     refine oz 6 12 (fun K hK => ?_)
     refine goes_ Tryz.func28 (by kernel_rfl) rfl #[.agg #[.string a0_0, .int .i64 a0_1, .string a0_2, .string a0_3, .bool a0_4]] (by rfl) rfl rfl z8 ?_
     with_reducible refine (impl_portText.calls a0_0 a0_1 a0_2 a0_3 a0_4 t198 _ ?side1 A7.out).mono ?_
     (case side1 => exact Gl.below HG.out z18)
     rintro e w21 ⟨rfl, hb⟩
     refine ⟨_, rfl, ?_⟩
     have n0_ := Aside0.mk (Kd.R_below z56 hb)
     have n1_ := Aside0.mk (Kd.R_below z83 hb)
     have n2_ := Aside0.mk (blk_below (g := gb189) (o := .cells #[.string a0_0, .int .i64 a0_1, .string a0_2, .string a0_3, .bool a0_4] 24 (0, 0)) z41 hb)
     have n3_ := Aside0.mk (below_step z18 hb)
     clear HO193
     clear HO196
     clear BK189
     clear HB
     have HO193 := n0_
     have HO196 := n1_
     have BK189 := n2_
     have HB := n3_
     clear n0_ n1_ n2_ n3_
     (try clear hb)
     (try clear hb2)
     (try clear hk)
     (try clear hi)
     refine hK.out _ _ ⟨(blk_cell BK189.out 0).trans rfl, (blk_cell BK189.out 1).trans rfl, (blk_cell BK189.out 2).trans rfl, (blk_cell BK189.out 3).trans rfl, (blk_cell BK189.out 4).trans rfl⟩ (fun hHeld => ?_)
     clear hK K
     refine nz ?_
     refine pz 7 13 ?_
     refine pz 8 14 ?_
     refine oz 10 16 (fun K hK => ?_)
     refine goes_ Tryz.func29 (by kernel_rfl) rfl #[.agg #[.string a0_0, .int .i64 a0_1, .string a0_2, .string a0_3, .bool a0_4]] (by rfl) rfl rfl z8 ?_
     with_reducible refine (impl_pathText.calls a0_0 a0_1 a0_2 a0_3 a0_4 t199 _ A10.out).mono ?_
     rintro e w22 ⟨rfl, hb⟩
     refine ⟨_, rfl, ?_⟩
     have n0_ := Aside0.mk (Kd.R_below z56 hb)
     have n1_ := Aside0.mk (Kd.R_below z83 hb)
     have n2_ := Aside0.mk (blk_below (g := gb189) (o := .cells #[.string a0_0, .int .i64 a0_1, .string a0_2, .string a0_3, .bool a0_4] 24 (0, 0)) z41 hb)
     have n3_ := Aside0.mk (below_step z18 hb)
     clear HO193
     clear HO196
     clear BK189
     clear HB
     have HO193 := n0_
     have HO196 := n1_
     have BK189 := n2_
     have HB := n3_
     clear n0_ n1_ n2_ n3_
     (try clear hb)
     (try clear hb2)
     (try clear hk)
     (try clear hi)
     refine hK.out _ _ ⟨(blk_cell BK189.out 0).trans rfl, (blk_cell BK189.out 1).trans rfl, (blk_cell BK189.out 2).trans rfl, (blk_cell BK189.out 3).trans rfl, (blk_cell BK189.out 4).trans rfl⟩ (fun hHeld => ?_)
     clear hK K
     refine nz ?_
     refine pz 11 17 ?_
     refine pz 12 2 ?_
     refine done_ (done_of HT_.out (by kernel_rfl)) ?_
     try go_wp2
     go_ret
     exact ⟨z4, z18⟩
    ·rw [if_neg c11] at H
     exact absurd H (by simp)
   ·rw [if_neg c9] at H
    exact absurd H (by simp)
  ·rw [if_neg c8] at H
   exact absurd H (by simp)
 ·replace c3 := Bool.eq_false_iff.mpr c3
  subst c3
  rw [if_neg Bool.false_ne_true] at H
  obtain rfl := Option.some.inj H
  go_enter Tryz.func8, Tryz.ntmps8
  go_wp2_with (first | ((with_reducible refine gate_dst (N := 1) rfl ?_); refine boxP_ (N := 1) (cs := #[.string a0_0, .int .i64 a0_1, .string a0_2, .string a0_3, .bool a0_4]) (t := 24) ?_; intro gb189 hg w23 hbox hb; have BK189 := Aside0.mk (hbox); have GE189 := geb_ (w := w) hg z0; replace HB := Aside0.mk (below_step z0 hb); clear hb hbox hg; obtain ⟨hcz24_0, hcz24_1, hcz24_2, hcz24_3, hcz24_4, hfz24_0, hfz24_1, hfz24_2, hfz24_3, hfz24_4⟩ := cells5_ BK189.out) | ((with_reducible refine gate_callee (f := 23) rfl ?_); refine goesQ_ 4 Tryz.func23 #[.agg #[.string a0_0, .int .i64 a0_1, .string a0_2, .string a0_3, .bool a0_4]] ?_; (with_reducible refine (impl_UrlOk.calls k a0_0 a0_1 a0_2 a0_3 a0_4 false _ ?side1 A2.out).mono ?_); (case side1 => exact Gl.below HG.out z18); rintro e w25 ⟨rfl, hb⟩; refine ⟨_, rfl, ?_⟩; replace BK189 := Aside0.mk (blk_below (g := gb189) (o := .cells #[.string a0_0, .int .i64 a0_1, .string a0_2, .string a0_3, .bool a0_4] 24 (0, 0)) z41 hb); replace HB := Aside0.mk (below_step z18 hb); (try clear hb)))
  go_ret
  exact ⟨z4, z18⟩

/-! ### impl_Fold: function 33 -/
theorem impl_Fold_up (x : Int) : impl_isUpper.f x = some (decide (65 ≤ x ∧ x ≤ 90)) := by unfold impl_isUpper.f; split <;> simp <;> omega
def impl_Fold.f (a0 : ByteArray) : Option (ByteArray) := if a0.size ≤ 1099511627776 then some (strOfNums ((bytesOf a0).map lowI)) else none
set_option maxHeartbeats 8000000 in
set_option maxRecDepth 100000 in
theorem impl_Fold.calls (a0 : ByteArray) (r : ByteArray) (w : World) (h : impl_Fold.f a0 = some r) :
  Calls Tryz.prog 33 #[.string a0] w fun e w' => e = .returned (.string r) ∧ Below w.heap.size w w' := by
 have hu22 := Tryz.underlying22
 unfold impl_Fold.f at h
 by_cases hlim : a0.size ≤ 1099511627776
 ·rw [if_pos hlim] at h
  obtain rfl := Option.some.inj h
  clear h
  have HL := Aside0.mk hlim
  clear hlim
  have kb := fun W => print_bytes (P := Tryz.prog) 9 22 5 Tryz.underlying9 Tryz.underlying22 Tryz.underlying5 a0 W
  go_enter Tryz.func33, Tryz.ntmps33
  go_wp2
  go_loopg [10] (a0.size + 1) (fun kq v4 w' => ∃ (x4 : Int), v4 = .int .i64 x4 ∧ Aside0 (∃ j : Nat, x4 = (j : Int) ∧ j ≤ a0.size ∧ kq + j = a0.size + 1 ∧ BRow w' w.heap.size (lowTo a0 j)) ∧ Aside0 (w.heap.size < w'.heap.size ∧ Below w.heap.size w w'))
  case atStart =>
   exact ⟨0, rfl, ⟨0, rfl, by omega, by omega, by rw [lowTo_zero]; exact BRow.new _ _ _⟩, ⟨by rw [Lib.bytesWorld_size]; omega, bytes_below (Below.refl _ _) (Nat.le_refl _) _ _⟩⟩
  case round =>
   obtain ⟨x4, rfl, HJ, HB⟩ := hrel
   obtain ⟨j, hxj, hjl, hkj, hbr⟩ := HJ.out
   clear HJ
   have HX := Aside0.mk hxj
   have HJL := Aside0.mk hjl
   have HK := Aside0.mk hkj
   have HR := Aside0.mk hbr
   clear hxj hjl hkj hbr
   cases gk with
   | zero => have := HK.out; have := HJL.out; omega
   | succ k1 =>
   by_cases hlt : j < a0.size
   ·have c1 : decide (x4 < (a0.size : Int)) = true := decide_eq_true (by have := HX.out; omega)
    have p9 : 0 ≤ (x4 : Int) := by have := HX.out; omega
    have q9 : x4 < (a0.size : Int) := of_decide_eq_true c1
    have HLT := Aside0.mk hlt
    have hx0 := HR.out.cell x4.toNat z99
    have hfz := HR.out.frozen x4.toNat z99
    have hbj : (lowTo a0 j).getD x4.toNat 0 = (bytesOf a0).getD j 0 := by rw [HX.out, Int.toNat_natCast]; exact lowTo_get _ _ hlt
    have hset := lowTo_set a0 j hlt
    have hsame : (lowTo a0 j).set j ((bytesOf a0).getD j 0) = lowTo a0 j := by
     rw [← lowTo_get _ _ hlt, List.getD_eq_getElem?_getD, List.getElem?_eq_getElem (by rw [lowTo_length _ _ (by omega)]; exact hlt)]
     exact List.set_getElem_self _
    rw [hbj] at hx0
    generalize (bytesOf a0).getD j 0 = b at hx0 hset hsame
    have HS := Aside0.mk hset
    have HE := Aside0.mk hsame
    clear hlt hset hbj hsame
    replace p9 := eq_true p9
    replace q9 := eq_true q9
    go_wp2_with fail
    refine (impl_isUpper.calls b (decide (65 ≤ b ∧ b ≤ 90)) _ (impl_Fold_up b)).mono ?_
    rintro e w2 ⟨rfl, ⟨nd, rfl⟩⟩
    by_cases hup : 65 ≤ b ∧ b ≤ 90
    ·have c2 : decide (65 ≤ b ∧ b ≤ 90) = true := decide_eq_true hup
     have HU := Aside0.mk hup
     rw [c2]
     clear hup
     go_wp2
     go_roundg k1
     case measure => omega
     case rel =>
      have hx := HX.out
      have hk := HK.out
      have hlt := HLT.out
      have hl := HL.out
      have hu := HU.out
      have hxn : x4.toNat = j := by omega
      have hlow : lowI b = (b + 32) % 256 := by unfold lowI; rw [if_pos (by omega), if_pos (by omega)]
      refine ⟨_, rfl, ⟨j + 1, by rw [hx]; unfold wrap64; omega, by omega, by omega, ?_⟩, ⟨?_, ?_⟩⟩
      ·rw [← HS.out, hxn, hlow]
       exact HR.out.set j _
      ·have := HB.out.1; simpa using this
      ·exact (HB.out.2.trans (pw_below_drewN (Below.refl _ _) nd)).setCell (Nat.le_refl _) _
    ·have c2 : decide (65 ≤ b ∧ b ≤ 90) = false := decide_eq_false hup
     have HU := Aside0.mk hup
     rw [c2]
     clear hup
     go_wp2
     go_roundg k1
     case measure => omega
     case rel =>
      have hx := HX.out
      have hk := HK.out
      have hlt := HLT.out
      have hl := HL.out
      have hu := HU.out
      have hlow : lowI b = b := by unfold lowI; split <;> (try split) <;> omega
      refine ⟨_, rfl, ⟨j + 1, by rw [hx]; unfold wrap64; omega, by omega, by omega, ?_⟩, ⟨?_, ?_⟩⟩
      ·rw [← HS.out, hlow, HE.out]
       exact HR.out
      ·have := HB.out.1; simpa using this
      ·exact HB.out.2.trans (pw_below_drewN (Below.refl _ _) nd)
   ·have c1 : decide (x4 < (a0.size : Int)) = false := decide_eq_false (by have := HX.out; omega)
    have hj2 : j = a0.size := by have := HJL.out; omega
    have hst := HR.out.string (P := Tryz.prog) (c := grownCap w a0.size 0 5) (src := 22) (dst := 9) Tryz.underlying22 Tryz.underlying5 Tryz.underlying9 (lowTo_length a0 j HJL.out)
    rw [hj2, lowTo_all] at hst
    go_wp2_with fail
    go_ret
    exact ⟨rfl, HB.out.2⟩
 ·rw [if_neg hlim] at h; cases h


/-! ### strings_Cut: function 35 -/
def strings_Cut.f (a0 : ByteArray) (a1 : ByteArray) : Option (ByteArray × ByteArray × Bool) := if a0.size < 4294967281 then some (⟨(Lib.cut a0.data.toList a1.data.toList).1.toArray⟩, ⟨(Lib.cut a0.data.toList a1.data.toList).2.1.toArray⟩, (Lib.cut a0.data.toList a1.data.toList).2.2) else none
theorem strings_Cut.calls (a0 : ByteArray) (a1 : ByteArray) (r1 : ByteArray) (r2 : ByteArray) (r3 : Bool) (w : World) (hG : Gl w) (h : strings_Cut.f a0 a1 = some (r1, r2, r3)) :
  Calls Tryz.prog 35 #[.string a0, .string a1] w fun e w' => e = .returned (.tuple #[.string r1, .string r2, .bool r3]) ∧ Below w.heap.size w w' := by
 unfold strings_Cut.f at h
 by_cases hs : a0.size < 4294967281
 ·rw [if_pos hs] at h
  obtain ⟨rfl, rfl, rfl⟩ : _ ∧ _ ∧ _ := by simpa only [Option.some.injEq, Prod.mk.injEq] using h
  obtain ⟨m, hm⟩ := hG.maxLen
  refine (Tryz.strings_Cut a0 a1 m w hs hm).mono ?_
  rintro e w' ⟨he, n, hw⟩
  subst hw
  exact ⟨he, pw_below_drewN (Below.refl _ _) n⟩
 ·rw [if_neg hs] at h; cases h


/-! ### impl_readPath: function 36 -/
def impl_readPath.f (a0 : ByteArray) : Option (ByteArray × Int × ByteArray × ByteArray × Bool) := (strings_Cut.f a0 (⟨#[63]⟩ : ByteArray)).bind fun bt202 => (some ((⟨#[]⟩ : ByteArray), 0, bt202.1, bt202.2.1, bt202.2.2))
set_option maxHeartbeats 8000000 in
set_option maxRecDepth 100000 in
theorem impl_readPath.calls (a0 : ByteArray) (r1 : ByteArray) (r2 : Int) (r3 : ByteArray) (r4 : ByteArray) (r5 : Bool) (w : World) (hG : Gl w) (h : impl_readPath.f a0 = some (r1, r2, r3, r4, r5)) :
  Calls Tryz.prog 36 #[.string a0] w fun e w' => e = .returned (.agg #[.string r1, .int .i64 r2, .string r3, .string r4, .bool r5]) ∧ Below w.heap.size w w' := by
 have hu24 := Tryz.underlying24
 have HG := Aside0.mk hG
 clear hG
 have HB := Aside0.mk (Below.refl w.heap.size w)
 have H : ((strings_Cut.f a0 (⟨#[63]⟩ : ByteArray)).bind fun bt202 => (some ((⟨#[]⟩ : ByteArray), 0, bt202.1, bt202.2.1, bt202.2.2))) = some (r1, r2, r3, r4, r5) := h
 clear h
 replace H := Option.bind_eq_some_iff.mp H
 obtain ⟨⟨t202, t203, t204⟩, A20, H⟩ := H
 try dsimp only at H
 have A2 := Aside0.mk A20
 clear A20
 simp only [Option.some.injEq, Prod.mk.injEq] at H
 obtain ⟨rfl, rfl, rfl, rfl, rfl⟩ := H
 go_enter Tryz.func36, Tryz.ntmps36
 go_wp2_with (first | ((with_reducible refine gate_dst (N := 2) rfl ?_); refine boxP_ (N := 2) (cs := #[.string (⟨#[]⟩ : ByteArray), .int .i64 0, .string (⟨#[]⟩ : ByteArray), .string (⟨#[]⟩ : ByteArray), .bool false]) (t := 24) ?_; intro gb200 hg w3 hbox hb; have BK200 := Aside0.mk (hbox); have GE200 := geb_ (w := w) hg z0; replace HB := Aside0.mk (below_step z0 hb); clear hb hbox hg) | ((with_reducible refine gate_dst (N := 3) rfl ?_); refine boxP_ (N := 3) (cs := #[.string (⟨#[]⟩ : ByteArray), .int .i64 0, .string (⟨#[]⟩ : ByteArray), .string (⟨#[]⟩ : ByteArray), .bool false]) (t := 24) ?_; intro gb201 hg w4 hbox hb; have BK201 := Aside0.mk (hbox); have GE201 := geb_ (w := w) hg z96; replace HB := Aside0.mk (below_step z96 hb); have NB200_201 := Aside0.mk ((by rw [hg]; exact Nat.ne_of_lt (blk_lt (g := gb200) (o := .cells #[.string (⟨#[]⟩ : ByteArray), .int .i64 0, .string (⟨#[]⟩ : ByteArray), .string (⟨#[]⟩ : ByteArray), .bool false] 24 (0, 0)) z60) : gb200 ≠ gb201)); have NB201_200 := Aside0.mk ((by rw [hg]; exact Nat.ne_of_gt (blk_lt (g := gb200) (o := .cells #[.string (⟨#[]⟩ : ByteArray), .int .i64 0, .string (⟨#[]⟩ : ByteArray), .string (⟨#[]⟩ : ByteArray), .bool false] 24 (0, 0)) z60) : gb201 ≠ gb200)); replace BK200 := Aside0.mk (blk_below (g := gb200) (o := .cells #[.string (⟨#[]⟩ : ByteArray), .int .i64 0, .string (⟨#[]⟩ : ByteArray), .string (⟨#[]⟩ : ByteArray), .bool false] 24 (0, 0)) z60 hb); clear hb hbox hg) | ((with_reducible refine gate_callee (f := 35) rfl ?_); refine goesQ_ 6 Tryz.func35 #[.string a0, .string (⟨#[63]⟩ : ByteArray)] ?_; (with_reducible refine (strings_Cut.calls a0 (⟨#[63]⟩ : ByteArray) t202 t203 t204 _ ?side1 A2.out).mono ?_); (case side1 => exact Gl.below HG.out z57); rintro e w5 ⟨rfl, hb⟩; refine ⟨_, rfl, ?_⟩; replace BK200 := Aside0.mk (blk_below (g := gb200) (o := .cells #[.string (⟨#[]⟩ : ByteArray), .int .i64 0, .string (⟨#[]⟩ : ByteArray), .string (⟨#[]⟩ : ByteArray), .bool false] 24 (0, 0)) z60 hb); replace BK201 := Aside0.mk (blk_below (g := gb201) (o := .cells #[.string (⟨#[]⟩ : ByteArray), .int .i64 0, .string (⟨#[]⟩ : ByteArray), .string (⟨#[]⟩ : ByteArray), .bool false] 24 (0, 0)) (by (with_reducible repeat (first | refine blk_drewN ?_ _ | refine blk_drew ?_ | refine blk_alloc ?_ _)); exact BK201.out) hb); replace HB := Aside0.mk (below_step z57 hb); (try clear hb); have hnb6 := NB201_200.out; have hnc6 := NB200_201.out; obtain ⟨hcz7_0, hcz7_1, hcz7_2, hcz7_3, hcz7_4, hfz7_0, hfz7_1, hfz7_2, hfz7_3, hfz7_4⟩ := cells5_ BK201.out; obtain ⟨hcz8_0, hcz8_1, hcz8_2, hcz8_3, hcz8_4, hfz8_0, hfz8_1, hfz8_2, hfz8_3, hfz8_4⟩ := cells5_ BK200.out))
 refine bodyPost_ret (results_cell_row rfl _ _ gb200 24 #[.string (⟨#[]⟩ : ByteArray), .int .i64 0, .string t202, .string t203, .bool t204] (0, 0) _ rfl (by (with_reducible repeat (first | refine blk_drewN ?_ _ | refine blk_drew ?_ | refine blk_alloc ?_ _)); refine blk_put (cs := #[.string (⟨#[]⟩ : ByteArray), .int .i64 0, .string t202, .string t203, .bool false]) ?_ 4 _ rfl; (with_reducible repeat (first | refine blk_drewN ?_ _ | refine blk_drew ?_ | refine blk_alloc ?_ _)); refine blk_put (cs := #[.string (⟨#[]⟩ : ByteArray), .int .i64 0, .string t202, .string (⟨#[]⟩ : ByteArray), .bool false]) ?_ 3 _ rfl; (with_reducible repeat (first | refine blk_drewN ?_ _ | refine blk_drew ?_ | refine blk_alloc ?_ _)); refine blk_put (cs := #[.string (⟨#[]⟩ : ByteArray), .int .i64 0, .string (⟨#[]⟩ : ByteArray), .string (⟨#[]⟩ : ByteArray), .bool false]) ?_ 2 _ rfl; (with_reducible repeat (first | refine blk_drewN ?_ _ | refine blk_drew ?_ | refine blk_alloc ?_ _)); refine blk_put (cs := #[.string (⟨#[]⟩ : ByteArray), .int .i64 0, .string (⟨#[]⟩ : ByteArray), .string (⟨#[]⟩ : ByteArray), .bool false]) ?_ 1 _ rfl; (with_reducible repeat (first | refine blk_drewN ?_ _ | refine blk_drew ?_ | refine blk_alloc ?_ _)); refine blk_put (cs := #[.string (⟨#[]⟩ : ByteArray), .int .i64 0, .string (⟨#[]⟩ : ByteArray), .string (⟨#[]⟩ : ByteArray), .bool false]) ?_ 0 _ rfl; (with_reducible repeat (first | refine blk_drewN ?_ _ | refine blk_drew ?_ | refine blk_alloc ?_ _)); refine blk_far ?_ NB200_201.out _; (with_reducible repeat (first | refine blk_drewN ?_ _ | refine blk_drew ?_ | refine blk_alloc ?_ _)); refine blk_far ?_ NB200_201.out _; (with_reducible repeat (first | refine blk_drewN ?_ _ | refine blk_drew ?_ | refine blk_alloc ?_ _)); refine blk_far ?_ NB200_201.out _; (with_reducible repeat (first | refine blk_drewN ?_ _ | refine blk_drew ?_ | refine blk_alloc ?_ _)); exact BK200.out) Tryz.underlying24 rfl (by kernel_rfl)) rfl ?_
 exact ⟨z4, z57⟩

end Go.Proofs.YtkkolioolgpljaaGreatDoor.GFnCanons
